/- A drawn key's order holds each node once; its first owner is the first of these; drawn stand-ins are not down and all different; and the program's rings, orders, owners, stand-ins and hashes are the reference's. No condition. (Part 2 of 5: written by programs of this workplace and by hand, merged.) -/
import Derived.Test.YtelecnmflodkkaaGreatDoorMFnRinga
set_option linter.unusedVariables false
set_option linter.unusedSimpArgs false
set_option maxHeartbeats 8000000
set_option maxRecDepth 100000

namespace Go.Proofs.YtelecnmflodkkaaGreatDoor.P
open Go.RowKit Go.Proofs.YtelecnmflodkkaaGreatDoorW.PrintWords Go.Proofs.YtelecnmflodkkaaGreatDoorW.PrintLast Go.Proofs.YtelecnmflodkkaaGreatDoorW.PrintMore
attribute [local go_sem] max2_int min2_int max_two min_two max_three min_three max_four min_four   -- for this text's walks alone
set_option linter.unusedVariables false
set_option linter.unusedSimpArgs false

/-! ### Y81: function 74 -/
def Y81.f (a0:Int) (a1:Int):Option (Int):=(Y61.f a0).bind fun t234=>((Y61.f a1).bind fun AQ8=>(if t234=true then (if AQ8=true then (some 0) else (some (-1))) else (if AQ8=true then (some 1) else (if a0<a1 then (some (-1)) else (if a0>a1 then (some 1) else (some 0))))))
theorem Y81.calls (a0:Int) (a1:Int) (r:Int) (w:World) (h:Y81.f a0 a1=some r) :
  Calls Tryz.prog 74 #[.int .i64 a0,.int .i64 a1] w fun e w'=>e = .returned (.int .i64 r)∧Drawn0 w w':=by
 have H:((Y61.f a0).bind fun t234=>((Y61.f a1).bind fun AQ8=>(if t234=true then (if AQ8=true then (some 0) else (some (-1))) else (if AQ8=true then (some 1) else (if a0<a1 then (some (-1)) else (if a0>a1 then (some 1) else (some 0)))))))=some r:=h
 clear h
 replace H:=bS H
 obtain ⟨t234,A30,H⟩:=H
 replace H:((Y61.f a1).bind fun AQ8=>(if t234=true then (if AQ8=true then (some 0) else (some (-1))) else (if AQ8=true then (some 1) else (if a0<a1 then (some (-1)) else (if a0>a1 then (some 1) else (some 0))))))=some r:=H
 have A3:=aM A30
 clear A30
 replace H:=bS H
 obtain ⟨AQ8,A40,H⟩:=H
 replace H:(if t234=true then (if AQ8=true then (some 0) else (some (-1))) else (if AQ8=true then (some 1) else (if a0<a1 then (some (-1)) else (if a0>a1 then (some 1) else (some 0)))))=some r:=H
 have A4:=aM A40
 clear A40
 by_cases c5:t234=true
 ·subst c5
  have H1:(if AQ8=true then (some 0) else (some (-1)))=some r:=by rw [if_pos rfl] at H;exact H
  clear H
  have H:=H1
  clear H1
  by_cases c6:AQ8=true
  ·subst c6
   have H1:(some 0)=some r:=by rw [if_pos rfl] at H;exact H
   clear H
   have H:=H1
   clear H1
   obtain rfl:=sI H
   go_enter Tryz.func74,Tryz.ntmps74
   go_wp2_with (first | ((with_reducible refine gc_ 105 ?_);refine gl_ (some 8) Tryz.func105 #[.int .i64 a0] ?_;(with_reducible refine (Y61.calls a0 true _ A3.out).mono ?_);rintro e w' ⟨rfl,⟨nd,rfl⟩⟩;refine ⟨_,rfl,?_⟩) | ((with_reducible refine gc_ 105 ?_);refine gl_ (some 10) Tryz.func105 #[.int .i64 a1] ?_;(with_reducible refine (Y61.calls a1 true _ A4.out).mono ?_);rintro e w' ⟨rfl,⟨nd,rfl⟩⟩;refine ⟨_,rfl,?_⟩))
   go_ret
   exact ⟨z2_,z5_⟩
  ·replace c6:=Bool.eq_false_iff.mpr c6
   subst c6
   have H1:(some (-1))=some r:=by rw [if_neg (show ¬ (false=true) by decide)] at H;exact H
   clear H
   have H:=H1
   clear H1
   obtain rfl:=sI H
   go_enter Tryz.func74,Tryz.ntmps74
   go_wp2_with (first | ((with_reducible refine gc_ 105 ?_);refine gl_ (some 8) Tryz.func105 #[.int .i64 a0] ?_;(with_reducible refine (Y61.calls a0 true _ A3.out).mono ?_);rintro e w' ⟨rfl,⟨nd,rfl⟩⟩;refine ⟨_,rfl,?_⟩) | ((with_reducible refine gc_ 105 ?_);refine gl_ (some 10) Tryz.func105 #[.int .i64 a1] ?_;(with_reducible refine (Y61.calls a1 false _ A4.out).mono ?_);rintro e w' ⟨rfl,⟨nd,rfl⟩⟩;refine ⟨_,rfl,?_⟩))
   go_ret
   exact ⟨z2_,z5_⟩
 ·replace c5:=Bool.eq_false_iff.mpr c5
  subst c5
  have H1:(if AQ8=true then (some 1) else (if a0<a1 then (some (-1)) else (if a0>a1 then (some 1) else (some 0))))=some r:=by rw [if_neg (show ¬ (false=true) by decide)] at H;exact H
  clear H
  have H:=H1
  clear H1
  by_cases c7:AQ8=true
  ·subst c7
   have H1:(some 1)=some r:=by rw [if_pos rfl] at H;exact H
   clear H
   have H:=H1
   clear H1
   obtain rfl:=sI H
   go_enter Tryz.func74,Tryz.ntmps74
   go_wp2_with (first | ((with_reducible refine gc_ 105 ?_);refine gl_ (some 8) Tryz.func105 #[.int .i64 a0] ?_;(with_reducible refine (Y61.calls a0 false _ A3.out).mono ?_);rintro e w' ⟨rfl,⟨nd,rfl⟩⟩;refine ⟨_,rfl,?_⟩) | ((with_reducible refine gc_ 105 ?_);refine gl_ (some 10) Tryz.func105 #[.int .i64 a1] ?_;(with_reducible refine (Y61.calls a1 true _ A4.out).mono ?_);rintro e w' ⟨rfl,⟨nd,rfl⟩⟩;refine ⟨_,rfl,?_⟩))
   go_ret
   exact ⟨z2_,z5_⟩
  ·replace c7:=Bool.eq_false_iff.mpr c7
   subst c7
   have H1:(if a0<a1 then (some (-1)) else (if a0>a1 then (some 1) else (some 0)))=some r:=by rw [if_neg (show ¬ (false=true) by decide)] at H;exact H
   clear H
   have H:=H1
   clear H1
   by_cases c8:a0<a1
   ·rw [if_pos c8] at H
    have c8b0:decide (a0<a1)=true:=dE c8
    clear c8
    obtain rfl:=sI H
    go_enter Tryz.func74,Tryz.ntmps74
    go_wp2_with (first | ((with_reducible refine gc_ 105 ?_);refine gl_ (some 8) Tryz.func105 #[.int .i64 a0] ?_;(with_reducible refine (Y61.calls a0 false _ A3.out).mono ?_);rintro e w' ⟨rfl,⟨nd,rfl⟩⟩;refine ⟨_,rfl,?_⟩) | ((with_reducible refine gc_ 105 ?_);refine gl_ (some 10) Tryz.func105 #[.int .i64 a1] ?_;(with_reducible refine (Y61.calls a1 false _ A4.out).mono ?_);rintro e w' ⟨rfl,⟨nd,rfl⟩⟩;refine ⟨_,rfl,?_⟩))
    go_ret
    exact ⟨z2_,z5_⟩
   ·rw [if_neg c8] at H
    have c8b0:decide (a0<a1)=false:=dF c8
    clear c8
    by_cases c9:a0>a1
    ·rw [if_pos c9] at H
     have c9b0:decide (a1<a0)=true:=dE c9
     clear c9
     obtain rfl:=sI H
     go_enter Tryz.func74,Tryz.ntmps74
     go_wp2_with (first | ((with_reducible refine gc_ 105 ?_);refine gl_ (some 8) Tryz.func105 #[.int .i64 a0] ?_;(with_reducible refine (Y61.calls a0 false _ A3.out).mono ?_);rintro e w' ⟨rfl,⟨nd,rfl⟩⟩;refine ⟨_,rfl,?_⟩) | ((with_reducible refine gc_ 105 ?_);refine gl_ (some 10) Tryz.func105 #[.int .i64 a1] ?_;(with_reducible refine (Y61.calls a1 false _ A4.out).mono ?_);rintro e w' ⟨rfl,⟨nd,rfl⟩⟩;refine ⟨_,rfl,?_⟩))
     go_ret
     exact ⟨z2_,z5_⟩
    ·rw [if_neg c9] at H
     have c9b0:decide (a1<a0)=false:=dF c9
     clear c9
     obtain rfl:=sI H
     go_enter Tryz.func74,Tryz.ntmps74
     go_wp2_with (first | ((with_reducible refine gc_ 105 ?_);refine gl_ (some 8) Tryz.func105 #[.int .i64 a0] ?_;(with_reducible refine (Y61.calls a0 false _ A3.out).mono ?_);rintro e w' ⟨rfl,⟨nd,rfl⟩⟩;refine ⟨_,rfl,?_⟩) | ((with_reducible refine gc_ 105 ?_);refine gl_ (some 10) Tryz.func105 #[.int .i64 a1] ?_;(with_reducible refine (Y61.calls a1 false _ A4.out).mono ?_);rintro e w' ⟨rfl,⟨nd,rfl⟩⟩;refine ⟨_,rfl,?_⟩))
     go_ret
     exact ⟨z2_,z5_⟩


/-! ### Y38: function 72 -/
def Y38.f (k:Nat) (B2:Int) (AL1:Int) (Q4:Int) (Ac2:Int):Option (Int):=(Y81.f B2 Q4).bind fun Ac3=>((Y81.f AL1 Ac2).bind fun AZ2=>((Y68.f k (([Ac3,AZ2]:List Int))).bind fun Ac4=>(some Ac4)))
theorem Y38.mono:∀ a0 a1 a2 a3 k,LeO (Y38.f k a0 a1 a2 a3) (Y38.f (k+1) a0 a1 a2 a3):=by
 intro a0 a1 a2 a3 k
 have m0:=@Y68.mono
 unfold Y38.f
 exact mO
def Y38.T1:Bool × List (List Nat × List Nat):=(true,[([],[]),([0],[0]),([],[]),([2],[2]),([1,3],[1,3]),([],[]),([5],[5]),([],[]),([7],[7]),([6,8,4],[6,8]),([4,9],[4,9]),([10,9],[10]),([11,11,0,1,2,3,4,5,6,7,8,9,10,11],[11])])
def Y38.B1:List Nat:=[0,1,0,4,15,0,32,0,128,511,1023,2047,4095]
theorem Y38.tab1:rtab .any (opsOf Tryz.f72 1)=Y38.T1:=by kernel_rfl
theorem Y38.bits1:waitsOk Y38.T1.2 Y38.B1=true:=by kernel_rfl
theorem Y38.calls (k:Nat) (B2:Int) (AL1:Int) (Q4:Int) (Ac2:Int) (r:Int) (w:World) (h:Y38.f k B2 AL1 Q4 Ac2=some r) :
  Calls Tryz.prog 72 #[.agg #[.int .i64 B2,.int .i64 AL1],.agg #[.int .i64 Q4,.int .i64 Ac2]] w fun e w'=>e = .returned (.int .i64 r)∧Below w.heap.size w w':=by
 have Ah1:=Tryz.underlying78
 have HB:=aM (Below.refl w.heap.size w)
 have H:((Y81.f B2 Q4).bind fun Ac3=>((Y81.f AL1 Ac2).bind fun AZ2=>((Y68.f k (([Ac3,AZ2]:List Int))).bind fun Ac4=>(some Ac4))))=some r:=h
 clear h
 replace H:=bS H
 obtain ⟨Ac3,A30,H⟩:=H
 replace H:((Y81.f AL1 Ac2).bind fun AZ2=>((Y68.f k (([Ac3,AZ2]:List Int))).bind fun Ac4=>(some Ac4)))=some r:=H
 have A3:=aM A30
 clear A30
 replace H:=bS H
 obtain ⟨AZ2,A40,H⟩:=H
 replace H:((Y68.f k (([Ac3,AZ2]:List Int))).bind fun Ac4=>(some Ac4))=some r:=H
 have A4:=aM A40
 clear A40
 obtain ⟨CG5,Ax7⟩:∃ y_:List Int,y_=(([Ac3,AZ2]:List Int)):=⟨_,rfl⟩
 replace H:((Y68.f k CG5).bind fun Ac4=>(some Ac4))=some r:=by first | (rw [Ax7];with_reducible exact H) | (have H2_:=(Option.bind_some _ _).symm.trans H;rw [Ax7];with_reducible exact H2_) | (have H2_:=(Option.bind_some _ _).symm.trans H;with_reducible exact H2_) | with_reducible exact H | (rw [Ax7];exact H) | exact H
 have B72:=aM Ax7
 clear Ax7
 replace H:=bS H
 obtain ⟨Ac4,A50,H⟩:=H
 replace H:(some Ac4)=some r:=H
 have A5:=aM A50
 clear A50
 obtain rfl:=sI H
 go_enter Tryz.func72,Tryz.ntmps72
 try go_wp2_with (first | ((with_reducible refine gd_ 2 ?_);refine be_ 2 #[.int .i64 B2,.int .i64 AL1] 78 ?_;intro BM1 hg w6 hbox hb;have n0_:=aM (below_step (z6_ HB.out) hb);have n1_:=aM (hbox);have n2_:=aM ((z7_ HB.out:w.heap.size≤BM1));have n3_:=aM ((z7_ HB.out:w.heap.size≤BM1));clear HB;have HB:=n0_;have t8:=n1_;have GW236:=n2_;have Ao2:=n3_;clear n0_ n1_ n2_ n3_;clear hb hbox hg) | ((with_reducible refine gd_ 3 ?_);refine be_ 3 #[.int .i64 Q4,.int .i64 Ac2] 78 ?_;intro BM2 hg w7 hbox hb;have n0_:=aM (blkB_ t8.out hb);have n1_:=aM (below_step (z4_ HB.out Ao2.out) hb);have n2_:=aM (hbox);have n3_:=aM ((z13_ HB.out Ao2.out:w.heap.size≤BM2));have n4_:=aM ((z13_ HB.out Ao2.out:w.heap.size≤BM2));have n5_:=aM (neL_ t8.out hg);have n6_:=aM (neG_ t8.out hg);clear t8;clear HB;have t8:=n0_;have HB:=n1_;have AJ0:=n2_;have GW237:=n3_;have Ba4:=n4_;have NB236_237:=n5_;have NB237_236:=n6_;clear n0_ n1_ n2_ n3_ n4_ n5_ n6_;clear hb hbox hg))
 have n0_:=aM (blk_drew t8.out)
 have n1_:=aM (blk_drew AJ0.out)
 have n2_:=aM (below_drew1 HB.out)
 clear t8
 clear AJ0
 clear HB
 have t8:=n0_
 have AJ0:=n1_
 have HB:=n2_
 clear n0_ n1_ n2_
 refine start_ (n:=13) (S:=fun w'=>w'.cell? ⟨BM1,0,none⟩=some (.int .i64 B2)∧w'.cell? ⟨BM1,1,none⟩=some (.int .i64 AL1)∧w'.cell? ⟨BM2,0,none⟩=some (.int .i64 Q4)∧w'.cell? ⟨BM2,1,none⟩=some (.int .i64 Ac2)) (ds:=[]) #[O,O,O,O,O,O,O,O,O,O,O,O,O] (by kernel_rfl) rfl rfl (cj2_ t8.out (cc2_ AJ0.out)) (fun hHeld=>?_);refine with_tabW Y38.tab1 Y38.bits1 (fun HT_ HW_=>?_)
 generalize w7.drew=w8 at t8 AJ0 HB hHeld ⊢
 refine pu_ 0 5 #[I,O,O,O,O,O,O,O,O,O,O,O,O] HT_.out ?_
 refine pu_ 2 7 #[I,O,I,O,O,O,O,O,O,O,O,O,O] HT_.out ?_
 refine pu_ 5 10 #[I,O,I,O,O,I,O,O,O,O,O,O,O] HT_.out ?_
 refine pu_ 7 12 #[I,O,I,O,O,I,O,I,O,O,O,O,O] HT_.out ?_
 refine tk4_ 1 6 #[I,I,I,O,O,I,O,I,O,O,O,O,O] HT_.out HW_.out hHeld ?_
 refine tk4_ 3 8 #[I,I,I,I,O,I,O,I,O,O,O,O,O] HT_.out HW_.out hHeld ?_
 refine tk4_ 6 11 #[I,I,I,I,O,I,I,I,O,O,O,O,O] HT_.out HW_.out hHeld ?_
 refine tk4_ 8 13 #[I,I,I,I,O,I,I,I,I,O,O,O,O] HT_.out HW_.out hHeld ?_
 refine o1_ 4 9 #[I,I,I,I,I,I,I,I,I,O,O,O,O] HT_.out (fun K hK=>?_)
 refine gs_ Tryz.func74 #[.int .i64 B2,.int .i64 Q4] ?_
 with_reducible refine (Y81.calls B2 Q4 Ac3 _ A3.out).mono ?_
 rintro e w' ⟨rfl,⟨nd,rfl⟩⟩
 refine ⟨_,rfl,?_⟩
 refine hK.out _ _ (cj2_ t8.out (cc2_ AJ0.out)) (fun hHeld=>?_)
 clear hK K
 refine nm_ 9 ?_
 refine o1_ 9 14 #[I,I,I,I,I,I,I,I,I,I,O,O,O] HT_.out (fun K hK=>?_)
 refine gs_ Tryz.func74 #[.int .i64 AL1,.int .i64 Ac2] ?_
 with_reducible refine (Y81.calls AL1 Ac2 AZ2 _ A4.out).mono ?_
 rintro e w' ⟨rfl,⟨nd,rfl⟩⟩
 refine ⟨_,rfl,?_⟩
 refine hK.out _ _ (cj2_ t8.out (cc2_ AJ0.out)) (fun hHeld=>?_)
 clear hK K
 refine nm_ 14 ?_
 refine o1_ 10 15 #[I,I,I,I,I,I,I,I,I,I,I,O,O] HT_.out (fun K hK=>?_)
 refine Kd.R_lit_step (Kd.int .i64) _ 3 ?hg (N:=15) ?hd (xs:=([Ac3,AZ2]:List Int)) (inner:=[.int .i64 Ac3,.int .i64 AZ2]) (ok:=fun _=>True) (okp:=fun _=>True) ?hr ?hp (fun _ hk=>hk) trivial (Below.refl _ _) (Nat.le_refl _) (by simp) ?_;(case hd=>rfl);(case hg=>rfl);(case hr=>first | (go_simp;done) | (go_simp;rfl));(case hp=>exact (Reps.one (show Kd.M (Kd.int .i64) _ _ _ Ac3 [.int .i64 Ac3] from rfl) (Reps.one (show Kd.M (Kd.int .i64) _ _ _ AZ2 [.int .i64 AZ2] from rfl) (Reps.none _ _))))
 intro v241 w9 Ba5 hb hg_ hnew_
 clear hg_ hnew_
 (first | rw [← B72.out] at Ba5 | (simp only [Int.reduceToNat] at Ba5;rw [← B72.out] at Ba5))
 have n0_:=aM (Kd.R_lower Ba5 (below_size (z9_ HB.out Ao2.out Ba4.out)))
 have n1_:=aM (blkB_ t8.out hb)
 have n2_:=aM (blkB_ AJ0.out hb)
 have n3_:=aM (below_step (z9_ HB.out Ao2.out Ba4.out) hb)
 clear t8
 clear AJ0
 clear HB
 have Ba6:=n0_
 have t8:=n1_
 have AJ0:=n2_
 have HB:=n3_
 clear n0_ n1_ n2_ n3_
 clear hb Ba5
 obtain ⟨Ba7,Ba8,BR1⟩:=Kd.R_slice Ba6.out
 (first | subst BR1 | (injection BR1 with f1_ f2_ f3_;have f4_:=f1_.symm;have f5_:=f3_.symm;clear f1_ f2_ f3_;subst f4_;subst f5_))
 refine hK.out _ _ (cj2_ t8.out (cc2_ AJ0.out)) (fun hHeld=>?_)
 clear hK K
 refine nm_ 15 ?_
 refine o1_ 11 16 #[I,I,I,I,I,I,I,I,I,I,I,I,O] HT_.out (fun K hK=>?_)
 refine gs_ Tryz.func73 #[.slice Ba7 CG5.length Ba8] ?_
 with_reducible refine (Y68.calls k _ _ CG5 Ac4 _ ?s1 ?s2 A5.out).mono ?_
 (case s1=>repeat (first | exact (Kd.R_reads' Ba6.out).2.2 | (with_reducible refine Kd.C_alloc ?_ _) | (with_reducible refine Kd.C_drewN ?_ _) | (with_reducible refine Kd.C_drew ?_)))
 (case s2=>exact (Kd.R_reads' Ba6.out).2.1)
 rintro e w' ⟨rfl,⟨nd,rfl⟩⟩
 refine ⟨_,rfl,?_⟩
 refine hK.out _ _ (cj2_ t8.out (cc2_ AJ0.out)) (fun hHeld=>?_)
 clear hK K
 refine nm_ 16 ?_
 refine pu_ 12 4 #[I,I,I,I,I,I,I,I,I,I,I,I,I] HT_.out ?_
 refine done_ (done_of HT_.out (by kernel_rfl)) ?_
 try go_wp2
 go_ret
 exact ⟨z8_,z9_ HB.out Ao2.out Ba4.out⟩


/-! ### Y2: function 127 -/
mutual
def Y2.l0:Nat→List (S78)→Int→Int→Int→Option ((List (S78)))
 | 0,_,_,_,_=>none
 | k+1,x0,x1,x2,x8=>if x8<x2 then (Y2.l1 k x0 x1 x2 x8 x8) else (some x0)
def Y2.l1:Nat→List (S78)→Int→Int→Int→Int→Option ((List (S78)))
 | 0,_,_,_,_,_=>none
 | k+1,x0,x1,x2,x8,x9=>if x9>x1 then (if 0≤x9 then (if x9<(x0.length:Int) then (if 0≤(wrap64 (x9-1)) then (if (wrap64 (x9-1))<(x0.length:Int) then ((Y38.f k ((rd_T78 x0 x9).f0) ((rd_T78 x0 x9).f1) ((rd_T78 x0 (wrap64 (x9-1))).f0) ((rd_T78 x0 (wrap64 (x9-1))).f1)).bind fun BC5=>(Y2.j2 k x0 x1 x2 x8 x9 (decide (BC5<0)))) else (none)) else (none)) else (none)) else (none)) else (Y2.j2 k x0 x1 x2 x8 x9 false)
def Y2.j2:Nat→List (S78)→Int→Int→Int→Int→Bool→Option ((List (S78)))
 | 0,_,_,_,_,_,_=>none
 | k+1,x0,x1,x2,x8,x9,x34=>if x34=true then (if 0≤(wrap64 (x9-1)) then (if (wrap64 (x9-1))<(x0.length:Int) then (if 0≤x9 then (if x9<(x0.length:Int) then (Y2.l1 k ((x0.set (x9:Int).toNat (⟨(rd_T78 x0 (wrap64 (x9-1))).f0,(rd_T78 x0 (wrap64 (x9-1))).f1⟩:S78)).set ((wrap64 (x9-1)):Int).toNat (⟨(rd_T78 x0 x9).f0,(rd_T78 x0 x9).f1⟩:S78)) x1 x2 x8 (wrap64 (x9-1))) else (none)) else (none)) else (none)) else (none)) else (Y2.l0 k x0 x1 x2 (wrap64 (x8+1)))
end
def Y2.f (k:Nat) (l0:List (S78)) (a1:Int) (a2:Int)  : Option ((List (S78))):=Y2.l0 k l0 a1 a2 (wrap64 (a1+1))
theorem Y2.mono_l:∀ k,(∀ y0 y1 y2 y3,LeO (Y2.l0 k y0 y1 y2 y3) (Y2.l0 (k+1) y0 y1 y2 y3))∧(∀ y0 y1 y2 y3 y4,LeO (Y2.l1 k y0 y1 y2 y3 y4) (Y2.l1 (k+1) y0 y1 y2 y3 y4))∧(∀ y0 y1 y2 y3 y4 y5,LeO (Y2.j2 k y0 y1 y2 y3 y4 y5) (Y2.j2 (k+1) y0 y1 y2 y3 y4 y5))
 | 0=>by refine ⟨?_,?_,?_⟩ <;> intros <;> exact LeO.none _
 | k+1=>by
  obtain ⟨ih0,ih1,ih2⟩:=Y2.mono_l k
  have m0:=@Y38.mono
  refine ⟨?_,?_,?_⟩
  ·intros
   unfold Y2.l0
   exact mO
  ·intros
   unfold Y2.l1
   exact mO
  ·intros
   unfold Y2.j2
   exact mO
theorem Y2.mono:∀ a0 a1 a2 k,LeO (Y2.f k a0 a1 a2) (Y2.f (k+1) a0 a1 a2):=by
 intro a0 a1 a2 k
 have m0:=@Y38.mono
 obtain ⟨ih0,ih1,ih2⟩:=Y2.mono_l k
 unfold Y2.f
 exact mO
def Y2.T4:Bool × List (List Nat × List Nat):=(true,[([],[]),([],[]),([0,1],[0,1]),([2],[2]),([3],[3]),([3],[3]),([3],[3]),([5,6,3],[3,5,6]),([7,3],[3,7]),([3],[3]),([3],[3]),([10,3],[3,10]),([9,11,3],[3,9,11]),([12,3],[3,12]),([4,8,13,3,3],[3,4,8,13]),([14,3],[3,14]),([3,15],[3,15])])
def Y2.B4:List Nat:=[0,0,3,7,15,15,15,111,239,15,15,1039,3599,7695,16383,32767,65535]
theorem Y2.tab4:rtab .any (opsOf Tryz.f127 4)=Y2.T4:=by kernel_rfl
theorem Y2.bits4:waitsOk Y2.T4.2 Y2.B4=true:=by kernel_rfl
def Y2.T6:Bool × List (List Nat × List Nat):=(true,[([],[]),([],[]),([],[]),([],[]),([3],[3]),([],[]),([],[]),([6],[6]),([5,7],[5,7]),([8],[8]),([],[]),([],[]),([10,11],[10,11]),([12],[12]),([0,1,0,1,5,6,7,8,9,13],[0,1]),([14,9,0,1,5,6,7,8,9,13],[9,14]),([2,4,0,1,2,3,4,5,6,7,8,9,10,11,12,13,14,15],[2,4]),([16,13,15,0,1,2,3,4,5,6,7,8,9,10,11,12,13,14,15],[13,16])])
def Y2.B6:List Nat:=[0,0,0,0,8,0,0,64,224,480,0,0,3072,7168,16355,32739,65535,131071]
theorem Y2.tab6:rtab .any (opsOf Tryz.f127 6)=Y2.T6:=by kernel_rfl
theorem Y2.bits6:waitsOk Y2.T6.2 Y2.B6=true:=by kernel_rfl
abbrev Y2.q0:Array Bool:=#[O,O,O,O,O,O,O,O,O,O,O,O,O,O,O,O,O]
abbrev Y2.q1:Array Bool:=#[I,O,O,O,O,O,O,O,O,O,O,O,O,O,O,O,O]
abbrev Y2.q2:Array Bool:=#[I,I,O,O,O,O,O,O,O,O,O,O,O,O,O,O,O]
abbrev Y2.q3:Array Bool:=#[I,I,I,O,O,O,O,O,O,O,O,O,O,O,O,O,O]
abbrev Y2.q4:Array Bool:=#[I,I,I,I,O,O,O,O,O,O,O,O,O,O,O,O,O]
abbrev Y2.q5:Array Bool:=#[I,I,I,I,I,O,O,O,O,O,O,O,O,O,O,O,O]
abbrev Y2.q6:Array Bool:=#[I,I,I,I,I,I,O,O,O,O,O,O,O,O,O,O,O]
abbrev Y2.q7:Array Bool:=#[I,I,I,I,I,I,I,O,O,O,O,O,O,O,O,O,O]
abbrev Y2.q8:Array Bool:=#[I,I,I,I,I,I,I,I,O,O,O,O,O,O,O,O,O]
abbrev Y2.q9:Array Bool:=#[I,I,I,I,I,I,I,I,I,I,I,I,I,O,O,O,O]
abbrev Y2.q10:Array Bool:=#[I,I,I,I,I,I,I,I,I,I,I,I,I,I,O,O,O]
abbrev Y2.q11:Array Bool:=#[I,I,I,I,I,I,I,I,I,I,I,I,I,I,I,O,O]
abbrev Y2.q12:Array Bool:=#[I,I,I,I,I,I,I,I,I,I,I,I,I,I,I,I,O]
abbrev Y2.q13:Array Bool:=#[I,I,I,I,I,I,I,I,I,I,I,I,I,I,I,I,I]
theorem Y2.calls (k:Nat) (P0_:Nat→Prop) (M0:Value) (l0:List (S78)) (a1:Int) (a2:Int)  (r:List (S78)) (w0 w:World) (hB:Below w0.heap.size w0 w) (ho0:Kd.R k78 78 w w0.heap.size P0_ M0 l0) (h:Y2.f k l0 a1 a2=some r) :
  Calls Tryz.prog 127 #[M0,.int .i64 a1,.int .i64 a2,.func (.func 72) #[] #[]] w fun e w'=>e = .returned (.tuple #[])∧Kd.R k78 78 w' w0.heap.size (fun k_=>(P0_ k_∨w.heap.size≤k_)) M0 r∧Below w0.heap.size w0 w'∧Kept w w' (fun k_=>P0_ k_):=by
 have Ah1:=Tryz.underlying78
 have HO0:=aM (show Kd.R k78 78 w w0.heap.size (fun k_=>(P0_ k_∨w.heap.size≤k_)) M0 l0 from Kd.R_mono ho0 (fun k_ hk=>(.inl hk)))
 have HK:=aM (Kept.refl w (fun k_=>P0_ k_))
 have HW0:=aM hB.size
 have HB:=aM hB
 clear hB
 have H:(Y2.l0 k l0 a1 a2 (wrap64 (a1+1)))=some r:=h
 clear h
 have H':=aM H
 clear H
 go_enter Tryz.func127,Tryz.ntmps127
 go_wp2
 go_loopg [8] k (fun kq v8 w'=>∃ (D4:List (S78)) (E6:Int),v8 = .int .i64 E6∧Aside0 (Y2.l0 kq D4 a1 a2 E6=some r)∧Aside0 (kq≤k)∧Aside0 (Kd.R k78 78 w' w0.heap.size (fun k_=>(P0_ k_∨w.heap.size≤k_)) M0 D4)∧Aside0 (Kept w w' (fun k_=>P0_ k_))∧Aside0 (Below w0.heap.size w0 w'))
 case atStart=>exact ⟨(l0),(wrap64 (a1+1)),(z2_),H',⟨Nat.le_refl _⟩,⟨z0_ HO0.out⟩,⟨z11_ HK.out⟩,⟨z6_ HB.out⟩⟩
 case round =>
  clear H'
  try clear p2
  obtain ⟨D4,E6,rfl,HA,HK1,C2,HK,HB⟩:=hrel
  cases gk with
  | zero=>exact absurd HA.out (by simp [Y2.l0])
  | succ k1 =>
   have H:=HA.out
   clear HA
   simp only [Y2.l0] at H
   by_cases c5:E6<a2
   ·rw [if_pos c5] at H
    have c5b0:decide (E6<a2)=true:=dE c5
    clear c5
    have H':=aM H
    clear H
    go_wp2
    go_loopg [9] k1 (fun kq v9 w'=>∃ (I1:List (S78)) (H5:Int),v9 = .int .i64 H5∧Aside0 (Y2.l1 kq I1 a1 a2 E6 H5=some r)∧Aside0 (kq≤k1)∧Aside0 (Kd.R k78 78 w' w0.heap.size (fun k_=>(P0_ k_∨w.heap.size≤k_)) M0 I1)∧Aside0 (Kept w w' (fun k_=>P0_ k_))∧Aside0 (Below w0.heap.size w0 w'))
    case atStart=>exact ⟨(D4),(E6),(z2_),H',⟨Nat.le_refl _⟩,⟨z0_ C2.out⟩,⟨z11_ HK.out⟩,⟨z6_ HB.out⟩⟩
    case round =>
     clear H'
     try clear p2
     try clear c5
     try clear c5b0
     try clear p2
     obtain ⟨I1,H5,rfl,HA,HK2,C2,HK,HB⟩:=hrel
     cases gk with
     | zero=>exact absurd HA.out (by simp [Y2.l1])
     | succ k2 =>
      have H:=HA.out
      clear HA
      simp only [Y2.l1] at H
      have HC6:=aM H
      clear H
      go_upto_region 4 with (fail)
      go_cut [34] (fun v34 wc=>∃ (kq:Nat) (BM3:Bool),v34 = .bool BM3∧Aside0 (Y2.j2 kq I1 a1 a2 E6 H5 BM3=some r)∧Aside0 (kq≤k2)∧Aside0 (Kd.R k78 78 wc w0.heap.size (fun k_=>(P0_ k_∨w.heap.size≤k_)) M0 I1)∧Aside0 (Kept w wc (fun k_=>P0_ k_))∧Aside0 (Below w0.heap.size w0 wc))
      case first =>
       have H:=HC6.out
       clear HC6
       by_cases c7:H5>a1
       ·rw [if_pos c7] at H
        have c7b0:decide (a1<H5)=true:=dE c7
        clear c7
        (first | rw [c7b0] | (simp only [i64_w,i32_w];rw [c7b0]) | skip)
        by_cases c8:0≤H5
        ·rw [if_pos c8] at H
         have c8b0:decide (0≤H5)=true:=dE c8
         clear c8
         by_cases c9:H5<(I1.length:Int)
         ·rw [if_pos c9] at H
          have c9b0:decide (H5<(I1.length:Int))=true:=dE c9
          clear c9
          obtain ⟨X7,AQ0⟩:∃ j_:Int,(wrap64 (H5-1))=j_:=⟨_,rfl⟩
          replace H:(if 0≤(X7) then (if (X7)<(I1.length:Int) then ((Y38.f k2 ((rd_T78 I1 H5).f0) ((rd_T78 I1 H5).f1) ((rd_T78 I1 (X7)).f0) ((rd_T78 I1 (X7)).f1)).bind fun BC5=>(Y2.j2 k2 I1 a1 a2 E6 H5 (decide (BC5<0)))) else (none)) else (none))=some r:=by first | (rw [AQ0] at H;exact H) | (simp only [AQ0] at H ⊢;exact H)
          have hji10w:(IntKind.i64.wrap (H5-1))=X7:=(i64_w _).trans AQ0
          by_cases c11:0≤(X7)
          ·rw [if_pos c11] at H
           have c11b0:decide (0≤(X7))=true:=dE c11
           clear c11
           by_cases c12:(X7)<(I1.length:Int)
           ·rw [if_pos c12] at H
            have c12b0:decide ((X7)<(I1.length:Int))=true:=dE c12
            clear c12
            replace H:=bS H
            obtain ⟨BC5,AK7,H⟩:=H
            replace H:(Y2.j2 k2 I1 a1 a2 E6 H5 (decide (BC5<0)))=some r:=H
            have A13:=aM AK7
            clear AK7
            have H':=aM H
            clear H
            try go_wp2
            have n0_:=aM (Kd.R_drew C2.out)
            have n1_:=aM (Kept.drew HK.out)
            have n2_:=aM (below_drew1 HB.out)
            clear C2
            clear HK
            clear HB
            have C2:=n0_
            have HK:=n1_
            have HB:=n2_
            clear n0_ n1_ n2_
            obtain ⟨Ca3,Ca4,Br4⟩:=Kd.R_slice C2.out
            (first | subst Br4 | (injection Br4 with f1_ f2_ f3_;have f4_:=f1_.symm;have f5_:=f3_.symm;clear f1_ f2_ f3_;subst f4_;subst f5_))
            have Br5:0≤(H5:Int):=dT (z1_)
            have Br6:H5<(I1.length:Int):=dT (z1_)
            obtain ⟨Ai7,e244,Ar0,Ar1⟩:=at_T78 (Kd.R_reads' C2.out).2.2 H5 Br5 Br6
            cases e244
            replace Br5:=eq_true Br5
            replace Br6:=eq_true Br6
            have Br7:0≤((X7):Int):=dT (z1_)
            have Br8:(X7)<(I1.length:Int):=dT (z1_)
            obtain ⟨Ca5,e245,Ar2,Ar3⟩:=at_T78 (Kd.R_reads' C2.out).2.2 (X7) Br7 Br8
            obtain rfl:Ai7=Ca5:=(by injection e245)
            replace Br7:=eq_true Br7
            replace Br8:=eq_true Br8
            refine start_ (n:=17) (S:=fun w'=>w'.cell? (Ai7.add ((H5).toNat*2))=some (.int .i64 ((rd_T78 I1 H5).f0))∧w'.cell? ⟨(Ai7.add ((H5).toNat*2)).block,(Ai7.add ((H5).toNat*2)).off+1,none⟩=some (.int .i64 ((rd_T78 I1 H5).f1))∧w'.cell? (Ai7.add (((X7)).toNat*2))=some (.int .i64 ((rd_T78 I1 (X7)).f0))∧w'.cell? ⟨(Ai7.add (((X7)).toNat*2)).block,(Ai7.add (((X7)).toNat*2)).off+1,none⟩=some (.int .i64 ((rd_T78 I1 (X7)).f1))) (ds:=[]) Y2.q0 (by kernel_rfl) rfl rfl ⟨Ar0,Ar1,Ar2,Ar3⟩ (fun hHeld=>?_);refine with_tabW Y2.tab4 Y2.bits4 (fun HT_ HW_=>?_)
            generalize wr.drew=w14 at C2 HK HB Ar0 Ar1 Ar2 Ar3 hHeld ⊢
            refine pu_ 0 18 Y2.q1 HT_.out ?_
            refine pu_ 1 19 Y2.q2 HT_.out ?_
            refine pu_ 2 20 Y2.q3 HT_.out ?_
            refine pu_ 3 21 Y2.q4 HT_.out ?_
            refine pu_ 4 22 Y2.q5 HT_.out ?_
            refine pu_ 5 23 Y2.q6 HT_.out ?_
            refine pu_ 6 24 Y2.q7 HT_.out ?_
            refine pu_ 7 25 Y2.q8 HT_.out ?_
            refine pu_ 9 27 #[I,I,I,I,I,I,I,I,O,I,O,O,O,O,O,O,O] HT_.out ?_
            refine pu_ 10 28 #[I,I,I,I,I,I,I,I,O,I,I,O,O,O,O,O,O] HT_.out ?_
            refine pu_ 11 29 #[I,I,I,I,I,I,I,I,O,I,I,I,O,O,O,O,O] HT_.out ?_
            refine pu_ 12 30 #[I,I,I,I,I,I,I,I,O,I,I,I,I,O,O,O,O] HT_.out ?_
            refine tk4_ 8 26 Y2.q9 HT_.out HW_.out hHeld ?_
            refine tk4_ 13 31 Y2.q10 HT_.out HW_.out hHeld ?_
            refine o1_ 14 32 Y2.q11 HT_.out (fun K hK=>?_)
            refine goesD_ Tryz.func72 (by kernel_rfl) rfl #[.agg #[.int .i64 ((rd_T78 I1 H5).f0),.int .i64 ((rd_T78 I1 H5).f1)],.agg #[.int .i64 ((rd_T78 I1 (X7)).f0),.int .i64 ((rd_T78 I1 (X7)).f1)]] (by rfl) rfl rfl (by rfl) (by (try simp only [List.map_toArray,List.map_cons,List.map_nil]);first | done | (simp only [AQ0];rfl) | rfl | (simp only [List.length_drop,List.length_take];rfl)) ?_
            with_reducible refine (Y38.calls k2 ((rd_T78 I1 H5).f0) ((rd_T78 I1 H5).f1) ((rd_T78 I1 (X7)).f0) ((rd_T78 I1 (X7)).f1) BC5 _ A13.out).mono ?_
            rintro e w16 ⟨rfl,hb⟩
            have AQ9:=(hb.cell (World.block_lt_of_cell? _ _ (hHeld.1))).trans (hHeld.1)
            have AR0:=(hb.cell (World.block_lt_of_cell? _ _ (hHeld.2.1))).trans (hHeld.2.1)
            have AR1:=(hb.cell (World.block_lt_of_cell? _ _ (hHeld.2.2.1))).trans (hHeld.2.2.1)
            have AR2:=(hb.cell (World.block_lt_of_cell? _ _ (hHeld.2.2.2))).trans (hHeld.2.2.2)
            refine ⟨_,rfl,?_⟩
            have n0_:=aM (Kd.R_below (z0_ C2.out) hb)
            have n1_:=aM (Kept.below (S:=(fun k_=>P0_ k_)) (z11_ HK.out) hb)
            have n2_:=aM (below_step (z6_ HB.out) hb)
            clear C2
            clear HK
            clear HB
            have C2:=n0_
            have HK:=n1_
            have HB:=n2_
            clear n0_ n1_ n2_
            (try clear hb)
            refine hK.out _ _ ⟨AQ9,AR0,AR1,AR2⟩ (fun hHeld=>?_)
            clear hK K
            refine nm_ 32 ?_
            refine pu_ 15 33 Y2.q12 HT_.out ?_
            refine pu_ 16 34 Y2.q13 HT_.out ?_
            refine done_ (done_of HT_.out (by kernel_rfl)) ?_
            try go_wp2
            go_meet
            case rel=>exact ⟨_,(decide (BC5<0)),(z2_),H',⟨z31_ HK1.out HK2.out⟩,⟨z0_ C2.out⟩,⟨z11_ HK.out⟩,⟨z6_ HB.out⟩⟩
           ·rw [if_neg c12] at H
            exact nO H
          ·rw [if_neg c11] at H
           exact nO H
         ·rw [if_neg c9] at H
          exact nO H
        ·rw [if_neg c8] at H
         exact nO H
       ·rw [if_neg c7] at H
        have c7b0:decide (a1<H5)=false:=dF c7
        clear c7
        (first | rw [c7b0] | (simp only [i64_w,i32_w];rw [c7b0]) | skip)
        have H':=aM H
        clear H
        try go_wp2
        have n0_:=aM (Kd.R_drew C2.out)
        have n1_:=aM (Kept.drew HK.out)
        have n2_:=aM (below_drew1 HB.out)
        clear C2
        clear HK
        clear HB
        have C2:=n0_
        have HK:=n1_
        have HB:=n2_
        clear n0_ n1_ n2_
        refine start_ (n:=17) (S:=fun w'=>True) (ds:=[]) Y2.q0 (by kernel_rfl) rfl rfl trivial (fun hHeld=>?_);refine with_tabW Y2.tab4 Y2.bits4 (fun HT_ HW_=>?_)
        generalize wr.drew=w17 at C2 HK HB hHeld ⊢
        refine pu_ 0 18 Y2.q1 HT_.out ?_
        refine pu_ 1 19 Y2.q2 HT_.out ?_
        refine pu_ 2 20 Y2.q3 HT_.out ?_
        refine pu_ 3 21 Y2.q4 HT_.out ?_
        refine pn_ 4 22 Y2.q5 HT_.out ?_
        refine pn_ 5 23 Y2.q6 HT_.out ?_
        refine pn_ 6 24 Y2.q7 HT_.out ?_
        refine pn_ 7 25 Y2.q8 HT_.out ?_
        refine pn_ 8 26 #[I,I,I,I,I,I,I,I,I,O,O,O,O,O,O,O,O] HT_.out ?_
        refine pn_ 9 27 #[I,I,I,I,I,I,I,I,I,I,O,O,O,O,O,O,O] HT_.out ?_
        refine pn_ 10 28 #[I,I,I,I,I,I,I,I,I,I,I,O,O,O,O,O,O] HT_.out ?_
        refine pn_ 11 29 #[I,I,I,I,I,I,I,I,I,I,I,I,O,O,O,O,O] HT_.out ?_
        refine pn_ 12 30 Y2.q9 HT_.out ?_
        refine pn_ 13 31 Y2.q10 HT_.out ?_
        refine pn_ 14 32 Y2.q11 HT_.out ?_
        refine pn_ 15 33 Y2.q12 HT_.out ?_
        refine pu_ 16 34 Y2.q13 HT_.out ?_
        refine done_ (done_of HT_.out (by kernel_rfl)) ?_
        try go_wp2
        go_meet
        case rel=>exact ⟨_,(false),(z2_),H',⟨z31_ HK1.out HK2.out⟩,⟨z0_ C2.out⟩,⟨z11_ HK.out⟩,⟨z6_ HB.out⟩⟩
      case rest =>
       clear HC6
       try clear c1
       try clear p2
       try clear q2
       try clear hx2
       try clear c5
       try clear c5b0
       try clear p6
       try clear c7
       try clear c7b0
       try clear c8
       try clear c8b0
       try clear c9
       try clear c9b0
       try clear c11
       try clear c11b0
       try clear c12
       try clear c12b0
       try clear Ar0
       try clear Ar1
       try clear Ar2
       try clear Ar3
       try clear p2
       try clear Br5
       try clear Br7
       try clear Br6
       try clear Br8
       obtain ⟨kq,BM3,rfl,HA,HJ5,C2,HK,HB⟩:=hcut
       cases kq with
       | zero=>exact absurd HA.out (by simp [Y2.j2])
       | succ kj5 =>
        have H:=HA.out
        clear HA
        simp only [Y2.j2] at H
        by_cases c18:BM3=true
        ·subst c18
         have H1:(if 0≤(wrap64 (H5-1)) then (if (wrap64 (H5-1))<(I1.length:Int) then (if 0≤H5 then (if H5<(I1.length:Int) then (Y2.l1 kj5 ((I1.set (H5:Int).toNat (⟨(rd_T78 I1 (wrap64 (H5-1))).f0,(rd_T78 I1 (wrap64 (H5-1))).f1⟩:S78)).set ((wrap64 (H5-1)):Int).toNat (⟨(rd_T78 I1 H5).f0,(rd_T78 I1 H5).f1⟩:S78)) a1 a2 E6 (wrap64 (H5-1))) else (none)) else (none)) else (none)) else (none))=some r:=by rw [if_pos rfl] at H;exact H
         clear H
         have H:=H1
         clear H1
         obtain ⟨O5,Ax8⟩:∃ j_:Int,(wrap64 (H5-1))=j_:=⟨_,rfl⟩
         replace H:(if 0≤(O5) then (if (O5)<(I1.length:Int) then (if 0≤H5 then (if H5<(I1.length:Int) then (Y2.l1 kj5 ((I1.set (H5:Int).toNat (⟨(rd_T78 I1 (O5)).f0,(rd_T78 I1 (O5)).f1⟩:S78)).set ((O5):Int).toNat (⟨(rd_T78 I1 H5).f0,(rd_T78 I1 H5).f1⟩:S78)) a1 a2 E6 O5) else (none)) else (none)) else (none)) else (none))=some r:=by first | (rw [Ax8] at H;exact H) | (simp only [Ax8] at H ⊢;exact H)
         have hji19w:(IntKind.i64.wrap (H5-1))=O5:=(i64_w _).trans Ax8
         by_cases c20:0≤(O5)
         ·rw [if_pos c20] at H
          have c20b0:decide (0≤(O5))=true:=dE c20
          clear c20
          by_cases c21:(O5)<(I1.length:Int)
          ·rw [if_pos c21] at H
           have c21b0:decide ((O5)<(I1.length:Int))=true:=dE c21
           clear c21
           by_cases c22:0≤H5
           ·rw [if_pos c22] at H
            have c22b0:decide (0≤H5)=true:=dE c22
            clear c22
            by_cases c23:H5<(I1.length:Int)
            ·rw [if_pos c23] at H
             have c23b0:decide (H5<(I1.length:Int))=true:=dE c23
             clear c23
             obtain ⟨Br9,Ax9⟩:∃ y_:List (S78),y_=(I1.set (H5:Int).toNat (⟨(rd_T78 I1 (O5)).f0,(rd_T78 I1 (O5)).f1⟩:S78)):=⟨_,rfl⟩
             replace H:(Y2.l1 kj5 (Br9.set ((O5):Int).toNat (⟨(rd_T78 I1 H5).f0,(rd_T78 I1 H5).f1⟩:S78)) a1 a2 E6 O5)=some r:=by first | (rw [Ax9];with_reducible exact H) | (have H2_:=(Option.bind_some _ _).symm.trans H;rw [Ax9];with_reducible exact H2_) | (have H2_:=(Option.bind_some _ _).symm.trans H;with_reducible exact H2_) | with_reducible exact H | (rw [Ax9];exact H) | exact H
             have Ca6:=aM Ax9
             clear Ax9
             obtain ⟨Ca7,Ay0⟩:∃ y_:List (S78),y_=(Br9.set ((O5):Int).toNat (⟨(rd_T78 I1 H5).f0,(rd_T78 I1 H5).f1⟩:S78)):=⟨_,rfl⟩
             replace H:(Y2.l1 kj5 Ca7 a1 a2 E6 O5)=some r:=by first | (rw [Ay0];with_reducible exact H) | (have H2_:=(Option.bind_some _ _).symm.trans H;rw [Ay0];with_reducible exact H2_) | (have H2_:=(Option.bind_some _ _).symm.trans H;with_reducible exact H2_) | with_reducible exact H | (rw [Ay0];exact H) | exact H
             have Ca8:=aM Ay0
             clear Ay0
             have H':=aM H
             clear H
             try go_wp2
             have n0_:=aM (Kd.R_drew C2.out)
             have n1_:=aM (Kept.drew HK.out)
             have n2_:=aM (below_drew1 HB.out)
             clear C2
             clear HK
             clear HB
             have C2:=n0_
             have HK:=n1_
             have HB:=n2_
             clear n0_ n1_ n2_
             obtain ⟨Bo3,BX6,Ah2⟩:=Kd.R_slice C2.out
             (first | subst Ah2 | (injection Ah2 with f1_ f2_ f3_;have f4_:=f1_.symm;have f5_:=f3_.symm;clear f1_ f2_ f3_;subst f4_;subst f5_))
             have Bs0:0≤((O5):Int):=dT (z1_)
             have CG6:(O5)<(I1.length:Int):=dT (z1_)
             obtain ⟨Ca9,e247,Af7,Af8⟩:=at_T78 (Kd.R_reads' C2.out).2.2 (O5) Bs0 CG6
             cases e247
             replace Bs0:=eq_true Bs0
             replace CG6:=eq_true CG6
             have Bs1:0≤(H5:Int):=dT (z1_)
             have CG7:H5<(I1.length:Int):=dT (z1_)
             obtain ⟨Cb0,e248,Ar4,Ar5⟩:=at_T78 (Kd.R_reads' C2.out).2.2 H5 Bs1 CG7
             obtain rfl:Ca9=Cb0:=(by injection e248)
             replace Bs1:=eq_true Bs1
             replace CG7:=eq_true CG7
             have p24:0≤(H5:Int):=dT (z1_)
             have q24:(H5:Int)<((I1.length:Int):Int):=dT (z1_)
             obtain ⟨AF3,BC6,Ay1,Cb1,C12,cl24,Cb2⟩:=Kd.R_form C2.out (by omega)
             (first | cases Ay1 | (injection Ay1 with ea_ en_ ec_;(first | subst ea_ | (injection ea_ with ea_;subst ea_));subst ec_;clear en_))
             have C13:=aM Cb1
             have C14:=aM Cb2
             clear Cb1 C12 Cb2
             have CG8:=aM (show (P0_ AF3∨w.heap.size≤AF3) from (C2.out.1 _ rfl))
             (first | simp only [add_plain] at Af7 | skip)
             (first | simp only [add_plain] at Af8 | skip)
             (first | simp only [add_plain] at Ar4 | skip)
             (first | simp only [add_plain] at Ar5 | skip)
             obtain ⟨ce24,Cb3,Cb4,Ba9,Bb0⟩:=Kd.R_elem C2.out z78 (H5:Int) p24 q24
             obtain rfl:=k78_openM Cb4
             have CG9:World.cell? _ ⟨AF3,(H5:Int).toNat*2,none⟩=some (.int .i64 ((rd_T78 I1 H5).f0)):=Ba9 0 _ rfl
             have CH0:World.cell? _ ⟨AF3,(H5:Int).toNat*2+1,none⟩=some (.int .i64 ((rd_T78 I1 H5).f1)):=Ba9 1 _ rfl
             have CH1:World.frozen? _ ⟨AF3,(H5:Int).toNat*2,none⟩=false:=Bb0 0
             have CH2:World.frozen? _ ⟨AF3,(H5:Int).toNat*2+1,none⟩=false:=Bb0 1
             clear Cb3 Ba9 Bb0 Cb4
             replace p24:=eq_true p24
             replace q24:=eq_true q24
             obtain ⟨ce28,B73,Cb5,B74,Cb6⟩:=Kd.R_elem C2.out z78 (H5:Int) (dT (z1_)) (by have h_:(H5:Int)<((I1.length:Int):Int):=dT (by first | (with_reducible assumption) | assumption);first | exact h_ | (have e_:=(Kd.R_reads' C2.out).1;omega) | simpa using h_)
             obtain rfl:=k78_openM Cb5
             have CH3:=(Kd.R_seg C2.out (H5:Int) (dT (z1_)) (by have h_:(H5:Int)<((I1.length:Int):Int):=dT (by first | (with_reducible assumption) | assumption);first | exact h_ | (have e_:=(Kd.R_reads' C2.out).1;omega) | simpa using h_) (seg:=[.int .i64 ((rd_T78 I1 (O5)).f0),.int .i64 ((rd_T78 I1 (O5)).f1)]) (j:=0) B73 B74 (show 2≤2 from by decide) (x':=(⟨(rd_T78 I1 (O5)).f0,(rd_T78 I1 (O5)).f1⟩:S78)) (k78_mkM _ _ _ (⟨(rd_T78 I1 (O5)).f0,(rd_T78 I1 (O5)).f1⟩:S78) ) (fun _ hk=>hk)).1
             rw [← Ca6.out] at CH3
             have Bs2:=aM CH3
             clear B73 B74 Cb6 Cb5 CH3
             have p25:0≤((O5):Int):=dT (z1_)
             have q25:((O5):Int)<((I1.length:Int):Int):=dT (z1_)
             obtain ⟨ce25,Cb7,Cb8,Bb1,Bb2⟩:=Kd.R_elem Bs2.out z78 ((O5):Int) p25 q25
             obtain rfl:=k78_openM Cb8
             have CH4:World.cell? _ ⟨AF3,((O5):Int).toNat*2,none⟩=some (.int .i64 ((rd_T78 Br9 (O5)).f0)):=Bb1 0 _ rfl
             have CH5:World.cell? _ ⟨AF3,((O5):Int).toNat*2+1,none⟩=some (.int .i64 ((rd_T78 Br9 (O5)).f1)):=Bb1 1 _ rfl
             have Bb3:World.frozen? _ ⟨AF3,((O5):Int).toNat*2,none⟩=false:=Bb2 0
             have Bb4:World.frozen? _ ⟨AF3,((O5):Int).toNat*2+1,none⟩=false:=Bb2 1
             clear Cb7 Bb1 Bb2 Cb8
             replace p25:=eq_true p25
             replace q25:=eq_true q25
             obtain ⟨ce29,B75,Cb9,B76,Cc0⟩:=Kd.R_elem Bs2.out z78 ((O5):Int) (dT (z1_)) (by have h_:((O5):Int)<((I1.length:Int):Int):=dT (by first | (with_reducible assumption) | assumption);first | exact h_ | (have e_:=(Kd.R_reads' C2.out).1;omega) | simpa using h_)
             obtain rfl:=k78_openM Cb9
             have CH6:=(Kd.R_seg Bs2.out ((O5):Int) (dT (z1_)) (by have h_:((O5):Int)<((I1.length:Int):Int):=dT (by first | (with_reducible assumption) | assumption);first | exact h_ | (have e_:=(Kd.R_reads' C2.out).1;omega) | simpa using h_) (seg:=[.int .i64 ((rd_T78 I1 H5).f0),.int .i64 ((rd_T78 I1 H5).f1)]) (j:=0) B75 B76 (show 2≤2 from by decide) (x':=(⟨(rd_T78 I1 H5).f0,(rd_T78 I1 H5).f1⟩:S78)) (k78_mkM _ _ _ (⟨(rd_T78 I1 H5).f0,(rd_T78 I1 H5).f1⟩:S78) ) (fun _ hk=>hk)).1
             rw [← Ca8.out] at CH6
             have Cc1:=aM CH6
             clear B75 B76 Cc0 Cb9 CH6
             refine start_ (n:=18) (S:=fun w'=>w'.cell? ⟨AF3,((O5)).toNat*2,none⟩=some (.int .i64 ((rd_T78 I1 (O5)).f0))∧w'.cell? ⟨AF3,((O5)).toNat*2+1,none⟩=some (.int .i64 ((rd_T78 I1 (O5)).f1))∧w'.cell? ⟨AF3,((H5).toNat*2),none⟩=some (.int .i64 ((rd_T78 I1 H5).f0))∧w'.cell? ⟨AF3,((H5).toNat*2)+1,none⟩=some (.int .i64 ((rd_T78 I1 H5).f1))) (ds:=[15,17]) #[O,O,O,O,O,O,O,O,O,O,O,O,O,O,O,O,O,O] (by kernel_rfl) rfl rfl ⟨Af7,Af8,Ar4,Ar5⟩ (fun hHeld=>?_);refine with_tabW Y2.tab6 Y2.bits6 (fun HT_ HW_=>?_)
             generalize wc.drew=w26 at C2 HK HB C14 Bs2 Cc1 CH1 CH2 Bb3 Bb4 Af7 Af8 Ar4 Ar5 CG9 CH0 CH4 CH5 hHeld ⊢
             have hne_:O5.toNat*2≠H5.toNat*2:=by have a_:=of_eq_true Bs0;have b_:=of_eq_true Bs1;unfold wrap64 at Ax8;omega
             have hz25_0:∀ V,(w26.setCell ⟨AF3,(H5:Int).toNat*2,none⟩ V).cell? ⟨AF3,((O5):Int).toNat*2,none⟩=some (.int .i64 ((rd_T78 I1 (O5)).f0)):=fun V=>(World.cell?_setCell_other _ _ _ _ (by intro e_;injection e_;omega)).trans Af7
             have hz25_1:∀ V,(w26.setCell ⟨AF3,(H5:Int).toNat*2+1,none⟩ V).cell? ⟨AF3,((O5):Int).toNat*2+1,none⟩=some (.int .i64 ((rd_T78 I1 (O5)).f1)):=fun V=>(World.cell?_setCell_other _ _ _ _ (by intro e_;injection e_;omega)).trans Af8
             have hy25_0:w26.frozen? ⟨AF3,((O5):Int).toNat*2,none⟩=false:=by have h_:=Bb3;first | exact h_ | simpa only [World.frozen?_setCell] using h_ | simpa [World.setCells] using h_
             have hy25_1:w26.frozen? ⟨AF3,((O5):Int).toNat*2+1,none⟩=false:=by have h_:=Bb4;first | exact h_ | simpa only [World.frozen?_setCell] using h_ | simpa [World.setCells] using h_
             refine pu_ 0 37 #[I,O,O,O,O,O,O,O,O,O,O,O,O,O,O,O,O,O] HT_.out ?_
             refine pu_ 1 38 #[I,I,O,O,O,O,O,O,O,O,O,O,O,O,O,O,O,O] HT_.out ?_
             refine pu_ 2 39 #[I,I,I,O,O,O,O,O,O,O,O,O,O,O,O,O,O,O] HT_.out ?_
             refine pu_ 3 40 #[I,I,I,I,O,O,O,O,O,O,O,O,O,O,O,O,O,O] HT_.out ?_
             refine pu_ 4 41 #[I,I,I,I,I,O,O,O,O,O,O,O,O,O,O,O,O,O] HT_.out ?_
             refine pu_ 5 42 #[I,I,I,I,I,I,O,O,O,O,O,O,O,O,O,O,O,O] HT_.out ?_
             refine pu_ 6 43 #[I,I,I,I,I,I,I,O,O,O,O,O,O,O,O,O,O,O] HT_.out ?_
             refine pu_ 7 44 #[I,I,I,I,I,I,I,I,O,O,O,O,O,O,O,O,O,O] HT_.out ?_
             refine pu_ 8 45 #[I,I,I,I,I,I,I,I,I,O,O,O,O,O,O,O,O,O] HT_.out ?_
             refine pu_ 10 47 #[I,I,I,I,I,I,I,I,I,O,I,O,O,O,O,O,O,O] HT_.out ?_
             refine pu_ 11 48 #[I,I,I,I,I,I,I,I,I,O,I,I,O,O,O,O,O,O] HT_.out ?_
             refine pu_ 12 49 #[I,I,I,I,I,I,I,I,I,O,I,I,I,O,O,O,O,O] HT_.out ?_
             refine tk4_ 9 46 #[I,I,I,I,I,I,I,I,I,I,I,I,I,O,O,O,O,O] HT_.out HW_.out hHeld ?_
             refine tk4_ 13 50 #[I,I,I,I,I,I,I,I,I,I,I,I,I,I,O,O,O,O] HT_.out HW_.out hHeld ?_
             refine pu_ 14 51 #[I,I,I,I,I,I,I,I,I,I,I,I,I,I,I,O,O,O] HT_.out ?_
             refine last_ (i:=15) (N:=none) #[I,I,I,I,I,I,I,I,I,I,I,I,I,I,I,I,O,O] rfl rfl (one_of HT_.out (by kernel_rfl)) (by decide) (fun K hK=>?_)
             refine skip_ (w1:=?_) (by rfl) rfl ?_ ?_
             rotate_left
             ·go_simp
              rfl
             refine hK.out _ _ ?_
             clear hK K
             refine pu_ 16 52 #[I,I,I,I,I,I,I,I,I,I,I,I,I,I,I,I,I,O] HT_.out ?_
             refine last_ (i:=17) (N:=none) #[I,I,I,I,I,I,I,I,I,I,I,I,I,I,I,I,I,I] rfl rfl (one_of HT_.out (by kernel_rfl)) (by decide) (fun K hK=>?_)
             refine skip_ (w1:=?_) (by rfl) rfl ?_ ?_
             rotate_left
             ·go_simp
              rfl
             refine hK.out _ _ ?_
             clear hK K
             refine done_ (done_of HT_.out (by kernel_rfl)) ?_
             try go_wp2
             go_roundg kj5
             case measure=>have:=HK1.out;have:=HK2.out;have:=HJ5.out;omega
             case rel=>exact ⟨(Ca7),(O5),(by first | rfl | (simp;done) | (simp only [← Ax8] <;> (first | rfl | simp)) | (simp [*];done)),H',⟨by have:=HK1.out;have:=HK2.out;have:=HJ5.out;omega⟩,⟨z0_ Cc1.out⟩,⟨z43_ HK.out CG8.out⟩,⟨z44_ HB.out C13.out⟩⟩
            ·rw [if_neg c23] at H
             exact nO H
           ·rw [if_neg c22] at H
            exact nO H
          ·rw [if_neg c21] at H
           exact nO H
         ·rw [if_neg c20] at H
          exact nO H
        ·replace c18:=Bool.eq_false_iff.mpr c18
         subst c18
         have H1:(Y2.l0 kj5 I1 a1 a2 (wrap64 (E6+1)))=some r:=by rw [if_neg (show ¬ (false=true) by decide)] at H;exact H
         clear H
         have H:=H1
         clear H1
         have H':=aM H
         clear H
         go_wp2
         go_roundg kj5
         case measure=>have:=HK1.out;have:=HK2.out;have:=HJ5.out;omega
         case rel=>exact ⟨(I1),(wrap64 (E6+1)),(z2_),H',⟨by have:=HK1.out;have:=HK2.out;have:=HJ5.out;omega⟩,⟨z0_ C2.out⟩,⟨z11_ HK.out⟩,⟨z6_ HB.out⟩⟩
   ·rw [if_neg c5] at H
    have c5b0:decide (E6<a2)=false:=dF c5
    clear c5
    obtain rfl:=sI H
    go_wp2
    first | go_end0 | ((try simp only [Exit.inBlock,Exit.then]);refine bodyPost_ret (results_none rfl _ _ _) rfl ?_)
    exact ⟨z8_,z0_ C2.out,z6_ HB.out,z11_ HK.out⟩


/-! ### Y66: function 128 -/
def Y66.f (l0:List (S78)) (a1:Int) (a2:Int)  : Option (Unit):=none
theorem Y66.calls (A0:Option Addr) (c0:Nat) (l0:List (S78)) (a1:Int) (a2:Int)  (w:World) (hr0:Kd.C k78 w A0 l0.length l0) (hc0:l0.length≤c0) (h:Y66.f l0 a1 a2=some ()) :
  Calls Tryz.prog 128 #[.slice A0 l0.length c0,.int .i64 a1,.int .i64 a2,.func (.func 72) #[] #[]] w fun e w'=>e = .returned (.tuple #[])∧Drawn0 w w':=by
 have HR0:=aM hr0
 have HC0:=aM hc0
 clear hr0 hc0
 have H:(none)=some ():=h
 clear h
 exact nO H


/-! ### Y53: function 129 -/
def Y53.f (l0:List (S78)) (a1:Int) (a2:Int)  : Option (Unit):=none
theorem Y53.calls (A0:Option Addr) (c0:Nat) (l0:List (S78)) (a1:Int) (a2:Int)  (w:World) (hr0:Kd.C k78 w A0 l0.length l0) (hc0:l0.length≤c0) (h:Y53.f l0 a1 a2=some ()) :
  Calls Tryz.prog 129 #[.slice A0 l0.length c0,.int .i64 a1,.int .i64 a2,.func (.func 72) #[] #[]] w fun e w'=>e = .returned (.tuple #[])∧Drawn0 w w':=by
 have HR0:=aM hr0
 have HC0:=aM hc0
 clear hr0 hc0
 have H:(none)=some ():=h
 clear h
 exact nO H


/-- A state of type 3 at block g of W; what its slices lead to came in by w0. -/
def IsS3 (w0 W:World) (g:Nat) (f0:Int):Prop:=W.heap[g]? = some (.cells #[.int .i64 f0] 3 (0,0))∧w0.heap.size≤g
theorem IsS3.grown {w0 W:World} {g:Nat} {f0:Int} {W1:World} {row:Option Nat} (h:IsS3 w0 W g f0) (hw:W.grownBy W1 row) (hne:some g≠row):IsS3 w0 W1 g f0:=by
 obtain ⟨hb,hg⟩:=h
 exact ⟨blk_grown hb hw hne,hg⟩
theorem IsS3.kept {w0 W:World} {g:Nat} {f0:Int} {W1:World} {S:Nat→Prop} (h:IsS3 w0 W g f0) (hk:Kept W W1 S) (hne:¬ S g):IsS3 w0 W1 g f0:=by
 obtain ⟨hb,hg⟩:=h
 exact ⟨blk_kept hb hk hne,hg⟩
theorem IsS3.below {w0 W:World} {g:Nat} {f0:Int} {W1:World} (h:IsS3 w0 W g f0) (hw:Below W.heap.size W W1):IsS3 w0 W1 g f0:=h.grown (grown_of_below hw none) (by simp)
theorem IsS3.alloc {w0 W:World} {g:Nat} {f0:Int} (h:IsS3 w0 W g f0) (o:Obj):IsS3 w0 (W.alloc o) g f0:=h.below (below_alloc (Below.refl _ _) o)
theorem IsS3.drewN {w0 W:World} {g:Nat} {f0:Int} (h:IsS3 w0 W g f0) (m:Nat):IsS3 w0 (W.drewN m) g f0:=h
theorem IsS3.drew {w0 W:World} {g:Nat} {f0:Int} (h:IsS3 w0 W g f0):IsS3 w0 W.drew g f0:=h
theorem IsS3.apart {w0 W:World} {g:Nat} {f0:Int} {α:Type} {d:Kd α} {e:Nat} {base:Nat} {ok:Nat→Prop} {v:Value} {xs:List α} (h:IsS3 w0 W g f0) (ho:d.R e W base ok v xs) (ht:∀ q,q ∈ e :: d.E→q≠3):d.R e W base (fun k=>ok k∧k≠g) v xs:=by
 obtain ⟨hb,hg⟩:=h
 exact Kd.R_types ho hb ht
theorem IsS3.own_ne {w0 W:World} {g:Nat} {f0:Int} {α:Type} {d:Kd α} {e:Nat} {base:Nat} {ok:Nat→Prop} {v:Value} {xs:List α} (h:IsS3 w0 W g f0) (ho:d.R e W base ok v xs) (ht:e≠3):some g≠v.ownBlock:=by
 obtain ⟨hb,hg⟩:=h
 exact Kd.R_ne ho hb ht
theorem IsS3.ge {w0 W:World} {g:Nat} {f0:Int} (h:IsS3 w0 W g f0):w0.heap.size≤g:=by
 obtain ⟨hb,hg⟩:=h
 exact hg
theorem cellS3_0 {W:World} {g:Nat} {f0:Int} (h:W.heap[g]? = some (.cells #[.int .i64 f0] 3 (0,0))):W.cell? ⟨g,0,none⟩=some (.int .i64 f0):=(blk_cell h 0).trans rfl
theorem IsS3.set_0 {w0 W:World} {g:Nat} {f0:Int} (h:IsS3 w0 W g f0) (x:Int):IsS3 w0 (W.setCell ⟨g,0,none⟩ (.int .i64 x)) g x:=by
 obtain ⟨hb,hg⟩:=h
 exact ⟨by simpa using blk_set hb 0 (.int .i64 x),hg⟩
/-! ### Y9: function 165 -/
def Y9.f (k:Nat) (l0:List (S78)) (a1:Int) (a2:Int) (Ar6:Int)  : Option (Int × Int × Int):=if 0≤a2 then (if a2<(l0.length:Int) then (if 0≤a1 then (if a1<(l0.length:Int) then ((Y38.f k ((rd_T78 l0 a2).f0) ((rd_T78 l0 a2).f1) ((rd_T78 l0 a1).f0) ((rd_T78 l0 a1).f1)).bind fun An0=>(if An0<0 then (some (a2,a1,wrap64 (Ar6+1))) else (some (a1,a2,Ar6)))) else (none)) else (none)) else (none)) else (none)
theorem Y9.mono:∀ a0 a1 a2 a3 k,LeO (Y9.f k a0 a1 a2 a3) (Y9.f (k+1) a0 a1 a2 a3):=by
 intro a0 a1 a2 a3 k
 have m0:=@Y38.mono
 unfold Y9.f
 exact mO
def Y9.T1:Bool × List (List Nat × List Nat):=(true,[([],[]),([],[]),([],[]),([1,2],[1,2]),([3],[3]),([],[]),([],[]),([5,6],[5,6]),([7],[7]),([0,4,8],[0,4,8]),([9],[9])])
def Y9.B1:List Nat:=[0,0,0,6,14,0,0,96,224,511,1023]
theorem Y9.tab1:rtab .any (opsOf Tryz.f165 1)=Y9.T1:=by kernel_rfl
theorem Y9.bits1:waitsOk Y9.T1.2 Y9.B1=true:=by kernel_rfl
theorem Y9.calls (k:Nat) (A0:Option Addr) (c0:Nat) (l0:List (S78)) (a1:Int) (a2:Int) (g:Nat) (Ar6:Int)  (r1:Int) (r2:Int) (r3:Int) (w0 w:World) (hI:IsS3 w0 w g Ar6) (hB:Below w0.heap.size w0 w) (hr0:∀ W_,KeepBut w W_ g none→Kd.C k78 W_ A0 l0.length l0) (hc0:l0.length≤c0) (h:Y9.f k l0 a1 a2 Ar6=some (r1,r2,r3)) :
  Calls Tryz.prog 165 #[.slice A0 l0.length c0,.int .i64 a1,.int .i64 a2,.pointer (some ⟨g,0,none⟩),.func (.func 72) #[] #[]] w fun e w'=>e = .returned (.tuple #[.int .i64 r1,.int .i64 r2])∧IsS3 w0 w' g r3∧Below w0.heap.size w0 w'∧KeepBut w w' g none:=by
 have Ah1:=Tryz.underlying78
 have HR0:=aM hr0
 have HC0:=aM hc0
 clear hr0 hc0
 have HI3:=aM hI
 have HK:=aM (KeepBut.refl w g none)
 have HL:=aM hB.size
 clear hI
 have HW0:=aM hB.size
 have HB:=aM hB
 clear hB
 have H:(if 0≤a2 then (if a2<(l0.length:Int) then (if 0≤a1 then (if a1<(l0.length:Int) then ((Y38.f k ((rd_T78 l0 a2).f0) ((rd_T78 l0 a2).f1) ((rd_T78 l0 a1).f0) ((rd_T78 l0 a1).f1)).bind fun An0=>(if An0<0 then (some (a2,a1,wrap64 (Ar6+1))) else (some (a1,a2,Ar6)))) else (none)) else (none)) else (none)) else (none))=some (r1,r2,r3):=h
 clear h
 by_cases c6:0≤a2
 ·rw [if_pos c6] at H
  have c6b0:decide (0≤a2)=true:=dE c6
  clear c6
  by_cases c7:a2<(l0.length:Int)
  ·rw [if_pos c7] at H
   have c7b0:decide (a2<(l0.length:Int))=true:=dE c7
   clear c7
   by_cases c8:0≤a1
   ·rw [if_pos c8] at H
    have c8b0:decide (0≤a1)=true:=dE c8
    clear c8
    by_cases c9:a1<(l0.length:Int)
    ·rw [if_pos c9] at H
     have c9b0:decide (a1<(l0.length:Int))=true:=dE c9
     clear c9
     replace H:=bS H
     obtain ⟨An0,AF2,H⟩:=H
     replace H:(if An0<0 then (some (a2,a1,wrap64 (Ar6+1))) else (some (a1,a2,Ar6)))=some (r1,r2,r3):=H
     have A10:=aM AF2
     clear AF2
     by_cases c11:An0<0
     ·rw [if_pos c11] at H
      have c11b0:decide (An0<0)=true:=dE c11
      clear c11
      simp only [Option.some.injEq,Prod.mk.injEq] at H
      obtain ⟨rfl,rfl,rfl⟩:=H
      go_enter Tryz.func165,Tryz.ntmps165
      try go_wp2
      have n0_:=aM (IsS3.drew HI3.out)
      have n1_:=aM (keep_drew HK.out)
      have n2_:=aM (below_drew1 HB.out)
      clear HI3
      clear HK
      clear HB
      have HI3:=n0_
      have HK:=n1_
      have HB:=n2_
      clear n0_ n1_ n2_
      have BC7:0≤(a2:Int):=dT (z1_)
      have BC8:a2<(l0.length:Int):=dT (z1_)
      obtain ⟨S8,e251,AH0,AH1⟩:=at_T78 (Kd.C_foot_now HR0.out HK.out) a2 BC7 BC8
      have Bs3:=AH1
      have Bs4:=AH0
      cases e251
      have Bb5:=(show (⟨(S8.add ((a2).toNat*2)).block,(S8.add ((a2).toNat*2)).off+1,none⟩:Addr).block≠g from by first | (rw [add_block];exact Kd.foot_ne HR0.out (by omega) (by decide)) | (show (Addr.add _ _).block≠_;rw [add_block];exact Kd.foot_ne HR0.out (by omega) (by decide)) | exact Kd.foot_ne HR0.out (by omega) (by decide) | (dsimp only;exact Kd.foot_ne HR0.out (by omega) (by decide)))
      have Bb6:=(Kd.foot_lt HR0.out (by omega) (by decide))
      have Bb7:=(show ((S8.add ((a2).toNat*2)):Addr).block≠g from by first | (rw [add_block];exact Kd.foot_ne HR0.out (by omega) (by decide)) | (show (Addr.add _ _).block≠_;rw [add_block];exact Kd.foot_ne HR0.out (by omega) (by decide)) | exact Kd.foot_ne HR0.out (by omega) (by decide) | (dsimp only;exact Kd.foot_ne HR0.out (by omega) (by decide)))
      have Bb8:=(Kd.foot_lt HR0.out (by omega) (by decide))
      replace BC7:=eq_true BC7
      replace BC8:=eq_true BC8
      have BC9:0≤(a1:Int):=dT (z1_)
      have BD0:a1<(l0.length:Int):=dT (z1_)
      obtain ⟨Bb9,e252,AH2,AH3⟩:=at_T78 (Kd.C_foot_now HR0.out HK.out) a1 BC9 BD0
      have Bs5:=AH3
      have Bs6:=AH2
      obtain rfl:S8=Bb9:=(by injection e252)
      have Bc0:=(show (⟨(S8.add ((a1).toNat*2)).block,(S8.add ((a1).toNat*2)).off+1,none⟩:Addr).block≠g from by first | (rw [add_block];exact Kd.foot_ne HR0.out (by omega) (by decide)) | (show (Addr.add _ _).block≠_;rw [add_block];exact Kd.foot_ne HR0.out (by omega) (by decide)) | exact Kd.foot_ne HR0.out (by omega) (by decide) | (dsimp only;exact Kd.foot_ne HR0.out (by omega) (by decide)))
      have Bc1:=(Kd.foot_lt HR0.out (by omega) (by decide))
      have Bc2:=(show ((S8.add ((a1).toNat*2)):Addr).block≠g from by first | (rw [add_block];exact Kd.foot_ne HR0.out (by omega) (by decide)) | (show (Addr.add _ _).block≠_;rw [add_block];exact Kd.foot_ne HR0.out (by omega) (by decide)) | exact Kd.foot_ne HR0.out (by omega) (by decide) | (dsimp only;exact Kd.foot_ne HR0.out (by omega) (by decide)))
      have Bc3:=(Kd.foot_lt HR0.out (by omega) (by decide))
      replace BC9:=eq_true BC9
      replace BD0:=eq_true BD0
      refine start_ (n:=11) (S:=fun w'=>w'.cell? (S8.add ((a2).toNat*2))=some (.int .i64 ((rd_T78 l0 a2).f0))∧w'.cell? ⟨(S8.add ((a2).toNat*2)).block,(S8.add ((a2).toNat*2)).off+1,none⟩=some (.int .i64 ((rd_T78 l0 a2).f1))∧w'.cell? (S8.add ((a1).toNat*2))=some (.int .i64 ((rd_T78 l0 a1).f0))∧w'.cell? ⟨(S8.add ((a1).toNat*2)).block,(S8.add ((a1).toNat*2)).off+1,none⟩=some (.int .i64 ((rd_T78 l0 a1).f1))) (ds:=[]) #[O,O,O,O,O,O,O,O,O,O,O] (by kernel_rfl) rfl rfl ⟨AH0,AH1,AH2,AH3⟩ (fun hHeld=>?_);refine with_tabW Y9.tab1 Y9.bits1 (fun HT_ HW_=>?_)
      generalize w.drew=w12 at HI3 HK HB AH0 AH1 AH2 AH3 hHeld ⊢
      refine pu_ 0 12 #[I,O,O,O,O,O,O,O,O,O,O] HT_.out ?_
      refine pu_ 1 13 #[I,I,O,O,O,O,O,O,O,O,O] HT_.out ?_
      refine pu_ 2 14 #[I,I,I,O,O,O,O,O,O,O,O] HT_.out ?_
      refine pu_ 3 15 #[I,I,I,I,O,O,O,O,O,O,O] HT_.out ?_
      refine pu_ 5 17 #[I,I,I,I,O,I,O,O,O,O,O] HT_.out ?_
      refine pu_ 6 18 #[I,I,I,I,O,I,I,O,O,O,O] HT_.out ?_
      refine pu_ 7 19 #[I,I,I,I,O,I,I,I,O,O,O] HT_.out ?_
      refine tk4_ 4 16 #[I,I,I,I,I,I,I,I,O,O,O] HT_.out HW_.out hHeld ?_
      refine tk4_ 8 20 #[I,I,I,I,I,I,I,I,I,O,O] HT_.out HW_.out hHeld ?_
      refine o1_ 9 21 #[I,I,I,I,I,I,I,I,I,I,O] HT_.out (fun K hK=>?_)
      refine goesD_ Tryz.func72 (by kernel_rfl) rfl #[.agg #[.int .i64 ((rd_T78 l0 a2).f0),.int .i64 ((rd_T78 l0 a2).f1)],.agg #[.int .i64 ((rd_T78 l0 a1).f0),.int .i64 ((rd_T78 l0 a1).f1)]] (by rfl) rfl rfl (by rfl) (z45_) ?_
      with_reducible refine (Y38.calls k ((rd_T78 l0 a2).f0) ((rd_T78 l0 a2).f1) ((rd_T78 l0 a1).f0) ((rd_T78 l0 a1).f1) An0 _ A10.out).mono ?_
      rintro e w13 ⟨rfl,hb⟩
      have AQ9:=(hb.cell (World.block_lt_of_cell? _ _ (hHeld.1))).trans (hHeld.1)
      have AR0:=(hb.cell (World.block_lt_of_cell? _ _ (hHeld.2.1))).trans (hHeld.2.1)
      have AR1:=(hb.cell (World.block_lt_of_cell? _ _ (hHeld.2.2.1))).trans (hHeld.2.2.1)
      have AR2:=(hb.cell (World.block_lt_of_cell? _ _ (hHeld.2.2.2))).trans (hHeld.2.2.2)
      refine ⟨_,rfl,?_⟩
      have n0_:=aM (IsS3.below (z36_ HI3.out) hb)
      have n1_:=aM (KeepBut.trans (z12_ HK.out) (KeepBut.of_below hb g none) (.inl rfl))
      have n2_:=aM (below_step (z20_ HB.out HI3.out) hb)
      clear HI3
      clear HK
      clear HB
      have HI3:=n0_
      have HK:=n1_
      have HB:=n2_
      clear n0_ n1_ n2_
      (try clear hb)
      refine hK.out _ _ ⟨AQ9,AR0,AR1,AR2⟩ (fun hHeld=>?_)
      clear hK K
      refine nm_ 21 ?_
      refine pu_ 10 22 #[I,I,I,I,I,I,I,I,I,I,I] HT_.out ?_
      refine done_ (done_of HT_.out (by kernel_rfl)) ?_
      obtain ⟨Bc4,Cc2⟩:=HI3.out
      have AH4:=cellS3_0 Bc4
      have AH5:=blk_frozen Bc4 0
      clear Bc4 Cc2
      try go_wp2
      go_ret2
      exact ⟨z8_,z36_ HI3.out,z20_ HB.out HI3.out,z12_ HK.out⟩
     ·rw [if_neg c11] at H
      have c11b0:decide (An0<0)=false:=dF c11
      clear c11
      simp only [Option.some.injEq,Prod.mk.injEq] at H
      obtain ⟨rfl,rfl,rfl⟩:=H
      go_enter Tryz.func165,Tryz.ntmps165
      try go_wp2
      have n0_:=aM (IsS3.drew HI3.out)
      have n1_:=aM (keep_drew HK.out)
      have n2_:=aM (below_drew1 HB.out)
      clear HI3
      clear HK
      clear HB
      have HI3:=n0_
      have HK:=n1_
      have HB:=n2_
      clear n0_ n1_ n2_
      have BC7:0≤(a2:Int):=dT (z1_)
      have BC8:a2<(l0.length:Int):=dT (z1_)
      obtain ⟨S8,e251,AH0,AH1⟩:=at_T78 (Kd.C_foot_now HR0.out HK.out) a2 BC7 BC8
      have Bs3:=AH1
      have Bs4:=AH0
      cases e251
      have Bb5:=(show (⟨(S8.add ((a2).toNat*2)).block,(S8.add ((a2).toNat*2)).off+1,none⟩:Addr).block≠g from by first | (rw [add_block];exact Kd.foot_ne HR0.out (by omega) (by decide)) | (show (Addr.add _ _).block≠_;rw [add_block];exact Kd.foot_ne HR0.out (by omega) (by decide)) | exact Kd.foot_ne HR0.out (by omega) (by decide) | (dsimp only;exact Kd.foot_ne HR0.out (by omega) (by decide)))
      have Bb6:=(Kd.foot_lt HR0.out (by omega) (by decide))
      have Bb7:=(show ((S8.add ((a2).toNat*2)):Addr).block≠g from by first | (rw [add_block];exact Kd.foot_ne HR0.out (by omega) (by decide)) | (show (Addr.add _ _).block≠_;rw [add_block];exact Kd.foot_ne HR0.out (by omega) (by decide)) | exact Kd.foot_ne HR0.out (by omega) (by decide) | (dsimp only;exact Kd.foot_ne HR0.out (by omega) (by decide)))
      have Bb8:=(Kd.foot_lt HR0.out (by omega) (by decide))
      replace BC7:=eq_true BC7
      replace BC8:=eq_true BC8
      have BC9:0≤(a1:Int):=dT (z1_)
      have BD0:a1<(l0.length:Int):=dT (z1_)
      obtain ⟨Bb9,e252,AH2,AH3⟩:=at_T78 (Kd.C_foot_now HR0.out HK.out) a1 BC9 BD0
      have Bs5:=AH3
      have Bs6:=AH2
      obtain rfl:S8=Bb9:=(by injection e252)
      have Bc0:=(show (⟨(S8.add ((a1).toNat*2)).block,(S8.add ((a1).toNat*2)).off+1,none⟩:Addr).block≠g from by first | (rw [add_block];exact Kd.foot_ne HR0.out (by omega) (by decide)) | (show (Addr.add _ _).block≠_;rw [add_block];exact Kd.foot_ne HR0.out (by omega) (by decide)) | exact Kd.foot_ne HR0.out (by omega) (by decide) | (dsimp only;exact Kd.foot_ne HR0.out (by omega) (by decide)))
      have Bc1:=(Kd.foot_lt HR0.out (by omega) (by decide))
      have Bc2:=(show ((S8.add ((a1).toNat*2)):Addr).block≠g from by first | (rw [add_block];exact Kd.foot_ne HR0.out (by omega) (by decide)) | (show (Addr.add _ _).block≠_;rw [add_block];exact Kd.foot_ne HR0.out (by omega) (by decide)) | exact Kd.foot_ne HR0.out (by omega) (by decide) | (dsimp only;exact Kd.foot_ne HR0.out (by omega) (by decide)))
      have Bc3:=(Kd.foot_lt HR0.out (by omega) (by decide))
      replace BC9:=eq_true BC9
      replace BD0:=eq_true BD0
      refine start_ (n:=11) (S:=fun w'=>w'.cell? (S8.add ((a2).toNat*2))=some (.int .i64 ((rd_T78 l0 a2).f0))∧w'.cell? ⟨(S8.add ((a2).toNat*2)).block,(S8.add ((a2).toNat*2)).off+1,none⟩=some (.int .i64 ((rd_T78 l0 a2).f1))∧w'.cell? (S8.add ((a1).toNat*2))=some (.int .i64 ((rd_T78 l0 a1).f0))∧w'.cell? ⟨(S8.add ((a1).toNat*2)).block,(S8.add ((a1).toNat*2)).off+1,none⟩=some (.int .i64 ((rd_T78 l0 a1).f1))) (ds:=[]) #[O,O,O,O,O,O,O,O,O,O,O] (by kernel_rfl) rfl rfl ⟨AH0,AH1,AH2,AH3⟩ (fun hHeld=>?_);refine with_tabW Y9.tab1 Y9.bits1 (fun HT_ HW_=>?_)
      generalize w.drew=w15 at HI3 HK HB AH0 AH1 AH2 AH3 hHeld ⊢
      refine pu_ 0 12 #[I,O,O,O,O,O,O,O,O,O,O] HT_.out ?_
      refine pu_ 1 13 #[I,I,O,O,O,O,O,O,O,O,O] HT_.out ?_
      refine pu_ 2 14 #[I,I,I,O,O,O,O,O,O,O,O] HT_.out ?_
      refine pu_ 3 15 #[I,I,I,I,O,O,O,O,O,O,O] HT_.out ?_
      refine pu_ 5 17 #[I,I,I,I,O,I,O,O,O,O,O] HT_.out ?_
      refine pu_ 6 18 #[I,I,I,I,O,I,I,O,O,O,O] HT_.out ?_
      refine pu_ 7 19 #[I,I,I,I,O,I,I,I,O,O,O] HT_.out ?_
      refine tk4_ 4 16 #[I,I,I,I,I,I,I,I,O,O,O] HT_.out HW_.out hHeld ?_
      refine tk4_ 8 20 #[I,I,I,I,I,I,I,I,I,O,O] HT_.out HW_.out hHeld ?_
      refine o1_ 9 21 #[I,I,I,I,I,I,I,I,I,I,O] HT_.out (fun K hK=>?_)
      refine goesD_ Tryz.func72 (by kernel_rfl) rfl #[.agg #[.int .i64 ((rd_T78 l0 a2).f0),.int .i64 ((rd_T78 l0 a2).f1)],.agg #[.int .i64 ((rd_T78 l0 a1).f0),.int .i64 ((rd_T78 l0 a1).f1)]] (by rfl) rfl rfl (by rfl) (z45_) ?_
      with_reducible refine (Y38.calls k ((rd_T78 l0 a2).f0) ((rd_T78 l0 a2).f1) ((rd_T78 l0 a1).f0) ((rd_T78 l0 a1).f1) An0 _ A10.out).mono ?_
      rintro e w16 ⟨rfl,hb⟩
      have AQ9:=(hb.cell (World.block_lt_of_cell? _ _ (hHeld.1))).trans (hHeld.1)
      have AR0:=(hb.cell (World.block_lt_of_cell? _ _ (hHeld.2.1))).trans (hHeld.2.1)
      have AR1:=(hb.cell (World.block_lt_of_cell? _ _ (hHeld.2.2.1))).trans (hHeld.2.2.1)
      have AR2:=(hb.cell (World.block_lt_of_cell? _ _ (hHeld.2.2.2))).trans (hHeld.2.2.2)
      refine ⟨_,rfl,?_⟩
      have n0_:=aM (IsS3.below (z36_ HI3.out) hb)
      have n1_:=aM (KeepBut.trans (z12_ HK.out) (KeepBut.of_below hb g none) (.inl rfl))
      have n2_:=aM (below_step (z20_ HB.out HI3.out) hb)
      clear HI3
      clear HK
      clear HB
      have HI3:=n0_
      have HK:=n1_
      have HB:=n2_
      clear n0_ n1_ n2_
      (try clear hb)
      refine hK.out _ _ ⟨AQ9,AR0,AR1,AR2⟩ (fun hHeld=>?_)
      clear hK K
      refine nm_ 21 ?_
      refine pu_ 10 22 #[I,I,I,I,I,I,I,I,I,I,I] HT_.out ?_
      refine done_ (done_of HT_.out (by kernel_rfl)) ?_
      try go_wp2
      go_ret2
      exact ⟨z8_,z36_ HI3.out,z20_ HB.out HI3.out,z12_ HK.out⟩
    ·rw [if_neg c9] at H
     exact nO H
   ·rw [if_neg c8] at H
    exact nO H
  ·rw [if_neg c7] at H
   exact nO H
 ·rw [if_neg c6] at H
  exact nO H


/-! ### Y16: function 156 -/
def Y16.f (k:Nat) (l0:List (S78)) (a1:Int) (a2:Int) (a3:Int) (BR2:Int)  : Option (Int × Int):=(Y9.f k l0 a1 a2 BR2).bind fun Ai8=>((Y9.f k l0 Ai8.2.1 a3 Ai8.2.2).bind fun Aa9=>((Y9.f k l0 Ai8.1 Aa9.1 Aa9.2.2).bind fun AL2=>(some (AL2.2.1,AL2.2.2))))
theorem Y16.mono:∀ a0 a1 a2 a3 a4 k,LeO (Y16.f k a0 a1 a2 a3 a4) (Y16.f (k+1) a0 a1 a2 a3 a4):=by
 intro a0 a1 a2 a3 a4 k
 have m0:=@Y9.mono
 unfold Y16.f
 exact mO
theorem Y16.calls (k:Nat) (A0:Option Addr) (c0:Nat) (l0:List (S78)) (a1:Int) (a2:Int) (a3:Int) (g:Nat) (BR2:Int)  (r1:Int) (r2:Int) (w0 w:World) (hI:IsS3 w0 w g BR2) (hB:Below w0.heap.size w0 w) (hr0:∀ W_,KeepBut w W_ g none→Kd.C k78 W_ A0 l0.length l0) (hc0:l0.length≤c0) (h:Y16.f k l0 a1 a2 a3 BR2=some (r1,r2)) :
  Calls Tryz.prog 156 #[.slice A0 l0.length c0,.int .i64 a1,.int .i64 a2,.int .i64 a3,.pointer (some ⟨g,0,none⟩),.func (.func 72) #[] #[]] w fun e w'=>e = .returned (.int .i64 r1)∧IsS3 w0 w' g r2∧Below w0.heap.size w0 w'∧KeepBut w w' g none:=by
 have HR0:=aM hr0
 have HC0:=aM hc0
 clear hr0 hc0
 have HI4:=aM hI
 have HK:=aM (KeepBut.refl w g none)
 have HL:=aM hB.size
 clear hI
 have HW0:=aM hB.size
 have HB:=aM hB
 clear hB
 have H:((Y9.f k l0 a1 a2 BR2).bind fun Ai8=>((Y9.f k l0 Ai8.2.1 a3 Ai8.2.2).bind fun Aa9=>((Y9.f k l0 Ai8.1 Aa9.1 Aa9.2.2).bind fun AL2=>(some (AL2.2.1,AL2.2.2)))))=some (r1,r2):=h
 clear h
 replace H:=bS H
 obtain ⟨⟨Bc5,Bs7,CH7⟩,A70,H⟩:=H
 replace H:((Y9.f k l0 Bs7 a3 CH7).bind fun Aa9=>((Y9.f k l0 Bc5 Aa9.1 Aa9.2.2).bind fun AL2=>(some (AL2.2.1,AL2.2.2))))=some (r1,r2):=H
 have A7:=aM A70
 clear A70
 replace H:=bS H
 obtain ⟨⟨Bs8,C15,CH8⟩,A80,H⟩:=H
 replace H:((Y9.f k l0 Bc5 Bs8 CH8).bind fun AL2=>(some (AL2.2.1,AL2.2.2)))=some (r1,r2):=H
 have A8:=aM A80
 clear A80
 replace H:=bS H
 obtain ⟨⟨C16,Cc3,Cc4⟩,A90,H⟩:=H
 replace H:(some (Cc3,Cc4))=some (r1,r2):=H
 have A9:=aM A90
 clear A90
 simp only [Option.some.injEq,Prod.mk.injEq] at H
 obtain ⟨rfl,rfl⟩:=H
 go_enter Tryz.func156,Tryz.ntmps156
 go_wp2_with (first | ((with_reducible refine gc_ 165 ?_);refine gl_ (some 19) Tryz.func165 #[.slice A0 l0.length c0,.int .i64 a1,.int .i64 a2,.pointer (some ⟨g,0,none⟩),.func (.func 72) #[] #[]] ?_;(with_reducible refine (Y9.calls k _ _ l0 a1 a2 g BR2  Bc5 Bs7 CH7 w0 _ ?s1 ?s2 ?s3 ?s4 A7.out).mono ?_);(case s1=>repeat (first | (with_reducible first | exact HI4.out | apply IsS3.alloc | apply IsS3.drewN | apply IsS3.drew | apply IsS3.set_0) | exact HI4.out));(case s2=>repeat (first | (with_reducible first | exact HB.out | apply below_alloc | apply pw_below_drewN | apply below_drew1 | refine below_set ?_ (IsS3.ge HI4.out)) | exact HB.out));(case s3=>exact Kd.C_foot_step HR0.out (z12_ HK.out));(case s4=>exact HC0.out);rintro e w10 ⟨rfl,hi,hb,hk⟩;refine ⟨_,rfl,?_⟩;have n0_:=aM (KeepBut.trans (z12_ HK.out) hk (.inl rfl));have n1_:=aM (hb);have n2_:=aM (hi);clear HK;clear HB;clear HI4;have HK:=n0_;have HB:=n1_;have HI4:=n2_;clear n0_ n1_ n2_;(try clear hb);(try clear hk);(try clear hi)) | ((with_reducible refine gc_ 165 ?_);refine gl_ (some 28) Tryz.func165 #[.slice A0 l0.length c0,.int .i64 Bs7,.int .i64 a3,.pointer (some ⟨g,0,none⟩),.func (.func 72) #[] #[]] ?_;(with_reducible refine (Y9.calls k _ _ l0 Bs7 a3 g CH7  Bs8 C15 CH8 w0 _ ?s1 ?s2 ?s3 ?s4 A8.out).mono ?_);(case s1=>repeat (first | (with_reducible first | exact HI4.out | apply IsS3.alloc | apply IsS3.drewN | apply IsS3.drew | apply IsS3.set_0) | exact HI4.out));(case s2=>repeat (first | (with_reducible first | exact HB.out | apply below_alloc | apply pw_below_drewN | apply below_drew1 | refine below_set ?_ (IsS3.ge HI4.out)) | exact HB.out));(case s3=>exact Kd.C_foot_step HR0.out (z12_ HK.out));(case s4=>exact HC0.out);rintro e w11 ⟨rfl,hi,hb,hk⟩;refine ⟨_,rfl,?_⟩;have n0_:=aM (KeepBut.trans (z12_ HK.out) hk (.inl rfl));have n1_:=aM (hb);have n2_:=aM (hi);clear HK;clear HB;clear HI4;have HK:=n0_;have HB:=n1_;have HI4:=n2_;clear n0_ n1_ n2_;(try clear hb);(try clear hk);(try clear hi)) | ((with_reducible refine gc_ 165 ?_);refine gl_ (some 37) Tryz.func165 #[.slice A0 l0.length c0,.int .i64 Bc5,.int .i64 Bs8,.pointer (some ⟨g,0,none⟩),.func (.func 72) #[] #[]] ?_;(with_reducible refine (Y9.calls k _ _ l0 Bc5 Bs8 g CH8  C16 Cc3 Cc4 w0 _ ?s1 ?s2 ?s3 ?s4 A9.out).mono ?_);(case s1=>repeat (first | (with_reducible first | exact HI4.out | apply IsS3.alloc | apply IsS3.drewN | apply IsS3.drew | apply IsS3.set_0) | exact HI4.out));(case s2=>repeat (first | (with_reducible first | exact HB.out | apply below_alloc | apply pw_below_drewN | apply below_drew1 | refine below_set ?_ (IsS3.ge HI4.out)) | exact HB.out));(case s3=>exact Kd.C_foot_step HR0.out (z12_ HK.out));(case s4=>exact HC0.out);rintro e w12 ⟨rfl,hi,hb,hk⟩;refine ⟨_,rfl,?_⟩;have n0_:=aM (KeepBut.trans (z12_ HK.out) hk (.inl rfl));have n1_:=aM (hb);have n2_:=aM (hi);clear HK;clear HB;clear HI4;have HK:=n0_;have HB:=n1_;have HI4:=n2_;clear n0_ n1_ n2_;(try clear hb);(try clear hk);(try clear hi)))
 go_ret
 exact ⟨z8_,z36_ HI4.out,z20_ HB.out HI4.out,z12_ HK.out⟩


/-! ### Y14: function 155 -/
def Y14.f (k:Nat) (l0:List (S78)) (a1:Int) (BR3:Int)  : Option (Int × Int):=(Y16.f k l0 (wrap64 (a1-1)) a1 (wrap64 (a1+1)) BR3).bind fun Ay2=>(some (Ay2.1,Ay2.2))
theorem Y14.mono:∀ a0 a1 a2 k,LeO (Y14.f k a0 a1 a2) (Y14.f (k+1) a0 a1 a2):=by
 intro a0 a1 a2 k
 have m0:=@Y16.mono
 unfold Y14.f
 exact mO
theorem Y14.calls (k:Nat) (A0:Option Addr) (c0:Nat) (l0:List (S78)) (a1:Int) (g:Nat) (BR3:Int)  (r1:Int) (r2:Int) (w0 w:World) (hI:IsS3 w0 w g BR3) (hB:Below w0.heap.size w0 w) (hr0:∀ W_,KeepBut w W_ g none→Kd.C k78 W_ A0 l0.length l0) (hc0:l0.length≤c0) (h:Y14.f k l0 a1 BR3=some (r1,r2)) :
  Calls Tryz.prog 155 #[.slice A0 l0.length c0,.int .i64 a1,.pointer (some ⟨g,0,none⟩),.func (.func 72) #[] #[]] w fun e w'=>e = .returned (.int .i64 r1)∧IsS3 w0 w' g r2∧Below w0.heap.size w0 w'∧KeepBut w w' g none:=by
 have HR0:=aM hr0
 have HC0:=aM hc0
 clear hr0 hc0
 have HI2:=aM hI
 have HK:=aM (KeepBut.refl w g none)
 have HL:=aM hB.size
 clear hI
 have HW0:=aM hB.size
 have HB:=aM hB
 clear hB
 have H:((Y16.f k l0 (wrap64 (a1-1)) a1 (wrap64 (a1+1)) BR3).bind fun Ay2=>(some (Ay2.1,Ay2.2)))=some (r1,r2):=h
 clear h
 replace H:=bS H
 obtain ⟨⟨Cc5,Cc6⟩,A50,H⟩:=H
 replace H:(some (Cc5,Cc6))=some (r1,r2):=H
 have A5:=aM A50
 clear A50
 simp only [Option.some.injEq,Prod.mk.injEq] at H
 obtain ⟨rfl,rfl⟩:=H
 go_enter Tryz.func155,Tryz.ntmps155
 go_wp2_with (first | ((with_reducible refine gc_ 156 ?_);refine gl_ (some 17) Tryz.func156 #[.slice A0 l0.length c0,.int .i64 (wrap64 (a1-1)),.int .i64 a1,.int .i64 (wrap64 (a1+1)),.pointer (some ⟨g,0,none⟩),.func (.func 72) #[] #[]] ?_;(with_reducible refine (Y16.calls k _ _ l0 (wrap64 (a1-1)) a1 (wrap64 (a1+1)) g BR3  Cc5 Cc6 w0 _ ?s1 ?s2 ?s3 ?s4 A5.out).mono ?_);(case s1=>repeat (first | (with_reducible first | exact HI2.out | apply IsS3.alloc | apply IsS3.drewN | apply IsS3.drew | apply IsS3.set_0) | exact HI2.out));(case s2=>repeat (first | (with_reducible first | exact HB.out | apply below_alloc | apply pw_below_drewN | apply below_drew1 | refine below_set ?_ (IsS3.ge HI2.out)) | exact HB.out));(case s3=>exact Kd.C_foot_step HR0.out (z12_ HK.out));(case s4=>exact HC0.out);rintro e w6 ⟨rfl,hi,hb,hk⟩;refine ⟨_,rfl,?_⟩;have n0_:=aM (KeepBut.trans (z12_ HK.out) hk (.inl rfl));have n1_:=aM (hb);have n2_:=aM (hi);clear HK;clear HB;clear HI2;have HK:=n0_;have HB:=n1_;have HI2:=n2_;clear n0_ n1_ n2_;(try clear hb);(try clear hk);(try clear hi)))
 go_ret
 exact ⟨z8_,z36_ HI2.out,z20_ HB.out HI2.out,z12_ HK.out⟩


/-! ### Y8: function 130 -/
def Y8.j0:Nat→Int→Int→Option (Int × Int)
 | 0,_,_=>none
 | k+1,x13,BM4=>if BM4=0 then (some (x13,1)) else (if BM4=12 then (some (x13,2)) else (some (x13,0)))
def Y8.f (k:Nat) (l0:List (S78)) (a1:Int) (a2:Int)  : Option (Int × Int):=if (wrap64 (a2-a1))≥8 then (if (wrap64 (a2-a1))≥50 then ((Y14.f k l0 (wrap64 (a1+(wrap64 ((wrap64 (Int.tdiv (wrap64 (a2-a1)) 4)))))) 0).bind fun Ay3=>((Y14.f k l0 (wrap64 (a1+(wrap64 ((wrap64 (Int.tdiv (wrap64 (a2-a1)) 4))*2)))) Ay3.2).bind fun Ab0=>((Y14.f k l0 (wrap64 (a1+(wrap64 ((wrap64 (Int.tdiv (wrap64 (a2-a1)) 4))*3)))) Ab0.2).bind fun AL3=>((Y16.f k l0 Ay3.1 Ab0.1 AL3.1 AL3.2).bind fun AC3=>(Y8.j0 k AC3.1 AC3.2))))) else ((Y16.f k l0 (wrap64 (a1+(wrap64 ((wrap64 (Int.tdiv (wrap64 (a2-a1)) 4)))))) (wrap64 (a1+(wrap64 ((wrap64 (Int.tdiv (wrap64 (a2-a1)) 4))*2)))) (wrap64 (a1+(wrap64 ((wrap64 (Int.tdiv (wrap64 (a2-a1)) 4))*3)))) 0).bind fun Ay4=>(Y8.j0 k Ay4.1 Ay4.2))) else (Y8.j0 k (wrap64 (a1+(wrap64 ((wrap64 (Int.tdiv (wrap64 (a2-a1)) 4))*2)))) 0)
theorem Y8.mono_l:∀ k,(∀ y0 y1,LeO (Y8.j0 k y0 y1) (Y8.j0 (k+1) y0 y1))
 | 0=>by intros <;> exact LeO.none _
 | k+1=>by
  have ih0:=Y8.mono_l k
  have m0:=@Y14.mono
  have m1:=@Y16.mono
  ·intros
   unfold Y8.j0
   exact mO
theorem Y8.mono:∀ a0 a1 a2 k,LeO (Y8.f k a0 a1 a2) (Y8.f (k+1) a0 a1 a2):=by
 intro a0 a1 a2 k
 have m0:=@Y14.mono
 have m1:=@Y16.mono
 have ih0:=Y8.mono_l k
 unfold Y8.f
 exact mO
theorem Y8.calls (k:Nat) (A0:Option Addr) (c0:Nat) (l0:List (S78)) (a1:Int) (a2:Int)  (r1:Int) (r2:Int) (w:World) (hr0:Kd.C k78 w A0 l0.length l0) (hc0:l0.length≤c0) (h:Y8.f k l0 a1 a2=some (r1,r2)) :
  Calls Tryz.prog 130 #[.slice A0 l0.length c0,.int .i64 a1,.int .i64 a2,.func (.func 72) #[] #[]] w fun e w'=>e = .returned (.tuple #[.int .i64 r1,.int .i64 r2])∧Below w.heap.size w w':=by
 have HR0:=aM hr0
 have HC0:=aM hc0
 clear hr0 hc0
 have HB:=aM (Below.refl w.heap.size w)
 have H:(if (wrap64 (a2-a1))≥8 then (if (wrap64 (a2-a1))≥50 then ((Y14.f k l0 (wrap64 (a1+(wrap64 ((wrap64 (Int.tdiv (wrap64 (a2-a1)) 4)))))) 0).bind fun Ay3=>((Y14.f k l0 (wrap64 (a1+(wrap64 ((wrap64 (Int.tdiv (wrap64 (a2-a1)) 4))*2)))) Ay3.2).bind fun Ab0=>((Y14.f k l0 (wrap64 (a1+(wrap64 ((wrap64 (Int.tdiv (wrap64 (a2-a1)) 4))*3)))) Ab0.2).bind fun AL3=>((Y16.f k l0 Ay3.1 Ab0.1 AL3.1 AL3.2).bind fun AC3=>(Y8.j0 k AC3.1 AC3.2))))) else ((Y16.f k l0 (wrap64 (a1+(wrap64 ((wrap64 (Int.tdiv (wrap64 (a2-a1)) 4)))))) (wrap64 (a1+(wrap64 ((wrap64 (Int.tdiv (wrap64 (a2-a1)) 4))*2)))) (wrap64 (a1+(wrap64 ((wrap64 (Int.tdiv (wrap64 (a2-a1)) 4))*3)))) 0).bind fun Ay4=>(Y8.j0 k Ay4.1 Ay4.2))) else (Y8.j0 k (wrap64 (a1+(wrap64 ((wrap64 (Int.tdiv (wrap64 (a2-a1)) 4))*2)))) 0))=some (r1,r2):=h
 clear h
 have HC5:=aM H
 clear H
 go_enter Tryz.func130,Tryz.ntmps130
 go_upto_if 34 with (first | ((with_reducible refine gd_ 11 ?_);refine be_ 11 #[.int .i64 0] 3 ?_;intro AA8 hg w6 hbox hb;have n0_:=aM (below_step (z6_ HB.out) hb);have n1_:=aM ((show IsS3 w w6 AA8 0 from ⟨hbox,(z7_ HB.out:w.heap.size≤AA8)⟩));have n2_:=aM ((z7_ HB.out:w.heap.size≤AA8));have n3_:=aM ((z7_ HB.out:w.heap.size≤AA8));clear HB;have HB:=n0_;have J6:=n1_;have GW265:=n2_;have GE265:=n3_;clear n0_ n1_ n2_ n3_;clear hb hbox hg))
 (try simp only [Act.put,sa_,s0_,ss_])
 go_cut [13] (fun v13 wc=>∃ (kq:Nat) (Bc6:Int) (Q0:Int),v13 = .int .i64 Bc6∧Aside0 (Y8.j0 kq Bc6 Q0=some (r1,r2))∧Aside0 (kq≤k)∧Aside0 (IsS3 w wc AA8 Q0)∧Aside0 (Below w.heap.size w wc))
 case first =>
  have H:=HC5.out
  clear HC5
  by_cases c7:(wrap64 (a2-a1))≥8
  ·rw [if_pos c7] at H
   have c7b0:decide (8≤(wrap64 (a2-a1)))=true:=dE c7
   clear c7
   (first | rw [c7b0] | (simp only [i64_w,i32_w];rw [c7b0]) | skip)
   by_cases c8:(wrap64 (a2-a1))≥50
   ·rw [if_pos c8] at H
    have c8b0:decide (50≤(wrap64 (a2-a1)))=true:=dE c8
    clear c8
    replace H:=bS H
    obtain ⟨⟨BR4,CH9⟩,A90,H⟩:=H
    replace H:((Y14.f k l0 (wrap64 (a1+(wrap64 ((wrap64 (Int.tdiv (wrap64 (a2-a1)) 4))*2)))) CH9).bind fun Ab0=>((Y14.f k l0 (wrap64 (a1+(wrap64 ((wrap64 (Int.tdiv (wrap64 (a2-a1)) 4))*3)))) Ab0.2).bind fun AL3=>((Y16.f k l0 BR4 Ab0.1 AL3.1 AL3.2).bind fun AC3=>(Y8.j0 k AC3.1 AC3.2))))=some (r1,r2):=H
    have A9:=aM A90
    clear A90
    replace H:=bS H
    obtain ⟨⟨Bc7,CI0⟩,AF2,H⟩:=H
    replace H:((Y14.f k l0 (wrap64 (a1+(wrap64 ((wrap64 (Int.tdiv (wrap64 (a2-a1)) 4))*3)))) CI0).bind fun AL3=>((Y16.f k l0 BR4 Bc7 AL3.1 AL3.2).bind fun AC3=>(Y8.j0 k AC3.1 AC3.2)))=some (r1,r2):=H
    have A10:=aM AF2
    clear AF2
    replace H:=bS H
    obtain ⟨⟨Bs9,CI1⟩,f7,H⟩:=H
    replace H:((Y16.f k l0 BR4 Bc7 Bs9 CI1).bind fun AC3=>(Y8.j0 k AC3.1 AC3.2))=some (r1,r2):=H
    have A11:=aM f7
    clear f7
    replace H:=bS H
    obtain ⟨⟨CI2,CI3⟩,Ay5,H⟩:=H
    replace H:(Y8.j0 k CI2 CI3)=some (r1,r2):=H
    have A12:=aM Ay5
    clear Ay5
    have H':=aM H
    clear H
    go_wp2_with (first | ((with_reducible refine gc_ 155 ?_);refine gl_ (some 40) Tryz.func155 #[.slice A0 l0.length c0,.int .i64 (wrap64 (a1+(wrap64 ((wrap64 (Int.tdiv (wrap64 (a2-a1)) 4)))))),.pointer (some ⟨AA8,0,none⟩),.func (.func 72) #[] #[]] ?_;(with_reducible refine (Y14.calls k _ _ l0 (wrap64 (a1+(wrap64 ((wrap64 (Int.tdiv (wrap64 (a2-a1)) 4)))))) AA8 0  BR4 CH9 w _ ?s1 ?s2 ?s3 ?s4 A9.out).mono ?_);(case s1=>repeat (first | (with_reducible first | exact J6.out | apply IsS3.alloc | apply IsS3.drewN | apply IsS3.drew | apply IsS3.set_0) | exact J6.out));(case s2=>repeat (first | (with_reducible first | exact HB.out | apply below_alloc | apply pw_below_drewN | apply below_drew1 | refine below_set ?_ (IsS3.ge J6.out)) | exact HB.out));(case s3=>exact Kd.C_foot_came k78_heap HR0.out (z20_ HB.out J6.out) (IsS3.ge J6.out));(case s4=>exact HC0.out);rintro e w13 ⟨rfl,hi,hb,hk⟩;refine ⟨_,rfl,?_⟩;have n0_:=aM (hb);have n1_:=aM (hi);clear HB;clear J6;have HB:=n0_;have J6:=n1_;clear n0_ n1_;(try clear hb);(try clear hk);(try clear hi)) | ((with_reducible refine gc_ 155 ?_);refine gl_ (some 44) Tryz.func155 #[.slice A0 l0.length c0,.int .i64 (wrap64 (a1+(wrap64 ((wrap64 (Int.tdiv (wrap64 (a2-a1)) 4))*2)))),.pointer (some ⟨AA8,0,none⟩),.func (.func 72) #[] #[]] ?_;(with_reducible refine (Y14.calls k _ _ l0 (wrap64 (a1+(wrap64 ((wrap64 (Int.tdiv (wrap64 (a2-a1)) 4))*2)))) AA8 CH9  Bc7 CI0 w _ ?s1 ?s2 ?s3 ?s4 A10.out).mono ?_);(case s1=>repeat (first | (with_reducible first | exact J6.out | apply IsS3.alloc | apply IsS3.drewN | apply IsS3.drew | apply IsS3.set_0) | exact J6.out));(case s2=>repeat (first | (with_reducible first | exact HB.out | apply below_alloc | apply pw_below_drewN | apply below_drew1 | refine below_set ?_ (IsS3.ge J6.out)) | exact HB.out));(case s3=>exact Kd.C_foot_came k78_heap HR0.out (z20_ HB.out J6.out) (IsS3.ge J6.out));(case s4=>exact HC0.out);rintro e w14 ⟨rfl,hi,hb,hk⟩;refine ⟨_,rfl,?_⟩;have n0_:=aM (hb);have n1_:=aM (hi);clear HB;clear J6;have HB:=n0_;have J6:=n1_;clear n0_ n1_;(try clear hb);(try clear hk);(try clear hi)) | ((with_reducible refine gc_ 155 ?_);refine gl_ (some 48) Tryz.func155 #[.slice A0 l0.length c0,.int .i64 (wrap64 (a1+(wrap64 ((wrap64 (Int.tdiv (wrap64 (a2-a1)) 4))*3)))),.pointer (some ⟨AA8,0,none⟩),.func (.func 72) #[] #[]] ?_;(with_reducible refine (Y14.calls k _ _ l0 (wrap64 (a1+(wrap64 ((wrap64 (Int.tdiv (wrap64 (a2-a1)) 4))*3)))) AA8 CI0  Bs9 CI1 w _ ?s1 ?s2 ?s3 ?s4 A11.out).mono ?_);(case s1=>repeat (first | (with_reducible first | exact J6.out | apply IsS3.alloc | apply IsS3.drewN | apply IsS3.drew | apply IsS3.set_0) | exact J6.out));(case s2=>repeat (first | (with_reducible first | exact HB.out | apply below_alloc | apply pw_below_drewN | apply below_drew1 | refine below_set ?_ (IsS3.ge J6.out)) | exact HB.out));(case s3=>exact Kd.C_foot_came k78_heap HR0.out (z20_ HB.out J6.out) (IsS3.ge J6.out));(case s4=>exact HC0.out);rintro e w15 ⟨rfl,hi,hb,hk⟩;refine ⟨_,rfl,?_⟩;have n0_:=aM (hb);have n1_:=aM (hi);clear HB;clear J6;have HB:=n0_;have J6:=n1_;clear n0_ n1_;(try clear hb);(try clear hk);(try clear hi)) | ((with_reducible refine gc_ 156 ?_);refine gl_ (some 54) Tryz.func156 #[.slice A0 l0.length c0,.int .i64 BR4,.int .i64 Bc7,.int .i64 Bs9,.pointer (some ⟨AA8,0,none⟩),.func (.func 72) #[] #[]] ?_;(with_reducible refine (Y16.calls k _ _ l0 BR4 Bc7 Bs9 AA8 CI1  CI2 CI3 w _ ?s1 ?s2 ?s3 ?s4 A12.out).mono ?_);(case s1=>repeat (first | (with_reducible first | exact J6.out | apply IsS3.alloc | apply IsS3.drewN | apply IsS3.drew | apply IsS3.set_0) | exact J6.out));(case s2=>repeat (first | (with_reducible first | exact HB.out | apply below_alloc | apply pw_below_drewN | apply below_drew1 | refine below_set ?_ (IsS3.ge J6.out)) | exact HB.out));(case s3=>exact Kd.C_foot_came k78_heap HR0.out (z20_ HB.out J6.out) (IsS3.ge J6.out));(case s4=>exact HC0.out);rintro e w16 ⟨rfl,hi,hb,hk⟩;refine ⟨_,rfl,?_⟩;have n0_:=aM (hb);have n1_:=aM (hi);clear HB;clear J6;have HB:=n0_;have J6:=n1_;clear n0_ n1_;(try clear hb);(try clear hk);(try clear hi)))
    go_meet
    case rel=>exact ⟨_,(CI2),(CI3),(z2_),H',⟨by first | omega | exact Nat.le_refl _⟩,⟨z36_ J6.out⟩,⟨z20_ HB.out J6.out⟩⟩
   ·rw [if_neg c8] at H
    have c8b0:decide (50≤(wrap64 (a2-a1)))=false:=dF c8
    clear c8
    replace H:=bS H
    obtain ⟨⟨CI4,CI5⟩,Ai9,H⟩:=H
    replace H:(Y8.j0 k CI4 CI5)=some (r1,r2):=H
    have A17:=aM Ai9
    clear Ai9
    have H':=aM H
    clear H
    go_wp2_with (first | ((with_reducible refine gc_ 156 ?_);refine gl_ (some 54) Tryz.func156 #[.slice A0 l0.length c0,.int .i64 (wrap64 (a1+(wrap64 ((wrap64 (Int.tdiv (wrap64 (a2-a1)) 4)))))),.int .i64 (wrap64 (a1+(wrap64 ((wrap64 (Int.tdiv (wrap64 (a2-a1)) 4))*2)))),.int .i64 (wrap64 (a1+(wrap64 ((wrap64 (Int.tdiv (wrap64 (a2-a1)) 4))*3)))),.pointer (some ⟨AA8,0,none⟩),.func (.func 72) #[] #[]] ?_;(with_reducible refine (Y16.calls k _ _ l0 (wrap64 (a1+(wrap64 ((wrap64 (Int.tdiv (wrap64 (a2-a1)) 4)))))) (wrap64 (a1+(wrap64 ((wrap64 (Int.tdiv (wrap64 (a2-a1)) 4))*2)))) (wrap64 (a1+(wrap64 ((wrap64 (Int.tdiv (wrap64 (a2-a1)) 4))*3)))) AA8 0  CI4 CI5 w _ ?s1 ?s2 ?s3 ?s4 A17.out).mono ?_);(case s1=>repeat (first | (with_reducible first | exact J6.out | apply IsS3.alloc | apply IsS3.drewN | apply IsS3.drew | apply IsS3.set_0) | exact J6.out));(case s2=>repeat (first | (with_reducible first | exact HB.out | apply below_alloc | apply pw_below_drewN | apply below_drew1 | refine below_set ?_ (IsS3.ge J6.out)) | exact HB.out));(case s3=>exact Kd.C_foot_came k78_heap HR0.out (z20_ HB.out J6.out) (IsS3.ge J6.out));(case s4=>exact HC0.out);rintro e w18 ⟨rfl,hi,hb,hk⟩;refine ⟨_,rfl,?_⟩;have n0_:=aM (hb);have n1_:=aM (hi);clear HB;clear J6;have HB:=n0_;have J6:=n1_;clear n0_ n1_;(try clear hb);(try clear hk);(try clear hi)))
    go_meet
    case rel=>exact ⟨_,(CI4),(CI5),(z2_),H',⟨by first | omega | exact Nat.le_refl _⟩,⟨z36_ J6.out⟩,⟨z20_ HB.out J6.out⟩⟩
  ·rw [if_neg c7] at H
   have c7b0:decide (8≤(wrap64 (a2-a1)))=false:=dF c7
   clear c7
   (first | rw [c7b0] | (simp only [i64_w,i32_w];rw [c7b0]) | skip)
   have H':=aM H
   clear H
   go_wp2
   go_meet
   case rel=>exact ⟨_,(wrap64 (a1+(wrap64 ((wrap64 (Int.tdiv (wrap64 (a2-a1)) 4))*2)))),(0),(z2_),H',⟨by first | omega | exact Nat.le_refl _⟩,⟨z36_ J6.out⟩,⟨z20_ HB.out J6.out⟩⟩
 case rest =>
  clear HC5
  try clear p2
  try clear p6
  try clear c7
  try clear c7b0
  try clear c8
  try clear c8b0
  obtain ⟨kq,Bc6,Q0,rfl,HA,HJ4,J6,HB⟩:=hcut
  cases kq with
  | zero=>exact absurd HA.out (by simp [Y8.j0])
  | succ kj4 =>
   have H:=HA.out
   clear HA
   simp only [Y8.j0] at H
   by_cases c19:Q0=0
   ·rw [if_pos c19] at H
    have c19b0:(Q0 == 0)=true:=beq_iff_eq.mpr c19
    have c19b1:(Q0 != 0)=false:=bne_eq_false_iff_eq.mpr c19
    clear c19
    simp only [Option.some.injEq,Prod.mk.injEq] at H
    obtain ⟨rfl,rfl⟩:=H
    obtain ⟨An7,BX3⟩:=J6.out
    have Ar7:=cellS3_0 An7
    have Ar8:=blk_frozen An7 0
    clear An7 BX3
    go_wp2
    go_ret2
    exact ⟨z8_,z20_ HB.out J6.out⟩
   ·rw [if_neg c19] at H
    have c19b0:(Q0 == 0)=false:=beq_eq_false_iff_ne.mpr c19
    have c19b1:(Q0 != 0)=true:=bne_iff_ne.mpr c19
    by_cases c21:Q0=12
    ·rw [if_pos c21] at H
     have c21b0:(Q0 == 12)=true:=beq_iff_eq.mpr c21
     have c21b1:(Q0 != 12)=false:=bne_eq_false_iff_eq.mpr c21
     clear c21
     simp only [Option.some.injEq,Prod.mk.injEq] at H
     obtain ⟨rfl,rfl⟩:=H
     obtain ⟨Bc8,Cc7⟩:=J6.out
     have Af5:=cellS3_0 Bc8
     have Af6:=blk_frozen Bc8 0
     clear Bc8 Cc7
     go_wp2
     go_ret2
     exact ⟨z8_,z20_ HB.out J6.out⟩
    ·rw [if_neg c21] at H
     have c21b0:(Q0 == 12)=false:=beq_eq_false_iff_ne.mpr c21
     have c21b1:(Q0 != 12)=true:=bne_iff_ne.mpr c21
     simp only [Option.some.injEq,Prod.mk.injEq] at H
     obtain ⟨rfl,rfl⟩:=H
     obtain ⟨Bc9,Cc8⟩:=J6.out
     have BM5:=cellS3_0 Bc9
     have BM6:=blk_frozen Bc9 0
     clear Bc9 Cc8
     go_wp2
     go_ret2
     exact ⟨z8_,z20_ HB.out J6.out⟩


/-! ### Y54: function 131 -/
def Y54.f (l0:List (S78)) (a1:Int) (a2:Int)  : Option (Unit):=none
theorem Y54.calls (A0:Option Addr) (c0:Nat) (l0:List (S78)) (a1:Int) (a2:Int)  (w:World) (hr0:Kd.C k78 w A0 l0.length l0) (hc0:l0.length≤c0) (h:Y54.f l0 a1 a2=some ()) :
  Calls Tryz.prog 131 #[.slice A0 l0.length c0,.int .i64 a1,.int .i64 a2,.func (.func 72) #[] #[]] w fun e w'=>e = .returned (.tuple #[])∧Drawn0 w w':=by
 have HR0:=aM hr0
 have HC0:=aM hc0
 clear hr0 hc0
 have H:(none)=some ():=h
 clear h
 exact nO H


/-! ### Y45: function 132 -/
def Y45.f (l0:List (S78)) (a1:Int) (a2:Int)  : Option (Bool):=none
theorem Y45.calls (A0:Option Addr) (c0:Nat) (l0:List (S78)) (a1:Int) (a2:Int)  (r:Bool) (w:World) (hr0:Kd.C k78 w A0 l0.length l0) (hc0:l0.length≤c0) (h:Y45.f l0 a1 a2=some r) :
  Calls Tryz.prog 132 #[.slice A0 l0.length c0,.int .i64 a1,.int .i64 a2,.func (.func 72) #[] #[]] w fun e w'=>e = .returned (.bool r)∧Drawn0 w w':=by
 have HR0:=aM hr0
 have HC0:=aM hc0
 clear hr0 hc0
 have H:(none)=some r:=h
 clear h
 exact nO H


/-! ### Y52: function 133 -/
def Y52.f (l0:List (S78)) (a1:Int) (a2:Int) (a3:Int)  : Option (Int):=none
theorem Y52.calls (A0:Option Addr) (c0:Nat) (l0:List (S78)) (a1:Int) (a2:Int) (a3:Int)  (r:Int) (w:World) (hr0:Kd.C k78 w A0 l0.length l0) (hc0:l0.length≤c0) (h:Y52.f l0 a1 a2 a3=some r) :
  Calls Tryz.prog 133 #[.slice A0 l0.length c0,.int .i64 a1,.int .i64 a2,.int .i64 a3,.func (.func 72) #[] #[]] w fun e w'=>e = .returned (.int .i64 r)∧Drawn0 w w':=by
 have HR0:=aM hr0
 have HC0:=aM hc0
 clear hr0 hc0
 have H:(none)=some r:=h
 clear h
 exact nO H


/-! ### Y0: function 134 -/
mutual
def Y0.l0:Nat→List (S78)→Int→Int→Int→Option (Int × Bool × (List (S78)))
 | 0,_,_,_,_=>none
 | k+1,x0,x1,x12,x13=>if x12≤x13 then (if 0≤x12 then (if x12<(x0.length:Int) then (if 0≤x1 then (if x1<(x0.length:Int) then ((Y38.f k ((rd_T78 x0 x12).f0) ((rd_T78 x0 x12).f1) ((rd_T78 x0 x1).f0) ((rd_T78 x0 x1).f1)).bind fun Bd0=>(Y0.j1 k x0 x1 x12 x13 (decide (Bd0<0)))) else (none)) else (none)) else (none)) else (none)) else (Y0.j1 k x0 x1 x12 x13 false)
def Y0.j1:Nat→List (S78)→Int→Int→Int→Bool→Option (Int × Bool × (List (S78)))
 | 0,_,_,_,_,_=>none
 | k+1,x0,x1,x12,x13,x47=>if x47=true then (Y0.l0 k x0 x1 (wrap64 (x12+1)) x13) else (Y0.l1 k x0 x1 x12 x13)
def Y0.l1:Nat→List (S78)→Int→Int→Int→Option (Int × Bool × (List (S78)))
 | 0,_,_,_,_=>none
 | k+1,x0,x1,x12,x13=>if x12≤x13 then (if 0≤x13 then (if x13<(x0.length:Int) then (if 0≤x1 then (if x1<(x0.length:Int) then ((Y38.f k ((rd_T78 x0 x13).f0) ((rd_T78 x0 x13).f1) ((rd_T78 x0 x1).f0) ((rd_T78 x0 x1).f1)).bind fun Bd1=>(Y0.j3 k x0 x1 x12 x13 (!(decide (Bd1<0))))) else (none)) else (none)) else (none)) else (none)) else (Y0.j3 k x0 x1 x12 x13 false)
def Y0.j3:Nat→List (S78)→Int→Int→Int→Bool→Option (Int × Bool × (List (S78)))
 | 0,_,_,_,_,_=>none
 | k+1,x0,x1,x12,x13,x66=>if x66=true then (Y0.l1 k x0 x1 x12 (wrap64 (x13-1))) else (if x12>x13 then (if 0≤x1 then (if x1<(x0.length:Int) then (if 0≤x13 then (if x13<(x0.length:Int) then (some (x13,true,((x0.set (x13:Int).toNat (⟨(rd_T78 x0 x1).f0,(rd_T78 x0 x1).f1⟩:S78)).set (x1:Int).toNat (⟨(rd_T78 x0 x13).f0,(rd_T78 x0 x13).f1⟩:S78)))) else (none)) else (none)) else (none)) else (none)) else (if 0≤x13 then (if x13<(x0.length:Int) then (if 0≤x12 then (if x12<(x0.length:Int) then (Y0.l2 k ((x0.set (x12:Int).toNat (⟨(rd_T78 x0 x13).f0,(rd_T78 x0 x13).f1⟩:S78)).set (x13:Int).toNat (⟨(rd_T78 x0 x12).f0,(rd_T78 x0 x12).f1⟩:S78)) x1 (wrap64 (x12+1)) (wrap64 (x13-1))) else (none)) else (none)) else (none)) else (none)))
def Y0.l2:Nat→List (S78)→Int→Int→Int→Option (Int × Bool × (List (S78)))
 | 0,_,_,_,_=>none
 | k+1,x0,x1,x12,x13=>Y0.l3 k x0 x1 x12 x13
def Y0.l3:Nat→List (S78)→Int→Int→Int→Option (Int × Bool × (List (S78)))
 | 0,_,_,_,_=>none
 | k+1,x0,x1,x12,x13=>if x12≤x13 then (if 0≤x12 then (if x12<(x0.length:Int) then (if 0≤x1 then (if x1<(x0.length:Int) then ((Y38.f k ((rd_T78 x0 x12).f0) ((rd_T78 x0 x12).f1) ((rd_T78 x0 x1).f0) ((rd_T78 x0 x1).f1)).bind fun Bd2=>(Y0.j6 k x0 x1 x12 x13 (decide (Bd2<0)))) else (none)) else (none)) else (none)) else (none)) else (Y0.j6 k x0 x1 x12 x13 false)
def Y0.j6:Nat→List (S78)→Int→Int→Int→Bool→Option (Int × Bool × (List (S78)))
 | 0,_,_,_,_,_=>none
 | k+1,x0,x1,x12,x13,C17=>if C17=true then (Y0.l3 k x0 x1 (wrap64 (x12+1)) x13) else (Y0.l4 k x0 x1 x12 x13)
def Y0.l4:Nat→List (S78)→Int→Int→Int→Option (Int × Bool × (List (S78)))
 | 0,_,_,_,_=>none
 | k+1,x0,x1,x12,x13=>if x12≤x13 then (if 0≤x13 then (if x13<(x0.length:Int) then (if 0≤x1 then (if x1<(x0.length:Int) then ((Y38.f k ((rd_T78 x0 x13).f0) ((rd_T78 x0 x13).f1) ((rd_T78 x0 x1).f0) ((rd_T78 x0 x1).f1)).bind fun Bd3=>(Y0.j8 k x0 x1 x12 x13 (!(decide (Bd3<0))))) else (none)) else (none)) else (none)) else (none)) else (Y0.j8 k x0 x1 x12 x13 false)
def Y0.j8:Nat→List (S78)→Int→Int→Int→Bool→Option (Int × Bool × (List (S78)))
 | 0,_,_,_,_,_=>none
 | k+1,x0,x1,x12,x13,C18=>if C18=true then (Y0.l4 k x0 x1 x12 (wrap64 (x13-1))) else (if x12>x13 then (if 0≤x1 then (if x1<(x0.length:Int) then (if 0≤x13 then (if x13<(x0.length:Int) then (some (x13,false,((x0.set (x13:Int).toNat (⟨(rd_T78 x0 x1).f0,(rd_T78 x0 x1).f1⟩:S78)).set (x1:Int).toNat (⟨(rd_T78 x0 x13).f0,(rd_T78 x0 x13).f1⟩:S78)))) else (none)) else (none)) else (none)) else (none)) else (if 0≤x13 then (if x13<(x0.length:Int) then (if 0≤x12 then (if x12<(x0.length:Int) then (Y0.l2 k ((x0.set (x12:Int).toNat (⟨(rd_T78 x0 x13).f0,(rd_T78 x0 x13).f1⟩:S78)).set (x13:Int).toNat (⟨(rd_T78 x0 x12).f0,(rd_T78 x0 x12).f1⟩:S78)) x1 (wrap64 (x12+1)) (wrap64 (x13-1))) else (none)) else (none)) else (none)) else (none)))
end
def Y0.f (k:Nat) (l0:List (S78)) (a1:Int) (a2:Int) (a3:Int)  : Option (Int × Bool × (List (S78))):=if 0≤a3 then (if a3<(l0.length:Int) then (if 0≤a1 then (if a1<(l0.length:Int) then (Y0.l0 k ((l0.set (a1:Int).toNat (⟨(rd_T78 l0 a3).f0,(rd_T78 l0 a3).f1⟩:S78)).set (a3:Int).toNat (⟨(rd_T78 l0 a1).f0,(rd_T78 l0 a1).f1⟩:S78)) a1 (wrap64 (a1+1)) (wrap64 (a2-1))) else (none)) else (none)) else (none)) else (none)
theorem Y0.mono_l:∀ k,(∀ y0 y1 y2 y3,LeO (Y0.l0 k y0 y1 y2 y3) (Y0.l0 (k+1) y0 y1 y2 y3))∧(∀ y0 y1 y2 y3 y4,LeO (Y0.j1 k y0 y1 y2 y3 y4) (Y0.j1 (k+1) y0 y1 y2 y3 y4))∧(∀ y0 y1 y2 y3,LeO (Y0.l1 k y0 y1 y2 y3) (Y0.l1 (k+1) y0 y1 y2 y3))∧(∀ y0 y1 y2 y3 y4,LeO (Y0.j3 k y0 y1 y2 y3 y4) (Y0.j3 (k+1) y0 y1 y2 y3 y4))∧(∀ y0 y1 y2 y3,LeO (Y0.l2 k y0 y1 y2 y3) (Y0.l2 (k+1) y0 y1 y2 y3))∧(∀ y0 y1 y2 y3,LeO (Y0.l3 k y0 y1 y2 y3) (Y0.l3 (k+1) y0 y1 y2 y3))∧(∀ y0 y1 y2 y3 y4,LeO (Y0.j6 k y0 y1 y2 y3 y4) (Y0.j6 (k+1) y0 y1 y2 y3 y4))∧(∀ y0 y1 y2 y3,LeO (Y0.l4 k y0 y1 y2 y3) (Y0.l4 (k+1) y0 y1 y2 y3))∧(∀ y0 y1 y2 y3 y4,LeO (Y0.j8 k y0 y1 y2 y3 y4) (Y0.j8 (k+1) y0 y1 y2 y3 y4))
 | 0=>by refine ⟨?_,?_,?_,?_,?_,?_,?_,?_,?_⟩ <;> intros <;> exact LeO.none _
 | k+1=>by
  obtain ⟨ih0,ih1,ih2,ih3,ih4,ih5,ih6,ih7,ih8⟩:=Y0.mono_l k
  have m0:=@Y38.mono
  refine ⟨?_,?_,?_,?_,?_,?_,?_,?_,?_⟩
  ·intros
   unfold Y0.l0
   exact mO
  ·intros
   unfold Y0.j1
   exact mO
  ·intros
   unfold Y0.l1
   exact mO
  ·intros
   unfold Y0.j3
   exact mO
  ·intros
   unfold Y0.l2
   exact mO
  ·intros
   unfold Y0.l3
   exact mO
  ·intros
   unfold Y0.j6
   exact mO
  ·intros
   unfold Y0.l4
   exact mO
  ·intros
   unfold Y0.j8
   exact mO
theorem Y0.mono:∀ a0 a1 a2 a3 k,LeO (Y0.f k a0 a1 a2 a3) (Y0.f (k+1) a0 a1 a2 a3):=by
 intro a0 a1 a2 a3 k
 have m0:=@Y38.mono
 obtain ⟨ih0,ih1,ih2,ih3,ih4,ih5,ih6,ih7,ih8⟩:=Y0.mono_l k
 unfold Y0.f
 exact mO
def Y0.T1:Bool × List (List Nat × List Nat):=(true,[([],[]),([],[]),([],[]),([],[]),([],[]),([],[]),([4,5],[4,5]),([6],[6]),([],[]),([],[]),([8,9],[8,9]),([10],[10]),([0,1,0,1,4,5,6,7,11],[0,1]),([12,7,0,1,4,5,6,7,11],[7,12]),([2,3,0,1,2,3,4,5,6,7,8,9,10,11,12,13],[2,3]),([14,11,13,0,1,2,3,4,5,6,7,8,9,10,11,12,13],[11,14])])
def Y0.B1:List Nat:=[0,0,0,0,0,0,48,112,0,0,768,1792,4083,8179,16383,32767]
theorem Y0.tab1:rtab .any (opsOf Tryz.f134 1)=Y0.T1:=by kernel_rfl
theorem Y0.bits1:waitsOk Y0.T1.2 Y0.B1=true:=by kernel_rfl
def Y0.T3:Bool × List (List Nat × List Nat):=(true,[([],[]),([],[]),([0,1],[0,1]),([2],[2]),([3],[3]),([3],[3]),([3],[3]),([5,6,3],[3,5,6]),([7,3],[3,7]),([3],[3]),([3],[3]),([9,10,3],[3,9,10]),([11,3],[3,11]),([4,8,12,3,3],[3,4,8,12]),([13,3],[3,13]),([3,14],[3,14])])
def Y0.B3:List Nat:=[0,0,3,7,15,15,15,111,239,15,15,1551,3599,8191,16383,32767]
theorem Y0.tab3:rtab .any (opsOf Tryz.f134 3)=Y0.T3:=by kernel_rfl
theorem Y0.bits3:waitsOk Y0.T3.2 Y0.B3=true:=by kernel_rfl
def Y0.T5:Bool × List (List Nat × List Nat):=(true,[([],[]),([],[]),([0,1],[0,1]),([2],[2]),([3],[3]),([3],[3]),([3],[3]),([5,6,3],[3,5,6]),([7,3],[3,7]),([3],[3]),([3],[3]),([9,10,3],[3,9,10]),([11,3],[3,11]),([4,8,12,3,3],[3,4,8,12]),([13,3],[3,13]),([14,3],[3,14]),([3,15],[3,15])])
def Y0.B5:List Nat:=[0,0,3,7,15,15,15,111,239,15,15,1551,3599,8191,16383,32767,65535]
theorem Y0.tab5:rtab .any (opsOf Tryz.f134 5)=Y0.T5:=by kernel_rfl
theorem Y0.bits5:waitsOk Y0.T5.2 Y0.B5=true:=by kernel_rfl
def Y0.T8:Bool × List (List Nat × List Nat):=(true,[([],[]),([],[]),([],[]),([],[]),([],[]),([],[]),([4,5],[4,5]),([6],[6]),([],[]),([],[]),([8,9],[8,9]),([10],[10]),([0,1,0,1,4,5,6,7,11],[0,1]),([12,7,0,1,4,5,6,7,11],[7,12]),([2,3,0,1,2,3,4,5,6,7,8,9,10,11,12,13],[2,3]),([14,11,13,0,1,2,3,4,5,6,7,8,9,10,11,12,13],[11,14])])
def Y0.B8:List Nat:=[0,0,0,0,0,0,48,112,0,0,768,1792,4083,8179,16383,32767]
theorem Y0.tab8:rtab .any (opsOf Tryz.f134 8)=Y0.T8:=by kernel_rfl
theorem Y0.bits8:waitsOk Y0.T8.2 Y0.B8=true:=by kernel_rfl
def Y0.T10:Bool × List (List Nat × List Nat):=(true,[([],[]),([],[]),([],[]),([],[]),([],[]),([],[]),([4,5],[4,5]),([6],[6]),([],[]),([],[]),([8,9],[8,9]),([10],[10]),([0,1,0,1,4,5,6,7,11],[0,1]),([12,7,0,1,4,5,6,7,11],[7,12]),([2,3,0,1,2,3,4,5,6,7,8,9,10,11,12,13],[2,3]),([14,11,13,0,1,2,3,4,5,6,7,8,9,10,11,12,13],[11,14])])
def Y0.B10:List Nat:=[0,0,0,0,0,0,48,112,0,0,768,1792,4083,8179,16383,32767]
theorem Y0.tab10:rtab .any (opsOf Tryz.f134 10)=Y0.T10:=by kernel_rfl
theorem Y0.bits10:waitsOk Y0.T10.2 Y0.B10=true:=by kernel_rfl
def Y0.T13:Bool × List (List Nat × List Nat):=(true,[([],[]),([],[]),([0,1],[0,1]),([2],[2]),([3],[3]),([3],[3]),([3],[3]),([5,6,3],[3,5,6]),([7,3],[3,7]),([3],[3]),([3],[3]),([9,10,3],[3,9,10]),([11,3],[3,11]),([4,8,12,3,3],[3,4,8,12]),([13,3],[3,13]),([3,14],[3,14])])
def Y0.B13:List Nat:=[0,0,3,7,15,15,15,111,239,15,15,1551,3599,8191,16383,32767]
theorem Y0.tab13:rtab .any (opsOf Tryz.f134 13)=Y0.T13:=by kernel_rfl
theorem Y0.bits13:waitsOk Y0.T13.2 Y0.B13=true:=by kernel_rfl
def Y0.T15:Bool × List (List Nat × List Nat):=(true,[([],[]),([],[]),([0,1],[0,1]),([2],[2]),([3],[3]),([3],[3]),([3],[3]),([5,6,3],[3,5,6]),([7,3],[3,7]),([3],[3]),([3],[3]),([9,10,3],[3,9,10]),([11,3],[3,11]),([4,8,12,3,3],[3,4,8,12]),([13,3],[3,13]),([14,3],[3,14]),([3,15],[3,15])])
def Y0.B15:List Nat:=[0,0,3,7,15,15,15,111,239,15,15,1551,3599,8191,16383,32767,65535]
theorem Y0.tab15:rtab .any (opsOf Tryz.f134 15)=Y0.T15:=by kernel_rfl
theorem Y0.bits15:waitsOk Y0.T15.2 Y0.B15=true:=by kernel_rfl
def Y0.T18:Bool × List (List Nat × List Nat):=(true,[([],[]),([],[]),([],[]),([],[]),([],[]),([],[]),([4,5],[4,5]),([6],[6]),([],[]),([],[]),([8,9],[8,9]),([10],[10]),([0,1,0,1,4,5,6,7,11],[0,1]),([12,7,0,1,4,5,6,7,11],[7,12]),([2,3,0,1,2,3,4,5,6,7,8,9,10,11,12,13],[2,3]),([14,11,13,0,1,2,3,4,5,6,7,8,9,10,11,12,13],[11,14])])
def Y0.B18:List Nat:=[0,0,0,0,0,0,48,112,0,0,768,1792,4083,8179,16383,32767]
theorem Y0.tab18:rtab .any (opsOf Tryz.f134 18)=Y0.T18:=by kernel_rfl
theorem Y0.bits18:waitsOk Y0.T18.2 Y0.B18=true:=by kernel_rfl
def Y0.T21:Bool × List (List Nat × List Nat):=(true,[([],[]),([],[]),([],[]),([],[]),([],[]),([],[]),([4,5],[4,5]),([6],[6]),([],[]),([],[]),([8,9],[8,9]),([10],[10]),([0,1,0,1,4,5,6,7,11],[0,1]),([12,7,0,1,4,5,6,7,11],[7,12]),([2,3,0,1,2,3,4,5,6,7,8,9,10,11,12,13],[2,3]),([14,11,13,0,1,2,3,4,5,6,7,8,9,10,11,12,13],[11,14])])
def Y0.B21:List Nat:=[0,0,0,0,0,0,48,112,0,0,768,1792,4083,8179,16383,32767]
theorem Y0.tab21:rtab .any (opsOf Tryz.f134 21)=Y0.T21:=by kernel_rfl
theorem Y0.bits21:waitsOk Y0.T21.2 Y0.B21=true:=by kernel_rfl
abbrev Y0.q0:Array Bool:=#[O,O,O,O,O,O,O,O,O,O,O,O,O,O,O,O]
abbrev Y0.q1:Array Bool:=#[I,O,O,O,O,O,O,O,O,O,O,O,O,O,O,O]
abbrev Y0.q2:Array Bool:=#[I,I,O,O,O,O,O,O,O,O,O,O,O,O,O,O]
abbrev Y0.q3:Array Bool:=#[I,I,I,O,O,O,O,O,O,O,O,O,O,O,O,O]
abbrev Y0.q4:Array Bool:=#[I,I,I,I,O,O,O,O,O,O,O,O,O,O,O,O]
abbrev Y0.q5:Array Bool:=#[I,I,I,I,I,O,O,O,O,O,O,O,O,O,O,O]
abbrev Y0.q6:Array Bool:=#[I,I,I,I,I,I,O,O,O,O,O,O,O,O,O,O]
abbrev Y0.q7:Array Bool:=#[I,I,I,I,I,I,I,O,O,O,O,O,O,O,O,O]
abbrev Y0.q8:Array Bool:=#[I,I,I,I,I,I,I,O,I,O,O,O,O,O,O,O]
abbrev Y0.q9:Array Bool:=#[I,I,I,I,I,I,I,O,I,I,O,O,O,O,O,O]
abbrev Y0.q10:Array Bool:=#[I,I,I,I,I,I,I,O,I,I,I,O,O,O,O,O]
abbrev Y0.q11:Array Bool:=#[I,I,I,I,I,I,I,I,I,I,I,O,O,O,O,O]
abbrev Y0.q12:Array Bool:=#[I,I,I,I,I,I,I,I,I,I,I,I,O,O,O,O]
abbrev Y0.q13:Array Bool:=#[I,I,I,I,I,I,I,I,I,I,I,I,I,O,O,O]
abbrev Y0.q14:Array Bool:=#[I,I,I,I,I,I,I,I,I,I,I,I,I,I,O,O]
abbrev Y0.q15:Array Bool:=#[I,I,I,I,I,I,I,I,I,I,I,I,I,I,I,O]
abbrev Y0.q16:Array Bool:=#[I,I,I,I,I,I,I,I,I,I,I,I,I,I,I,I]
abbrev Y0.q17:Array Bool:=#[I,I,I,I,I,I,I,I,O,O,O,O,O,O,O,O]
abbrev Y0.q18:Array Bool:=#[I,I,I,I,I,I,I,I,O,I,O,O,O,O,O,O]
abbrev Y0.q19:Array Bool:=#[I,I,I,I,I,I,I,I,O,I,I,O,O,O,O,O]
abbrev Y0.q20:Array Bool:=#[I,I,I,I,I,I,I,I,O,I,I,I,O,O,O,O]
abbrev Y0.q21:Array Bool:=#[I,I,I,I,I,I,I,I,I,O,O,O,O,O,O,O]
abbrev Y0.q22:Array Bool:=#[I,I,I,I,I,I,I,I,I,I,O,O,O,O,O,O]
abbrev Y0.q23:Array Bool:=#[O,O,O,O,O,O,O,O,O,O,O,O,O,O,O,O,O]
abbrev Y0.q24:Array Bool:=#[I,O,O,O,O,O,O,O,O,O,O,O,O,O,O,O,O]
abbrev Y0.q25:Array Bool:=#[I,I,O,O,O,O,O,O,O,O,O,O,O,O,O,O,O]
abbrev Y0.q26:Array Bool:=#[I,I,I,O,O,O,O,O,O,O,O,O,O,O,O,O,O]
abbrev Y0.q27:Array Bool:=#[I,I,I,I,O,O,O,O,O,O,O,O,O,O,O,O,O]
abbrev Y0.q28:Array Bool:=#[I,I,I,I,I,O,O,O,O,O,O,O,O,O,O,O,O]
abbrev Y0.q29:Array Bool:=#[I,I,I,I,I,I,O,O,O,O,O,O,O,O,O,O,O]
abbrev Y0.q30:Array Bool:=#[I,I,I,I,I,I,I,O,O,O,O,O,O,O,O,O,O]
abbrev Y0.q31:Array Bool:=#[I,I,I,I,I,I,I,I,O,O,O,O,O,O,O,O,O]
abbrev Y0.q32:Array Bool:=#[I,I,I,I,I,I,I,I,O,I,O,O,O,O,O,O,O]
abbrev Y0.q33:Array Bool:=#[I,I,I,I,I,I,I,I,O,I,I,O,O,O,O,O,O]
abbrev Y0.q34:Array Bool:=#[I,I,I,I,I,I,I,I,O,I,I,I,O,O,O,O,O]
abbrev Y0.q35:Array Bool:=#[I,I,I,I,I,I,I,I,I,I,I,I,O,O,O,O,O]
abbrev Y0.q36:Array Bool:=#[I,I,I,I,I,I,I,I,I,I,I,I,I,O,O,O,O]
abbrev Y0.q37:Array Bool:=#[I,I,I,I,I,I,I,I,I,I,I,I,I,I,O,O,O]
abbrev Y0.q38:Array Bool:=#[I,I,I,I,I,I,I,I,I,I,I,I,I,I,I,O,O]
abbrev Y0.q39:Array Bool:=#[I,I,I,I,I,I,I,I,I,I,I,I,I,I,I,I,O]
abbrev Y0.q40:Array Bool:=#[I,I,I,I,I,I,I,I,I,I,I,I,I,I,I,I,I]
abbrev Y0.q41:Array Bool:=#[I,I,I,I,I,I,I,I,I,O,O,O,O,O,O,O,O]
abbrev Y0.q42:Array Bool:=#[I,I,I,I,I,I,I,I,I,I,O,O,O,O,O,O,O]
abbrev Y0.q43:Array Bool:=#[I,I,I,I,I,I,I,I,I,I,I,O,O,O,O,O,O]
theorem Y0.calls (k:Nat) (P0_:Nat→Prop) (M0:Value) (l0:List (S78)) (a1:Int) (a2:Int) (a3:Int)  (r1:Int) (r2:Bool) (r3:List (S78)) (w0 w:World) (hB:Below w0.heap.size w0 w) (ho0:Kd.R k78 78 w w0.heap.size P0_ M0 l0) (h:Y0.f k l0 a1 a2 a3=some (r1,r2,r3)) :
  Calls Tryz.prog 134 #[M0,.int .i64 a1,.int .i64 a2,.int .i64 a3,.func (.func 72) #[] #[]] w fun e w'=>e = .returned (.tuple #[.int .i64 r1,.bool r2])∧Kd.R k78 78 w' w0.heap.size (fun k_=>(P0_ k_∨w.heap.size≤k_)) M0 r3∧Below w0.heap.size w0 w'∧Kept w w' (fun k_=>P0_ k_):=by
 have Ah1:=Tryz.underlying78
 have HO0:=aM (show Kd.R k78 78 w w0.heap.size (fun k_=>(P0_ k_∨w.heap.size≤k_)) M0 l0 from Kd.R_mono ho0 (fun k_ hk=>(.inl hk)))
 have HK:=aM (Kept.refl w (fun k_=>P0_ k_))
 have HW0:=aM hB.size
 have HB:=aM hB
 clear hB
 have H:(if 0≤a3 then (if a3<(l0.length:Int) then (if 0≤a1 then (if a1<(l0.length:Int) then (Y0.l0 k ((l0.set (a1:Int).toNat (⟨(rd_T78 l0 a3).f0,(rd_T78 l0 a3).f1⟩:S78)).set (a3:Int).toNat (⟨(rd_T78 l0 a1).f0,(rd_T78 l0 a1).f1⟩:S78)) a1 (wrap64 (a1+1)) (wrap64 (a2-1))) else (none)) else (none)) else (none)) else (none))=some (r1,r2,r3):=h
 clear h
 by_cases c6:0≤a3
 ·rw [if_pos c6] at H
  have c6b0:decide (0≤a3)=true:=dE c6
  clear c6
  by_cases c7:a3<(l0.length:Int)
  ·rw [if_pos c7] at H
   have c7b0:decide (a3<(l0.length:Int))=true:=dE c7
   clear c7
   by_cases c8:0≤a1
   ·rw [if_pos c8] at H
    have c8b0:decide (0≤a1)=true:=dE c8
    clear c8
    by_cases c9:a1<(l0.length:Int)
    ·rw [if_pos c9] at H
     have c9b0:decide (a1<(l0.length:Int))=true:=dE c9
     clear c9
     obtain ⟨BR5,Ay6⟩:∃ y_:List (S78),y_=(l0.set (a1:Int).toNat (⟨(rd_T78 l0 a3).f0,(rd_T78 l0 a3).f1⟩:S78)):=⟨_,rfl⟩
     replace H:(Y0.l0 k (BR5.set (a3:Int).toNat (⟨(rd_T78 l0 a1).f0,(rd_T78 l0 a1).f1⟩:S78)) a1 (wrap64 (a1+1)) (wrap64 (a2-1)))=some (r1,r2,r3):=by first | (rw [Ay6];with_reducible exact H) | (have H2_:=(Option.bind_some _ _).symm.trans H;rw [Ay6];with_reducible exact H2_) | (have H2_:=(Option.bind_some _ _).symm.trans H;with_reducible exact H2_) | with_reducible exact H | (rw [Ay6];exact H) | exact H
     have Cc9:=aM Ay6
     clear Ay6
     obtain ⟨E1,Ay7⟩:∃ y_:List (S78),y_=(BR5.set (a3:Int).toNat (⟨(rd_T78 l0 a1).f0,(rd_T78 l0 a1).f1⟩:S78)):=⟨_,rfl⟩
     replace H:(Y0.l0 k E1 a1 (wrap64 (a1+1)) (wrap64 (a2-1)))=some (r1,r2,r3):=by first | (rw [Ay7];with_reducible exact H) | (have H2_:=(Option.bind_some _ _).symm.trans H;rw [Ay7];with_reducible exact H2_) | (have H2_:=(Option.bind_some _ _).symm.trans H;with_reducible exact H2_) | with_reducible exact H | (rw [Ay7];exact H) | exact H
     have Cd0:=aM Ay7
     clear Ay7
     have H':=aM H
     clear H
     go_enter Tryz.func134,Tryz.ntmps134
     try go_wp2
     have n0_:=aM (Kd.R_drew HO0.out)
     have n1_:=aM (Kept.drew HK.out)
     have n2_:=aM (below_drew1 HB.out)
     clear HO0
     clear HK
     clear HB
     have HO0:=n0_
     have HK:=n1_
     have HB:=n2_
     clear n0_ n1_ n2_
     obtain ⟨BD1,AP2,BD2⟩:=Kd.R_slice HO0.out
     (first | subst BD2 | (injection BD2 with f1_ f2_ f3_;have f4_:=f1_.symm;have f5_:=f3_.symm;clear f1_ f2_ f3_;subst f4_;subst f5_))
     have Ac5:0≤(a3:Int):=dT (z1_)
     have Ac6:a3<(l0.length:Int):=dT (z1_)
     obtain ⟨Cd1,C19,b9,d2⟩:=at_T78 (Kd.R_reads' HO0.out).2.2 a3 Ac5 Ac6
     cases C19
     replace Ac5:=eq_true Ac5
     replace Ac6:=eq_true Ac6
     have Ac7:0≤(a1:Int):=dT (z1_)
     have Ac8:a1<(l0.length:Int):=dT (z1_)
     obtain ⟨Cd2,C20,d3,d4⟩:=at_T78 (Kd.R_reads' HO0.out).2.2 a1 Ac7 Ac8
     obtain rfl:Cd1=Cd2:=(by injection C20)
     replace Ac7:=eq_true Ac7
     replace Ac8:=eq_true Ac8
     have p10:0≤(a1:Int):=dT (z1_)
     have q10:(a1:Int)<((l0.length:Int):Int):=dT (z1_)
     obtain ⟨D7,Cd3,Bt0,Cd4,C21,cl10,Cd5⟩:=Kd.R_form HO0.out (by omega)
     (first | cases Bt0 | (injection Bt0 with ea_ en_ ec_;(first | subst ea_ | (injection ea_ with ea_;subst ea_));subst ec_;clear en_))
     have Bd4:=aM Cd4
     have C22:=aM Cd5
     clear Cd4 C21 Cd5
     have Aj0:=aM (show (P0_ D7∨w.heap.size≤D7) from (HO0.out.1 _ rfl))
     (first | simp only [add_plain] at b9 | skip)
     (first | simp only [add_plain] at d2 | skip)
     (first | simp only [add_plain] at d3 | skip)
     (first | simp only [add_plain] at d4 | skip)
     obtain ⟨ce10,Cd6,Cd7,Bd5,Bd6⟩:=Kd.R_elem HO0.out z78 (a1:Int) p10 q10
     obtain rfl:=k78_openM Cd7
     have AE0:World.cell? _ ⟨D7,(a1:Int).toNat*2,none⟩=some (.int .i64 ((rd_T78 l0 a1).f0)):=Bd5 0 _ rfl
     have AE1:World.cell? _ ⟨D7,(a1:Int).toNat*2+1,none⟩=some (.int .i64 ((rd_T78 l0 a1).f1)):=Bd5 1 _ rfl
     have CI6:World.frozen? _ ⟨D7,(a1:Int).toNat*2,none⟩=false:=Bd6 0
     have CI7:World.frozen? _ ⟨D7,(a1:Int).toNat*2+1,none⟩=false:=Bd6 1
     clear Cd6 Bd5 Bd6 Cd7
     replace p10:=eq_true p10
     replace q10:=eq_true q10
     obtain ⟨ce14,B77,Cd8,B78,Cd9⟩:=Kd.R_elem HO0.out z78 (a1:Int) (dT (z1_)) (by have h_:(a1:Int)<((l0.length:Int):Int):=dT (by first | (with_reducible assumption) | assumption);first | exact h_ | (have e_:=(Kd.R_reads' HO0.out).1;omega) | simpa using h_)
     obtain rfl:=k78_openM Cd8
     have CI8:=(Kd.R_seg HO0.out (a1:Int) (dT (z1_)) (by have h_:(a1:Int)<((l0.length:Int):Int):=dT (by first | (with_reducible assumption) | assumption);first | exact h_ | (have e_:=(Kd.R_reads' HO0.out).1;omega) | simpa using h_) (seg:=[.int .i64 ((rd_T78 l0 a3).f0),.int .i64 ((rd_T78 l0 a3).f1)]) (j:=0) B77 B78 (show 2≤2 from by decide) (x':=(⟨(rd_T78 l0 a3).f0,(rd_T78 l0 a3).f1⟩:S78)) (k78_mkM _ _ _ (⟨(rd_T78 l0 a3).f0,(rd_T78 l0 a3).f1⟩:S78) ) (fun _ hk=>hk)).1
     rw [← Cc9.out] at CI8
     have Bt1:=aM CI8
     clear B77 B78 Cd9 Cd8 CI8
     have p11:0≤(a3:Int):=dT (z1_)
     have q11:(a3:Int)<((l0.length:Int):Int):=dT (z1_)
     obtain ⟨ce11,Ce0,Ce1,Bd7,Bd8⟩:=Kd.R_elem Bt1.out z78 (a3:Int) p11 q11
     obtain rfl:=k78_openM Ce1
     have AA9:World.cell? _ ⟨D7,(a3:Int).toNat*2,none⟩=some (.int .i64 ((rd_T78 BR5 a3).f0)):=Bd7 0 _ rfl
     have AB0:World.cell? _ ⟨D7,(a3:Int).toNat*2+1,none⟩=some (.int .i64 ((rd_T78 BR5 a3).f1)):=Bd7 1 _ rfl
     have Bd9:World.frozen? _ ⟨D7,(a3:Int).toNat*2,none⟩=false:=Bd8 0
     have Be0:World.frozen? _ ⟨D7,(a3:Int).toNat*2+1,none⟩=false:=Bd8 1
     clear Ce0 Bd7 Bd8 Ce1
     replace p11:=eq_true p11
     replace q11:=eq_true q11
     obtain ⟨ce15,B79,Ce2,B80,Ce3⟩:=Kd.R_elem Bt1.out z78 (a3:Int) (dT (z1_)) (by have h_:(a3:Int)<((l0.length:Int):Int):=dT (by first | (with_reducible assumption) | assumption);first | exact h_ | (have e_:=(Kd.R_reads' HO0.out).1;omega) | simpa using h_)
     obtain rfl:=k78_openM Ce2
     have CI9:=(Kd.R_seg Bt1.out (a3:Int) (dT (z1_)) (by have h_:(a3:Int)<((l0.length:Int):Int):=dT (by first | (with_reducible assumption) | assumption);first | exact h_ | (have e_:=(Kd.R_reads' HO0.out).1;omega) | simpa using h_) (seg:=[.int .i64 ((rd_T78 l0 a1).f0),.int .i64 ((rd_T78 l0 a1).f1)]) (j:=0) B79 B80 (show 2≤2 from by decide) (x':=(⟨(rd_T78 l0 a1).f0,(rd_T78 l0 a1).f1⟩:S78)) (k78_mkM _ _ _ (⟨(rd_T78 l0 a1).f0,(rd_T78 l0 a1).f1⟩:S78) ) (fun _ hk=>hk)).1
     rw [← Cd0.out] at CI9
     have Ce4:=aM CI9
     clear B79 B80 Ce3 Ce2 CI9
     refine start_ (n:=16) (S:=fun w'=>w'.cell? ⟨D7,((a3).toNat*2),none⟩=some (.int .i64 ((rd_T78 l0 a3).f0))∧w'.cell? ⟨D7,((a3).toNat*2)+1,none⟩=some (.int .i64 ((rd_T78 l0 a3).f1))∧w'.cell? ⟨D7,((a1).toNat*2),none⟩=some (.int .i64 ((rd_T78 l0 a1).f0))∧w'.cell? ⟨D7,((a1).toNat*2)+1,none⟩=some (.int .i64 ((rd_T78 l0 a1).f1))) (ds:=[13,15]) Y0.q0 (by kernel_rfl) rfl rfl ⟨b9,d2,d3,d4⟩ (fun hHeld=>?_);refine with_tabW Y0.tab1 Y0.bits1 (fun HT_ HW_=>?_)
     generalize w.drew=w12 at HO0 HK HB C22 Bt1 Ce4 CI6 CI7 Bd9 Be0 AE0 AE1 AA9 AB0 b9 d2 d3 d4 hHeld ⊢
     have hz11_0:(w12.setCell ⟨D7,(a1:Int).toNat*2,none⟩ (.int .i64 ((rd_T78 l0 a3).f0))).cell? ⟨D7,(a3:Int).toNat*2,none⟩=some (.int .i64 ((rd_T78 BR5 a3).f0)):=by have h_:=AA9;exact ((show ((w12.setCell ⟨D7,(a1:Int).toNat*2,none⟩ (.int .i64 ((rd_T78 l0 a3).f0))).setCell ⟨D7,(a1:Int).toNat*2+1,none⟩ (.int .i64 ((rd_T78 l0 a3).f1))).cell? ⟨D7,(a3:Int).toNat*2,none⟩=(w12.setCell ⟨D7,(a1:Int).toNat*2,none⟩ (.int .i64 ((rd_T78 l0 a3).f0))).cell? ⟨D7,(a3:Int).toNat*2,none⟩ from World.cell?_setCell_other _ _ _ _ (by intro e_;injection e_ with e1_ e2_;omega)).symm.trans h_)
     have hy11_0:w12.frozen? ⟨D7,(a3:Int).toNat*2,none⟩=false:=by have h_:=Bd9;first | exact h_ | simpa only [World.frozen?_setCell] using h_ | simpa [World.setCells] using h_
     have hz11_1:((w12.setCell ⟨D7,(a1:Int).toNat*2,none⟩ (.int .i64 ((rd_T78 l0 a3).f0))).setCell ⟨D7,(a1:Int).toNat*2+1,none⟩ (.int .i64 ((rd_T78 l0 a3).f1))).cell? ⟨D7,(a3:Int).toNat*2+1,none⟩=some (.int .i64 ((rd_T78 BR5 a3).f1)):=by have h_:=AB0;exact h_
     have hy11_1:w12.frozen? ⟨D7,(a3:Int).toNat*2+1,none⟩=false:=by have h_:=Be0;first | exact h_ | simpa only [World.frozen?_setCell] using h_ | simpa [World.setCells] using h_
     refine pu_ 0 14 Y0.q1 HT_.out ?_
     refine pu_ 1 15 Y0.q2 HT_.out ?_
     refine pu_ 2 16 Y0.q3 HT_.out ?_
     refine pu_ 3 17 Y0.q4 HT_.out ?_
     refine pu_ 4 18 Y0.q5 HT_.out ?_
     refine pu_ 5 19 Y0.q6 HT_.out ?_
     refine pu_ 6 20 Y0.q7 HT_.out ?_
     refine pu_ 8 22 Y0.q8 HT_.out ?_
     refine pu_ 9 23 Y0.q9 HT_.out ?_
     refine pu_ 10 24 Y0.q10 HT_.out ?_
     refine tk4_ 7 21 Y0.q11 HT_.out HW_.out hHeld ?_
     refine tk4_ 11 25 Y0.q12 HT_.out HW_.out hHeld ?_
     refine pu_ 12 26 Y0.q13 HT_.out ?_
     refine last_ (i:=13) (N:=none) Y0.q14 rfl rfl (one_of HT_.out (by kernel_rfl)) (by decide) (fun K hK=>?_)
     refine skip_ (w1:=?_) (by rfl) rfl ?_ ?_
     rotate_left
     ·go_simp
      rfl
     refine hK.out _ _ ?_
     clear hK K
     refine pu_ 14 27 Y0.q15 HT_.out ?_
     refine last_ (i:=15) (N:=none) Y0.q16 rfl rfl (one_of HT_.out (by kernel_rfl)) (by decide) (fun K hK=>?_)
     refine skip_ (w1:=?_) (by rfl) rfl ?_ ?_
     rotate_left
     ·go_simp
      rfl
     refine hK.out _ _ ?_
     clear hK K
     refine done_ (done_of HT_.out (by kernel_rfl)) ?_
     try go_wp2
     go_loopg [12] k (fun kq v12 w'=>∃ (D3:Int),v12 = .int .i64 D3∧Aside0 (Y0.l0 kq E1 a1 D3 (wrap64 (a2-1))=some (r1,r2,r3))∧Aside0 (kq≤k)∧Aside0 (Kd.R k78 78 w' w0.heap.size (fun k_=>(P0_ k_∨w.heap.size≤k_)) (.slice (some ⟨D7,0,none⟩) l0.length AP2) E1)∧Aside0 (Kept w w' (fun k_=>P0_ k_))∧Aside0 (Below w0.heap.size w0 w'))
     case atStart=>exact ⟨(wrap64 (a1+1)),(z2_),H',⟨Nat.le_refl _⟩,⟨z0_ Ce4.out⟩,⟨z43_ HK.out Aj0.out⟩,⟨z44_ HB.out Bd4.out⟩⟩
     case round=>as_aux_lemma =>
      clear H'
      try clear c1
      try clear p1
      try clear q1
      try clear hx1
      try clear p2
      try clear q2
      try clear hx2
      try clear c6
      try clear c6b0
      try clear p6
      try clear c7
      try clear c7b0
      try clear c8
      try clear c8b0
      try clear c9
      try clear c9b0
      try clear c10
      try clear p10
      try clear q10
      try clear Aq9
      try clear Ay8
      try clear c11
      try clear p11
      try clear q11
      try clear Ay9
      try clear Az0
      try clear c14
      try clear c15
      try clear AE0
      try clear AE1
      try clear AA9
      try clear AB0
      try clear b9
      try clear d2
      try clear d3
      try clear d4
      try clear p10
      try clear p11
      try clear Ac5
      try clear Ac7
      try clear q10
      try clear q11
      try clear Ac6
      try clear Ac8
      obtain ⟨D3,rfl,HA,HK1,C2,HK,HB⟩:=hrel
      have AA2:=(Kd.R_reads' C2.out).1
      rw [AA2] at C2
      (try simp only [AA2])
      cases gk with
      | zero=>exact absurd HA.out (by simp [Y0.l0])
      | succ k1 =>
       have H:=HA.out
       clear HA
       simp only [Y0.l0] at H
       have CJ0:=aM H
       clear H
       go_upto_region 3 with (fail)
       go_cut [47] (fun v47 wc=>∃ (kq:Nat) (Ar9:Bool),v47 = .bool Ar9∧Aside0 (Y0.j1 kq E1 a1 D3 (wrap64 (a2-1)) Ar9=some (r1,r2,r3))∧Aside0 (kq≤k1)∧Aside0 (Kd.R k78 78 wc w0.heap.size (fun k_=>(P0_ k_∨w.heap.size≤k_)) (.slice (some ⟨D7,0,none⟩) E1.length AP2) E1)∧Aside0 (Kept w wc (fun k_=>P0_ k_))∧Aside0 (Below w0.heap.size w0 wc))
       case first=>as_aux_lemma =>
        have H:=CJ0.out
        clear CJ0
        by_cases c17:D3≤(wrap64 (a2-1))
        ·rw [if_pos c17] at H
         have c17b0:decide (D3≤(wrap64 (a2-1)))=true:=dE c17
         clear c17
         (first | rw [c17b0] | (simp only [i64_w,i32_w];rw [c17b0]) | skip)
         by_cases c18:0≤D3
         ·rw [if_pos c18] at H
          have c18b0:decide (0≤D3)=true:=dE c18
          clear c18
          by_cases c19:D3<(E1.length:Int)
          ·rw [if_pos c19] at H
           have c19b0:decide (D3<(E1.length:Int))=true:=dE c19
           clear c19
           by_cases c20:0≤a1
           ·rw [if_pos c20] at H
            have c20b0:decide (0≤a1)=true:=dE c20
            clear c20
            by_cases c21:a1<(E1.length:Int)
            ·rw [if_pos c21] at H
             have c21b0:decide (a1<(E1.length:Int))=true:=dE c21
             clear c21
             replace H:=bS H
             obtain ⟨Bd0,Az1,H⟩:=H
             replace H:(Y0.j1 k1 E1 a1 D3 (wrap64 (a2-1)) (decide (Bd0<0)))=some (r1,r2,r3):=H
             have A22:=aM Az1
             clear Az1
             have H':=aM H
             clear H
             try go_wp2
             have n0_:=aM (Kd.R_drew C2.out)
             have n1_:=aM (Kept.drew HK.out)
             have n2_:=aM (below_drew1 HB.out)
             clear C2
             clear HK
             clear HB
             have C2:=n0_
             have HK:=n1_
             have HB:=n2_
             clear n0_ n1_ n2_
             have Aj1:0≤(D3:Int):=dT (z1_)
             have Aj2:D3<(E1.length:Int):=dT (z1_)
             obtain ⟨Ce5,e280,X8,X9⟩:=at_T78 (Kd.R_reads' C2.out).2.2 D3 Aj1 Aj2
             obtain rfl:(⟨D7,0,none⟩:Addr)=Ce5:=(by injection e280)
             (first | simp only [add_plain] at X8 | simp only [add_at] at X8 | simp only [Addr.add,Nat.zero_add] at X8 | skip)
             (first | simp only [add_plain] at X9 | simp only [add_at] at X9 | simp only [Addr.add,Nat.zero_add] at X9 | skip)
             replace Aj1:=eq_true Aj1
             replace Aj2:=eq_true Aj2
             have Aj3:0≤(a1:Int):=dT (z1_)
             have Aj4:a1<(E1.length:Int):=dT (z1_)
             obtain ⟨Ce6,C23,Z0,Z1⟩:=at_T78 (Kd.R_reads' C2.out).2.2 a1 Aj3 Aj4
             obtain rfl:(⟨D7,0,none⟩:Addr)=Ce6:=(by injection C23)
             (first | simp only [add_plain] at Z0 | simp only [add_at] at Z0 | simp only [Addr.add,Nat.zero_add] at Z0 | skip)
             (first | simp only [add_plain] at Z1 | simp only [add_at] at Z1 | simp only [Addr.add,Nat.zero_add] at Z1 | skip)
             replace Aj3:=eq_true Aj3
             replace Aj4:=eq_true Aj4
             refine start_ (n:=16) (S:=fun w'=>w'.cell? ⟨D7,(D3).toNat*2,none⟩=some (.int .i64 ((rd_T78 E1 D3).f0))∧w'.cell? ⟨D7,(D3).toNat*2+1,none⟩=some (.int .i64 ((rd_T78 E1 D3).f1))∧w'.cell? ⟨D7,(a1).toNat*2,none⟩=some (.int .i64 ((rd_T78 E1 a1).f0))∧w'.cell? ⟨D7,(a1).toNat*2+1,none⟩=some (.int .i64 ((rd_T78 E1 a1).f1))) (ds:=[]) Y0.q0 (by kernel_rfl) rfl rfl ⟨X8,X9,Z0,Z1⟩ (fun hHeld=>?_);refine with_tabW Y0.tab3 Y0.bits3 (fun HT_ HW_=>?_)
             generalize wr.drew=w23 at C2 HK HB X8 X9 Z0 Z1 hHeld ⊢
             refine pu_ 0 32 Y0.q1 HT_.out ?_
             refine pu_ 1 33 Y0.q2 HT_.out ?_
             refine pu_ 2 34 Y0.q3 HT_.out ?_
             refine pu_ 3 35 Y0.q4 HT_.out ?_
             refine pu_ 4 36 Y0.q5 HT_.out ?_
             refine pu_ 5 37 Y0.q6 HT_.out ?_
             refine pu_ 6 38 Y0.q7 HT_.out ?_
             refine pu_ 7 39 Y0.q17 HT_.out ?_
             refine pu_ 9 41 Y0.q18 HT_.out ?_
             refine pu_ 10 42 Y0.q19 HT_.out ?_
             refine pu_ 11 43 Y0.q20 HT_.out ?_
             refine tk4_ 8 40 Y0.q12 HT_.out HW_.out hHeld ?_
             refine tk4_ 12 44 Y0.q13 HT_.out HW_.out hHeld ?_
             refine o1_ 13 45 Y0.q14 HT_.out (fun K hK=>?_)
             refine goesD_ Tryz.func72 (by kernel_rfl) rfl #[.agg #[.int .i64 ((rd_T78 E1 D3).f0),.int .i64 ((rd_T78 E1 D3).f1)],.agg #[.int .i64 ((rd_T78 E1 a1).f0),.int .i64 ((rd_T78 E1 a1).f1)]] (by rfl) rfl rfl (by rfl) (z45_) ?_
             with_reducible refine (Y38.calls k1 ((rd_T78 E1 D3).f0) ((rd_T78 E1 D3).f1) ((rd_T78 E1 a1).f0) ((rd_T78 E1 a1).f1) Bd0 _ A22.out).mono ?_
             rintro e w24 ⟨rfl,hb⟩
             have AQ9:=(hb.cell (World.block_lt_of_cell? _ _ (hHeld.1))).trans (hHeld.1)
             have AR0:=(hb.cell (World.block_lt_of_cell? _ _ (hHeld.2.1))).trans (hHeld.2.1)
             have AR1:=(hb.cell (World.block_lt_of_cell? _ _ (hHeld.2.2.1))).trans (hHeld.2.2.1)
             have AR2:=(hb.cell (World.block_lt_of_cell? _ _ (hHeld.2.2.2))).trans (hHeld.2.2.2)
             refine ⟨_,rfl,?_⟩
             have n0_:=aM (Kd.R_below (z0_ C2.out) hb)
             have n1_:=aM (Kept.below (S:=(fun k_=>P0_ k_)) (z11_ HK.out) hb)
             have n2_:=aM (below_step (z6_ HB.out) hb)
             clear C2
             clear HK
             clear HB
             have C2:=n0_
             have HK:=n1_
             have HB:=n2_
             clear n0_ n1_ n2_
             (try clear hb)
             refine hK.out _ _ ⟨AQ9,AR0,AR1,AR2⟩ (fun hHeld=>?_)
             clear hK K
             refine nm_ 45 ?_
             refine pu_ 14 46 Y0.q15 HT_.out ?_
             refine pu_ 15 47 Y0.q16 HT_.out ?_
             refine done_ (done_of HT_.out (by kernel_rfl)) ?_
             try go_wp2
             go_meet
             case rel=>exact ⟨_,(decide (Bd0<0)),(z2_),H',⟨z21_ HK1.out⟩,⟨z32_ C2.out⟩,⟨z11_ HK.out⟩,⟨z6_ HB.out⟩⟩
            ·rw [if_neg c21] at H
             exact nO H
           ·rw [if_neg c20] at H
            exact nO H
          ·rw [if_neg c19] at H
           exact nO H
         ·rw [if_neg c18] at H
          exact nO H
        ·rw [if_neg c17] at H
         have c17b0:decide (D3≤(wrap64 (a2-1)))=false:=dF c17
         clear c17
         (first | rw [c17b0] | (simp only [i64_w,i32_w];rw [c17b0]) | skip)
         have H':=aM H
         clear H
         try go_wp2
         have n0_:=aM (Kd.R_drew C2.out)
         have n1_:=aM (Kept.drew HK.out)
         have n2_:=aM (below_drew1 HB.out)
         clear C2
         clear HK
         clear HB
         have C2:=n0_
         have HK:=n1_
         have HB:=n2_
         clear n0_ n1_ n2_
         refine start_ (n:=16) (S:=fun w'=>True) (ds:=[]) Y0.q0 (by kernel_rfl) rfl rfl trivial (fun hHeld=>?_);refine with_tabW Y0.tab3 Y0.bits3 (fun HT_ HW_=>?_)
         generalize wr.drew=w25 at C2 HK HB hHeld ⊢
         refine pu_ 0 32 Y0.q1 HT_.out ?_
         refine pu_ 1 33 Y0.q2 HT_.out ?_
         refine pu_ 2 34 Y0.q3 HT_.out ?_
         refine pu_ 3 35 Y0.q4 HT_.out ?_
         refine pn_ 4 36 Y0.q5 HT_.out ?_
         refine pn_ 5 37 Y0.q6 HT_.out ?_
         refine pn_ 6 38 Y0.q7 HT_.out ?_
         refine pn_ 7 39 Y0.q17 HT_.out ?_
         refine pn_ 8 40 Y0.q21 HT_.out ?_
         refine pn_ 9 41 Y0.q22 HT_.out ?_
         refine pn_ 10 42 Y0.q11 HT_.out ?_
         refine pn_ 11 43 Y0.q12 HT_.out ?_
         refine pn_ 12 44 Y0.q13 HT_.out ?_
         refine pn_ 13 45 Y0.q14 HT_.out ?_
         refine pn_ 14 46 Y0.q15 HT_.out ?_
         refine pu_ 15 47 Y0.q16 HT_.out ?_
         refine done_ (done_of HT_.out (by kernel_rfl)) ?_
         try go_wp2
         go_meet
         case rel=>exact ⟨_,(false),(z2_),H',⟨z21_ HK1.out⟩,⟨z32_ C2.out⟩,⟨z11_ HK.out⟩,⟨z6_ HB.out⟩⟩
       case rest=>as_aux_lemma =>
        clear CJ0
        try clear c1
        try clear p1
        try clear q1
        try clear hx1
        try clear c2
        try clear p2
        try clear q2
        try clear hx2
        try clear c6
        try clear c6b0
        try clear p6
        try clear c7
        try clear c7b0
        try clear c8
        try clear c8b0
        try clear c9
        try clear c9b0
        try clear c10
        try clear p10
        try clear q10
        try clear Aq9
        try clear Ay8
        try clear c11
        try clear p11
        try clear q11
        try clear Ay9
        try clear Az0
        try clear c14
        try clear c15
        try clear c17
        try clear c17b0
        try clear c18
        try clear c18b0
        try clear c19
        try clear c19b0
        try clear c20
        try clear c20b0
        try clear c21
        try clear c21b0
        try clear AE0
        try clear AE1
        try clear AA9
        try clear AB0
        try clear b9
        try clear d2
        try clear d3
        try clear d4
        try clear X8
        try clear X9
        try clear Z0
        try clear Z1
        try clear p1
        try clear p10
        try clear p11
        try clear p2
        try clear Ac5
        try clear Ac7
        try clear Aj1
        try clear Aj3
        try clear p6
        try clear q1
        try clear q10
        try clear q11
        try clear q2
        try clear Ac6
        try clear Ac8
        try clear Aj2
        try clear Aj4
        obtain ⟨kq,Ar9,rfl,HA,AP3,C2,HK,HB⟩:=hcut
        cases kq with
        | zero=>exact absurd HA.out (by simp [Y0.j1])
        | succ Be1 =>
         have H:=HA.out
         clear HA
         simp only [Y0.j1] at H
         by_cases c26:Ar9=true
         ·subst c26
          have H1:(Y0.l0 Be1 E1 a1 (wrap64 (D3+1)) (wrap64 (a2-1)))=some (r1,r2,r3):=by rw [if_pos rfl] at H;exact H
          clear H
          have H:=H1
          clear H1
          have H':=aM H
          clear H
          go_wp2
          (try simp only [← AA2])
          go_roundg Be1
          case measure=>have:=HK1.out;have:=AP3.out;omega
          case rel=>exact ⟨(wrap64 (D3+1)),(z2_),H',⟨z14_ HK1.out AP3.out⟩,⟨z32_ C2.out⟩,⟨z11_ HK.out⟩,⟨z6_ HB.out⟩⟩
         ·replace c26:=Bool.eq_false_iff.mpr c26
          subst c26
          have H1:(Y0.l1 Be1 E1 a1 D3 (wrap64 (a2-1)))=some (r1,r2,r3):=by rw [if_neg (show ¬ (false=true) by decide)] at H;exact H
          clear H
          have H:=H1
          clear H1
          have H':=aM H
          clear H
          go_wp2
          go_loopg [13] Be1 (fun kq v13 w'=>∃ (C9:Int),v13 = .int .i64 C9∧Aside0 (Y0.l1 kq E1 a1 D3 C9=some (r1,r2,r3))∧Aside0 (kq≤Be1)∧Aside0 (Kd.R k78 78 w' w0.heap.size (fun k_=>(P0_ k_∨w.heap.size≤k_)) (.slice (some ⟨D7,0,none⟩) E1.length AP2) E1)∧Aside0 (Kept w w' (fun k_=>P0_ k_))∧Aside0 (Below w0.heap.size w0 w'))
          case atStart=>exact ⟨((wrap64 (a2-1))),(z2_),H',⟨Nat.le_refl _⟩,⟨z32_ C2.out⟩,⟨z11_ HK.out⟩,⟨z6_ HB.out⟩⟩
          case round=>as_aux_lemma =>
           clear H'
           try clear c1
           try clear p1
           try clear q1
           try clear hx1
           try clear c2
           try clear p2
           try clear q2
           try clear hx2
           try clear c6
           try clear c6b0
           try clear p6
           try clear c7
           try clear c7b0
           try clear c8
           try clear c8b0
           try clear c9
           try clear c9b0
           try clear c10
           try clear p10
           try clear q10
           try clear Aq9
           try clear Ay8
           try clear c11
           try clear p11
           try clear q11
           try clear Ay9
           try clear Az0
           try clear c14
           try clear c15
           try clear c17
           try clear c17b0
           try clear c18
           try clear c18b0
           try clear c19
           try clear c19b0
           try clear c20
           try clear c20b0
           try clear c21
           try clear c21b0
           try clear c26
           try clear AE0
           try clear AE1
           try clear AA9
           try clear AB0
           try clear b9
           try clear d2
           try clear d3
           try clear d4
           try clear X8
           try clear X9
           try clear Z0
           try clear Z1
           try clear p1
           try clear p10
           try clear p11
           try clear p2
           try clear Ac5
           try clear Ac7
           try clear Aj1
           try clear Aj3
           try clear p6
           try clear q1
           try clear q10
           try clear q11
           try clear q2
           try clear Ac6
           try clear Ac8
           try clear Aj2
           try clear Aj4
           obtain ⟨C9,rfl,HA,HK3,C2,HK,HB⟩:=hrel
           cases gk with
           | zero=>exact absurd HA.out (by simp [Y0.l1])
           | succ k3 =>
            have H:=HA.out
            clear HA
            simp only [Y0.l1] at H
            have CJ1:=aM H
            clear H
            go_upto_region 5 with (fail)
            go_cut [66] (fun v66 wc=>∃ (kq:Nat) (As0:Bool),v66 = .bool As0∧Aside0 (Y0.j3 kq E1 a1 D3 C9 As0=some (r1,r2,r3))∧Aside0 (kq≤k3)∧Aside0 (Kd.R k78 78 wc w0.heap.size (fun k_=>(P0_ k_∨w.heap.size≤k_)) (.slice (some ⟨D7,0,none⟩) E1.length AP2) E1)∧Aside0 (Kept w wc (fun k_=>P0_ k_))∧Aside0 (Below w0.heap.size w0 wc))
            case first=>as_aux_lemma =>
             have H:=CJ1.out
             clear CJ1
             by_cases c28:D3≤C9
             ·rw [if_pos c28] at H
              have c28b0:decide (D3≤C9)=true:=dE c28
              clear c28
              (first | rw [c28b0] | (simp only [i64_w,i32_w];rw [c28b0]) | skip)
              by_cases c29:0≤C9
              ·rw [if_pos c29] at H
               have c29b0:decide (0≤C9)=true:=dE c29
               clear c29
               by_cases c30:C9<(E1.length:Int)
               ·rw [if_pos c30] at H
                have c30b0:decide (C9<(E1.length:Int))=true:=dE c30
                clear c30
                by_cases c31:0≤a1
                ·rw [if_pos c31] at H
                 have c31b0:decide (0≤a1)=true:=dE c31
                 clear c31
                 by_cases c32:a1<(E1.length:Int)
                 ·rw [if_pos c32] at H
                  have c32b0:decide (a1<(E1.length:Int))=true:=dE c32
                  clear c32
                  replace H:=bS H
                  obtain ⟨Bd1,Ce7,H⟩:=H
                  replace H:(Y0.j3 k3 E1 a1 D3 C9 (!(decide (Bd1<0))))=some (r1,r2,r3):=H
                  have A33:=aM Ce7
                  clear Ce7
                  have H':=aM H
                  clear H
                  try go_wp2
                  have n0_:=aM (Kd.R_drew C2.out)
                  have n1_:=aM (Kept.drew HK.out)
                  have n2_:=aM (below_drew1 HB.out)
                  clear C2
                  clear HK
                  clear HB
                  have C2:=n0_
                  have HK:=n1_
                  have HB:=n2_
                  clear n0_ n1_ n2_
                  have As1:0≤(C9:Int):=dT (z1_)
                  have As2:C9<(E1.length:Int):=dT (z1_)
                  obtain ⟨Ce8,e283,g0,g6⟩:=at_T78 (Kd.R_reads' C2.out).2.2 C9 As1 As2
                  obtain rfl:(⟨D7,0,none⟩:Addr)=Ce8:=(by injection e283)
                  (first | simp only [add_plain] at g0 | simp only [add_at] at g0 | simp only [Addr.add,Nat.zero_add] at g0 | skip)
                  (first | simp only [add_plain] at g6 | simp only [add_at] at g6 | simp only [Addr.add,Nat.zero_add] at g6 | skip)
                  replace As1:=eq_true As1
                  replace As2:=eq_true As2
                  have As3:0≤(a1:Int):=dT (z1_)
                  have As4:a1<(E1.length:Int):=dT (z1_)
                  obtain ⟨Ce9,e284,g7,g8⟩:=at_T78 (Kd.R_reads' C2.out).2.2 a1 As3 As4
                  obtain rfl:(⟨D7,0,none⟩:Addr)=Ce9:=(by injection e284)
                  (first | simp only [add_plain] at g7 | simp only [add_at] at g7 | simp only [Addr.add,Nat.zero_add] at g7 | skip)
                  (first | simp only [add_plain] at g8 | simp only [add_at] at g8 | simp only [Addr.add,Nat.zero_add] at g8 | skip)
                  replace As3:=eq_true As3
                  replace As4:=eq_true As4
                  refine start_ (n:=17) (S:=fun w'=>w'.cell? ⟨D7,(C9).toNat*2,none⟩=some (.int .i64 ((rd_T78 E1 C9).f0))∧w'.cell? ⟨D7,(C9).toNat*2+1,none⟩=some (.int .i64 ((rd_T78 E1 C9).f1))∧w'.cell? ⟨D7,(a1).toNat*2,none⟩=some (.int .i64 ((rd_T78 E1 a1).f0))∧w'.cell? ⟨D7,(a1).toNat*2+1,none⟩=some (.int .i64 ((rd_T78 E1 a1).f1))) (ds:=[]) Y0.q23 (by kernel_rfl) rfl rfl ⟨g0,g6,g7,g8⟩ (fun hHeld=>?_);refine with_tabW Y0.tab5 Y0.bits5 (fun HT_ HW_=>?_)
                  generalize wr.drew=w34 at C2 HK HB g0 g6 g7 g8 hHeld ⊢
                  refine pu_ 0 50 Y0.q24 HT_.out ?_
                  refine pu_ 1 51 Y0.q25 HT_.out ?_
                  refine pu_ 2 52 Y0.q26 HT_.out ?_
                  refine pu_ 3 53 Y0.q27 HT_.out ?_
                  refine pu_ 4 54 Y0.q28 HT_.out ?_
                  refine pu_ 5 55 Y0.q29 HT_.out ?_
                  refine pu_ 6 56 Y0.q30 HT_.out ?_
                  refine pu_ 7 57 Y0.q31 HT_.out ?_
                  refine pu_ 9 59 Y0.q32 HT_.out ?_
                  refine pu_ 10 60 Y0.q33 HT_.out ?_
                  refine pu_ 11 61 Y0.q34 HT_.out ?_
                  refine tk4_ 8 58 Y0.q35 HT_.out HW_.out hHeld ?_
                  refine tk4_ 12 62 Y0.q36 HT_.out HW_.out hHeld ?_
                  refine o1_ 13 63 Y0.q37 HT_.out (fun K hK=>?_)
                  refine goesD_ Tryz.func72 (by kernel_rfl) rfl #[.agg #[.int .i64 ((rd_T78 E1 C9).f0),.int .i64 ((rd_T78 E1 C9).f1)],.agg #[.int .i64 ((rd_T78 E1 a1).f0),.int .i64 ((rd_T78 E1 a1).f1)]] (by rfl) rfl rfl (by rfl) (z45_) ?_
                  with_reducible refine (Y38.calls k3 ((rd_T78 E1 C9).f0) ((rd_T78 E1 C9).f1) ((rd_T78 E1 a1).f0) ((rd_T78 E1 a1).f1) Bd1 _ A33.out).mono ?_
                  rintro e w35 ⟨rfl,hb⟩
                  have AQ9:=(hb.cell (World.block_lt_of_cell? _ _ (hHeld.1))).trans (hHeld.1)
                  have AR0:=(hb.cell (World.block_lt_of_cell? _ _ (hHeld.2.1))).trans (hHeld.2.1)
                  have AR1:=(hb.cell (World.block_lt_of_cell? _ _ (hHeld.2.2.1))).trans (hHeld.2.2.1)
                  have AR2:=(hb.cell (World.block_lt_of_cell? _ _ (hHeld.2.2.2))).trans (hHeld.2.2.2)
                  refine ⟨_,rfl,?_⟩
                  have n0_:=aM (Kd.R_below (z0_ C2.out) hb)
                  have n1_:=aM (Kept.below (S:=(fun k_=>P0_ k_)) (z11_ HK.out) hb)
                  have n2_:=aM (below_step (z6_ HB.out) hb)
                  clear C2
                  clear HK
                  clear HB
                  have C2:=n0_
                  have HK:=n1_
                  have HB:=n2_
                  clear n0_ n1_ n2_
                  (try clear hb)
                  refine hK.out _ _ ⟨AQ9,AR0,AR1,AR2⟩ (fun hHeld=>?_)
                  clear hK K
                  refine nm_ 63 ?_
                  refine pu_ 14 64 Y0.q38 HT_.out ?_
                  refine pu_ 15 65 Y0.q39 HT_.out ?_
                  refine pu_ 16 66 Y0.q40 HT_.out ?_
                  refine done_ (done_of HT_.out (by kernel_rfl)) ?_
                  try go_wp2
                  go_meet
                  case rel=>exact ⟨_,(!(decide (Bd1<0))),(z2_),H',⟨z33_ HK1.out AP3.out HK3.out⟩,⟨z32_ C2.out⟩,⟨z11_ HK.out⟩,⟨z6_ HB.out⟩⟩
                 ·rw [if_neg c32] at H
                  exact nO H
                ·rw [if_neg c31] at H
                 exact nO H
               ·rw [if_neg c30] at H
                exact nO H
              ·rw [if_neg c29] at H
               exact nO H
             ·rw [if_neg c28] at H
              have c28b0:decide (D3≤C9)=false:=dF c28
              clear c28
              (first | rw [c28b0] | (simp only [i64_w,i32_w];rw [c28b0]) | skip)
              have H':=aM H
              clear H
              try go_wp2
              have n0_:=aM (Kd.R_drew C2.out)
              have n1_:=aM (Kept.drew HK.out)
              have n2_:=aM (below_drew1 HB.out)
              clear C2
              clear HK
              clear HB
              have C2:=n0_
              have HK:=n1_
              have HB:=n2_
              clear n0_ n1_ n2_
              refine start_ (n:=17) (S:=fun w'=>True) (ds:=[]) Y0.q23 (by kernel_rfl) rfl rfl trivial (fun hHeld=>?_);refine with_tabW Y0.tab5 Y0.bits5 (fun HT_ HW_=>?_)
              generalize wr.drew=w36 at C2 HK HB hHeld ⊢
              refine pu_ 0 50 Y0.q24 HT_.out ?_
              refine pu_ 1 51 Y0.q25 HT_.out ?_
              refine pu_ 2 52 Y0.q26 HT_.out ?_
              refine pu_ 3 53 Y0.q27 HT_.out ?_
              refine pn_ 4 54 Y0.q28 HT_.out ?_
              refine pn_ 5 55 Y0.q29 HT_.out ?_
              refine pn_ 6 56 Y0.q30 HT_.out ?_
              refine pn_ 7 57 Y0.q31 HT_.out ?_
              refine pn_ 8 58 Y0.q41 HT_.out ?_
              refine pn_ 9 59 Y0.q42 HT_.out ?_
              refine pn_ 10 60 Y0.q43 HT_.out ?_
              refine pn_ 11 61 Y0.q35 HT_.out ?_
              refine pn_ 12 62 Y0.q36 HT_.out ?_
              refine pn_ 13 63 Y0.q37 HT_.out ?_
              refine pn_ 14 64 Y0.q38 HT_.out ?_
              refine pn_ 15 65 Y0.q39 HT_.out ?_
              refine pu_ 16 66 Y0.q40 HT_.out ?_
              refine done_ (done_of HT_.out (by kernel_rfl)) ?_
              try go_wp2
              go_meet
              case rel=>exact ⟨_,(false),(z2_),H',⟨z33_ HK1.out AP3.out HK3.out⟩,⟨z32_ C2.out⟩,⟨z11_ HK.out⟩,⟨z6_ HB.out⟩⟩
            case rest=>as_aux_lemma =>
             clear CJ1
             try clear c1
             try clear p1
             try clear q1
             try clear hx1
             try clear c2
             try clear p2
             try clear q2
             try clear hx2
             try clear c3
             try clear c6
             try clear c6b0
             try clear p6
             try clear c7
             try clear c7b0
             try clear c8
             try clear c8b0
             try clear c9
             try clear c9b0
             try clear c10
             try clear p10
             try clear q10
             try clear Aq9
             try clear Ay8
             try clear c11
             try clear p11
             try clear q11
             try clear Ay9
             try clear Az0
             try clear c14
             try clear c15
             try clear c17
             try clear c17b0
             try clear c18
             try clear c18b0
             try clear c19
             try clear c19b0
             try clear c20
             try clear c20b0
             try clear c21
             try clear c21b0
             try clear c26
             try clear p27
             try clear q27
             try clear hx27
             try clear c28
             try clear c28b0
             try clear p28
             try clear q28
             try clear hx28
             try clear c29
             try clear c29b0
             try clear c30
             try clear c30b0
             try clear c31
             try clear c31b0
             try clear c32
             try clear c32b0
             try clear AE0
             try clear AE1
             try clear AA9
             try clear AB0
             try clear b9
             try clear d2
             try clear d3
             try clear d4
             try clear X8
             try clear X9
             try clear Z0
             try clear Z1
             try clear g0
             try clear g6
             try clear g7
             try clear g8
             try clear p1
             try clear p10
             try clear p11
             try clear p2
             try clear Ac5
             try clear Ac7
             try clear Aj1
             try clear Aj3
             try clear As1
             try clear As3
             try clear p6
             try clear q1
             try clear q10
             try clear q11
             try clear q2
             try clear Ac6
             try clear Ac8
             try clear Aj2
             try clear Aj4
             try clear As2
             try clear As4
             obtain ⟨kq,As0,rfl,HA,Ac9,C2,HK,HB⟩:=hcut
             cases kq with
             | zero=>exact absurd HA.out (by simp [Y0.j3])
             | succ BD3 =>
              have H:=HA.out
              clear HA
              simp only [Y0.j3] at H
              by_cases c37:As0=true
              ·subst c37
               have H1:(Y0.l1 BD3 E1 a1 D3 (wrap64 (C9-1)))=some (r1,r2,r3):=by rw [if_pos rfl] at H;exact H
               clear H
               have H:=H1
               clear H1
               have H':=aM H
               clear H
               go_wp2
               go_roundg BD3
               case measure=>have:=HK1.out;have:=AP3.out;have:=HK3.out;have:=Ac9.out;omega
               case rel=>exact ⟨(wrap64 (C9-1)),(z2_),H',⟨by have:=HK1.out;have:=AP3.out;have:=HK3.out;have:=Ac9.out;omega⟩,⟨z32_ C2.out⟩,⟨z11_ HK.out⟩,⟨z6_ HB.out⟩⟩
              ·replace c37:=Bool.eq_false_iff.mpr c37
               subst c37
               have H1:(if D3>C9 then (if 0≤a1 then (if a1<(E1.length:Int) then (if 0≤C9 then (if C9<(E1.length:Int) then (some (C9,true,((E1.set (C9:Int).toNat (⟨(rd_T78 E1 a1).f0,(rd_T78 E1 a1).f1⟩:S78)).set (a1:Int).toNat (⟨(rd_T78 E1 C9).f0,(rd_T78 E1 C9).f1⟩:S78)))) else (none)) else (none)) else (none)) else (none)) else (if 0≤C9 then (if C9<(E1.length:Int) then (if 0≤D3 then (if D3<(E1.length:Int) then (Y0.l2 BD3 ((E1.set (D3:Int).toNat (⟨(rd_T78 E1 C9).f0,(rd_T78 E1 C9).f1⟩:S78)).set (C9:Int).toNat (⟨(rd_T78 E1 D3).f0,(rd_T78 E1 D3).f1⟩:S78)) a1 (wrap64 (D3+1)) (wrap64 (C9-1))) else (none)) else (none)) else (none)) else (none)))=some (r1,r2,r3):=by rw [if_neg (show ¬ (false=true) by decide)] at H;exact H
               clear H
               have H:=H1
               clear H1
               by_cases c38:D3>C9
               ·rw [if_pos c38] at H
                have c38b0:decide (C9<D3)=true:=dE c38
                clear c38
                by_cases c39:0≤a1
                ·rw [if_pos c39] at H
                 have c39b0:decide (0≤a1)=true:=dE c39
                 clear c39
                 by_cases c40:a1<(E1.length:Int)
                 ·rw [if_pos c40] at H
                  have c40b0:decide (a1<(E1.length:Int))=true:=dE c40
                  clear c40
                  by_cases c41:0≤C9
                  ·rw [if_pos c41] at H
                   have c41b0:decide (0≤C9)=true:=dE c41
                   clear c41
                   by_cases c42:C9<(E1.length:Int)
                   ·rw [if_pos c42] at H
                    have c42b0:decide (C9<(E1.length:Int))=true:=dE c42
                    clear c42
                    obtain ⟨BR6,Az2⟩:∃ y_:List (S78),y_=(E1.set (C9:Int).toNat (⟨(rd_T78 E1 a1).f0,(rd_T78 E1 a1).f1⟩:S78)):=⟨_,rfl⟩
                    replace H:(some (C9,true,(BR6.set (a1:Int).toNat (⟨(rd_T78 E1 C9).f0,(rd_T78 E1 C9).f1⟩:S78))))=some (r1,r2,r3):=by first | (rw [Az2];with_reducible exact H) | (have H2_:=(Option.bind_some _ _).symm.trans H;rw [Az2];with_reducible exact H2_) | (have H2_:=(Option.bind_some _ _).symm.trans H;with_reducible exact H2_) | with_reducible exact H | (rw [Az2];exact H) | exact H
                    have Cf0:=aM Az2
                    clear Az2
                    obtain ⟨C24,Az3⟩:∃ y_:List (S78),y_=(BR6.set (a1:Int).toNat (⟨(rd_T78 E1 C9).f0,(rd_T78 E1 C9).f1⟩:S78)):=⟨_,rfl⟩
                    replace H:(some (C9,true,C24))=some (r1,r2,r3):=by first | (rw [Az3];with_reducible exact H) | (have H2_:=(Option.bind_some _ _).symm.trans H;rw [Az3];with_reducible exact H2_) | (have H2_:=(Option.bind_some _ _).symm.trans H;with_reducible exact H2_) | with_reducible exact H | (rw [Az3];exact H) | exact H
                    have Cf1:=aM Az3
                    clear Az3
                    simp only [Option.some.injEq,Prod.mk.injEq] at H
                    obtain ⟨rfl,rfl,rfl⟩:=H
                    try go_wp2
                    have n0_:=aM (Kd.R_drew C2.out)
                    have n1_:=aM (Kept.drew HK.out)
                    have n2_:=aM (below_drew1 HB.out)
                    clear C2
                    clear HK
                    clear HB
                    have C2:=n0_
                    have HK:=n1_
                    have HB:=n2_
                    clear n0_ n1_ n2_
                    have Az4:0≤(a1:Int):=dT (z1_)
                    have Az5:a1<(E1.length:Int):=dT (z1_)
                    obtain ⟨Cf2,C25,o5,o6⟩:=at_T78 (Kd.R_reads' C2.out).2.2 a1 Az4 Az5
                    obtain rfl:(⟨D7,0,none⟩:Addr)=Cf2:=(by injection C25)
                    (first | simp only [add_plain] at o5 | simp only [add_at] at o5 | simp only [Addr.add,Nat.zero_add] at o5 | skip)
                    (first | simp only [add_plain] at o6 | simp only [add_at] at o6 | simp only [Addr.add,Nat.zero_add] at o6 | skip)
                    replace Az4:=eq_true Az4
                    replace Az5:=eq_true Az5
                    have Az6:0≤(C9:Int):=dT (z1_)
                    have Az7:C9<(E1.length:Int):=dT (z1_)
                    obtain ⟨Cf3,e287,o7,o8⟩:=at_T78 (Kd.R_reads' C2.out).2.2 C9 Az6 Az7
                    obtain rfl:(⟨D7,0,none⟩:Addr)=Cf3:=(by injection e287)
                    (first | simp only [add_plain] at o7 | simp only [add_at] at o7 | simp only [Addr.add,Nat.zero_add] at o7 | skip)
                    (first | simp only [add_plain] at o8 | simp only [add_at] at o8 | simp only [Addr.add,Nat.zero_add] at o8 | skip)
                    replace Az6:=eq_true Az6
                    replace Az7:=eq_true Az7
                    have p43:0≤(C9:Int):=dT (z1_)
                    have q43:(C9:Int)<((E1.length:Int):Int):=dT (z1_)
                    obtain ⟨ce43,Cf4,Cf5,Be2,Be3⟩:=Kd.R_elem C2.out z78 (C9:Int) p43 q43
                    obtain rfl:=k78_openM Cf5
                    have AZ3:World.cell? _ ⟨D7,(C9:Int).toNat*2,none⟩=some (.int .i64 ((rd_T78 E1 C9).f0)):=Be2 0 _ rfl
                    have AZ4:World.cell? _ ⟨D7,(C9:Int).toNat*2+1,none⟩=some (.int .i64 ((rd_T78 E1 C9).f1)):=Be2 1 _ rfl
                    have CJ2:World.frozen? _ ⟨D7,(C9:Int).toNat*2,none⟩=false:=Be3 0
                    have CJ3:World.frozen? _ ⟨D7,(C9:Int).toNat*2+1,none⟩=false:=Be3 1
                    clear Cf4 Be2 Be3 Cf5
                    replace p43:=eq_true p43
                    replace q43:=eq_true q43
                    obtain ⟨ce46,B81,Cf6,B82,Cf7⟩:=Kd.R_elem C2.out z78 (C9:Int) (dT (z1_)) (z48_ C2.out)
                    obtain rfl:=k78_openM Cf6
                    have CJ4:=(Kd.R_seg C2.out (C9:Int) (dT (z1_)) (z48_ C2.out) (seg:=[.int .i64 ((rd_T78 E1 a1).f0),.int .i64 ((rd_T78 E1 a1).f1)]) (j:=0) B81 B82 (show 2≤2 from by decide) (x':=(⟨(rd_T78 E1 a1).f0,(rd_T78 E1 a1).f1⟩:S78)) (k78_mkM _ _ _ (⟨(rd_T78 E1 a1).f0,(rd_T78 E1 a1).f1⟩:S78) ) (fun _ hk=>hk)).1
                    rw [← Cf0.out] at CJ4
                    have Bt2:=aM CJ4
                    clear B81 B82 Cf7 Cf6 CJ4
                    have p44:0≤(a1:Int):=dT (z1_)
                    have q44:(a1:Int)<((E1.length:Int):Int):=dT (z1_)
                    obtain ⟨ce44,Cf8,Cf9,Be4,Be5⟩:=Kd.R_elem Bt2.out z78 (a1:Int) p44 q44
                    obtain rfl:=k78_openM Cf9
                    have AR3:World.cell? _ ⟨D7,(a1:Int).toNat*2,none⟩=some (.int .i64 ((rd_T78 BR6 a1).f0)):=Be4 0 _ rfl
                    have AR4:World.cell? _ ⟨D7,(a1:Int).toNat*2+1,none⟩=some (.int .i64 ((rd_T78 BR6 a1).f1)):=Be4 1 _ rfl
                    have Be6:World.frozen? _ ⟨D7,(a1:Int).toNat*2,none⟩=false:=Be5 0
                    have Be7:World.frozen? _ ⟨D7,(a1:Int).toNat*2+1,none⟩=false:=Be5 1
                    clear Cf8 Be4 Be5 Cf9
                    replace p44:=eq_true p44
                    replace q44:=eq_true q44
                    obtain ⟨ce47,B83,Cg0,B84,Cg1⟩:=Kd.R_elem Bt2.out z78 (a1:Int) (dT (z1_)) (by have h_:(a1:Int)<((E1.length:Int):Int):=dT (by first | (with_reducible assumption) | assumption);first | exact h_ | (have e_:=(Kd.R_reads' C2.out).1;omega) | simpa using h_)
                    obtain rfl:=k78_openM Cg0
                    have CJ5:=(Kd.R_seg Bt2.out (a1:Int) (dT (z1_)) (by have h_:(a1:Int)<((E1.length:Int):Int):=dT (by first | (with_reducible assumption) | assumption);first | exact h_ | (have e_:=(Kd.R_reads' C2.out).1;omega) | simpa using h_) (seg:=[.int .i64 ((rd_T78 E1 C9).f0),.int .i64 ((rd_T78 E1 C9).f1)]) (j:=0) B83 B84 (show 2≤2 from by decide) (x':=(⟨(rd_T78 E1 C9).f0,(rd_T78 E1 C9).f1⟩:S78)) (k78_mkM _ _ _ (⟨(rd_T78 E1 C9).f0,(rd_T78 E1 C9).f1⟩:S78) ) (fun _ hk=>hk)).1
                    rw [← Cf1.out] at CJ5
                    have CJ6:=aM CJ5
                    clear B83 B84 Cg1 Cg0 CJ5
                    refine start_ (n:=16) (S:=fun w'=>w'.cell? ⟨D7,(a1).toNat*2,none⟩=some (.int .i64 ((rd_T78 E1 a1).f0))∧w'.cell? ⟨D7,(a1).toNat*2+1,none⟩=some (.int .i64 ((rd_T78 E1 a1).f1))∧w'.cell? ⟨D7,(C9).toNat*2,none⟩=some (.int .i64 ((rd_T78 E1 C9).f0))∧w'.cell? ⟨D7,(C9).toNat*2+1,none⟩=some (.int .i64 ((rd_T78 E1 C9).f1))) (ds:=[13,15]) Y0.q0 (by kernel_rfl) rfl rfl ⟨o5,o6,o7,o8⟩ (fun hHeld=>?_);refine with_tabW Y0.tab8 Y0.bits8 (fun HT_ HW_=>?_)
                    generalize wc.drew=w45 at C2 HK HB Bt2 CJ6 CJ2 CJ3 Be6 Be7 o5 o6 o7 o8 AZ3 AZ4 AR3 AR4 hHeld ⊢
                    have hz44_0:(w45.setCell ⟨D7,(C9:Int).toNat*2,none⟩ (.int .i64 ((rd_T78 E1 a1).f0))).cell? ⟨D7,(a1:Int).toNat*2,none⟩=some (.int .i64 ((rd_T78 BR6 a1).f0)):=by have h_:=AR3;exact ((show ((w45.setCell ⟨D7,(C9:Int).toNat*2,none⟩ (.int .i64 ((rd_T78 E1 a1).f0))).setCell ⟨D7,(C9:Int).toNat*2+1,none⟩ (.int .i64 ((rd_T78 E1 a1).f1))).cell? ⟨D7,(a1:Int).toNat*2,none⟩=(w45.setCell ⟨D7,(C9:Int).toNat*2,none⟩ (.int .i64 ((rd_T78 E1 a1).f0))).cell? ⟨D7,(a1:Int).toNat*2,none⟩ from World.cell?_setCell_other _ _ _ _ (by intro e_;injection e_ with e1_ e2_;omega)).symm.trans h_)
                    have hy44_0:w45.frozen? ⟨D7,(a1:Int).toNat*2,none⟩=false:=by have h_:=Be6;first | exact h_ | simpa only [World.frozen?_setCell] using h_ | simpa [World.setCells] using h_
                    have hz44_1:((w45.setCell ⟨D7,(C9:Int).toNat*2,none⟩ (.int .i64 ((rd_T78 E1 a1).f0))).setCell ⟨D7,(C9:Int).toNat*2+1,none⟩ (.int .i64 ((rd_T78 E1 a1).f1))).cell? ⟨D7,(a1:Int).toNat*2+1,none⟩=some (.int .i64 ((rd_T78 BR6 a1).f1)):=by have h_:=AR4;exact h_
                    have hy44_1:w45.frozen? ⟨D7,(a1:Int).toNat*2+1,none⟩=false:=by have h_:=Be7;first | exact h_ | simpa only [World.frozen?_setCell] using h_ | simpa [World.setCells] using h_
                    refine pu_ 0 72 Y0.q1 HT_.out ?_
                    refine pu_ 1 73 Y0.q2 HT_.out ?_
                    refine pu_ 2 74 Y0.q3 HT_.out ?_
                    refine pu_ 3 75 Y0.q4 HT_.out ?_
                    refine pu_ 4 76 Y0.q5 HT_.out ?_
                    refine pu_ 5 77 Y0.q6 HT_.out ?_
                    refine pu_ 6 78 Y0.q7 HT_.out ?_
                    refine pu_ 8 80 Y0.q8 HT_.out ?_
                    refine pu_ 9 81 Y0.q9 HT_.out ?_
                    refine pu_ 10 82 Y0.q10 HT_.out ?_
                    refine tk4_ 7 79 Y0.q11 HT_.out HW_.out hHeld ?_
                    refine tk4_ 11 83 Y0.q12 HT_.out HW_.out hHeld ?_
                    refine pu_ 12 84 Y0.q13 HT_.out ?_
                    refine last_ (i:=13) (N:=none) Y0.q14 rfl rfl (one_of HT_.out (by kernel_rfl)) (by decide) (fun K hK=>?_)
                    refine skip_ (w1:=?_) (by rfl) rfl ?_ ?_
                    rotate_left
                    ·go_simp
                     rfl
                    refine hK.out _ _ ?_
                    clear hK K
                    refine pu_ 14 85 Y0.q15 HT_.out ?_
                    refine last_ (i:=15) (N:=none) Y0.q16 rfl rfl (one_of HT_.out (by kernel_rfl)) (by decide) (fun K hK=>?_)
                    refine skip_ (w1:=?_) (by rfl) rfl ?_ ?_
                    rotate_left
                    ·go_simp
                     rfl
                    refine hK.out _ _ ?_
                    clear hK K
                    refine done_ (done_of HT_.out (by kernel_rfl)) ?_
                    try go_wp2
                    go_ret2
                    exact ⟨z8_,(by first | exact (by (with_reducible repeat (first | apply Kd.R_alloc | apply Kd.R_drewN | apply Kd.R_drew));exact CJ6.out) | (simp only [AA2];exact (by (with_reducible repeat (first | apply Kd.R_alloc | apply Kd.R_drewN | apply Kd.R_drew));exact CJ6.out))),z44_ HB.out Bd4.out,z43_ HK.out Aj0.out⟩
                   ·rw [if_neg c42] at H
                    exact nO H
                  ·rw [if_neg c41] at H
                   exact nO H
                 ·rw [if_neg c40] at H
                  exact nO H
                ·rw [if_neg c39] at H
                 exact nO H
               ·rw [if_neg c38] at H
                have c38b0:decide (C9<D3)=false:=dF c38
                clear c38
                by_cases c48:0≤C9
                ·rw [if_pos c48] at H
                 have c48b0:decide (0≤C9)=true:=dE c48
                 clear c48
                 by_cases c49:C9<(E1.length:Int)
                 ·rw [if_pos c49] at H
                  have c49b0:decide (C9<(E1.length:Int))=true:=dE c49
                  clear c49
                  by_cases c50:0≤D3
                  ·rw [if_pos c50] at H
                   have c50b0:decide (0≤D3)=true:=dE c50
                   clear c50
                   by_cases c51:D3<(E1.length:Int)
                   ·rw [if_pos c51] at H
                    have c51b0:decide (D3<(E1.length:Int))=true:=dE c51
                    clear c51
                    obtain ⟨BR7,Az8⟩:∃ y_:List (S78),y_=(E1.set (D3:Int).toNat (⟨(rd_T78 E1 C9).f0,(rd_T78 E1 C9).f1⟩:S78)):=⟨_,rfl⟩
                    replace H:(Y0.l2 BD3 (BR7.set (C9:Int).toNat (⟨(rd_T78 E1 D3).f0,(rd_T78 E1 D3).f1⟩:S78)) a1 (wrap64 (D3+1)) (wrap64 (C9-1)))=some (r1,r2,r3):=by first | (rw [Az8];with_reducible exact H) | (have H2_:=(Option.bind_some _ _).symm.trans H;rw [Az8];with_reducible exact H2_) | (have H2_:=(Option.bind_some _ _).symm.trans H;with_reducible exact H2_) | with_reducible exact H | (rw [Az8];exact H) | exact H
                    have Cg2:=aM Az8
                    clear Az8
                    obtain ⟨Cg3,Az9⟩:∃ y_:List (S78),y_=(BR7.set (C9:Int).toNat (⟨(rd_T78 E1 D3).f0,(rd_T78 E1 D3).f1⟩:S78)):=⟨_,rfl⟩
                    replace H:(Y0.l2 BD3 Cg3 a1 (wrap64 (D3+1)) (wrap64 (C9-1)))=some (r1,r2,r3):=by first | (rw [Az9];with_reducible exact H) | (have H2_:=(Option.bind_some _ _).symm.trans H;rw [Az9];with_reducible exact H2_) | (have H2_:=(Option.bind_some _ _).symm.trans H;with_reducible exact H2_) | with_reducible exact H | (rw [Az9];exact H) | exact H
                    have Cg4:=aM Az9
                    clear Az9
                    have H':=aM H
                    clear H
                    try go_wp2
                    have n0_:=aM (Kd.R_drew C2.out)
                    have n1_:=aM (Kept.drew HK.out)
                    have n2_:=aM (below_drew1 HB.out)
                    clear C2
                    clear HK
                    clear HB
                    have C2:=n0_
                    have HK:=n1_
                    have HB:=n2_
                    clear n0_ n1_ n2_
                    have A00:0≤(C9:Int):=dT (z1_)
                    have A01:C9<(E1.length:Int):=dT (z1_)
                    obtain ⟨Cg5,e290,o9,p8⟩:=at_T78 (Kd.R_reads' C2.out).2.2 C9 A00 A01
                    obtain rfl:(⟨D7,0,none⟩:Addr)=Cg5:=(by injection e290)
                    (first | simp only [add_plain] at o9 | simp only [add_at] at o9 | simp only [Addr.add,Nat.zero_add] at o9 | skip)
                    (first | simp only [add_plain] at p8 | simp only [add_at] at p8 | simp only [Addr.add,Nat.zero_add] at p8 | skip)
                    replace A00:=eq_true A00
                    replace A01:=eq_true A01
                    have A02:0≤(D3:Int):=dT (z1_)
                    have A03:D3<(E1.length:Int):=dT (z1_)
                    obtain ⟨Cg6,e291,r6,r7⟩:=at_T78 (Kd.R_reads' C2.out).2.2 D3 A02 A03
                    obtain rfl:(⟨D7,0,none⟩:Addr)=Cg6:=(by injection e291)
                    (first | simp only [add_plain] at r6 | simp only [add_at] at r6 | simp only [Addr.add,Nat.zero_add] at r6 | skip)
                    (first | simp only [add_plain] at r7 | simp only [add_at] at r7 | simp only [Addr.add,Nat.zero_add] at r7 | skip)
                    replace A02:=eq_true A02
                    replace A03:=eq_true A03
                    have p52:0≤(D3:Int):=dT (z1_)
                    have q52:(D3:Int)<((E1.length:Int):Int):=dT (z1_)
                    obtain ⟨ce52,Cg7,Cg8,Be8,Be9⟩:=Kd.R_elem C2.out z78 (D3:Int) p52 q52
                    obtain rfl:=k78_openM Cg8
                    have AZ5:World.cell? _ ⟨D7,(D3:Int).toNat*2,none⟩=some (.int .i64 ((rd_T78 E1 D3).f0)):=Be8 0 _ rfl
                    have AZ6:World.cell? _ ⟨D7,(D3:Int).toNat*2+1,none⟩=some (.int .i64 ((rd_T78 E1 D3).f1)):=Be8 1 _ rfl
                    have CJ7:World.frozen? _ ⟨D7,(D3:Int).toNat*2,none⟩=false:=Be9 0
                    have CJ8:World.frozen? _ ⟨D7,(D3:Int).toNat*2+1,none⟩=false:=Be9 1
                    clear Cg7 Be8 Be9 Cg8
                    replace p52:=eq_true p52
                    replace q52:=eq_true q52
                    obtain ⟨ce55,B85,Cg9,B86,Ch0⟩:=Kd.R_elem C2.out z78 (D3:Int) (dT (z1_)) (by have h_:(D3:Int)<((E1.length:Int):Int):=dT (by first | (with_reducible assumption) | assumption);first | exact h_ | (have e_:=(Kd.R_reads' C2.out).1;omega) | simpa using h_)
                    obtain rfl:=k78_openM Cg9
                    have CJ9:=(Kd.R_seg C2.out (D3:Int) (dT (z1_)) (by have h_:(D3:Int)<((E1.length:Int):Int):=dT (by first | (with_reducible assumption) | assumption);first | exact h_ | (have e_:=(Kd.R_reads' C2.out).1;omega) | simpa using h_) (seg:=[.int .i64 ((rd_T78 E1 C9).f0),.int .i64 ((rd_T78 E1 C9).f1)]) (j:=0) B85 B86 (show 2≤2 from by decide) (x':=(⟨(rd_T78 E1 C9).f0,(rd_T78 E1 C9).f1⟩:S78)) (k78_mkM _ _ _ (⟨(rd_T78 E1 C9).f0,(rd_T78 E1 C9).f1⟩:S78) ) (fun _ hk=>hk)).1
                    rw [← Cg2.out] at CJ9
                    have Bt3:=aM CJ9
                    clear B85 B86 Ch0 Cg9 CJ9
                    have p53:0≤(C9:Int):=dT (z1_)
                    have q53:(C9:Int)<((E1.length:Int):Int):=dT (z1_)
                    obtain ⟨ce53,Ch1,Ch2,Bf0,Bf1⟩:=Kd.R_elem Bt3.out z78 (C9:Int) p53 q53
                    obtain rfl:=k78_openM Ch2
                    have AR5:World.cell? _ ⟨D7,(C9:Int).toNat*2,none⟩=some (.int .i64 ((rd_T78 BR7 C9).f0)):=Bf0 0 _ rfl
                    have AR6:World.cell? _ ⟨D7,(C9:Int).toNat*2+1,none⟩=some (.int .i64 ((rd_T78 BR7 C9).f1)):=Bf0 1 _ rfl
                    have Bf2:World.frozen? _ ⟨D7,(C9:Int).toNat*2,none⟩=false:=Bf1 0
                    have Bf3:World.frozen? _ ⟨D7,(C9:Int).toNat*2+1,none⟩=false:=Bf1 1
                    clear Ch1 Bf0 Bf1 Ch2
                    replace p53:=eq_true p53
                    replace q53:=eq_true q53
                    obtain ⟨ce56,B87,Ch3,B88,Ch4⟩:=Kd.R_elem Bt3.out z78 (C9:Int) (dT (z1_)) (z48_ C2.out)
                    obtain rfl:=k78_openM Ch3
                    have CK0:=(Kd.R_seg Bt3.out (C9:Int) (dT (z1_)) (z48_ C2.out) (seg:=[.int .i64 ((rd_T78 E1 D3).f0),.int .i64 ((rd_T78 E1 D3).f1)]) (j:=0) B87 B88 (show 2≤2 from by decide) (x':=(⟨(rd_T78 E1 D3).f0,(rd_T78 E1 D3).f1⟩:S78)) (k78_mkM _ _ _ (⟨(rd_T78 E1 D3).f0,(rd_T78 E1 D3).f1⟩:S78) ) (fun _ hk=>hk)).1
                    rw [← Cg4.out] at CK0
                    have Ch5:=aM CK0
                    clear B87 B88 Ch4 Ch3 CK0
                    refine start_ (n:=16) (S:=fun w'=>w'.cell? ⟨D7,(C9).toNat*2,none⟩=some (.int .i64 ((rd_T78 E1 C9).f0))∧w'.cell? ⟨D7,(C9).toNat*2+1,none⟩=some (.int .i64 ((rd_T78 E1 C9).f1))∧w'.cell? ⟨D7,(D3).toNat*2,none⟩=some (.int .i64 ((rd_T78 E1 D3).f0))∧w'.cell? ⟨D7,(D3).toNat*2+1,none⟩=some (.int .i64 ((rd_T78 E1 D3).f1))) (ds:=[13,15]) Y0.q0 (by kernel_rfl) rfl rfl ⟨o9,p8,r6,r7⟩ (fun hHeld=>?_);refine with_tabW Y0.tab10 Y0.bits10 (fun HT_ HW_=>?_)
                    generalize wc.drew=w54 at C2 HK HB Bt3 Ch5 CJ7 CJ8 Bf2 Bf3 o9 p8 r6 r7 AZ5 AZ6 AR5 AR6 hHeld ⊢
                    have hz53_0:(w54.setCell ⟨D7,(D3:Int).toNat*2,none⟩ (.int .i64 ((rd_T78 E1 C9).f0))).cell? ⟨D7,(C9:Int).toNat*2,none⟩=some (.int .i64 ((rd_T78 BR7 C9).f0)):=by have h_:=AR5;exact ((show ((w54.setCell ⟨D7,(D3:Int).toNat*2,none⟩ (.int .i64 ((rd_T78 E1 C9).f0))).setCell ⟨D7,(D3:Int).toNat*2+1,none⟩ (.int .i64 ((rd_T78 E1 C9).f1))).cell? ⟨D7,(C9:Int).toNat*2,none⟩=(w54.setCell ⟨D7,(D3:Int).toNat*2,none⟩ (.int .i64 ((rd_T78 E1 C9).f0))).cell? ⟨D7,(C9:Int).toNat*2,none⟩ from World.cell?_setCell_other _ _ _ _ (by intro e_;injection e_ with e1_ e2_;omega)).symm.trans h_)
                    have hy53_0:w54.frozen? ⟨D7,(C9:Int).toNat*2,none⟩=false:=by have h_:=Bf2;first | exact h_ | simpa only [World.frozen?_setCell] using h_ | simpa [World.setCells] using h_
                    have hz53_1:((w54.setCell ⟨D7,(D3:Int).toNat*2,none⟩ (.int .i64 ((rd_T78 E1 C9).f0))).setCell ⟨D7,(D3:Int).toNat*2+1,none⟩ (.int .i64 ((rd_T78 E1 C9).f1))).cell? ⟨D7,(C9:Int).toNat*2+1,none⟩=some (.int .i64 ((rd_T78 BR7 C9).f1)):=by have h_:=AR6;exact h_
                    have hy53_1:w54.frozen? ⟨D7,(C9:Int).toNat*2+1,none⟩=false:=by have h_:=Bf3;first | exact h_ | simpa only [World.frozen?_setCell] using h_ | simpa [World.setCells] using h_
                    refine pu_ 0 87 Y0.q1 HT_.out ?_
                    refine pu_ 1 88 Y0.q2 HT_.out ?_
                    refine pu_ 2 89 Y0.q3 HT_.out ?_
                    refine pu_ 3 90 Y0.q4 HT_.out ?_
                    refine pu_ 4 91 Y0.q5 HT_.out ?_
                    refine pu_ 5 92 Y0.q6 HT_.out ?_
                    refine pu_ 6 93 Y0.q7 HT_.out ?_
                    refine pu_ 8 95 Y0.q8 HT_.out ?_
                    refine pu_ 9 96 Y0.q9 HT_.out ?_
                    refine pu_ 10 97 Y0.q10 HT_.out ?_
                    refine tk4_ 7 94 Y0.q11 HT_.out HW_.out hHeld ?_
                    refine tk4_ 11 98 Y0.q12 HT_.out HW_.out hHeld ?_
                    refine pu_ 12 99 Y0.q13 HT_.out ?_
                    refine last_ (i:=13) (N:=none) Y0.q14 rfl rfl (one_of HT_.out (by kernel_rfl)) (by decide) (fun K hK=>?_)
                    refine skip_ (w1:=?_) (by rfl) rfl ?_ ?_
                    rotate_left
                    ·go_simp
                     rfl
                    refine hK.out _ _ ?_
                    clear hK K
                    refine pu_ 14 100 Y0.q15 HT_.out ?_
                    refine last_ (i:=15) (N:=none) Y0.q16 rfl rfl (one_of HT_.out (by kernel_rfl)) (by decide) (fun K hK=>?_)
                    refine skip_ (w1:=?_) (by rfl) rfl ?_ ?_
                    rotate_left
                    ·go_simp
                     rfl
                    refine hK.out _ _ ?_
                    clear hK K
                    refine done_ (done_of HT_.out (by kernel_rfl)) ?_
                    try go_wp2
                    go_loopg [12,13] BD3 (fun kq v12 v13 w'=>∃ (E0:List (S78)) (BM7:Int) (AJ1:Int),v12 = .int .i64 BM7∧v13 = .int .i64 AJ1∧Aside0 (Y0.l2 kq E0 a1 BM7 AJ1=some (r1,r2,r3))∧Aside0 (kq≤BD3)∧Aside0 (Kd.R k78 78 w' w0.heap.size (fun k_=>(P0_ k_∨w.heap.size≤k_)) (.slice (some ⟨D7,0,none⟩) E1.length AP2) E0)∧Aside0 (Kept w w' (fun k_=>P0_ k_))∧Aside0 (Below w0.heap.size w0 w'))
                    case atStart=>exact ⟨(Cg3),(wrap64 (D3+1)),(wrap64 (C9-1)),(z2_),(z2_),H',⟨Nat.le_refl _⟩,⟨z32_ Ch5.out⟩,⟨z43_ HK.out Aj0.out⟩,⟨z44_ HB.out Bd4.out⟩⟩
                    case round=>as_aux_lemma =>
                     clear H'
                     try clear c1
                     try clear p1
                     try clear q1
                     try clear hx1
                     try clear c2
                     try clear p2
                     try clear q2
                     try clear hx2
                     try clear c3
                     try clear c4
                     try clear p4
                     try clear q4
                     try clear hx4
                     try clear c5
                     try clear p5
                     try clear q5
                     try clear hx5
                     try clear hf5
                     try clear c6
                     try clear c6b0
                     try clear p6
                     try clear c7
                     try clear c7b0
                     try clear c8
                     try clear c8b0
                     try clear c9
                     try clear c9b0
                     try clear c10
                     try clear p10
                     try clear q10
                     try clear Aq9
                     try clear Ay8
                     try clear c11
                     try clear p11
                     try clear q11
                     try clear Ay9
                     try clear Az0
                     try clear c14
                     try clear c15
                     try clear c17
                     try clear c17b0
                     try clear c18
                     try clear c18b0
                     try clear c19
                     try clear c19b0
                     try clear c20
                     try clear c20b0
                     try clear c21
                     try clear c21b0
                     try clear c26
                     try clear p27
                     try clear q27
                     try clear hx27
                     try clear c28
                     try clear c28b0
                     try clear p28
                     try clear q28
                     try clear hx28
                     try clear c29
                     try clear c29b0
                     try clear p29
                     try clear q29
                     try clear hx29
                     try clear c30
                     try clear c30b0
                     try clear c31
                     try clear c31b0
                     try clear c32
                     try clear c32b0
                     try clear c37
                     try clear c38
                     try clear c38b0
                     try clear c39
                     try clear c39b0
                     try clear c40
                     try clear c40b0
                     try clear c41
                     try clear c41b0
                     try clear c42
                     try clear c42b0
                     try clear c43
                     try clear p43
                     try clear q43
                     try clear Bt4
                     try clear Bt5
                     try clear c44
                     try clear p44
                     try clear q44
                     try clear Bt6
                     try clear Bt7
                     try clear c46
                     try clear c47
                     try clear c48
                     try clear c48b0
                     try clear c49
                     try clear c49b0
                     try clear c50
                     try clear c50b0
                     try clear c51
                     try clear c51b0
                     try clear c52
                     try clear p52
                     try clear q52
                     try clear Bt8
                     try clear Bt9
                     try clear c53
                     try clear p53
                     try clear q53
                     try clear Bu0
                     try clear Bu1
                     try clear c55
                     try clear c56
                     try clear AE0
                     try clear AE1
                     try clear AA9
                     try clear AB0
                     try clear b9
                     try clear d2
                     try clear d3
                     try clear d4
                     try clear X8
                     try clear X9
                     try clear Z0
                     try clear Z1
                     try clear g0
                     try clear g6
                     try clear g7
                     try clear g8
                     try clear o5
                     try clear o6
                     try clear o7
                     try clear o8
                     try clear o9
                     try clear p8
                     try clear r6
                     try clear r7
                     try clear AZ3
                     try clear AZ4
                     try clear AR3
                     try clear AR4
                     try clear AZ5
                     try clear AZ6
                     try clear AR5
                     try clear AR6
                     try clear p1
                     try clear p10
                     try clear p11
                     try clear p2
                     try clear p27
                     try clear Ac5
                     try clear Ac7
                     try clear p28
                     try clear Aj1
                     try clear Aj3
                     try clear As1
                     try clear As3
                     try clear Az4
                     try clear Az6
                     try clear A00
                     try clear A02
                     try clear p43
                     try clear p44
                     try clear p52
                     try clear p53
                     try clear p6
                     try clear q1
                     try clear q10
                     try clear q11
                     try clear q2
                     try clear q27
                     try clear Ac6
                     try clear Ac8
                     try clear q28
                     try clear Aj2
                     try clear Aj4
                     try clear As2
                     try clear As4
                     try clear Az5
                     try clear Az7
                     try clear A01
                     try clear A03
                     try clear q43
                     try clear q44
                     try clear q52
                     try clear q53
                     obtain ⟨E0,BM7,AJ1,rfl,rfl,HA,HK5,C2,HK,HB⟩:=hrel
                     have Av5:=(Kd.R_reads' C2.out).1
                     rw [Av5] at C2
                     (try simp only [Av5])
                     cases gk with
                     | zero=>exact absurd HA.out (by simp [Y0.l2])
                     | succ k5 =>
                      have H:=HA.out
                      clear HA
                      simp only [Y0.l2] at H
                      have H':=aM H
                      clear H
                      go_wp2
                      go_loopg [12] k5 (fun kq v12 w'=>∃ (E8:Int),v12 = .int .i64 E8∧Aside0 (Y0.l3 kq E0 a1 E8 AJ1=some (r1,r2,r3))∧Aside0 (kq≤k5)∧Aside0 (Kd.R k78 78 w' w0.heap.size (fun k_=>(P0_ k_∨w.heap.size≤k_)) (.slice (some ⟨D7,0,none⟩) E0.length AP2) E0)∧Aside0 (Kept w w' (fun k_=>P0_ k_))∧Aside0 (Below w0.heap.size w0 w'))
                      case atStart=>exact ⟨(BM7),(z2_),H',⟨Nat.le_refl _⟩,⟨z37_ C2.out⟩,⟨z11_ HK.out⟩,⟨z6_ HB.out⟩⟩
                      case round=>as_aux_lemma =>
                       clear H'
                       try clear c1
                       try clear p1
                       try clear q1
                       try clear hx1
                       try clear c2
                       try clear p2
                       try clear q2
                       try clear hx2
                       try clear c3
                       try clear c4
                       try clear p4
                       try clear q4
                       try clear hx4
                       try clear c5
                       try clear p5
                       try clear q5
                       try clear hx5
                       try clear hf5
                       try clear c6
                       try clear c6b0
                       try clear p6
                       try clear c7
                       try clear c7b0
                       try clear c8
                       try clear c8b0
                       try clear c9
                       try clear c9b0
                       try clear c10
                       try clear p10
                       try clear q10
                       try clear Aq9
                       try clear Ay8
                       try clear c11
                       try clear p11
                       try clear q11
                       try clear Ay9
                       try clear Az0
                       try clear c14
                       try clear c15
                       try clear c17
                       try clear c17b0
                       try clear c18
                       try clear c18b0
                       try clear c19
                       try clear c19b0
                       try clear c20
                       try clear c20b0
                       try clear c21
                       try clear c21b0
                       try clear c26
                       try clear p27
                       try clear q27
                       try clear hx27
                       try clear c28
                       try clear c28b0
                       try clear p28
                       try clear q28
                       try clear hx28
                       try clear c29
                       try clear c29b0
                       try clear p29
                       try clear q29
                       try clear hx29
                       try clear c30
                       try clear c30b0
                       try clear c31
                       try clear c31b0
                       try clear c32
                       try clear c32b0
                       try clear c37
                       try clear c38
                       try clear c38b0
                       try clear c39
                       try clear c39b0
                       try clear c40
                       try clear c40b0
                       try clear c41
                       try clear c41b0
                       try clear c42
                       try clear c42b0
                       try clear c43
                       try clear p43
                       try clear q43
                       try clear Bt4
                       try clear Bt5
                       try clear c44
                       try clear p44
                       try clear q44
                       try clear Bt6
                       try clear Bt7
                       try clear c46
                       try clear c47
                       try clear c48
                       try clear c48b0
                       try clear c49
                       try clear c49b0
                       try clear c50
                       try clear c50b0
                       try clear c51
                       try clear c51b0
                       try clear c52
                       try clear p52
                       try clear q52
                       try clear Bt8
                       try clear Bt9
                       try clear c53
                       try clear p53
                       try clear q53
                       try clear Bu0
                       try clear Bu1
                       try clear c55
                       try clear c56
                       try clear AE0
                       try clear AE1
                       try clear AA9
                       try clear AB0
                       try clear b9
                       try clear d2
                       try clear d3
                       try clear d4
                       try clear X8
                       try clear X9
                       try clear Z0
                       try clear Z1
                       try clear g0
                       try clear g6
                       try clear g7
                       try clear g8
                       try clear o5
                       try clear o6
                       try clear o7
                       try clear o8
                       try clear o9
                       try clear p8
                       try clear r6
                       try clear r7
                       try clear AZ3
                       try clear AZ4
                       try clear AR3
                       try clear AR4
                       try clear AZ5
                       try clear AZ6
                       try clear AR5
                       try clear AR6
                       try clear p1
                       try clear p10
                       try clear p11
                       try clear p2
                       try clear p27
                       try clear Ac5
                       try clear Ac7
                       try clear p28
                       try clear Aj1
                       try clear Aj3
                       try clear As1
                       try clear As3
                       try clear Az4
                       try clear Az6
                       try clear p29
                       try clear A00
                       try clear A02
                       try clear p4
                       try clear p43
                       try clear p44
                       try clear p5
                       try clear p52
                       try clear p53
                       try clear p6
                       try clear q1
                       try clear q10
                       try clear q11
                       try clear q2
                       try clear q27
                       try clear Ac6
                       try clear Ac8
                       try clear q28
                       try clear Aj2
                       try clear Aj4
                       try clear As2
                       try clear As4
                       try clear Az5
                       try clear Az7
                       try clear q29
                       try clear A01
                       try clear A03
                       try clear q4
                       try clear q43
                       try clear q44
                       try clear q5
                       try clear q52
                       try clear q53
                       obtain ⟨E8,rfl,HA,HK6,C2,HK,HB⟩:=hrel
                       cases gk with
                       | zero=>exact absurd HA.out (by simp [Y0.l3])
                       | succ k6 =>
                        have H:=HA.out
                        clear HA
                        simp only [Y0.l3] at H
                        have CK1:=aM H
                        clear H
                        go_upto_region 13 with (fail)
                        go_cut [120] (fun C26 wc=>∃ (kq:Nat) (Af9:Bool),C26 = .bool Af9∧Aside0 (Y0.j6 kq E0 a1 E8 AJ1 Af9=some (r1,r2,r3))∧Aside0 (kq≤k6)∧Aside0 (Kd.R k78 78 wc w0.heap.size (fun k_=>(P0_ k_∨w.heap.size≤k_)) (.slice (some ⟨D7,0,none⟩) E0.length AP2) E0)∧Aside0 (Kept w wc (fun k_=>P0_ k_))∧Aside0 (Below w0.heap.size w0 wc))
                        case first=>as_aux_lemma =>
                         have H:=CK1.out
                         clear CK1
                         by_cases c58:E8≤AJ1
                         ·rw [if_pos c58] at H
                          have c58b0:decide (E8≤AJ1)=true:=dE c58
                          clear c58
                          (first | rw [c58b0] | (simp only [i64_w,i32_w];rw [c58b0]) | skip)
                          by_cases c59:0≤E8
                          ·rw [if_pos c59] at H
                           have c59b0:decide (0≤E8)=true:=dE c59
                           clear c59
                           by_cases c60:E8<(E0.length:Int)
                           ·rw [if_pos c60] at H
                            have c60b0:decide (E8<(E0.length:Int))=true:=dE c60
                            clear c60
                            by_cases c61:0≤a1
                            ·rw [if_pos c61] at H
                             have c61b0:decide (0≤a1)=true:=dE c61
                             clear c61
                             by_cases c62:a1<(E0.length:Int)
                             ·rw [if_pos c62] at H
                              have c62b0:decide (a1<(E0.length:Int))=true:=dE c62
                              clear c62
                              replace H:=bS H
                              obtain ⟨Bd2,Ch6,H⟩:=H
                              replace H:(Y0.j6 k6 E0 a1 E8 AJ1 (decide (Bd2<0)))=some (r1,r2,r3):=H
                              have A63:=aM Ch6
                              clear Ch6
                              have H':=aM H
                              clear H
                              try go_wp2
                              have n0_:=aM (Kd.R_drew C2.out)
                              have n1_:=aM (Kept.drew HK.out)
                              have n2_:=aM (below_drew1 HB.out)
                              clear C2
                              clear HK
                              clear HB
                              have C2:=n0_
                              have HK:=n1_
                              have HB:=n2_
                              clear n0_ n1_ n2_
                              have BR8:0≤(E8:Int):=dT (z1_)
                              have BR9:E8<(E0.length:Int):=dT (z1_)
                              obtain ⟨Ch7,e294,AC4,AC5⟩:=at_T78 (Kd.R_reads' C2.out).2.2 E8 BR8 BR9
                              obtain rfl:(⟨D7,0,none⟩:Addr)=Ch7:=(by injection e294)
                              (first | simp only [add_plain] at AC4 | simp only [add_at] at AC4 | simp only [Addr.add,Nat.zero_add] at AC4 | skip)
                              (first | simp only [add_plain] at AC5 | simp only [add_at] at AC5 | simp only [Addr.add,Nat.zero_add] at AC5 | skip)
                              replace BR8:=eq_true BR8
                              replace BR9:=eq_true BR9
                              have BS0:0≤(a1:Int):=dT (z1_)
                              have BS1:a1<(E0.length:Int):=dT (z1_)
                              obtain ⟨Ch8,e295,AC6,AC7⟩:=at_T78 (Kd.R_reads' C2.out).2.2 a1 BS0 BS1
                              obtain rfl:(⟨D7,0,none⟩:Addr)=Ch8:=(by injection e295)
                              (first | simp only [add_plain] at AC6 | simp only [add_at] at AC6 | simp only [Addr.add,Nat.zero_add] at AC6 | skip)
                              (first | simp only [add_plain] at AC7 | simp only [add_at] at AC7 | simp only [Addr.add,Nat.zero_add] at AC7 | skip)
                              replace BS0:=eq_true BS0
                              replace BS1:=eq_true BS1
                              refine start_ (n:=16) (S:=fun w'=>w'.cell? ⟨D7,(E8).toNat*2,none⟩=some (.int .i64 ((rd_T78 E0 E8).f0))∧w'.cell? ⟨D7,(E8).toNat*2+1,none⟩=some (.int .i64 ((rd_T78 E0 E8).f1))∧w'.cell? ⟨D7,(a1).toNat*2,none⟩=some (.int .i64 ((rd_T78 E0 a1).f0))∧w'.cell? ⟨D7,(a1).toNat*2+1,none⟩=some (.int .i64 ((rd_T78 E0 a1).f1))) (ds:=[]) Y0.q0 (by kernel_rfl) rfl rfl ⟨AC4,AC5,AC6,AC7⟩ (fun hHeld=>?_);refine with_tabW Y0.tab13 Y0.bits13 (fun HT_ HW_=>?_)
                              generalize wr.drew=w64 at C2 HK HB AC4 AC5 AC6 AC7 hHeld ⊢
                              refine pu_ 0 105 Y0.q1 HT_.out ?_
                              refine pu_ 1 106 Y0.q2 HT_.out ?_
                              refine pu_ 2 107 Y0.q3 HT_.out ?_
                              refine pu_ 3 108 Y0.q4 HT_.out ?_
                              refine pu_ 4 109 Y0.q5 HT_.out ?_
                              refine pu_ 5 110 Y0.q6 HT_.out ?_
                              refine pu_ 6 111 Y0.q7 HT_.out ?_
                              refine pu_ 7 112 Y0.q17 HT_.out ?_
                              refine pu_ 9 114 Y0.q18 HT_.out ?_
                              refine pu_ 10 115 Y0.q19 HT_.out ?_
                              refine pu_ 11 116 Y0.q20 HT_.out ?_
                              refine tk4_ 8 113 Y0.q12 HT_.out HW_.out hHeld ?_
                              refine tk4_ 12 117 Y0.q13 HT_.out HW_.out hHeld ?_
                              refine o1_ 13 118 Y0.q14 HT_.out (fun K hK=>?_)
                              refine goesD_ Tryz.func72 (by kernel_rfl) rfl #[.agg #[.int .i64 ((rd_T78 E0 E8).f0),.int .i64 ((rd_T78 E0 E8).f1)],.agg #[.int .i64 ((rd_T78 E0 a1).f0),.int .i64 ((rd_T78 E0 a1).f1)]] (by rfl) rfl rfl (by rfl) (z45_) ?_
                              with_reducible refine (Y38.calls k6 ((rd_T78 E0 E8).f0) ((rd_T78 E0 E8).f1) ((rd_T78 E0 a1).f0) ((rd_T78 E0 a1).f1) Bd2 _ A63.out).mono ?_
                              rintro e w65 ⟨rfl,hb⟩
                              have AQ9:=(hb.cell (World.block_lt_of_cell? _ _ (hHeld.1))).trans (hHeld.1)
                              have AR0:=(hb.cell (World.block_lt_of_cell? _ _ (hHeld.2.1))).trans (hHeld.2.1)
                              have AR1:=(hb.cell (World.block_lt_of_cell? _ _ (hHeld.2.2.1))).trans (hHeld.2.2.1)
                              have AR2:=(hb.cell (World.block_lt_of_cell? _ _ (hHeld.2.2.2))).trans (hHeld.2.2.2)
                              refine ⟨_,rfl,?_⟩
                              have n0_:=aM (Kd.R_below (z0_ C2.out) hb)
                              have n1_:=aM (Kept.below (S:=(fun k_=>P0_ k_)) (z11_ HK.out) hb)
                              have n2_:=aM (below_step (z6_ HB.out) hb)
                              clear C2
                              clear HK
                              clear HB
                              have C2:=n0_
                              have HK:=n1_
                              have HB:=n2_
                              clear n0_ n1_ n2_
                              (try clear hb)
                              refine hK.out _ _ ⟨AQ9,AR0,AR1,AR2⟩ (fun hHeld=>?_)
                              clear hK K
                              refine nm_ 118 ?_
                              refine pu_ 14 119 Y0.q15 HT_.out ?_
                              refine pu_ 15 120 Y0.q16 HT_.out ?_
                              refine done_ (done_of HT_.out (by kernel_rfl)) ?_
                              try go_wp2
                              go_meet
                              case rel=>exact ⟨_,(decide (Bd2<0)),(z2_),H',⟨by have:=HK1.out;have:=AP3.out;have:=HK3.out;have:=Ac9.out;have:=HK5.out;have:=HK6.out;first | omega | exact Nat.le_refl _⟩,⟨z37_ C2.out⟩,⟨z11_ HK.out⟩,⟨z6_ HB.out⟩⟩
                             ·rw [if_neg c62] at H
                              exact nO H
                            ·rw [if_neg c61] at H
                             exact nO H
                           ·rw [if_neg c60] at H
                            exact nO H
                          ·rw [if_neg c59] at H
                           exact nO H
                         ·rw [if_neg c58] at H
                          have c58b0:decide (E8≤AJ1)=false:=dF c58
                          clear c58
                          (first | rw [c58b0] | (simp only [i64_w,i32_w];rw [c58b0]) | skip)
                          have H':=aM H
                          clear H
                          try go_wp2
                          have n0_:=aM (Kd.R_drew C2.out)
                          have n1_:=aM (Kept.drew HK.out)
                          have n2_:=aM (below_drew1 HB.out)
                          clear C2
                          clear HK
                          clear HB
                          have C2:=n0_
                          have HK:=n1_
                          have HB:=n2_
                          clear n0_ n1_ n2_
                          refine start_ (n:=16) (S:=fun w'=>True) (ds:=[]) Y0.q0 (by kernel_rfl) rfl rfl trivial (fun hHeld=>?_);refine with_tabW Y0.tab13 Y0.bits13 (fun HT_ HW_=>?_)
                          generalize wr.drew=w66 at C2 HK HB hHeld ⊢
                          refine pu_ 0 105 Y0.q1 HT_.out ?_
                          refine pu_ 1 106 Y0.q2 HT_.out ?_
                          refine pu_ 2 107 Y0.q3 HT_.out ?_
                          refine pu_ 3 108 Y0.q4 HT_.out ?_
                          refine pn_ 4 109 Y0.q5 HT_.out ?_
                          refine pn_ 5 110 Y0.q6 HT_.out ?_
                          refine pn_ 6 111 Y0.q7 HT_.out ?_
                          refine pn_ 7 112 Y0.q17 HT_.out ?_
                          refine pn_ 8 113 Y0.q21 HT_.out ?_
                          refine pn_ 9 114 Y0.q22 HT_.out ?_
                          refine pn_ 10 115 Y0.q11 HT_.out ?_
                          refine pn_ 11 116 Y0.q12 HT_.out ?_
                          refine pn_ 12 117 Y0.q13 HT_.out ?_
                          refine pn_ 13 118 Y0.q14 HT_.out ?_
                          refine pn_ 14 119 Y0.q15 HT_.out ?_
                          refine pu_ 15 120 Y0.q16 HT_.out ?_
                          refine done_ (done_of HT_.out (by kernel_rfl)) ?_
                          try go_wp2
                          go_meet
                          case rel=>exact ⟨_,(false),(z2_),H',⟨by have:=HK1.out;have:=AP3.out;have:=HK3.out;have:=Ac9.out;have:=HK5.out;have:=HK6.out;first | omega | exact Nat.le_refl _⟩,⟨z37_ C2.out⟩,⟨z11_ HK.out⟩,⟨z6_ HB.out⟩⟩
                        case rest=>as_aux_lemma =>
                         clear CK1
                         try clear c1
                         try clear p1
                         try clear q1
                         try clear hx1
                         try clear c2
                         try clear p2
                         try clear q2
                         try clear hx2
                         try clear c3
                         try clear c4
                         try clear p4
                         try clear q4
                         try clear hx4
                         try clear c5
                         try clear p5
                         try clear q5
                         try clear hx5
                         try clear hf5
                         try clear c6
                         try clear c6b0
                         try clear p6
                         try clear c7
                         try clear c7b0
                         try clear c8
                         try clear c8b0
                         try clear c9
                         try clear c9b0
                         try clear c10
                         try clear p10
                         try clear q10
                         try clear Aq9
                         try clear Ay8
                         try clear c11
                         try clear p11
                         try clear q11
                         try clear Ay9
                         try clear Az0
                         try clear c14
                         try clear c15
                         try clear c17
                         try clear c17b0
                         try clear c18
                         try clear c18b0
                         try clear c19
                         try clear c19b0
                         try clear c20
                         try clear c20b0
                         try clear c21
                         try clear c21b0
                         try clear c26
                         try clear p27
                         try clear q27
                         try clear hx27
                         try clear c28
                         try clear c28b0
                         try clear p28
                         try clear q28
                         try clear hx28
                         try clear c29
                         try clear c29b0
                         try clear p29
                         try clear q29
                         try clear hx29
                         try clear c30
                         try clear c30b0
                         try clear c31
                         try clear c31b0
                         try clear c32
                         try clear c32b0
                         try clear c37
                         try clear c38
                         try clear c38b0
                         try clear c39
                         try clear c39b0
                         try clear c40
                         try clear c40b0
                         try clear c41
                         try clear c41b0
                         try clear c42
                         try clear c42b0
                         try clear c43
                         try clear p43
                         try clear q43
                         try clear Bt4
                         try clear Bt5
                         try clear c44
                         try clear p44
                         try clear q44
                         try clear Bt6
                         try clear Bt7
                         try clear c46
                         try clear c47
                         try clear c48
                         try clear c48b0
                         try clear c49
                         try clear c49b0
                         try clear c50
                         try clear c50b0
                         try clear c51
                         try clear c51b0
                         try clear c52
                         try clear p52
                         try clear q52
                         try clear Bt8
                         try clear Bt9
                         try clear c53
                         try clear p53
                         try clear q53
                         try clear Bu0
                         try clear Bu1
                         try clear c55
                         try clear c56
                         try clear c58
                         try clear c58b0
                         try clear c59
                         try clear c59b0
                         try clear c60
                         try clear c60b0
                         try clear c61
                         try clear c61b0
                         try clear c62
                         try clear c62b0
                         try clear AE0
                         try clear AE1
                         try clear AA9
                         try clear AB0
                         try clear b9
                         try clear d2
                         try clear d3
                         try clear d4
                         try clear X8
                         try clear X9
                         try clear Z0
                         try clear Z1
                         try clear g0
                         try clear g6
                         try clear g7
                         try clear g8
                         try clear o5
                         try clear o6
                         try clear o7
                         try clear o8
                         try clear o9
                         try clear p8
                         try clear r6
                         try clear r7
                         try clear AC4
                         try clear AC5
                         try clear AC6
                         try clear AC7
                         try clear AZ3
                         try clear AZ4
                         try clear AR3
                         try clear AR4
                         try clear AZ5
                         try clear AZ6
                         try clear AR5
                         try clear AR6
                         try clear p1
                         try clear p10
                         try clear p11
                         try clear p2
                         try clear p27
                         try clear Ac5
                         try clear Ac7
                         try clear p28
                         try clear Aj1
                         try clear Aj3
                         try clear As1
                         try clear As3
                         try clear Az4
                         try clear Az6
                         try clear p29
                         try clear A00
                         try clear A02
                         try clear BR8
                         try clear BS0
                         try clear p4
                         try clear p43
                         try clear p44
                         try clear p5
                         try clear p52
                         try clear p53
                         try clear p6
                         try clear q1
                         try clear q10
                         try clear q11
                         try clear q2
                         try clear q27
                         try clear Ac6
                         try clear Ac8
                         try clear q28
                         try clear Aj2
                         try clear Aj4
                         try clear As2
                         try clear As4
                         try clear Az5
                         try clear Az7
                         try clear q29
                         try clear A01
                         try clear A03
                         try clear BR9
                         try clear BS1
                         try clear q4
                         try clear q43
                         try clear q44
                         try clear q5
                         try clear q52
                         try clear q53
                         obtain ⟨kq,Af9,rfl,HA,A04,C2,HK,HB⟩:=hcut
                         cases kq with
                         | zero=>exact absurd HA.out (by simp [Y0.j6])
                         | succ Bf4 =>
                          have H:=HA.out
                          clear HA
                          simp only [Y0.j6] at H
                          by_cases c67:Af9=true
                          ·subst c67
                           have H1:(Y0.l3 Bf4 E0 a1 (wrap64 (E8+1)) AJ1)=some (r1,r2,r3):=by rw [if_pos rfl] at H;exact H
                           clear H
                           have H:=H1
                           clear H1
                           have H':=aM H
                           clear H
                           go_wp2
                           go_roundg Bf4
                           case measure=>have:=HK1.out;have:=AP3.out;have:=HK3.out;have:=Ac9.out;have:=HK5.out;have:=HK6.out;have:=A04.out;omega
                           case rel=>exact ⟨(wrap64 (E8+1)),(z2_),H',⟨by have:=HK1.out;have:=AP3.out;have:=HK3.out;have:=Ac9.out;have:=HK5.out;have:=HK6.out;have:=A04.out;omega⟩,⟨z37_ C2.out⟩,⟨z11_ HK.out⟩,⟨z6_ HB.out⟩⟩
                          ·replace c67:=Bool.eq_false_iff.mpr c67
                           subst c67
                           have H1:(Y0.l4 Bf4 E0 a1 E8 AJ1)=some (r1,r2,r3):=by rw [if_neg (show ¬ (false=true) by decide)] at H;exact H
                           clear H
                           have H:=H1
                           clear H1
                           have H':=aM H
                           clear H
                           go_wp2
                           go_loopg [13] Bf4 (fun kq v13 w'=>∃ (D0:Int),v13 = .int .i64 D0∧Aside0 (Y0.l4 kq E0 a1 E8 D0=some (r1,r2,r3))∧Aside0 (kq≤Bf4)∧Aside0 (Kd.R k78 78 w' w0.heap.size (fun k_=>(P0_ k_∨w.heap.size≤k_)) (.slice (some ⟨D7,0,none⟩) E0.length AP2) E0)∧Aside0 (Kept w w' (fun k_=>P0_ k_))∧Aside0 (Below w0.heap.size w0 w'))
                           case atStart=>exact ⟨(AJ1),(z2_),H',⟨Nat.le_refl _⟩,⟨z37_ C2.out⟩,⟨z11_ HK.out⟩,⟨z6_ HB.out⟩⟩
                           case round=>as_aux_lemma =>
                            clear H'
                            try clear c1
                            try clear p1
                            try clear q1
                            try clear hx1
                            try clear c2
                            try clear p2
                            try clear q2
                            try clear hx2
                            try clear c3
                            try clear c4
                            try clear p4
                            try clear q4
                            try clear hx4
                            try clear c5
                            try clear p5
                            try clear q5
                            try clear hx5
                            try clear hf5
                            try clear c6
                            try clear c6b0
                            try clear p6
                            try clear c7
                            try clear c7b0
                            try clear c8
                            try clear c8b0
                            try clear c9
                            try clear c9b0
                            try clear c10
                            try clear p10
                            try clear q10
                            try clear Aq9
                            try clear Ay8
                            try clear c11
                            try clear p11
                            try clear q11
                            try clear Ay9
                            try clear Az0
                            try clear c14
                            try clear c15
                            try clear c17
                            try clear c17b0
                            try clear c18
                            try clear c18b0
                            try clear c19
                            try clear c19b0
                            try clear c20
                            try clear c20b0
                            try clear c21
                            try clear c21b0
                            try clear c26
                            try clear p27
                            try clear q27
                            try clear hx27
                            try clear c28
                            try clear c28b0
                            try clear p28
                            try clear q28
                            try clear hx28
                            try clear c29
                            try clear c29b0
                            try clear p29
                            try clear q29
                            try clear hx29
                            try clear c30
                            try clear c30b0
                            try clear c31
                            try clear c31b0
                            try clear c32
                            try clear c32b0
                            try clear c37
                            try clear c38
                            try clear c38b0
                            try clear c39
                            try clear c39b0
                            try clear c40
                            try clear c40b0
                            try clear c41
                            try clear c41b0
                            try clear c42
                            try clear c42b0
                            try clear c43
                            try clear p43
                            try clear q43
                            try clear Bt4
                            try clear Bt5
                            try clear c44
                            try clear p44
                            try clear q44
                            try clear Bt6
                            try clear Bt7
                            try clear c46
                            try clear c47
                            try clear c48
                            try clear c48b0
                            try clear c49
                            try clear c49b0
                            try clear c50
                            try clear c50b0
                            try clear c51
                            try clear c51b0
                            try clear c52
                            try clear p52
                            try clear q52
                            try clear Bt8
                            try clear Bt9
                            try clear c53
                            try clear p53
                            try clear q53
                            try clear Bu0
                            try clear Bu1
                            try clear c55
                            try clear c56
                            try clear c58
                            try clear c58b0
                            try clear c59
                            try clear c59b0
                            try clear c60
                            try clear c60b0
                            try clear c61
                            try clear c61b0
                            try clear c62
                            try clear c62b0
                            try clear p64
                            try clear c67
                            try clear AE0
                            try clear AE1
                            try clear AA9
                            try clear AB0
                            try clear b9
                            try clear d2
                            try clear d3
                            try clear d4
                            try clear X8
                            try clear X9
                            try clear Z0
                            try clear Z1
                            try clear g0
                            try clear g6
                            try clear g7
                            try clear g8
                            try clear o5
                            try clear o6
                            try clear o7
                            try clear o8
                            try clear o9
                            try clear p8
                            try clear r6
                            try clear r7
                            try clear AC4
                            try clear AC5
                            try clear AC6
                            try clear AC7
                            try clear AZ3
                            try clear AZ4
                            try clear AR3
                            try clear AR4
                            try clear AZ5
                            try clear AZ6
                            try clear AR5
                            try clear AR6
                            try clear p1
                            try clear p10
                            try clear p11
                            try clear p2
                            try clear p27
                            try clear Ac5
                            try clear Ac7
                            try clear p28
                            try clear Aj1
                            try clear Aj3
                            try clear As1
                            try clear As3
                            try clear Az4
                            try clear Az6
                            try clear p29
                            try clear A00
                            try clear A02
                            try clear BR8
                            try clear BS0
                            try clear p4
                            try clear p43
                            try clear p44
                            try clear p5
                            try clear p52
                            try clear p53
                            try clear p6
                            try clear q1
                            try clear q10
                            try clear q11
                            try clear q2
                            try clear q27
                            try clear Ac6
                            try clear Ac8
                            try clear q28
                            try clear Aj2
                            try clear Aj4
                            try clear As2
                            try clear As4
                            try clear Az5
                            try clear Az7
                            try clear q29
                            try clear A01
                            try clear A03
                            try clear BR9
                            try clear BS1
                            try clear q4
                            try clear q43
                            try clear q44
                            try clear q5
                            try clear q52
                            try clear q53
                            obtain ⟨D0,rfl,HA,HK8,C2,HK,HB⟩:=hrel
                            cases gk with
                            | zero=>exact absurd HA.out (by simp [Y0.l4])
                            | succ k8 =>
                             have H:=HA.out
                             clear HA
                             simp only [Y0.l4] at H
                             have CK2:=aM H
                             clear H
                             go_upto_region 15 with (fail)
                             go_cut [139] (fun v139 wc=>∃ (kq:Nat) (Ag0:Bool),v139 = .bool Ag0∧Aside0 (Y0.j8 kq E0 a1 E8 D0 Ag0=some (r1,r2,r3))∧Aside0 (kq≤k8)∧Aside0 (Kd.R k78 78 wc w0.heap.size (fun k_=>(P0_ k_∨w.heap.size≤k_)) (.slice (some ⟨D7,0,none⟩) E0.length AP2) E0)∧Aside0 (Kept w wc (fun k_=>P0_ k_))∧Aside0 (Below w0.heap.size w0 wc))
                             case first=>as_aux_lemma =>
                              have H:=CK2.out
                              clear CK2
                              by_cases c69:E8≤D0
                              ·rw [if_pos c69] at H
                               have c69b0:decide (E8≤D0)=true:=dE c69
                               clear c69
                               (first | rw [c69b0] | (simp only [i64_w,i32_w];rw [c69b0]) | skip)
                               by_cases c70:0≤D0
                               ·rw [if_pos c70] at H
                                have c70b0:decide (0≤D0)=true:=dE c70
                                clear c70
                                by_cases c71:D0<(E0.length:Int)
                                ·rw [if_pos c71] at H
                                 have c71b0:decide (D0<(E0.length:Int))=true:=dE c71
                                 clear c71
                                 by_cases c72:0≤a1
                                 ·rw [if_pos c72] at H
                                  have c72b0:decide (0≤a1)=true:=dE c72
                                  clear c72
                                  by_cases c73:a1<(E0.length:Int)
                                  ·rw [if_pos c73] at H
                                   have c73b0:decide (a1<(E0.length:Int))=true:=dE c73
                                   clear c73
                                   replace H:=bS H
                                   obtain ⟨Bd3,Ch9,H⟩:=H
                                   replace H:(Y0.j8 k8 E0 a1 E8 D0 (!(decide (Bd3<0))))=some (r1,r2,r3):=H
                                   have A74:=aM Ch9
                                   clear Ch9
                                   have H':=aM H
                                   clear H
                                   try go_wp2
                                   have n0_:=aM (Kd.R_drew C2.out)
                                   have n1_:=aM (Kept.drew HK.out)
                                   have n2_:=aM (below_drew1 HB.out)
                                   clear C2
                                   clear HK
                                   clear HB
                                   have C2:=n0_
                                   have HK:=n1_
                                   have HB:=n2_
                                   clear n0_ n1_ n2_
                                   have Bu2:0≤(D0:Int):=dT (z1_)
                                   have Bu3:D0<(E0.length:Int):=dT (z1_)
                                   obtain ⟨Ci0,e297,AN9,AO0⟩:=at_T78 (Kd.R_reads' C2.out).2.2 D0 Bu2 Bu3
                                   obtain rfl:(⟨D7,0,none⟩:Addr)=Ci0:=(by injection e297)
                                   (first | simp only [add_plain] at AN9 | simp only [add_at] at AN9 | simp only [Addr.add,Nat.zero_add] at AN9 | skip)
                                   (first | simp only [add_plain] at AO0 | simp only [add_at] at AO0 | simp only [Addr.add,Nat.zero_add] at AO0 | skip)
                                   replace Bu2:=eq_true Bu2
                                   replace Bu3:=eq_true Bu3
                                   have Bu4:0≤(a1:Int):=dT (z1_)
                                   have Bu5:a1<(E0.length:Int):=dT (z1_)
                                   obtain ⟨Ci1,e298,AO1,AO2⟩:=at_T78 (Kd.R_reads' C2.out).2.2 a1 Bu4 Bu5
                                   obtain rfl:(⟨D7,0,none⟩:Addr)=Ci1:=(by injection e298)
                                   (first | simp only [add_plain] at AO1 | simp only [add_at] at AO1 | simp only [Addr.add,Nat.zero_add] at AO1 | skip)
                                   (first | simp only [add_plain] at AO2 | simp only [add_at] at AO2 | simp only [Addr.add,Nat.zero_add] at AO2 | skip)
                                   replace Bu4:=eq_true Bu4
                                   replace Bu5:=eq_true Bu5
                                   refine start_ (n:=17) (S:=fun w'=>w'.cell? ⟨D7,(D0).toNat*2,none⟩=some (.int .i64 ((rd_T78 E0 D0).f0))∧w'.cell? ⟨D7,(D0).toNat*2+1,none⟩=some (.int .i64 ((rd_T78 E0 D0).f1))∧w'.cell? ⟨D7,(a1).toNat*2,none⟩=some (.int .i64 ((rd_T78 E0 a1).f0))∧w'.cell? ⟨D7,(a1).toNat*2+1,none⟩=some (.int .i64 ((rd_T78 E0 a1).f1))) (ds:=[]) Y0.q23 (by kernel_rfl) rfl rfl ⟨AN9,AO0,AO1,AO2⟩ (fun hHeld=>?_);refine with_tabW Y0.tab15 Y0.bits15 (fun HT_ HW_=>?_)
                                   generalize wr.drew=w75 at C2 HK HB AN9 AO0 AO1 AO2 hHeld ⊢
                                   refine pu_ 0 123 Y0.q24 HT_.out ?_
                                   refine pu_ 1 124 Y0.q25 HT_.out ?_
                                   refine pu_ 2 125 Y0.q26 HT_.out ?_
                                   refine pu_ 3 126 Y0.q27 HT_.out ?_
                                   refine pu_ 4 127 Y0.q28 HT_.out ?_
                                   refine pu_ 5 128 Y0.q29 HT_.out ?_
                                   refine pu_ 6 129 Y0.q30 HT_.out ?_
                                   refine pu_ 7 130 Y0.q31 HT_.out ?_
                                   refine pu_ 9 132 Y0.q32 HT_.out ?_
                                   refine pu_ 10 133 Y0.q33 HT_.out ?_
                                   refine pu_ 11 134 Y0.q34 HT_.out ?_
                                   refine tk4_ 8 131 Y0.q35 HT_.out HW_.out hHeld ?_
                                   refine tk4_ 12 135 Y0.q36 HT_.out HW_.out hHeld ?_
                                   refine o1_ 13 136 Y0.q37 HT_.out (fun K hK=>?_)
                                   refine goesD_ Tryz.func72 (by kernel_rfl) rfl #[.agg #[.int .i64 ((rd_T78 E0 D0).f0),.int .i64 ((rd_T78 E0 D0).f1)],.agg #[.int .i64 ((rd_T78 E0 a1).f0),.int .i64 ((rd_T78 E0 a1).f1)]] (by rfl) rfl rfl (by rfl) (z45_) ?_
                                   with_reducible refine (Y38.calls k8 ((rd_T78 E0 D0).f0) ((rd_T78 E0 D0).f1) ((rd_T78 E0 a1).f0) ((rd_T78 E0 a1).f1) Bd3 _ A74.out).mono ?_
                                   rintro e w76 ⟨rfl,hb⟩
                                   have AQ9:=(hb.cell (World.block_lt_of_cell? _ _ (hHeld.1))).trans (hHeld.1)
                                   have AR0:=(hb.cell (World.block_lt_of_cell? _ _ (hHeld.2.1))).trans (hHeld.2.1)
                                   have AR1:=(hb.cell (World.block_lt_of_cell? _ _ (hHeld.2.2.1))).trans (hHeld.2.2.1)
                                   have AR2:=(hb.cell (World.block_lt_of_cell? _ _ (hHeld.2.2.2))).trans (hHeld.2.2.2)
                                   refine ⟨_,rfl,?_⟩
                                   have n0_:=aM (Kd.R_below (z0_ C2.out) hb)
                                   have n1_:=aM (Kept.below (S:=(fun k_=>P0_ k_)) (z11_ HK.out) hb)
                                   have n2_:=aM (below_step (z6_ HB.out) hb)
                                   clear C2
                                   clear HK
                                   clear HB
                                   have C2:=n0_
                                   have HK:=n1_
                                   have HB:=n2_
                                   clear n0_ n1_ n2_
                                   (try clear hb)
                                   refine hK.out _ _ ⟨AQ9,AR0,AR1,AR2⟩ (fun hHeld=>?_)
                                   clear hK K
                                   refine nm_ 136 ?_
                                   refine pu_ 14 137 Y0.q38 HT_.out ?_
                                   refine pu_ 15 138 Y0.q39 HT_.out ?_
                                   refine pu_ 16 139 Y0.q40 HT_.out ?_
                                   refine done_ (done_of HT_.out (by kernel_rfl)) ?_
                                   try go_wp2
                                   go_meet
                                   case rel=>exact ⟨_,(!(decide (Bd3<0))),(z2_),H',⟨by have:=HK1.out;have:=AP3.out;have:=HK3.out;have:=Ac9.out;have:=HK5.out;have:=HK6.out;have:=A04.out;have:=HK8.out;first | omega | exact Nat.le_refl _⟩,⟨z37_ C2.out⟩,⟨z11_ HK.out⟩,⟨z6_ HB.out⟩⟩
                                  ·rw [if_neg c73] at H
                                   exact nO H
                                 ·rw [if_neg c72] at H
                                  exact nO H
                                ·rw [if_neg c71] at H
                                 exact nO H
                               ·rw [if_neg c70] at H
                                exact nO H
                              ·rw [if_neg c69] at H
                               have c69b0:decide (E8≤D0)=false:=dF c69
                               clear c69
                               (first | rw [c69b0] | (simp only [i64_w,i32_w];rw [c69b0]) | skip)
                               have H':=aM H
                               clear H
                               try go_wp2
                               have n0_:=aM (Kd.R_drew C2.out)
                               have n1_:=aM (Kept.drew HK.out)
                               have n2_:=aM (below_drew1 HB.out)
                               clear C2
                               clear HK
                               clear HB
                               have C2:=n0_
                               have HK:=n1_
                               have HB:=n2_
                               clear n0_ n1_ n2_
                               refine start_ (n:=17) (S:=fun w'=>True) (ds:=[]) Y0.q23 (by kernel_rfl) rfl rfl trivial (fun hHeld=>?_);refine with_tabW Y0.tab15 Y0.bits15 (fun HT_ HW_=>?_)
                               generalize wr.drew=w77 at C2 HK HB hHeld ⊢
                               refine pu_ 0 123 Y0.q24 HT_.out ?_
                               refine pu_ 1 124 Y0.q25 HT_.out ?_
                               refine pu_ 2 125 Y0.q26 HT_.out ?_
                               refine pu_ 3 126 Y0.q27 HT_.out ?_
                               refine pn_ 4 127 Y0.q28 HT_.out ?_
                               refine pn_ 5 128 Y0.q29 HT_.out ?_
                               refine pn_ 6 129 Y0.q30 HT_.out ?_
                               refine pn_ 7 130 Y0.q31 HT_.out ?_
                               refine pn_ 8 131 Y0.q41 HT_.out ?_
                               refine pn_ 9 132 Y0.q42 HT_.out ?_
                               refine pn_ 10 133 Y0.q43 HT_.out ?_
                               refine pn_ 11 134 Y0.q35 HT_.out ?_
                               refine pn_ 12 135 Y0.q36 HT_.out ?_
                               refine pn_ 13 136 Y0.q37 HT_.out ?_
                               refine pn_ 14 137 Y0.q38 HT_.out ?_
                               refine pn_ 15 138 Y0.q39 HT_.out ?_
                               refine pu_ 16 139 Y0.q40 HT_.out ?_
                               refine done_ (done_of HT_.out (by kernel_rfl)) ?_
                               try go_wp2
                               go_meet
                               case rel=>exact ⟨_,(false),(z2_),H',⟨by have:=HK1.out;have:=AP3.out;have:=HK3.out;have:=Ac9.out;have:=HK5.out;have:=HK6.out;have:=A04.out;have:=HK8.out;first | omega | exact Nat.le_refl _⟩,⟨z37_ C2.out⟩,⟨z11_ HK.out⟩,⟨z6_ HB.out⟩⟩
                             case rest=>as_aux_lemma =>
                              clear CK2
                              try clear c1
                              try clear p1
                              try clear q1
                              try clear hx1
                              try clear c2
                              try clear p2
                              try clear q2
                              try clear hx2
                              try clear c3
                              try clear c4
                              try clear p4
                              try clear q4
                              try clear hx4
                              try clear c5
                              try clear p5
                              try clear q5
                              try clear hx5
                              try clear hf5
                              try clear c6
                              try clear c6b0
                              try clear p6
                              try clear c7
                              try clear c7b0
                              try clear c8
                              try clear c8b0
                              try clear c9
                              try clear c9b0
                              try clear c10
                              try clear p10
                              try clear q10
                              try clear Aq9
                              try clear Ay8
                              try clear c11
                              try clear p11
                              try clear q11
                              try clear Ay9
                              try clear Az0
                              try clear c14
                              try clear c15
                              try clear c17
                              try clear c17b0
                              try clear c18
                              try clear c18b0
                              try clear c19
                              try clear c19b0
                              try clear c20
                              try clear c20b0
                              try clear c21
                              try clear c21b0
                              try clear c26
                              try clear p27
                              try clear q27
                              try clear hx27
                              try clear c28
                              try clear c28b0
                              try clear p28
                              try clear q28
                              try clear hx28
                              try clear c29
                              try clear c29b0
                              try clear p29
                              try clear q29
                              try clear hx29
                              try clear c30
                              try clear c30b0
                              try clear c31
                              try clear c31b0
                              try clear c32
                              try clear c32b0
                              try clear c37
                              try clear c38
                              try clear c38b0
                              try clear c39
                              try clear c39b0
                              try clear c40
                              try clear c40b0
                              try clear c41
                              try clear c41b0
                              try clear c42
                              try clear c42b0
                              try clear c43
                              try clear p43
                              try clear q43
                              try clear Bt4
                              try clear Bt5
                              try clear c44
                              try clear p44
                              try clear q44
                              try clear Bt6
                              try clear Bt7
                              try clear c46
                              try clear c47
                              try clear c48
                              try clear c48b0
                              try clear c49
                              try clear c49b0
                              try clear c50
                              try clear c50b0
                              try clear c51
                              try clear c51b0
                              try clear c52
                              try clear p52
                              try clear q52
                              try clear Bt8
                              try clear Bt9
                              try clear c53
                              try clear p53
                              try clear q53
                              try clear Bu0
                              try clear Bu1
                              try clear c55
                              try clear c56
                              try clear c58
                              try clear c58b0
                              try clear c59
                              try clear c59b0
                              try clear c60
                              try clear c60b0
                              try clear c61
                              try clear c61b0
                              try clear c62
                              try clear c62b0
                              try clear p64
                              try clear c67
                              try clear c69
                              try clear c69b0
                              try clear c70
                              try clear c70b0
                              try clear c71
                              try clear c71b0
                              try clear c72
                              try clear c72b0
                              try clear c73
                              try clear c73b0
                              try clear AE0
                              try clear AE1
                              try clear AA9
                              try clear AB0
                              try clear b9
                              try clear d2
                              try clear d3
                              try clear d4
                              try clear X8
                              try clear X9
                              try clear Z0
                              try clear Z1
                              try clear g0
                              try clear g6
                              try clear g7
                              try clear g8
                              try clear o5
                              try clear o6
                              try clear o7
                              try clear o8
                              try clear o9
                              try clear p8
                              try clear r6
                              try clear r7
                              try clear AC4
                              try clear AC5
                              try clear AC6
                              try clear AC7
                              try clear AN9
                              try clear AO0
                              try clear AO1
                              try clear AO2
                              try clear AZ3
                              try clear AZ4
                              try clear AR3
                              try clear AR4
                              try clear AZ5
                              try clear AZ6
                              try clear AR5
                              try clear AR6
                              try clear p1
                              try clear p10
                              try clear p11
                              try clear p2
                              try clear p27
                              try clear Ac5
                              try clear Ac7
                              try clear p28
                              try clear Aj1
                              try clear Aj3
                              try clear As1
                              try clear As3
                              try clear Az4
                              try clear Az6
                              try clear p29
                              try clear A00
                              try clear A02
                              try clear BR8
                              try clear BS0
                              try clear Bu2
                              try clear Bu4
                              try clear p4
                              try clear p43
                              try clear p44
                              try clear p5
                              try clear p52
                              try clear p53
                              try clear p6
                              try clear p64
                              try clear q1
                              try clear q10
                              try clear q11
                              try clear q2
                              try clear q27
                              try clear Ac6
                              try clear Ac8
                              try clear q28
                              try clear Aj2
                              try clear Aj4
                              try clear As2
                              try clear As4
                              try clear Az5
                              try clear Az7
                              try clear q29
                              try clear A01
                              try clear A03
                              try clear BR9
                              try clear BS1
                              try clear Bu3
                              try clear Bu5
                              try clear q4
                              try clear q43
                              try clear q44
                              try clear q5
                              try clear q52
                              try clear q53
                              obtain ⟨kq,Ag0,rfl,HA,Bu6,C2,HK,HB⟩:=hcut
                              cases kq with
                              | zero=>exact absurd HA.out (by simp [Y0.j8])
                              | succ BS2 =>
                               have H:=HA.out
                               clear HA
                               simp only [Y0.j8] at H
                               by_cases c78:Ag0=true
                               ·subst c78
                                have H1:(Y0.l4 BS2 E0 a1 E8 (wrap64 (D0-1)))=some (r1,r2,r3):=by rw [if_pos rfl] at H;exact H
                                clear H
                                have H:=H1
                                clear H1
                                have H':=aM H
                                clear H
                                go_wp2
                                go_roundg BS2
                                case measure=>have:=HK1.out;have:=AP3.out;have:=HK3.out;have:=Ac9.out;have:=HK5.out;have:=HK6.out;have:=A04.out;have:=HK8.out;have:=Bu6.out;omega
                                case rel=>exact ⟨(wrap64 (D0-1)),(z2_),H',⟨by have:=HK1.out;have:=AP3.out;have:=HK3.out;have:=Ac9.out;have:=HK5.out;have:=HK6.out;have:=A04.out;have:=HK8.out;have:=Bu6.out;omega⟩,⟨z37_ C2.out⟩,⟨z11_ HK.out⟩,⟨z6_ HB.out⟩⟩
                               ·replace c78:=Bool.eq_false_iff.mpr c78
                                subst c78
                                have H1:(if E8>D0 then (if 0≤a1 then (if a1<(E0.length:Int) then (if 0≤D0 then (if D0<(E0.length:Int) then (some (D0,false,((E0.set (D0:Int).toNat (⟨(rd_T78 E0 a1).f0,(rd_T78 E0 a1).f1⟩:S78)).set (a1:Int).toNat (⟨(rd_T78 E0 D0).f0,(rd_T78 E0 D0).f1⟩:S78)))) else (none)) else (none)) else (none)) else (none)) else (if 0≤D0 then (if D0<(E0.length:Int) then (if 0≤E8 then (if E8<(E0.length:Int) then (Y0.l2 BS2 ((E0.set (E8:Int).toNat (⟨(rd_T78 E0 D0).f0,(rd_T78 E0 D0).f1⟩:S78)).set (D0:Int).toNat (⟨(rd_T78 E0 E8).f0,(rd_T78 E0 E8).f1⟩:S78)) a1 (wrap64 (E8+1)) (wrap64 (D0-1))) else (none)) else (none)) else (none)) else (none)))=some (r1,r2,r3):=by rw [if_neg (show ¬ (false=true) by decide)] at H;exact H
                                clear H
                                have H:=H1
                                clear H1
                                by_cases c79:E8>D0
                                ·rw [if_pos c79] at H
                                 have c79b0:decide (D0<E8)=true:=dE c79
                                 clear c79
                                 by_cases c80:0≤a1
                                 ·rw [if_pos c80] at H
                                  have c80b0:decide (0≤a1)=true:=dE c80
                                  clear c80
                                  by_cases c81:a1<(E0.length:Int)
                                  ·rw [if_pos c81] at H
                                   have c81b0:decide (a1<(E0.length:Int))=true:=dE c81
                                   clear c81
                                   by_cases c82:0≤D0
                                   ·rw [if_pos c82] at H
                                    have c82b0:decide (0≤D0)=true:=dE c82
                                    clear c82
                                    by_cases c83:D0<(E0.length:Int)
                                    ·rw [if_pos c83] at H
                                     have c83b0:decide (D0<(E0.length:Int))=true:=dE c83
                                     clear c83
                                     obtain ⟨BS3,A05⟩:∃ y_:List (S78),y_=(E0.set (D0:Int).toNat (⟨(rd_T78 E0 a1).f0,(rd_T78 E0 a1).f1⟩:S78)):=⟨_,rfl⟩
                                     replace H:(some (D0,false,(BS3.set (a1:Int).toNat (⟨(rd_T78 E0 D0).f0,(rd_T78 E0 D0).f1⟩:S78))))=some (r1,r2,r3):=by first | (rw [A05];with_reducible exact H) | (have H2_:=(Option.bind_some _ _).symm.trans H;rw [A05];with_reducible exact H2_) | (have H2_:=(Option.bind_some _ _).symm.trans H;with_reducible exact H2_) | with_reducible exact H | (rw [A05];exact H) | exact H
                                     have Ci2:=aM A05
                                     clear A05
                                     obtain ⟨C27,A06⟩:∃ y_:List (S78),y_=(BS3.set (a1:Int).toNat (⟨(rd_T78 E0 D0).f0,(rd_T78 E0 D0).f1⟩:S78)):=⟨_,rfl⟩
                                     replace H:(some (D0,false,C27))=some (r1,r2,r3):=by first | (rw [A06];with_reducible exact H) | (have H2_:=(Option.bind_some _ _).symm.trans H;rw [A06];with_reducible exact H2_) | (have H2_:=(Option.bind_some _ _).symm.trans H;with_reducible exact H2_) | with_reducible exact H | (rw [A06];exact H) | exact H
                                     have Ci3:=aM A06
                                     clear A06
                                     simp only [Option.some.injEq,Prod.mk.injEq] at H
                                     obtain ⟨rfl,rfl,rfl⟩:=H
                                     try go_wp2
                                     have n0_:=aM (Kd.R_drew C2.out)
                                     have n1_:=aM (Kept.drew HK.out)
                                     have n2_:=aM (below_drew1 HB.out)
                                     clear C2
                                     clear HK
                                     clear HB
                                     have C2:=n0_
                                     have HK:=n1_
                                     have HB:=n2_
                                     clear n0_ n1_ n2_
                                     have CK3:0≤(a1:Int):=dT (z1_)
                                     have CK4:a1<(E0.length:Int):=dT (z1_)
                                     obtain ⟨Ci4,e300,AU6,AU7⟩:=at_T78 (Kd.R_reads' C2.out).2.2 a1 CK3 CK4
                                     obtain rfl:(⟨D7,0,none⟩:Addr)=Ci4:=(by injection e300)
                                     (first | simp only [add_plain] at AU6 | simp only [add_at] at AU6 | simp only [Addr.add,Nat.zero_add] at AU6 | skip)
                                     (first | simp only [add_plain] at AU7 | simp only [add_at] at AU7 | simp only [Addr.add,Nat.zero_add] at AU7 | skip)
                                     replace CK3:=eq_true CK3
                                     replace CK4:=eq_true CK4
                                     have CK5:0≤(D0:Int):=dT (z1_)
                                     have CK6:D0<(E0.length:Int):=dT (z1_)
                                     obtain ⟨Ci5,e301,AU8,AU9⟩:=at_T78 (Kd.R_reads' C2.out).2.2 D0 CK5 CK6
                                     obtain rfl:(⟨D7,0,none⟩:Addr)=Ci5:=(by injection e301)
                                     (first | simp only [add_plain] at AU8 | simp only [add_at] at AU8 | simp only [Addr.add,Nat.zero_add] at AU8 | skip)
                                     (first | simp only [add_plain] at AU9 | simp only [add_at] at AU9 | simp only [Addr.add,Nat.zero_add] at AU9 | skip)
                                     replace CK5:=eq_true CK5
                                     replace CK6:=eq_true CK6
                                     have p84:0≤(D0:Int):=dT (z1_)
                                     have q84:(D0:Int)<((E0.length:Int):Int):=dT (z1_)
                                     obtain ⟨ce84,Ci6,Ci7,Bf5,Bf6⟩:=Kd.R_elem C2.out z78 (D0:Int) p84 q84
                                     obtain rfl:=k78_openM Ci7
                                     have CK7:World.cell? _ ⟨D7,(D0:Int).toNat*2,none⟩=some (.int .i64 ((rd_T78 E0 D0).f0)):=Bf5 0 _ rfl
                                     have CK8:World.cell? _ ⟨D7,(D0:Int).toNat*2+1,none⟩=some (.int .i64 ((rd_T78 E0 D0).f1)):=Bf5 1 _ rfl
                                     have CK9:World.frozen? _ ⟨D7,(D0:Int).toNat*2,none⟩=false:=Bf6 0
                                     have CL0:World.frozen? _ ⟨D7,(D0:Int).toNat*2+1,none⟩=false:=Bf6 1
                                     clear Ci6 Bf5 Bf6 Ci7
                                     replace p84:=eq_true p84
                                     replace q84:=eq_true q84
                                     obtain ⟨ce87,B89,Ci8,B90,Ci9⟩:=Kd.R_elem C2.out z78 (D0:Int) (dT (z1_)) (z49_ C2.out)
                                     obtain rfl:=k78_openM Ci8
                                     have CL1:=(Kd.R_seg C2.out (D0:Int) (dT (z1_)) (z49_ C2.out) (seg:=[.int .i64 ((rd_T78 E0 a1).f0),.int .i64 ((rd_T78 E0 a1).f1)]) (j:=0) B89 B90 (show 2≤2 from by decide) (x':=(⟨(rd_T78 E0 a1).f0,(rd_T78 E0 a1).f1⟩:S78)) (k78_mkM _ _ _ (⟨(rd_T78 E0 a1).f0,(rd_T78 E0 a1).f1⟩:S78) ) (fun _ hk=>hk)).1
                                     rw [← Ci2.out] at CL1
                                     have Bu7:=aM CL1
                                     clear B89 B90 Ci9 Ci8 CL1
                                     have p85:0≤(a1:Int):=dT (z1_)
                                     have q85:(a1:Int)<((E0.length:Int):Int):=dT (z1_)
                                     obtain ⟨ce85,Cj0,Cj1,Bf7,Bf8⟩:=Kd.R_elem Bu7.out z78 (a1:Int) p85 q85
                                     obtain rfl:=k78_openM Cj1
                                     have Bf9:World.cell? _ ⟨D7,(a1:Int).toNat*2,none⟩=some (.int .i64 ((rd_T78 BS3 a1).f0)):=Bf7 0 _ rfl
                                     have Bg0:World.cell? _ ⟨D7,(a1:Int).toNat*2+1,none⟩=some (.int .i64 ((rd_T78 BS3 a1).f1)):=Bf7 1 _ rfl
                                     have Bg1:World.frozen? _ ⟨D7,(a1:Int).toNat*2,none⟩=false:=Bf8 0
                                     have Bg2:World.frozen? _ ⟨D7,(a1:Int).toNat*2+1,none⟩=false:=Bf8 1
                                     clear Cj0 Bf7 Bf8 Cj1
                                     replace p85:=eq_true p85
                                     replace q85:=eq_true q85
                                     obtain ⟨ce88,B91,Cj2,B92,Cj3⟩:=Kd.R_elem Bu7.out z78 (a1:Int) (dT (z1_)) (by have h_:(a1:Int)<((E0.length:Int):Int):=dT (by first | (with_reducible assumption) | assumption);first | exact h_ | (have e_:=(Kd.R_reads' C2.out).1;omega) | simpa using h_)
                                     obtain rfl:=k78_openM Cj2
                                     have CL2:=(Kd.R_seg Bu7.out (a1:Int) (dT (z1_)) (by have h_:(a1:Int)<((E0.length:Int):Int):=dT (by first | (with_reducible assumption) | assumption);first | exact h_ | (have e_:=(Kd.R_reads' C2.out).1;omega) | simpa using h_) (seg:=[.int .i64 ((rd_T78 E0 D0).f0),.int .i64 ((rd_T78 E0 D0).f1)]) (j:=0) B91 B92 (show 2≤2 from by decide) (x':=(⟨(rd_T78 E0 D0).f0,(rd_T78 E0 D0).f1⟩:S78)) (k78_mkM _ _ _ (⟨(rd_T78 E0 D0).f0,(rd_T78 E0 D0).f1⟩:S78) ) (fun _ hk=>hk)).1
                                     rw [← Ci3.out] at CL2
                                     have CL3:=aM CL2
                                     clear B91 B92 Cj3 Cj2 CL2
                                     refine start_ (n:=16) (S:=fun w'=>w'.cell? ⟨D7,(a1).toNat*2,none⟩=some (.int .i64 ((rd_T78 E0 a1).f0))∧w'.cell? ⟨D7,(a1).toNat*2+1,none⟩=some (.int .i64 ((rd_T78 E0 a1).f1))∧w'.cell? ⟨D7,(D0).toNat*2,none⟩=some (.int .i64 ((rd_T78 E0 D0).f0))∧w'.cell? ⟨D7,(D0).toNat*2+1,none⟩=some (.int .i64 ((rd_T78 E0 D0).f1))) (ds:=[13,15]) Y0.q0 (by kernel_rfl) rfl rfl ⟨AU6,AU7,AU8,AU9⟩ (fun hHeld=>?_);refine with_tabW Y0.tab21 Y0.bits21 (fun HT_ HW_=>?_)
                                     generalize wc.drew=w86 at C2 HK HB Bu7 CL3 CK9 CL0 Bg1 Bg2 AU6 AU7 AU8 AU9 CK7 CK8 Bf9 Bg0 hHeld ⊢
                                     have hz85_0:(w86.setCell ⟨D7,(D0:Int).toNat*2,none⟩ (.int .i64 ((rd_T78 E0 a1).f0))).cell? ⟨D7,(a1:Int).toNat*2,none⟩=some (.int .i64 ((rd_T78 BS3 a1).f0)):=by have h_:=Bf9;exact ((show ((w86.setCell ⟨D7,(D0:Int).toNat*2,none⟩ (.int .i64 ((rd_T78 E0 a1).f0))).setCell ⟨D7,(D0:Int).toNat*2+1,none⟩ (.int .i64 ((rd_T78 E0 a1).f1))).cell? ⟨D7,(a1:Int).toNat*2,none⟩=(w86.setCell ⟨D7,(D0:Int).toNat*2,none⟩ (.int .i64 ((rd_T78 E0 a1).f0))).cell? ⟨D7,(a1:Int).toNat*2,none⟩ from World.cell?_setCell_other _ _ _ _ (by intro e_;injection e_ with e1_ e2_;omega)).symm.trans h_)
                                     have hy85_0:w86.frozen? ⟨D7,(a1:Int).toNat*2,none⟩=false:=by have h_:=Bg1;first | exact h_ | simpa only [World.frozen?_setCell] using h_ | simpa [World.setCells] using h_
                                     have hz85_1:((w86.setCell ⟨D7,(D0:Int).toNat*2,none⟩ (.int .i64 ((rd_T78 E0 a1).f0))).setCell ⟨D7,(D0:Int).toNat*2+1,none⟩ (.int .i64 ((rd_T78 E0 a1).f1))).cell? ⟨D7,(a1:Int).toNat*2+1,none⟩=some (.int .i64 ((rd_T78 BS3 a1).f1)):=by have h_:=Bg0;exact h_
                                     have hy85_1:w86.frozen? ⟨D7,(a1:Int).toNat*2+1,none⟩=false:=by have h_:=Bg2;first | exact h_ | simpa only [World.frozen?_setCell] using h_ | simpa [World.setCells] using h_
                                     refine pu_ 0 163 Y0.q1 HT_.out ?_
                                     refine pu_ 1 164 Y0.q2 HT_.out ?_
                                     refine pu_ 2 165 Y0.q3 HT_.out ?_
                                     refine pu_ 3 166 Y0.q4 HT_.out ?_
                                     refine pu_ 4 167 Y0.q5 HT_.out ?_
                                     refine pu_ 5 168 Y0.q6 HT_.out ?_
                                     refine pu_ 6 169 Y0.q7 HT_.out ?_
                                     refine pu_ 8 171 Y0.q8 HT_.out ?_
                                     refine pu_ 9 172 Y0.q9 HT_.out ?_
                                     refine pu_ 10 173 Y0.q10 HT_.out ?_
                                     refine tk4_ 7 170 Y0.q11 HT_.out HW_.out hHeld ?_
                                     refine tk4_ 11 174 Y0.q12 HT_.out HW_.out hHeld ?_
                                     refine pu_ 12 175 Y0.q13 HT_.out ?_
                                     refine last_ (i:=13) (N:=none) Y0.q14 rfl rfl (one_of HT_.out (by kernel_rfl)) (by decide) (fun K hK=>?_)
                                     refine skip_ (w1:=?_) (by rfl) rfl ?_ ?_
                                     rotate_left
                                     ·go_simp
                                      rfl
                                     refine hK.out _ _ ?_
                                     clear hK K
                                     refine pu_ 14 176 Y0.q15 HT_.out ?_
                                     refine last_ (i:=15) (N:=none) Y0.q16 rfl rfl (one_of HT_.out (by kernel_rfl)) (by decide) (fun K hK=>?_)
                                     refine skip_ (w1:=?_) (by rfl) rfl ?_ ?_
                                     rotate_left
                                     ·go_simp
                                      rfl
                                     refine hK.out _ _ ?_
                                     clear hK K
                                     refine done_ (done_of HT_.out (by kernel_rfl)) ?_
                                     try go_wp2
                                     go_ret2
                                     exact ⟨z8_,(by first | exact (by (with_reducible repeat (first | apply Kd.R_alloc | apply Kd.R_drewN | apply Kd.R_drew));exact CL3.out) | (simp only [AA2,Av5];exact (by (with_reducible repeat (first | apply Kd.R_alloc | apply Kd.R_drewN | apply Kd.R_drew));exact CL3.out))),z44_ HB.out Bd4.out,z43_ HK.out Aj0.out⟩
                                    ·rw [if_neg c83] at H
                                     exact nO H
                                   ·rw [if_neg c82] at H
                                    exact nO H
                                  ·rw [if_neg c81] at H
                                   exact nO H
                                 ·rw [if_neg c80] at H
                                  exact nO H
                                ·rw [if_neg c79] at H
                                 have c79b0:decide (D0<E8)=false:=dF c79
                                 clear c79
                                 by_cases c89:0≤D0
                                 ·rw [if_pos c89] at H
                                  have c89b0:decide (0≤D0)=true:=dE c89
                                  clear c89
                                  by_cases c90:D0<(E0.length:Int)
                                  ·rw [if_pos c90] at H
                                   have c90b0:decide (D0<(E0.length:Int))=true:=dE c90
                                   clear c90
                                   by_cases c91:0≤E8
                                   ·rw [if_pos c91] at H
                                    have c91b0:decide (0≤E8)=true:=dE c91
                                    clear c91
                                    by_cases c92:E8<(E0.length:Int)
                                    ·rw [if_pos c92] at H
                                     have c92b0:decide (E8<(E0.length:Int))=true:=dE c92
                                     clear c92
                                     obtain ⟨BS4,A07⟩:∃ y_:List (S78),y_=(E0.set (E8:Int).toNat (⟨(rd_T78 E0 D0).f0,(rd_T78 E0 D0).f1⟩:S78)):=⟨_,rfl⟩
                                     replace H:(Y0.l2 BS2 (BS4.set (D0:Int).toNat (⟨(rd_T78 E0 E8).f0,(rd_T78 E0 E8).f1⟩:S78)) a1 (wrap64 (E8+1)) (wrap64 (D0-1)))=some (r1,r2,r3):=by first | (rw [A07];with_reducible exact H) | (have H2_:=(Option.bind_some _ _).symm.trans H;rw [A07];with_reducible exact H2_) | (have H2_:=(Option.bind_some _ _).symm.trans H;with_reducible exact H2_) | with_reducible exact H | (rw [A07];exact H) | exact H
                                     have Cj4:=aM A07
                                     clear A07
                                     obtain ⟨Cj5,A08⟩:∃ y_:List (S78),y_=(BS4.set (D0:Int).toNat (⟨(rd_T78 E0 E8).f0,(rd_T78 E0 E8).f1⟩:S78)):=⟨_,rfl⟩
                                     replace H:(Y0.l2 BS2 Cj5 a1 (wrap64 (E8+1)) (wrap64 (D0-1)))=some (r1,r2,r3):=by first | (rw [A08];with_reducible exact H) | (have H2_:=(Option.bind_some _ _).symm.trans H;rw [A08];with_reducible exact H2_) | (have H2_:=(Option.bind_some _ _).symm.trans H;with_reducible exact H2_) | with_reducible exact H | (rw [A08];exact H) | exact H
                                     have Cj6:=aM A08
                                     clear A08
                                     have H':=aM H
                                     clear H
                                     try go_wp2
                                     have n0_:=aM (Kd.R_drew C2.out)
                                     have n1_:=aM (Kept.drew HK.out)
                                     have n2_:=aM (below_drew1 HB.out)
                                     clear C2
                                     clear HK
                                     clear HB
                                     have C2:=n0_
                                     have HK:=n1_
                                     have HB:=n2_
                                     clear n0_ n1_ n2_
                                     have CL4:0≤(D0:Int):=dT (z1_)
                                     have CL5:D0<(E0.length:Int):=dT (z1_)
                                     obtain ⟨Cj7,e304,AV0,AV1⟩:=at_T78 (Kd.R_reads' C2.out).2.2 D0 CL4 CL5
                                     obtain rfl:(⟨D7,0,none⟩:Addr)=Cj7:=(by injection e304)
                                     (first | simp only [add_plain] at AV0 | simp only [add_at] at AV0 | simp only [Addr.add,Nat.zero_add] at AV0 | skip)
                                     (first | simp only [add_plain] at AV1 | simp only [add_at] at AV1 | simp only [Addr.add,Nat.zero_add] at AV1 | skip)
                                     replace CL4:=eq_true CL4
                                     replace CL5:=eq_true CL5
                                     have CL6:0≤(E8:Int):=dT (z1_)
                                     have CL7:E8<(E0.length:Int):=dT (z1_)
                                     obtain ⟨Cj8,e305,AV2,AV3⟩:=at_T78 (Kd.R_reads' C2.out).2.2 E8 CL6 CL7
                                     obtain rfl:(⟨D7,0,none⟩:Addr)=Cj8:=(by injection e305)
                                     (first | simp only [add_plain] at AV2 | simp only [add_at] at AV2 | simp only [Addr.add,Nat.zero_add] at AV2 | skip)
                                     (first | simp only [add_plain] at AV3 | simp only [add_at] at AV3 | simp only [Addr.add,Nat.zero_add] at AV3 | skip)
                                     replace CL6:=eq_true CL6
                                     replace CL7:=eq_true CL7
                                     have p93:0≤(E8:Int):=dT (z1_)
                                     have q93:(E8:Int)<((E0.length:Int):Int):=dT (z1_)
                                     obtain ⟨ce93,Cj9,Ck0,Bg3,Bg4⟩:=Kd.R_elem C2.out z78 (E8:Int) p93 q93
                                     obtain rfl:=k78_openM Ck0
                                     have CL8:World.cell? _ ⟨D7,(E8:Int).toNat*2,none⟩=some (.int .i64 ((rd_T78 E0 E8).f0)):=Bg3 0 _ rfl
                                     have CL9:World.cell? _ ⟨D7,(E8:Int).toNat*2+1,none⟩=some (.int .i64 ((rd_T78 E0 E8).f1)):=Bg3 1 _ rfl
                                     have CM0:World.frozen? _ ⟨D7,(E8:Int).toNat*2,none⟩=false:=Bg4 0
                                     have CM1:World.frozen? _ ⟨D7,(E8:Int).toNat*2+1,none⟩=false:=Bg4 1
                                     clear Cj9 Bg3 Bg4 Ck0
                                     replace p93:=eq_true p93
                                     replace q93:=eq_true q93
                                     obtain ⟨ce96,B93,Ck1,B94,Ck2⟩:=Kd.R_elem C2.out z78 (E8:Int) (dT (z1_)) (by have h_:(E8:Int)<((E0.length:Int):Int):=dT (by first | (with_reducible assumption) | assumption);first | exact h_ | (have e_:=(Kd.R_reads' C2.out).1;omega) | simpa using h_)
                                     obtain rfl:=k78_openM Ck1
                                     have CM2:=(Kd.R_seg C2.out (E8:Int) (dT (z1_)) (by have h_:(E8:Int)<((E0.length:Int):Int):=dT (by first | (with_reducible assumption) | assumption);first | exact h_ | (have e_:=(Kd.R_reads' C2.out).1;omega) | simpa using h_) (seg:=[.int .i64 ((rd_T78 E0 D0).f0),.int .i64 ((rd_T78 E0 D0).f1)]) (j:=0) B93 B94 (show 2≤2 from by decide) (x':=(⟨(rd_T78 E0 D0).f0,(rd_T78 E0 D0).f1⟩:S78)) (k78_mkM _ _ _ (⟨(rd_T78 E0 D0).f0,(rd_T78 E0 D0).f1⟩:S78) ) (fun _ hk=>hk)).1
                                     rw [← Cj4.out] at CM2
                                     have Bu8:=aM CM2
                                     clear B93 B94 Ck2 Ck1 CM2
                                     have p94:0≤(D0:Int):=dT (z1_)
                                     have q94:(D0:Int)<((E0.length:Int):Int):=dT (z1_)
                                     obtain ⟨ce94,Ck3,Ck4,Bg5,Bg6⟩:=Kd.R_elem Bu8.out z78 (D0:Int) p94 q94
                                     obtain rfl:=k78_openM Ck4
                                     have Bg7:World.cell? _ ⟨D7,(D0:Int).toNat*2,none⟩=some (.int .i64 ((rd_T78 BS4 D0).f0)):=Bg5 0 _ rfl
                                     have Bg8:World.cell? _ ⟨D7,(D0:Int).toNat*2+1,none⟩=some (.int .i64 ((rd_T78 BS4 D0).f1)):=Bg5 1 _ rfl
                                     have Bg9:World.frozen? _ ⟨D7,(D0:Int).toNat*2,none⟩=false:=Bg6 0
                                     have Bh0:World.frozen? _ ⟨D7,(D0:Int).toNat*2+1,none⟩=false:=Bg6 1
                                     clear Ck3 Bg5 Bg6 Ck4
                                     replace p94:=eq_true p94
                                     replace q94:=eq_true q94
                                     obtain ⟨ce97,B95,Ck5,B96,Ck6⟩:=Kd.R_elem Bu8.out z78 (D0:Int) (dT (z1_)) (z49_ C2.out)
                                     obtain rfl:=k78_openM Ck5
                                     have CM3:=(Kd.R_seg Bu8.out (D0:Int) (dT (z1_)) (z49_ C2.out) (seg:=[.int .i64 ((rd_T78 E0 E8).f0),.int .i64 ((rd_T78 E0 E8).f1)]) (j:=0) B95 B96 (show 2≤2 from by decide) (x':=(⟨(rd_T78 E0 E8).f0,(rd_T78 E0 E8).f1⟩:S78)) (k78_mkM _ _ _ (⟨(rd_T78 E0 E8).f0,(rd_T78 E0 E8).f1⟩:S78) ) (fun _ hk=>hk)).1
                                     rw [← Cj6.out] at CM3
                                     have Ck7:=aM CM3
                                     clear B95 B96 Ck6 Ck5 CM3
                                     refine start_ (n:=16) (S:=fun w'=>w'.cell? ⟨D7,(D0).toNat*2,none⟩=some (.int .i64 ((rd_T78 E0 D0).f0))∧w'.cell? ⟨D7,(D0).toNat*2+1,none⟩=some (.int .i64 ((rd_T78 E0 D0).f1))∧w'.cell? ⟨D7,(E8).toNat*2,none⟩=some (.int .i64 ((rd_T78 E0 E8).f0))∧w'.cell? ⟨D7,(E8).toNat*2+1,none⟩=some (.int .i64 ((rd_T78 E0 E8).f1))) (ds:=[13,15]) Y0.q0 (by kernel_rfl) rfl rfl ⟨AV0,AV1,AV2,AV3⟩ (fun hHeld=>?_);refine with_tabW Y0.tab18 Y0.bits18 (fun HT_ HW_=>?_)
                                     generalize wc.drew=w95 at C2 HK HB Bu8 Ck7 CM0 CM1 Bg9 Bh0 AV0 AV1 AV2 AV3 CL8 CL9 Bg7 Bg8 hHeld ⊢
                                     have hz94_0:(w95.setCell ⟨D7,(E8:Int).toNat*2,none⟩ (.int .i64 ((rd_T78 E0 D0).f0))).cell? ⟨D7,(D0:Int).toNat*2,none⟩=some (.int .i64 ((rd_T78 BS4 D0).f0)):=by have h_:=Bg7;exact ((show ((w95.setCell ⟨D7,(E8:Int).toNat*2,none⟩ (.int .i64 ((rd_T78 E0 D0).f0))).setCell ⟨D7,(E8:Int).toNat*2+1,none⟩ (.int .i64 ((rd_T78 E0 D0).f1))).cell? ⟨D7,(D0:Int).toNat*2,none⟩=(w95.setCell ⟨D7,(E8:Int).toNat*2,none⟩ (.int .i64 ((rd_T78 E0 D0).f0))).cell? ⟨D7,(D0:Int).toNat*2,none⟩ from World.cell?_setCell_other _ _ _ _ (by intro e_;injection e_ with e1_ e2_;omega)).symm.trans h_)
                                     have hy94_0:w95.frozen? ⟨D7,(D0:Int).toNat*2,none⟩=false:=by have h_:=Bg9;first | exact h_ | simpa only [World.frozen?_setCell] using h_ | simpa [World.setCells] using h_
                                     have hz94_1:((w95.setCell ⟨D7,(E8:Int).toNat*2,none⟩ (.int .i64 ((rd_T78 E0 D0).f0))).setCell ⟨D7,(E8:Int).toNat*2+1,none⟩ (.int .i64 ((rd_T78 E0 D0).f1))).cell? ⟨D7,(D0:Int).toNat*2+1,none⟩=some (.int .i64 ((rd_T78 BS4 D0).f1)):=by have h_:=Bg8;exact h_
                                     have hy94_1:w95.frozen? ⟨D7,(D0:Int).toNat*2+1,none⟩=false:=by have h_:=Bh0;first | exact h_ | simpa only [World.frozen?_setCell] using h_ | simpa [World.setCells] using h_
                                     refine pu_ 0 145 Y0.q1 HT_.out ?_
                                     refine pu_ 1 146 Y0.q2 HT_.out ?_
                                     refine pu_ 2 147 Y0.q3 HT_.out ?_
                                     refine pu_ 3 148 Y0.q4 HT_.out ?_
                                     refine pu_ 4 149 Y0.q5 HT_.out ?_
                                     refine pu_ 5 150 Y0.q6 HT_.out ?_
                                     refine pu_ 6 151 Y0.q7 HT_.out ?_
                                     refine pu_ 8 153 Y0.q8 HT_.out ?_
                                     refine pu_ 9 154 Y0.q9 HT_.out ?_
                                     refine pu_ 10 155 Y0.q10 HT_.out ?_
                                     refine tk4_ 7 152 Y0.q11 HT_.out HW_.out hHeld ?_
                                     refine tk4_ 11 156 Y0.q12 HT_.out HW_.out hHeld ?_
                                     refine pu_ 12 157 Y0.q13 HT_.out ?_
                                     refine last_ (i:=13) (N:=none) Y0.q14 rfl rfl (one_of HT_.out (by kernel_rfl)) (by decide) (fun K hK=>?_)
                                     refine skip_ (w1:=?_) (by rfl) rfl ?_ ?_
                                     rotate_left
                                     ·go_simp
                                      rfl
                                     refine hK.out _ _ ?_
                                     clear hK K
                                     refine pu_ 14 158 Y0.q15 HT_.out ?_
                                     refine last_ (i:=15) (N:=none) Y0.q16 rfl rfl (one_of HT_.out (by kernel_rfl)) (by decide) (fun K hK=>?_)
                                     refine skip_ (w1:=?_) (by rfl) rfl ?_ ?_
                                     rotate_left
                                     ·go_simp
                                      rfl
                                     refine hK.out _ _ ?_
                                     clear hK K
                                     refine done_ (done_of HT_.out (by kernel_rfl)) ?_
                                     try go_wp2
                                     (try simp only [← Av5])
                                     go_roundg BS2
                                     case measure=>have:=HK1.out;have:=AP3.out;have:=HK3.out;have:=Ac9.out;have:=HK5.out;have:=HK6.out;have:=A04.out;have:=HK8.out;have:=Bu6.out;omega
                                     case rel=>exact ⟨(Cj5),(wrap64 (E8+1)),(wrap64 (D0-1)),(z2_),(z2_),H',⟨by have:=HK1.out;have:=AP3.out;have:=HK3.out;have:=Ac9.out;have:=HK5.out;have:=HK6.out;have:=A04.out;have:=HK8.out;have:=Bu6.out;omega⟩,⟨z37_ Ck7.out⟩,⟨z43_ HK.out Aj0.out⟩,⟨z44_ HB.out Bd4.out⟩⟩
                                    ·rw [if_neg c92] at H
                                     exact nO H
                                   ·rw [if_neg c91] at H
                                    exact nO H
                                  ·rw [if_neg c90] at H
                                   exact nO H
                                 ·rw [if_neg c89] at H
                                  exact nO H
                   ·rw [if_neg c51] at H
                    exact nO H
                  ·rw [if_neg c50] at H
                   exact nO H
                 ·rw [if_neg c49] at H
                  exact nO H
                ·rw [if_neg c48] at H
                 exact nO H
    ·rw [if_neg c9] at H
     exact nO H
   ·rw [if_neg c8] at H
    exact nO H
  ·rw [if_neg c7] at H
   exact nO H
 ·rw [if_neg c6] at H
  exact nO H

end Go.Proofs.YtelecnmflodkkaaGreatDoor.P
