/- Of drawn version vectors: a join contains what either contains and nothing else, an added dot is contained, what is encoded is read back; and all the program's functions of version vectors are the reference's. No condition. (Part 2 of 5: written by programs of this workplace and by hand, merged.) -/
import Derived.Test.YtmefchanjoadfaaMFnSeena
set_option linter.unusedVariables false
set_option linter.unusedSimpArgs false
set_option maxHeartbeats 8000000
set_option maxRecDepth 100000

namespace Go.Proofs.Ytmefchanjoadfaa.P
open Go.RowKit Go.Proofs.YtmefchanjoadfaaW.PrintWords Go.Proofs.YtmefchanjoadfaaW.PrintLast Go.Proofs.YtmefchanjoadfaaW.PrintMore
attribute [local go_sem] max2_int min2_int max_two min_two max_three min_three max_four min_four   -- for this text's walks alone
set_option linter.unusedVariables false
set_option linter.unusedSimpArgs false

/-! ### Y54: function 21 -/
def Y54.f (k:Nat) (l0:List Int):Option ((List (S49)) × (List (S49))):=(Y48.f k l0).bind fun bt446=>(some (bt446.1,bt446.2))
theorem Y54.mono:∀ a0 k,LeO (Y54.f k a0) (Y54.f (k+1) a0):=by
 intro a0 k
 have m0:=@Y48.mono
 unfold Y54.f
 exact mO
theorem Y54.calls (k:Nat) (A0:Option Addr) (c0:Nat) (l0:List Int) (r1:List (S49)) (r2:List (S49)) (w:World) (hr0:Kd.C (Kd.int .u8) w A0 l0.length l0) (hc0:l0.length≤c0) (h:Y54.f k l0=some (r1,r2)) :
  Calls Try.prog 21 #[.slice A0 l0.length c0] w fun e w'=>∃ v0_ v1_:Value,e = .returned (.tuple #[v0_,v1_])∧Kd.R k49 49 w' w.heap.size (fun k_=>some k_≠(v1_:Value).ownBlock) v0_ r1∧Kd.R k49 49 w' w.heap.size (fun k_=>some k_≠(v0_:Value).ownBlock) v1_ r2∧Below w.heap.size w w':=by
 have HR0:=aM hr0
 have HC0:=aM hc0
 clear hr0 hc0
 have HB:=aM (Below.refl w.heap.size w)
 have H:((Y48.f k l0).bind fun bt446=>(some (bt446.1,bt446.2)))=some (r1,r2):=h
 clear h
 replace H:=bS H
 obtain ⟨⟨t446,t447⟩,A20,H⟩:=H
 replace H:(some (t446,t447))=some (r1,r2):=H
 have A2:=aM A20
 clear A20
 simp only [Option.some.injEq,Prod.mk.injEq] at H
 obtain ⟨rfl,rfl⟩:=H
 go_enter Try.func21,Try.ntmps21
 go_wp2_with (first | ((with_reducible refine gc_ 19 ?_);refine gl_ (some 5) Try.func19 #[.slice A0 l0.length c0] ?_;(with_reducible refine (Y48.calls k _ _ l0 t446 t447 _ ?s1 ?s2 A2.out).mono ?_);(case s1=>repeat (first | exact HR0.out | (with_reducible refine Kd.C_alloc ?_ _) | (with_reducible refine Kd.C_drewN ?_ _) | (with_reducible refine Kd.C_drew ?_)));(case s2=>exact HC0.out);rintro e w3 ⟨v448,v450,rfl,ho0,ho1,hb⟩;refine ⟨_,rfl,?_⟩;have n0_:=aM (Kd.R_lower ho0 (below_size (z1_ HB.out)));have n1_:=aM (Kd.R_lower ho1 (below_size (z1_ HB.out)));have n2_:=aM (below_step (z1_ HB.out) hb);clear HB;have HO449:=n0_;have HO451:=n1_;have HB:=n2_;clear n0_ n1_ n2_;(try clear hb);(try clear ho0);(try clear ho1)))
 go_ret2
 exact ⟨_,_,z5_,z0_ HO449.out,z0_ HO451.out,z1_ HB.out⟩


/-! ### Y43: function 25 -/
def Y43.f (k:Nat) (l0:List Int):Option ((List (S49)) × Int × Int):=(Y14.f k l0).bind fun bt453=>((Y10.f k bt453.1 bt453.2.1 bt453.2.2.1 bt453.2.2.2).bind fun bt458=>((Y36.f bt453.1 bt458.2.1 bt458.2.2.1 bt458.2.2.2).bind fun bt464=>(some (bt458.1,bt464.1,bt464.2.1))))
theorem Y43.mono:∀ a0 k,LeO (Y43.f k a0) (Y43.f (k+1) a0):=by
 intro a0 k
 have m0:=@Y14.mono
 have m1:=@Y10.mono
 unfold Y43.f
 exact mO
theorem Y43.calls (k:Nat) (A0:Option Addr) (c0:Nat) (l0:List Int) (r1:List (S49)) (r2:Int) (r3:Int) (w:World) (hr0:Kd.C (Kd.int .u8) w A0 l0.length l0) (hc0:l0.length≤c0) (h:Y43.f k l0=some (r1,r2,r3)) :
  Calls Try.prog 25 #[.slice A0 l0.length c0] w fun e w'=>∃ v0_:Value,e = .returned (.tuple #[v0_,.agg #[.int .i64 r2,.int .i64 r3]])∧Kd.R k49 49 w' w.heap.size (fun _=>True) v0_ r1∧Below w.heap.size w w':=by
 have hu49:=Try.underlying49
 have HR0:=aM hr0
 have HC0:=aM hc0
 clear hr0 hc0
 have HB:=aM (Below.refl w.heap.size w)
 have H:((Y14.f k l0).bind fun bt453=>((Y10.f k bt453.1 bt453.2.1 bt453.2.2.1 bt453.2.2.2).bind fun bt458=>((Y36.f bt453.1 bt458.2.1 bt458.2.2.1 bt458.2.2.2).bind fun bt464=>(some (bt458.1,bt464.1,bt464.2.1)))))=some (r1,r2,r3):=h
 clear h
 replace H:=bS H
 obtain ⟨⟨t453,t454,t455,t456⟩,A20,H⟩:=H
 replace H:((Y10.f k t453 t454 t455 t456).bind fun bt458=>((Y36.f t453 bt458.2.1 bt458.2.2.1 bt458.2.2.2).bind fun bt464=>(some (bt458.1,bt464.1,bt464.2.1))))=some (r1,r2,r3):=H
 have A2:=aM A20
 clear A20
 replace H:=bS H
 obtain ⟨⟨t458,t461,t462,t463⟩,A30,H⟩:=H
 replace H:((Y36.f t453 t461 t462 t463).bind fun bt464=>(some (t458,bt464.1,bt464.2.1)))=some (r1,r2,r3):=H
 have A3:=aM A30
 clear A30
 replace H:=bS H
 obtain ⟨⟨t464,t465,t466,t467,t468⟩,A40,H⟩:=H
 replace H:(some (t458,t464,t465))=some (r1,r2,r3):=H
 have A4:=aM A40
 clear A40
 simp only [Option.some.injEq,Prod.mk.injEq] at H
 obtain ⟨rfl,rfl,rfl⟩:=H
 go_enter Try.func25,Try.ntmps25
 go_wp2_with (first | ((with_reducible refine gd_ 3 ?_);refine be_ 3 #[.int .i64 0,.int .i64 0] 49 ?_;intro gb452 hg w5 hbox hb;have n0_:=aM (below_step (z1_ HB.out) hb);have n1_:=aM (hbox);have n2_:=aM ((z8_ HB.out:w.heap.size≤gb452));have n3_:=aM ((z8_ HB.out:w.heap.size≤gb452));clear HB;have HB:=n0_;have BK452:=n1_;have GW452:=n2_;have GE452:=n3_;clear n0_ n1_ n2_ n3_;clear hb hbox hg) | ((with_reducible refine gc_ 68 ?_);refine gl_ (some 7) Try.func68 #[.slice A0 l0.length c0] ?_;(with_reducible refine (Y14.calls k _ _ l0 t453 t454 t455 t456 w _ ?s1 ?s2 ?s3 A2.out).mono ?_);(case s1=>repeat (first | (with_reducible first | exact HB.out | apply below_alloc | apply pw_below_drewN | apply below_drew1 | refine below_set ?_ GE452.out) | exact HB.out));(case s2=>exact HR0.out);(case s3=>exact HC0.out);rintro e w6 ⟨g457,rfl,hi,hb,hb2⟩;refine ⟨_,rfl,?_⟩;have n0_:=aM (blk_below (g:=gb452) (o:=.cells #[.int .i64 0,.int .i64 0] 49 (0,0)) (z2_ BK452.out) hb2);have n1_:=aM (hb);have n2_:=aM (hi);have n3_:=aM (IsS118.ne_blk hi (blk_below (g:=gb452) (o:=.cells #[.int .i64 0,.int .i64 0] 49 (0,0)) (z2_ BK452.out) hb2) (by decide));have n4_:=aM (Ne.symm (IsS118.ne_blk hi (blk_below (g:=gb452) (o:=.cells #[.int .i64 0,.int .i64 0] 49 (0,0)) (z2_ BK452.out) hb2) (by decide)));clear BK452;clear HB;have BK452:=n0_;have HB:=n1_;have HI457:=n2_;have NB457_452:=n3_;have NB452_457:=n4_;clear n0_ n1_ n2_ n3_ n4_;(try clear hb);(try clear hb2);(try clear hi)) | ((with_reducible refine gc_ 69 ?_);refine gl_ (some 9) Try.func69 #[.pointer (some ⟨g457,0,none⟩)] ?_;(with_reducible refine (Y10.calls k g457 t453 t454 t455 t456 t458 t461 t462 t463 w _ ?s1 ?s2 A3.out).mono ?_);(case s1=>repeat (first | (with_reducible first | exact HI457.out | apply IsS118.alloc | apply IsS118.drewN | apply IsS118.drew | apply IsS118.set_1 | apply IsS118.set_2 | apply IsS118.set_3 | refine IsS118.far ?_ (by exact NB457_452.out) _) | exact HI457.out));(case s2=>repeat (first | (with_reducible first | exact HB.out | apply below_alloc | apply pw_below_drewN | apply below_drew1 | refine below_set ?_ (IsS118.ge HI457.out) | refine below_set ?_ GE452.out) | exact HB.out));rintro e w7 ⟨v459,rfl,ho0,hi,hb,hk⟩;refine ⟨_,rfl,?_⟩;have n0_:=aM (KeepBut.blk hk (g':=gb452) (o:=.cells #[.int .i64 0,.int .i64 0] 49 (0,0)) (z2_ BK452.out) NB452_457.out (by simp));have n1_:=aM (Kd.R_lower (Kd.R_newB ho0 (g:=gb452) (o:=.cells #[.int .i64 0,.int .i64 0] 49 (0,0)) (z2_ BK452.out)) (below_size (z31_ HB.out HI457.out GE452.out)));have n2_:=aM (hb);have n3_:=aM (hi);clear BK452;clear HB;clear HI457;have BK452:=n0_;have HO460:=n1_;have HB:=n2_;have HI457:=n3_;clear n0_ n1_ n2_ n3_;(try clear hb);(try clear hk);(try clear hi);(try clear ho0)) | ((with_reducible refine gc_ 75 ?_);refine gl_ (some 12) Try.func75 #[.pointer (some ⟨g457,0,none⟩)] ?_;(with_reducible refine (Y36.calls g457 t453 t461 t462 t463 t464 t465 t466 t467 t468 w _ ?s1 ?s2 A4.out).mono ?_);(case s1=>repeat (first | (with_reducible first | exact HI457.out | apply IsS118.alloc | apply IsS118.drewN | apply IsS118.drew | apply IsS118.set_1 | apply IsS118.set_2 | apply IsS118.set_3 | refine IsS118.far ?_ (by exact NB457_452.out) _) | exact HI457.out));(case s2=>repeat (first | (with_reducible first | exact HB.out | apply below_alloc | apply pw_below_drewN | apply below_drew1 | refine below_set ?_ (IsS118.ge HI457.out) | refine below_set ?_ GE452.out) | exact HB.out));rintro e w8 ⟨rfl,hi,hb,hk⟩;refine ⟨_,rfl,?_⟩;have n0_:=aM (KeepBut.blk hk (g':=gb452) (o:=.cells #[.int .i64 0,.int .i64 0] 49 (0,0)) (z2_ BK452.out) NB452_457.out (by simp));have n1_:=aM (Kd.R_mono (Kd.R_keep (IsS118.apart (show IsS118 w _ g457 t453 t461 t462 t463 from by repeat (first | (with_reducible first | exact HI457.out | apply IsS118.alloc | apply IsS118.drewN | apply IsS118.drew | apply IsS118.set_1 | apply IsS118.set_2 | apply IsS118.set_3 | refine IsS118.far ?_ (by exact NB457_452.out) _) | exact HI457.out)) (z0_ HO460.out) (by decide)) hk (fun _ h=>h.2)) (fun _ h=>h.1));have n2_:=aM (hb);have n3_:=aM (hi);clear BK452;clear HO460;clear HB;clear HI457;have BK452:=n0_;have HO460:=n1_;have HB:=n2_;have HI457:=n3_;clear n0_ n1_ n2_ n3_;(try clear hb);(try clear hk);(try clear hi);have hnb9:=NB452_457.out;have hnc9:=NB457_452.out;have ⟨hcz10_0,hcz10_1,hfz10_0,hfz10_1⟩:=cz2_ BK452.out))
 refine bodyPost_ret (results_tc rfl _ _ gb452 49 #[.int .i64 t464,.int .i64 t465] (0,0) _ rfl (z15_ BK452.out) Try.underlying49 rfl (by kernel_rfl)) rfl ?_
 exact ⟨_,z5_,by (with_reducible repeat (first | apply Kd.R_alloc | apply Kd.R_drewN | apply Kd.R_drew));exact Kd.R_mono (rf2_ (Kd.R_mono HO460.out (fun k_ hk=>(⟨hk,hk.2⟩:_∧k_≠gb452))) (fun _ hk=>hk.2)) (fun _ hk=>trivial),z31_ HB.out HI457.out GE452.out⟩


/-! ### Y55: function 22 -/
def Y55.f (k:Nat) (l0:List Int):Option ((List (S49)) × Int × Int):=(Y43.f k l0).bind fun bt470=>(some (bt470.1,bt470.2.1,bt470.2.2))
theorem Y55.mono:∀ a0 k,LeO (Y55.f k a0) (Y55.f (k+1) a0):=by
 intro a0 k
 have m0:=@Y43.mono
 unfold Y55.f
 exact mO
theorem Y55.calls (k:Nat) (A0:Option Addr) (c0:Nat) (l0:List Int) (r1:List (S49)) (r2:Int) (r3:Int) (w:World) (hr0:Kd.C (Kd.int .u8) w A0 l0.length l0) (hc0:l0.length≤c0) (h:Y55.f k l0=some (r1,r2,r3)) :
  Calls Try.prog 22 #[.slice A0 l0.length c0] w fun e w'=>∃ v0_:Value,e = .returned (.tuple #[v0_,.agg #[.int .i64 r2,.int .i64 r3]])∧Kd.R k49 49 w' w.heap.size (fun _=>True) v0_ r1∧Below w.heap.size w w':=by
 have hu49:=Try.underlying49
 have HR0:=aM hr0
 have HC0:=aM hc0
 clear hr0 hc0
 have HB:=aM (Below.refl w.heap.size w)
 have H:((Y43.f k l0).bind fun bt470=>(some (bt470.1,bt470.2.1,bt470.2.2)))=some (r1,r2,r3):=h
 clear h
 replace H:=bS H
 obtain ⟨⟨t470,t473,t474⟩,A20,H⟩:=H
 replace H:(some (t470,t473,t474))=some (r1,r2,r3):=H
 have A2:=aM A20
 clear A20
 simp only [Option.some.injEq,Prod.mk.injEq] at H
 obtain ⟨rfl,rfl,rfl⟩:=H
 go_enter Try.func22,Try.ntmps22
 go_wp2_with (first | ((with_reducible refine gd_ 3 ?_);refine be_ 3 #[.int .i64 0,.int .i64 0] 49 ?_;intro gb469 hg w3 hbox hb;have n0_:=aM (below_step (z1_ HB.out) hb);have n1_:=aM (hbox);have n2_:=aM ((z8_ HB.out:w.heap.size≤gb469));have n3_:=aM ((z8_ HB.out:w.heap.size≤gb469));clear HB;have HB:=n0_;have BK469:=n1_;have GW469:=n2_;have GE469:=n3_;clear n0_ n1_ n2_ n3_;clear hb hbox hg) | ((with_reducible refine gc_ 25 ?_);refine gl_ (some 5) Try.func25 #[.slice A0 l0.length c0] ?_;(with_reducible refine (Y43.calls k _ _ l0 t470 t473 t474 _ ?s1 ?s2 A2.out).mono ?_);(case s1=>repeat (first | exact (Kd.C_below HR0.out HB.out) | (with_reducible refine Kd.C_alloc ?_ _) | (with_reducible refine Kd.C_drewN ?_ _) | (with_reducible refine Kd.C_drew ?_)));(case s2=>exact HC0.out);rintro e w4 ⟨v471,rfl,ho0,hb⟩;refine ⟨_,rfl,?_⟩;have n0_:=aM (Kd.R_lower (Kd.R_newB ho0 (g:=gb469) (o:=.cells #[.int .i64 0,.int .i64 0] 49 (0,0)) (z2_ BK469.out)) (below_size (z4_ HB.out GE469.out)));have n1_:=aM (blkB_ BK469.out hb);have n2_:=aM (below_step (z4_ HB.out GE469.out) hb);clear BK469;clear HB;have HO472:=n0_;have BK469:=n1_;have HB:=n2_;clear n0_ n1_ n2_;(try clear hb);(try clear ho0);have ⟨hcz5_0,hcz5_1,hfz5_0,hfz5_1⟩:=cz2_ BK469.out))
 refine bodyPost_ret (results_tc rfl _ _ gb469 49 #[.int .i64 t473,.int .i64 t474] (0,0) _ rfl (z15_ BK469.out) Try.underlying49 rfl (by kernel_rfl)) rfl ?_
 exact ⟨_,z5_,by (with_reducible repeat (first | apply Kd.R_alloc | apply Kd.R_drewN | apply Kd.R_drew));exact Kd.R_mono (rf2_ (Kd.R_mono HO472.out (fun k_ hk=>(⟨hk,hk.2⟩:_∧k_≠gb469))) (fun _ hk=>hk.2)) (fun _ hk=>trivial),z4_ HB.out GE469.out⟩


/-! ### Y34: function 23 -/
def Y34.j0:Nat→List (S49)→Bool→Int→Int→Option ((List (S49)) × Int)
 | 0,_,_,_,_=>none
 | k+1,x0,x9,x476000,x476001=>if x9=true then (some (([]:List (S49)),1)) else ((Y25.f k x0 (([(⟨x476000,x476001⟩:S49)]:List (S49)))).bind fun t483=>(some (t483,0)))
def Y34.f (k:Nat) (l0:List (S49)) (a1_0:Int) (a1_1:Int):Option ((List (S49)) × Int):=(Y50.f l0).bind fun t477=>(if t477=true then (some (([]:List (S49)),2)) else ((Y3.f k l0).bind fun t478=>(if t478=true then ((Y58.f a1_0 a1_1).bind fun t479=>(Y34.j0 k l0 (!t479) a1_0 a1_1)) else (Y34.j0 k l0 true a1_0 a1_1))))
theorem Y34.mono_l:∀ k,(∀ y0 y1 y2 y3,LeO (Y34.j0 k y0 y1 y2 y3) (Y34.j0 (k+1) y0 y1 y2 y3))
 | 0=>by intros <;> exact LeO.none _
 | k+1=>by
  have ih0:=Y34.mono_l k
  have m0:=@Y25.mono
  have m1:=@Y3.mono
  ·intros
   unfold Y34.j0
   exact mO
theorem Y34.mono:∀ a0 a1 a2 k,LeO (Y34.f k a0 a1 a2) (Y34.f (k+1) a0 a1 a2):=by
 intro a0 a1 a2 k
 have m0:=@Y25.mono
 have m1:=@Y3.mono
 have ih0:=Y34.mono_l k
 unfold Y34.f
 exact mO
theorem Y34.calls (k:Nat) (A0:Option Addr) (c0:Nat) (l0:List (S49)) (a1_0:Int) (a1_1:Int) (r1:List (S49)) (r2:Int) (w:World) (hr0:Kd.C k49 w A0 l0.length l0) (hc0:l0.length≤c0) (h:Y34.f k l0 a1_0 a1_1=some (r1,r2)) :
  Calls Try.prog 23 #[.slice A0 l0.length c0,.agg #[.int .i64 a1_0,.int .i64 a1_1]] w fun e w'=>∃ v0_:Value,e = .returned (.agg #[v0_,.int .i64 r2])∧Kd.R k49 49 w' w.heap.size (fun _=>True) v0_ r1∧Below w.heap.size w w':=by
 have hu49:=Try.underlying49
 have hu53:=Try.underlying53
 have HR0:=aM hr0
 have HC0:=aM hc0
 clear hr0 hc0
 have HB:=aM (Below.refl w.heap.size w)
 have H:((Y50.f l0).bind fun t477=>(if t477=true then (some (([]:List (S49)),2)) else ((Y3.f k l0).bind fun t478=>(if t478=true then ((Y58.f a1_0 a1_1).bind fun t479=>(Y34.j0 k l0 (!t479) a1_0 a1_1)) else (Y34.j0 k l0 true a1_0 a1_1)))))=some (r1,r2):=h
 clear h
 replace H:=bS H
 obtain ⟨t477,A30,H⟩:=H
 replace H:(if t477=true then (some (([]:List (S49)),2)) else ((Y3.f k l0).bind fun t478=>(if t478=true then ((Y58.f a1_0 a1_1).bind fun t479=>(Y34.j0 k l0 (!t479) a1_0 a1_1)) else (Y34.j0 k l0 true a1_0 a1_1))))=some (r1,r2):=H
 have A3:=aM A30
 clear A30
 by_cases c4:t477=true
 ·subst c4
  have H1:(some (([]:List (S49)),2))=some (r1,r2):=by rw [if_pos rfl] at H;exact H
  clear H
  have H:=H1
  clear H1
  simp only [Option.some.injEq,Prod.mk.injEq] at H
  obtain ⟨rfl,rfl⟩:=H
  go_enter Try.func23,Try.ntmps23
  go_wp2_with (first | ((with_reducible refine gd_ 3 ?_);refine be_ 3 #[.int .i64 a1_0,.int .i64 a1_1] 49 ?_;intro gb475 hg w5 hbox hb;have n0_:=aM (below_step (z1_ HB.out) hb);have n1_:=aM (hbox);have n2_:=aM ((z8_ HB.out:w.heap.size≤gb475));have n3_:=aM ((z8_ HB.out:w.heap.size≤gb475));clear HB;have HB:=n0_;have BK475:=n1_;have GW475:=n2_;have GE475:=n3_;clear n0_ n1_ n2_ n3_;clear hb hbox hg) | ((with_reducible refine gd_ 4 ?_);refine be_ 4 #[.slice none 0 0,.int .i64 0] 53 ?_;intro gb476 hg w6 hbox hb;have n0_:=aM (blkB_ BK475.out hb);have n1_:=aM (below_step (z4_ HB.out GE475.out) hb);have n2_:=aM (hbox);have n3_:=aM ((z17_ HB.out GE475.out:w.heap.size≤gb476));have n4_:=aM ((z17_ HB.out GE475.out:w.heap.size≤gb476));have n5_:=aM (neL_ BK475.out hg);have n6_:=aM (neG_ BK475.out hg);clear BK475;clear HB;have BK475:=n0_;have HB:=n1_;have BK476:=n2_;have GW476:=n3_;have GE476:=n4_;have NB475_476:=n5_;have NB476_475:=n6_;clear n0_ n1_ n2_ n3_ n4_ n5_ n6_;clear hb hbox hg) | ((with_reducible refine gc_ 71 ?_);refine gl_ (some 7) Try.func71 #[.slice A0 l0.length c0] ?_;(with_reducible refine (Y50.calls _ _ l0 true _ ?s1 ?s2 A3.out).mono ?_);(case s1=>repeat (first | exact (Kd.C_below HR0.out HB.out) | (with_reducible refine Kd.C_alloc ?_ _) | (with_reducible refine Kd.C_drewN ?_ _) | (with_reducible refine Kd.C_drew ?_)));(case s2=>exact HC0.out);rintro e w' ⟨rfl,⟨nd,rfl⟩⟩;refine ⟨_,rfl,?_⟩;(try (rw [drewN_self w6];generalize hq_:World.drewN w6 _=w6;have n0_:Aside0 (w6.heap[gb475]? = some (.cells #[.int .i64 a1_0,.int .i64 a1_1] 49 (0,0))):=⟨z37_ BK475.out⟩;have n1_:Aside0 (w6.heap[gb476]? = some (.cells #[.slice none 0 0,.int .i64 0] 53 (0,0))):=⟨z37_ BK476.out⟩;have n2_:Aside0 (Below w.heap.size w w6):=⟨by rw [← hq_];exact (by repeat (first | (with_reducible first | exact HB.out | apply below_alloc | apply pw_below_drewN | apply below_drew1 | refine below_set ?_ GE475.out | refine below_set ?_ GE476.out) | exact HB.out))⟩;clear BK475 BK476 HB hq_;have BK475:=n0_;have BK476:=n1_;have HB:=n2_;clear n0_ n1_ n2_));have hnb7:=NB476_475.out;have hnc7:=NB475_476.out;have ⟨hcz8_0,hcz8_1,hfz8_0,hfz8_1⟩:=cz2_ BK476.out))
  refine bodyPost_ret (results_cell_row rfl _ _ gb476 53 #[.slice none 0 0,.int .i64 2] (0,0) _ rfl (z15_ BK476.out) Try.underlying53 rfl (by kernel_rfl)) rfl ?_
  exact ⟨_,z5_,z25_,z13_ HB.out GE475.out GE476.out⟩
 ·replace c4:=Bool.eq_false_iff.mpr c4
  subst c4
  have H1:((Y3.f k l0).bind fun t478=>(if t478=true then ((Y58.f a1_0 a1_1).bind fun t479=>(Y34.j0 k l0 (!t479) a1_0 a1_1)) else (Y34.j0 k l0 true a1_0 a1_1)))=some (r1,r2):=by rw [if_neg (show ¬ (false=true) by decide)] at H;exact H
  clear H
  have H:=H1
  clear H1
  have HC9:=aM H
  clear H
  go_enter Try.func23,Try.ntmps23
  go_upto_region 3 with (first | ((with_reducible refine gd_ 3 ?_);refine be_ 3 #[.int .i64 a1_0,.int .i64 a1_1] 49 ?_;intro gb475 hg w10 hbox hb;have n0_:=aM (below_step (z1_ HB.out) hb);have n1_:=aM (hbox);have n2_:=aM ((z8_ HB.out:w.heap.size≤gb475));have n3_:=aM ((z8_ HB.out:w.heap.size≤gb475));clear HB;have HB:=n0_;have BK475:=n1_;have GW475:=n2_;have GE475:=n3_;clear n0_ n1_ n2_ n3_;clear hb hbox hg) | ((with_reducible refine gd_ 4 ?_);refine be_ 4 #[.slice none 0 0,.int .i64 0] 53 ?_;intro gb476 hg w11 hbox hb;have n0_:=aM (blkB_ BK475.out hb);have n1_:=aM (below_step (z4_ HB.out GE475.out) hb);have n2_:=aM (hbox);have n3_:=aM ((z17_ HB.out GE475.out:w.heap.size≤gb476));have n4_:=aM ((z17_ HB.out GE475.out:w.heap.size≤gb476));have n5_:=aM (neL_ BK475.out hg);have n6_:=aM (neG_ BK475.out hg);clear BK475;clear HB;have BK475:=n0_;have HB:=n1_;have BK476:=n2_;have GW476:=n3_;have GE476:=n4_;have NB475_476:=n5_;have NB476_475:=n6_;clear n0_ n1_ n2_ n3_ n4_ n5_ n6_;clear hb hbox hg) | ((with_reducible refine gc_ 71 ?_);refine gl_ (some 7) Try.func71 #[.slice A0 l0.length c0] ?_;(with_reducible refine (Y50.calls _ _ l0 false _ ?s1 ?s2 A3.out).mono ?_);(case s1=>repeat (first | exact (Kd.C_below HR0.out HB.out) | (with_reducible refine Kd.C_alloc ?_ _) | (with_reducible refine Kd.C_drewN ?_ _) | (with_reducible refine Kd.C_drew ?_)));(case s2=>exact HC0.out);rintro e w' ⟨rfl,⟨nd,rfl⟩⟩;refine ⟨_,rfl,?_⟩))
  (try simp only [Act.put,sa_,s0_,ss_])
  go_cut [9] (fun v9 wc=>∃ (kq:Nat) (x9_8:Bool),v9 = .bool x9_8∧Aside0 (Y34.j0 kq l0 x9_8 a1_0 a1_1=some (r1,r2))∧Aside0 (kq≤k)∧Aside0 (wc.heap[gb475]? = some (.cells #[.int .i64 a1_0,.int .i64 a1_1] 49 (0,0)))∧Aside0 (wc.heap[gb476]? = some (.cells #[(.slice none 0 0),.int .i64 0] 53 (0,0)))∧Aside0 (Below w.heap.size w wc))
  case first =>
   have H:=HC9.out
   clear HC9
   replace H:=bS H
   obtain ⟨t478,A120,H⟩:=H
   replace H:(if t478=true then ((Y58.f a1_0 a1_1).bind fun t479=>(Y34.j0 k l0 (!t479) a1_0 a1_1)) else (Y34.j0 k l0 true a1_0 a1_1))=some (r1,r2):=H
   have A12:=aM A120
   clear A120
   by_cases c13:t478=true
   ·subst c13
    have H1:((Y58.f a1_0 a1_1).bind fun t479=>(Y34.j0 k l0 (!t479) a1_0 a1_1))=some (r1,r2):=by rw [if_pos rfl] at H;exact H
    clear H
    have H:=H1
    clear H1
    replace H:=bS H
    obtain ⟨t479,A140,H⟩:=H
    replace H:(Y34.j0 k l0 (!t479) a1_0 a1_1)=some (r1,r2):=H
    have A14:=aM A140
    clear A140
    have H':=aM H
    clear H
    go_wp2_with (first | ((with_reducible refine gc_ 72 ?_);refine gl_ (some 11) Try.func72 #[.slice A0 l0.length c0] ?_;(with_reducible refine (Y3.calls k _ _ l0 true _ ?s1 ?s2 A12.out).mono ?_);(case s1=>repeat (first | exact (Kd.C_below HR0.out HB.out) | (with_reducible refine Kd.C_alloc ?_ _) | (with_reducible refine Kd.C_drewN ?_ _) | (with_reducible refine Kd.C_drew ?_)));(case s2=>exact HC0.out);rintro e w15 ⟨rfl,hb⟩;refine ⟨_,rfl,?_⟩;have n0_:=aM (blkB_ BK475.out hb);have n1_:=aM (blkB_ BK476.out hb);have n2_:=aM (below_step (z13_ HB.out GE475.out GE476.out) hb);clear BK475;clear BK476;clear HB;have BK475:=n0_;have BK476:=n1_;have HB:=n2_;clear n0_ n1_ n2_;(try clear hb);have hnb16:=NB475_476.out;have hnc16:=NB476_475.out;have ⟨hcz17_0,hcz17_1,hfz17_0,hfz17_1⟩:=cz2_ BK475.out) | (go_at_call 73;(with_reducible refine (Y58.calls a1_0 a1_1 t479 _ A14.out).mono ?_);rintro e w18 ⟨rfl,hb⟩;have n0_:=aM (blkB_ BK475.out hb);have n1_:=aM (blkB_ BK476.out hb);have n2_:=aM (below_step (z13_ HB.out GE475.out GE476.out) hb);clear BK475;clear BK476;clear HB;have BK475:=n0_;have BK476:=n1_;have HB:=n2_;clear n0_ n1_ n2_;(try clear hb)))
    go_meet
    case rel=>exact ⟨_,(!t479),(z3_),H',⟨by first | omega | exact Nat.le_refl _⟩,⟨z2_ BK475.out⟩,⟨z2_ BK476.out⟩,⟨z13_ HB.out GE475.out GE476.out⟩⟩
   ·replace c13:=Bool.eq_false_iff.mpr c13
    subst c13
    have H1:(Y34.j0 k l0 true a1_0 a1_1)=some (r1,r2):=by rw [if_neg (show ¬ (false=true) by decide)] at H;exact H
    clear H
    have H:=H1
    clear H1
    have H':=aM H
    clear H
    go_wp2_with (first | ((with_reducible refine gc_ 72 ?_);refine gl_ (some 11) Try.func72 #[.slice A0 l0.length c0] ?_;(with_reducible refine (Y3.calls k _ _ l0 false _ ?s1 ?s2 A12.out).mono ?_);(case s1=>repeat (first | exact (Kd.C_below HR0.out HB.out) | (with_reducible refine Kd.C_alloc ?_ _) | (with_reducible refine Kd.C_drewN ?_ _) | (with_reducible refine Kd.C_drew ?_)));(case s2=>exact HC0.out);rintro e w19 ⟨rfl,hb⟩;refine ⟨_,rfl,?_⟩;have n0_:=aM (blkB_ BK475.out hb);have n1_:=aM (blkB_ BK476.out hb);have n2_:=aM (below_step (z13_ HB.out GE475.out GE476.out) hb);clear BK475;clear BK476;clear HB;have BK475:=n0_;have BK476:=n1_;have HB:=n2_;clear n0_ n1_ n2_;(try clear hb)))
    go_meet
    case rel=>exact ⟨_,(true),(z3_),H',⟨by first | omega | exact Nat.le_refl _⟩,⟨z2_ BK475.out⟩,⟨z2_ BK476.out⟩,⟨z13_ HB.out GE475.out GE476.out⟩⟩
  case rest =>
   clear HC9
   try clear c1
   try clear c2
   try clear p2
   try clear c4
   try clear c7
   try clear c13
   try clear c16
   try clear hcz17_0
   try clear hcz17_1
   try clear hcz8_0
   try clear hcz8_1
   try clear hfz17_0
   try clear hfz17_1
   try clear hfz8_0
   try clear hfz8_1
   obtain ⟨kq,x9_8,rfl,HA,HJ8,BK475,BK476,HB⟩:=hcut
   cases kq with
   | zero=>exact absurd HA.out (by simp [Y34.j0])
   | succ kj8 =>
    have H:=HA.out
    clear HA
    simp only [Y34.j0] at H
    by_cases c20:x9_8=true
    ·subst c20
     have H1:(some (([]:List (S49)),1))=some (r1,r2):=by rw [if_pos rfl] at H;exact H
     clear H
     have H:=H1
     clear H1
     simp only [Option.some.injEq,Prod.mk.injEq] at H
     obtain ⟨rfl,rfl⟩:=H
     have hnb21:=NB476_475.out
     have hnc21:=NB475_476.out
     have ⟨hcz22_0,hcz22_1,hfz22_0,hfz22_1⟩:=cz2_ BK476.out
     go_wp2
     refine bodyPost_ret (results_cell_row rfl _ _ gb476 53 #[.slice none 0 0,.int .i64 1] (0,0) _ rfl (z15_ BK476.out) Try.underlying53 rfl (by kernel_rfl)) rfl ?_
     exact ⟨_,z5_,z25_,z13_ HB.out GE475.out GE476.out⟩
    ·replace c20:=Bool.eq_false_iff.mpr c20
     subst c20
     have H1:((Y25.f kj8 l0 (([(⟨a1_0,a1_1⟩:S49)]:List (S49)))).bind fun t483=>(some (t483,0)))=some (r1,r2):=by rw [if_neg (show ¬ (false=true) by decide)] at H;exact H
     clear H
     have H:=H1
     clear H1
     obtain ⟨y480,hy480⟩:∃ y_:List (S49),y_=(([(⟨a1_0,a1_1⟩:S49)]:List (S49))):=⟨_,rfl⟩
     replace H:((Y25.f kj8 l0 y480).bind fun t483=>(some (t483,0)))=some (r1,r2):=by first | (rw [hy480];with_reducible exact H) | (have H2_:=(Option.bind_some _ _).symm.trans H;rw [hy480];with_reducible exact H2_) | (have H2_:=(Option.bind_some _ _).symm.trans H;with_reducible exact H2_) | with_reducible exact H | (rw [hy480];exact H) | exact H
     have Ny480:=aM hy480
     clear hy480
     replace H:=bS H
     obtain ⟨t483,A230,H⟩:=H
     replace H:(some (t483,0))=some (r1,r2):=H
     have A23:=aM A230
     clear A230
     simp only [Option.some.injEq,Prod.mk.injEq] at H
     obtain ⟨rfl,rfl⟩:=H
     have hnb24:=NB475_476.out
     have hnc24:=NB476_475.out
     have ⟨hcz25_0,hcz25_1,hfz25_0,hfz25_1⟩:=cz2_ BK475.out
     go_wp2_with (first | ((with_reducible refine gd_ 21 ?_);refine Kd.R_lit k49 _ 49 ?hg (N:=21) ?hd (xs:=([(⟨a1_0,a1_1⟩:S49)]:List (S49))) (inner:=[.int .i64 a1_0,.int .i64 a1_1]) (ok:=fun _=>True) (okp:=fun _=>True) ?hr ?hp (fun _ hk=>hk) trivial (Below.refl _ _) (Nat.le_refl _) (by simp) ?_;(case hd=>rfl);(case hg=>rfl);(case hr=>first | (go_simp;done) | (go_simp;rfl));(case hp=>exact (Reps.c2 (show Kd.M k49 _ _ _ (⟨a1_0,a1_1⟩:S49) [.int .i64 a1_0,.int .i64 a1_1] from (k49_mkM _ _ _ (⟨a1_0,a1_1⟩:S49) )) (Reps.none _ _)));intro v481 w26 ho27 hb hg_ hnew_;clear hg_ hnew_;(first | rw [← Ny480.out] at ho27 | (simp only [Int.reduceToNat] at ho27;rw [← Ny480.out] at ho27));have n0_:=aM (Kd.R_lower (Kd.R_newB ho27 (g:=gb475) (o:=.cells #[.int .i64 a1_0,.int .i64 a1_1] 49 (0,0)) (z2_ BK475.out)) (below_size (z13_ HB.out GE475.out GE476.out)));have n1_:=aM (blkB_ BK475.out hb);have n2_:=aM (blkB_ BK476.out hb);have n3_:=aM (below_step (z13_ HB.out GE475.out GE476.out) hb);clear BK475;clear BK476;clear HB;have HO482:=n0_;have BK475:=n1_;have BK476:=n2_;have HB:=n3_;clear n0_ n1_ n2_ n3_;clear hb ho27;obtain ⟨Ao28,co28,eo28⟩:=Kd.R_slice HO482.out;subst eo28) | ((with_reducible refine gc_ 70 ?_);refine gl_ (some 22) Try.func70 #[.slice A0 l0.length c0,.slice Ao28 y480.length co28] ?_;(with_reducible refine (Y25.calls kj8 _ _ l0 _ _ y480 t483 _ ?s1 ?s2 ?s3 ?s4 A23.out).mono ?_);(case s1=>repeat (first | exact (Kd.C_below HR0.out HB.out) | (with_reducible refine Kd.C_alloc ?_ _) | (with_reducible refine Kd.C_drewN ?_ _) | (with_reducible refine Kd.C_drew ?_)));(case s2=>exact HC0.out);(case s3=>repeat (first | exact (Kd.R_reads' HO482.out).2.2 | (with_reducible refine Kd.C_alloc ?_ _) | (with_reducible refine Kd.C_drewN ?_ _) | (with_reducible refine Kd.C_drew ?_)));(case s4=>exact (Kd.R_reads' HO482.out).2.1);rintro e w29 ⟨v484,rfl,ho0,hb⟩;refine ⟨_,rfl,?_⟩;have n0_:=aM (Kd.R_elder' (z0_ HO482.out) (Kd.R_base ho0) hb);have n1_:=aM (Kd.R_lower (Kd.R_newB (Kd.R_new' ho0 (Kd.R_lt (z0_ HO482.out))) (g:=gb475) (o:=.cells #[.int .i64 a1_0,.int .i64 a1_1] 49 (0,0)) (z2_ BK475.out)) (below_size (z13_ HB.out GE475.out GE476.out)));have n2_:=aM (blkB_ BK475.out hb);have n3_:=aM (blkB_ BK476.out hb);have n4_:=aM (below_step (z13_ HB.out GE475.out GE476.out) hb);clear HO482;clear BK475;clear BK476;clear HB;have HO482:=n0_;have HO485:=n1_;have BK475:=n2_;have BK476:=n3_;have HB:=n4_;clear n0_ n1_ n2_ n3_ n4_;(try clear hb);(try clear ho0);obtain ⟨Ao30,co30,eo30⟩:=Kd.R_slice HO485.out;subst eo30;have ⟨hcz31_0,hcz31_1,hfz31_0,hfz31_1⟩:=cz2_ BK476.out))
     refine bodyPost_ret (results_cell_row rfl _ _ gb476 53 #[.slice Ao30 t483.length co30,.int .i64 0] (0,0) _ rfl (z15_ BK476.out) Try.underlying53 rfl (by kernel_rfl)) rfl ?_
     exact ⟨_,z5_,z38_ HO485.out BK476.out,z13_ HB.out GE475.out GE476.out⟩


/-! ### Y53: function 24 -/
def Y53.f (k:Nat) (l0:List Int):Option ((List (S49)) × Int):=(Y14.f k l0).bind fun bt486=>((Y10.f k bt486.1 bt486.2.1 bt486.2.2.1 bt486.2.2.2).bind fun bt491=>((Y2.f bt486.1 bt491.2.1 bt491.2.2.1 bt491.2.2.2 7).bind fun bt497=>(some (bt491.1,bt497.1))))
theorem Y53.mono:∀ a0 k,LeO (Y53.f k a0) (Y53.f (k+1) a0):=by
 intro a0 k
 have m0:=@Y14.mono
 have m1:=@Y10.mono
 unfold Y53.f
 exact mO
theorem Y53.calls (k:Nat) (A0:Option Addr) (c0:Nat) (l0:List Int) (r1:List (S49)) (r2:Int) (w:World) (hr0:Kd.C (Kd.int .u8) w A0 l0.length l0) (hc0:l0.length≤c0) (h:Y53.f k l0=some (r1,r2)) :
  Calls Try.prog 24 #[.slice A0 l0.length c0] w fun e w'=>∃ v0_:Value,e = .returned (.tuple #[v0_,.int .i64 r2])∧Kd.R k49 49 w' w.heap.size (fun _=>True) v0_ r1∧Below w.heap.size w w':=by
 have HR0:=aM hr0
 have HC0:=aM hc0
 clear hr0 hc0
 have HB:=aM (Below.refl w.heap.size w)
 have H:((Y14.f k l0).bind fun bt486=>((Y10.f k bt486.1 bt486.2.1 bt486.2.2.1 bt486.2.2.2).bind fun bt491=>((Y2.f bt486.1 bt491.2.1 bt491.2.2.1 bt491.2.2.2 7).bind fun bt497=>(some (bt491.1,bt497.1)))))=some (r1,r2):=h
 clear h
 replace H:=bS H
 obtain ⟨⟨t486,t487,t488,t489⟩,A20,H⟩:=H
 replace H:((Y10.f k t486 t487 t488 t489).bind fun bt491=>((Y2.f t486 bt491.2.1 bt491.2.2.1 bt491.2.2.2 7).bind fun bt497=>(some (bt491.1,bt497.1))))=some (r1,r2):=H
 have A2:=aM A20
 clear A20
 replace H:=bS H
 obtain ⟨⟨t491,t494,t495,t496⟩,A30,H⟩:=H
 replace H:((Y2.f t486 t494 t495 t496 7).bind fun bt497=>(some (t491,bt497.1)))=some (r1,r2):=H
 have A3:=aM A30
 clear A30
 replace H:=bS H
 obtain ⟨⟨t497,t498,t499,t500⟩,A40,H⟩:=H
 replace H:(some (t491,t497))=some (r1,r2):=H
 have A4:=aM A40
 clear A40
 simp only [Option.some.injEq,Prod.mk.injEq] at H
 obtain ⟨rfl,rfl⟩:=H
 go_enter Try.func24,Try.ntmps24
 go_wp2_with (first | ((with_reducible refine gc_ 68 ?_);refine gl_ (some 7) Try.func68 #[.slice A0 l0.length c0] ?_;(with_reducible refine (Y14.calls k _ _ l0 t486 t487 t488 t489 w _ ?s1 ?s2 ?s3 A2.out).mono ?_);(case s1=>repeat (first | (with_reducible first | exact HB.out | apply below_alloc | apply pw_below_drewN | apply below_drew1) | exact HB.out));(case s2=>exact HR0.out);(case s3=>exact HC0.out);rintro e w5 ⟨g490,rfl,hi,hb,hb2⟩;refine ⟨_,rfl,?_⟩;have n0_:=aM (hb);have n1_:=aM (hi);clear HB;have HB:=n0_;have HI490:=n1_;clear n0_ n1_;(try clear hb);(try clear hb2);(try clear hi)) | ((with_reducible refine gc_ 69 ?_);refine gl_ (some 9) Try.func69 #[.pointer (some ⟨g490,0,none⟩)] ?_;(with_reducible refine (Y10.calls k g490 t486 t487 t488 t489 t491 t494 t495 t496 w _ ?s1 ?s2 A3.out).mono ?_);(case s1=>repeat (first | (with_reducible first | exact HI490.out | apply IsS118.alloc | apply IsS118.drewN | apply IsS118.drew | apply IsS118.set_1 | apply IsS118.set_2 | apply IsS118.set_3) | exact HI490.out));(case s2=>repeat (first | (with_reducible first | exact HB.out | apply below_alloc | apply pw_below_drewN | apply below_drew1 | refine below_set ?_ (IsS118.ge HI490.out)) | exact HB.out));rintro e w6 ⟨v492,rfl,ho0,hi,hb,hk⟩;refine ⟨_,rfl,?_⟩;have n0_:=aM (Kd.R_lower ho0 (below_size (z10_ HB.out HI490.out)));have n1_:=aM (hb);have n2_:=aM (hi);clear HB;clear HI490;have HO493:=n0_;have HB:=n1_;have HI490:=n2_;clear n0_ n1_ n2_;(try clear hb);(try clear hk);(try clear hi);(try clear ho0)) | ((with_reducible refine gc_ 74 ?_);refine gl_ (some 12) Try.func74 #[.pointer (some ⟨g490,0,none⟩),.int .i64 7] ?_;(with_reducible refine (Y2.calls g490 t486 t494 t495 t496 7 t497 t498 t499 t500 w _ ?s1 ?s2 A4.out).mono ?_);(case s1=>repeat (first | (with_reducible first | exact HI490.out | apply IsS118.alloc | apply IsS118.drewN | apply IsS118.drew | apply IsS118.set_1 | apply IsS118.set_2 | apply IsS118.set_3) | exact HI490.out));(case s2=>repeat (first | (with_reducible first | exact HB.out | apply below_alloc | apply pw_below_drewN | apply below_drew1 | refine below_set ?_ (IsS118.ge HI490.out)) | exact HB.out));rintro e w7 ⟨rfl,hi,hb,hk⟩;refine ⟨_,rfl,?_⟩;have n0_:=aM (Kd.R_mono (Kd.R_keep (IsS118.apart (show IsS118 w _ g490 t486 t494 t495 t496 from by repeat (first | (with_reducible first | exact HI490.out | apply IsS118.alloc | apply IsS118.drewN | apply IsS118.drew | apply IsS118.set_1 | apply IsS118.set_2 | apply IsS118.set_3) | exact HI490.out)) (z0_ HO493.out) (by decide)) hk (fun _ h=>h.2)) (fun _ h=>h.1));have n1_:=aM (hb);have n2_:=aM (hi);clear HO493;clear HB;clear HI490;have HO493:=n0_;have HB:=n1_;have HI490:=n2_;clear n0_ n1_ n2_;(try clear hb);(try clear hk);(try clear hi)))
 go_ret2
 exact ⟨_,z5_,z0_ HO493.out,z10_ HB.out HI490.out⟩


/-! ### Y44: function 26 -/
def Y44.f (k:Nat) (l0:List Int):Option ((List (S49))):=(Y14.f k l0).bind fun bt501=>((Y10.f k bt501.1 bt501.2.1 bt501.2.2.1 bt501.2.2.2).bind fun bt506=>(some bt506.1))
theorem Y44.mono:∀ a0 k,LeO (Y44.f k a0) (Y44.f (k+1) a0):=by
 intro a0 k
 have m0:=@Y14.mono
 have m1:=@Y10.mono
 unfold Y44.f
 exact mO
theorem Y44.calls (k:Nat) (A0:Option Addr) (c0:Nat) (l0:List Int) (r:List (S49)) (w:World) (hr0:Kd.C (Kd.int .u8) w A0 l0.length l0) (hc0:l0.length≤c0) (h:Y44.f k l0=some r) :
  Calls Try.prog 26 #[.slice A0 l0.length c0] w fun e w'=>∃ v0_:Value,e = .returned (v0_)∧Kd.R k49 49 w' w.heap.size (fun _=>True) v0_ r∧Below w.heap.size w w':=by
 have HR0:=aM hr0
 have HC0:=aM hc0
 clear hr0 hc0
 have HB:=aM (Below.refl w.heap.size w)
 have H:((Y14.f k l0).bind fun bt501=>((Y10.f k bt501.1 bt501.2.1 bt501.2.2.1 bt501.2.2.2).bind fun bt506=>(some bt506.1)))=some r:=h
 clear h
 replace H:=bS H
 obtain ⟨⟨t501,t502,t503,t504⟩,A20,H⟩:=H
 replace H:((Y10.f k t501 t502 t503 t504).bind fun bt506=>(some bt506.1))=some r:=H
 have A2:=aM A20
 clear A20
 replace H:=bS H
 obtain ⟨⟨t506,t509,t510,t511⟩,A30,H⟩:=H
 replace H:(some t506)=some r:=H
 have A3:=aM A30
 clear A30
 obtain rfl:=sI H
 go_enter Try.func26,Try.ntmps26
 go_wp2_with (first | ((with_reducible refine gc_ 68 ?_);refine gl_ (some 4) Try.func68 #[.slice A0 l0.length c0] ?_;(with_reducible refine (Y14.calls k _ _ l0 t501 t502 t503 t504 w _ ?s1 ?s2 ?s3 A2.out).mono ?_);(case s1=>repeat (first | (with_reducible first | exact HB.out | apply below_alloc | apply pw_below_drewN | apply below_drew1) | exact HB.out));(case s2=>exact HR0.out);(case s3=>exact HC0.out);rintro e w4 ⟨g505,rfl,hi,hb,hb2⟩;refine ⟨_,rfl,?_⟩;have n0_:=aM (hb);have n1_:=aM (hi);clear HB;have HB:=n0_;have HI505:=n1_;clear n0_ n1_;(try clear hb);(try clear hb2);(try clear hi)) | ((with_reducible refine gc_ 69 ?_);refine gl_ (some 5) Try.func69 #[.pointer (some ⟨g505,0,none⟩)] ?_;(with_reducible refine (Y10.calls k g505 t501 t502 t503 t504 t506 t509 t510 t511 w _ ?s1 ?s2 A3.out).mono ?_);(case s1=>repeat (first | (with_reducible first | exact HI505.out | apply IsS118.alloc | apply IsS118.drewN | apply IsS118.drew | apply IsS118.set_1 | apply IsS118.set_2 | apply IsS118.set_3) | exact HI505.out));(case s2=>repeat (first | (with_reducible first | exact HB.out | apply below_alloc | apply pw_below_drewN | apply below_drew1 | refine below_set ?_ (IsS118.ge HI505.out)) | exact HB.out));rintro e w5 ⟨v507,rfl,ho0,hi,hb,hk⟩;refine ⟨_,rfl,?_⟩;have n0_:=aM (Kd.R_lower ho0 (below_size (z10_ HB.out HI505.out)));have n1_:=aM (hb);have n2_:=aM (hi);clear HB;clear HI505;have HO508:=n0_;have HB:=n1_;have HI505:=n2_;clear n0_ n1_ n2_;(try clear hb);(try clear hk);(try clear hi);(try clear ho0)))
 go_ret
 exact ⟨_,z5_,z0_ HO508.out,z10_ HB.out HI505.out⟩


/-! ### Y39: function 99 -/
def Y39.l0:Nat→Int→List Int→Option (ByteArray)
 | 0,_,_=>none
 | k+1,x3,x4=>if x3≥128 then (if x4.length<140737488355328 then (Y39.l0 k (x3 / 128) (x4 ++ [Go.bits .or .u8 ((Go.bits .and .u64 x3 127) % 256) 128])) else (none)) else (if x4.length<140737488355328 then (some (strOfNums (x4 ++ [(x3) % 256]))) else (none))
def Y39.f (k:Nat) (a0:Int):Option (ByteArray):=Y39.l0 k (Go.bits .xor .u64 (IntKind.u64.wrap ((IntKind.u64.wrap (a0))*2)) (IntKind.u64.wrap (a0 / 9223372036854775808))) ([]:List Int)
theorem Y39.mono_l:∀ k,(∀ y0 y1,LeO (Y39.l0 k y0 y1) (Y39.l0 (k+1) y0 y1))
 | 0=>by intros <;> exact LeO.none _
 | k+1=>by
  have ih0:=Y39.mono_l k
  ·intros
   unfold Y39.l0
   exact mO
theorem Y39.mono:∀ a0 k,LeO (Y39.f k a0) (Y39.f (k+1) a0):=by
 intro a0 k
 have ih0:=Y39.mono_l k
 unfold Y39.f
 exact mO
theorem Y39.calls (k:Nat) (a0:Int) (r:ByteArray) (w:World) (h:Y39.f k a0=some r) :
  Calls Try.prog 99 #[.int .i64 a0] w fun e w'=>e = .returned (.string r)∧Below w.heap.size w w':=by
 have HB:=aM (Below.refl w.heap.size w)
 have H:(Y39.l0 k (Go.bits .xor .u64 (IntKind.u64.wrap ((IntKind.u64.wrap (a0))*2)) (IntKind.u64.wrap (a0 / 9223372036854775808))) ([]:List Int))=some r:=h
 clear h
 have H':=aM H
 clear H
 go_enter Try.func99,Try.ntmps99
 go_wp2
 go_loopg [3,4] k (fun kq v3 v4 w'=>∃ (x3_1:Int) (x4_1:List Int),v3 = .int .u64 x3_1∧Aside0 (Y39.l0 kq x3_1 x4_1=some r)∧Aside0 (kq≤k)∧Aside0 (Kd.R (Kd.int .u8) 5 w' w.heap.size (fun _=>True) v4 x4_1)∧Aside0 (Below w.heap.size w w'))
 case atStart=>exact ⟨(Go.bits .xor .u64 (IntKind.u64.wrap ((IntKind.u64.wrap (a0))*2)) (IntKind.u64.wrap (a0 / 9223372036854775808))),(([]:List Int)),(z3_),H',⟨Nat.le_refl _⟩,⟨z25_⟩,⟨z1_ HB.out⟩⟩
 case round =>
  clear H'
  obtain ⟨x3_1,x4_1,rfl,HA,HK1,HO_4,HB⟩:=hrel
  cases gk with
  | zero=>exact absurd HA.out (by simp [Y39.l0])
  | succ k1 =>
   have H:=HA.out
   clear HA
   simp only [Y39.l0] at H
   by_cases c2:x3_1≥128
   ·rw [if_pos c2] at H
    have c2b0:decide (128≤x3_1)=true:=dE c2
    clear c2
    by_cases c3:x4_1.length<140737488355328
    ·rw [if_pos c3] at H
     have LMc3:=aM c3
     clear c3
     obtain ⟨y512,hy512⟩:∃ y_:List Int,y_=(x4_1 ++ [Go.bits .or .u8 ((Go.bits .and .u64 x3_1 127) % 256) 128]):=⟨_,rfl⟩
     replace H:(Y39.l0 k1 (x3_1 / 128) y512)=some r:=by first | (rw [hy512];with_reducible exact H) | (have H2_:=(Option.bind_some _ _).symm.trans H;rw [hy512];with_reducible exact H2_) | (have H2_:=(Option.bind_some _ _).symm.trans H;with_reducible exact H2_) | with_reducible exact H | (rw [hy512];exact H) | exact H
     have Ny512:=aM hy512
     clear hy512
     have H':=aM H
     clear H
     go_wp2_with (first | ((with_reducible refine gate_builtin (b:=.append) (xs:=#[.tmp 14,.tmp 19]) rfl ?_);at_builtin;refine Kd.R_append (Kd.int .u8) (w0:=w) w.heap.size rfl (.tmp 14) (.tmp 19) 44 5 (.int .u8 0) 1 rfl Try.underlying44 info5 rfl (by decide) (by omega) u4 x4_1 (Go.bits .or .u8 ((Go.bits .and .u64 x3_1 127) % 256) 128) [.int .u8 (Go.bits .or .u8 ((Go.bits .and .u64 x3_1 127) % 256) 128)] (fun _=>True) (fun _=>False) rfl rfl ?aP (fun _ hk=>hk.elim) ?aF ?aO ?aB ?aS ?aL ?_;(case aP=>exact rfl);(case aB=>exact (z1_ HB.out));(case aF=>exact (fun _ _=>trivial));(case aO=>exact (z0_ HO_4.out));(case aS=>exact (below_size (z1_ HB.out)));(case aL=>have:=LMc3.out;omega);intro v513 w4 ho hb hg hat;rw [← Ny512.out] at ho;have n0_:=aM (hb);have n1_:=aM (ho);clear HB;clear HO_4;have HB:=n0_;have HO514:=n1_;clear n0_ n1_;clear ho hb hg hat))
     go_roundg k1
     case measure=>have:=HK1.out;omega
     case rel=>exact ⟨(x3_1 / 128),(y512),(z3_),H',⟨by have:=HK1.out;omega⟩,⟨z0_ HO514.out⟩,⟨z1_ HB.out⟩⟩
    ·rw [if_neg c3] at H
     exact nO H
   ·rw [if_neg c2] at H
    have c2b0:decide (128≤x3_1)=false:=dF c2
    clear c2
    by_cases c5:x4_1.length<140737488355328
    ·rw [if_pos c5] at H
     have LMc5:=aM c5
     clear c5
     obtain ⟨y515,hy515⟩:∃ y_:List Int,y_=(x4_1 ++ [(x3_1) % 256]):=⟨_,rfl⟩
     replace H:(some (strOfNums y515))=some r:=by first | (rw [hy515];with_reducible exact H) | (have H2_:=(Option.bind_some _ _).symm.trans H;rw [hy515];with_reducible exact H2_) | (have H2_:=(Option.bind_some _ _).symm.trans H;with_reducible exact H2_) | with_reducible exact H | (rw [hy515];exact H) | exact H
     have Ny515:=aM hy515
     clear hy515
     obtain rfl:=sI H
     go_wp2_with (first | ((with_reducible refine gate_builtin (b:=.append) (xs:=#[.tmp 23,.tmp 26]) rfl ?_);at_builtin;refine Kd.R_append (Kd.int .u8) (w0:=w) w.heap.size rfl (.tmp 23) (.tmp 26) 44 5 (.int .u8 0) 1 rfl Try.underlying44 info5 rfl (by decide) (by omega) u4 x4_1 ((x3_1) % 256) [.int .u8 ((x3_1) % 256)] (fun _=>True) (fun _=>False) rfl rfl ?aP (fun _ hk=>hk.elim) ?aF ?aO ?aB ?aS ?aL ?_;(case aP=>exact rfl);(case aB=>exact (z1_ HB.out));(case aF=>exact (fun _ _=>trivial));(case aO=>exact (z0_ HO_4.out));(case aS=>exact (below_size (z1_ HB.out)));(case aL=>have:=LMc5.out;omega);intro v516 w6 ho hb hg hat;rw [← Ny515.out] at ho;have n0_:=aM (hb);have n1_:=aM (ho);clear HB;clear HO_4;have HB:=n0_;have HO517:=n1_;clear n0_ n1_;clear ho hb hg hat;have hcv7:=own_string (P:=Try.prog) Try.underlying44 Try.underlying5 Try.underlying9 (Kd.own_of_R HO517.out)))
     go_ret
     exact ⟨z5_,z1_ HB.out⟩
    ·rw [if_neg c5] at H
     exact nO H


/-! ### Y26: function 76 -/
def Y26.l0:Nat→ByteArray→List (S49)→Int→Int→Option (ByteArray)
 | 0,_,_,_,_=>none
 | k+1,x3,x9,x10,x11=>if x11<x10 then (if 0≤x11 then (if x11<(x9.length:Int) then ((Y39.f k ((rd_T49 x9 x11).f0)).bind fun t521=>((Y39.f k ((rd_T49 x9 x11).f1)).bind fun t522=>(if t521.size+t522.size≤9223372036854775807 then (if x3.size+(t521.size+t522.size)≤9223372036854775807 then (Y26.l0 k (x3 ++ (t521 ++ t522)) x9 x10 (wrap64 (x11+1))) else (none)) else (none)))) else (none)) else (none)) else (some x3)
def Y26.f (k:Nat) (l0:List (S49)):Option (ByteArray):=(Y39.f k (l0.length:Int)).bind fun t518=>(Y26.l0 k t518 l0 (l0.length:Int) 0)
theorem Y26.mono_l:∀ k,(∀ y0 y1 y2 y3,LeO (Y26.l0 k y0 y1 y2 y3) (Y26.l0 (k+1) y0 y1 y2 y3))
 | 0=>by intros <;> exact LeO.none _
 | k+1=>by
  have ih0:=Y26.mono_l k
  have m0:=@Y39.mono
  ·intros
   unfold Y26.l0
   exact mO
theorem Y26.mono:∀ a0 k,LeO (Y26.f k a0) (Y26.f (k+1) a0):=by
 intro a0 k
 have m0:=@Y39.mono
 have ih0:=Y26.mono_l k
 unfold Y26.f
 exact mO
def Y26.T5:Bool × List (List Nat × List Nat):=(true,[([],[]),([],[]),([1],[1]),([2],[2]),([],[]),([4],[4]),([5,3],[5]),([3,6],[3,6]),([0,7],[0,7]),([8,6,0,1,2,3,4,5,6,7,8],[0,8])])
def Y26.B5:List Nat:=[0,0,2,6,0,16,62,126,255,511]
theorem Y26.tab5:rtab .any (opsOf Try.f76 5)=Y26.T5:=by kernel_rfl
theorem Y26.bits5:waitsOk Y26.T5.2 Y26.B5=true:=by kernel_rfl
theorem Y26.calls (k:Nat) (A0:Option Addr) (c0:Nat) (l0:List (S49)) (r:ByteArray) (w:World) (hr0:Kd.C k49 w A0 l0.length l0) (hc0:l0.length≤c0) (h:Y26.f k l0=some r) :
  Calls Try.prog 76 #[.slice A0 l0.length c0] w fun e w'=>e = .returned (.string r)∧Below w.heap.size w w':=by
 have hu49:=Try.underlying49
 have HR0:=aM hr0
 have HC0:=aM hc0
 clear hr0 hc0
 have HB:=aM (Below.refl w.heap.size w)
 have H:((Y39.f k (l0.length:Int)).bind fun t518=>(Y26.l0 k t518 l0 (l0.length:Int) 0))=some r:=h
 clear h
 replace H:=bS H
 obtain ⟨t518,A20,H⟩:=H
 replace H:(Y26.l0 k t518 l0 (l0.length:Int) 0)=some r:=H
 have A2:=aM A20
 clear A20
 have H':=aM H
 clear H
 go_enter Try.func76,Try.ntmps76
 go_wp2_with (first | ((with_reducible refine gc_ 99 ?_);refine gl_ (some 8) Try.func99 #[.int .i64 (l0.length:Int)] ?_;(with_reducible refine (Y39.calls k (l0.length:Int) t518 _ A2.out).mono ?_);rintro e w3 ⟨rfl,hb⟩;refine ⟨_,rfl,?_⟩;have n0_:=aM (below_step (z1_ HB.out) hb);clear HB;have HB:=n0_;clear n0_;(try clear hb)))
 go_loopg [3,11] k (fun kq v3 v11 w'=>∃ (x3_1:ByteArray) (x11_1:Int),v3 = .string x3_1∧v11 = .int .i64 x11_1∧Aside0 (Y26.l0 kq x3_1 l0 (l0.length:Int) x11_1=some r)∧Aside0 (kq≤k)∧Aside0 (Below w.heap.size w w'))
 case atStart=>exact ⟨(t518),(0),(z3_),(z3_),H',⟨Nat.le_refl _⟩,⟨z1_ HB.out⟩⟩
 case round =>
  clear H'
  try clear p2
  obtain ⟨x3_1,x11_1,rfl,rfl,HA,HK1,HB⟩:=hrel
  cases gk with
  | zero=>exact absurd HA.out (by simp [Y26.l0])
  | succ k1 =>
   have H:=HA.out
   clear HA
   simp only [Y26.l0] at H
   by_cases c4:x11_1<(l0.length:Int)
   ·rw [if_pos c4] at H
    have c4b0:decide (x11_1<(l0.length:Int))=true:=dE c4
    clear c4
    by_cases c5:0≤x11_1
    ·rw [if_pos c5] at H
     have c5b0:decide (0≤x11_1)=true:=dE c5
     clear c5
     by_cases c6:x11_1<(l0.length:Int)
     ·rw [if_pos c6] at H
      have c6b0:decide (x11_1<(l0.length:Int))=true:=dE c6
      clear c6
      replace H:=bS H
      obtain ⟨t521,A70,H⟩:=H
      replace H:((Y39.f k1 ((rd_T49 l0 x11_1).f1)).bind fun t522=>(if t521.size+t522.size≤9223372036854775807 then (if x3_1.size+(t521.size+t522.size)≤9223372036854775807 then (Y26.l0 k1 (x3_1 ++ (t521 ++ t522)) l0 (l0.length:Int) (wrap64 (x11_1+1))) else (none)) else (none)))=some r:=H
      have A7:=aM A70
      clear A70
      replace H:=bS H
      obtain ⟨t522,A80,H⟩:=H
      replace H:(if t521.size+t522.size≤9223372036854775807 then (if x3_1.size+(t521.size+t522.size)≤9223372036854775807 then (Y26.l0 k1 (x3_1 ++ (t521 ++ t522)) l0 (l0.length:Int) (wrap64 (x11_1+1))) else (none)) else (none))=some r:=H
      have A8:=aM A80
      clear A80
      by_cases c9:t521.size+t522.size≤9223372036854775807
      ·rw [if_pos c9] at H
       have c9b0:=eq_true c9
       have c9b1:decide (t521.size+t522.size≤9223372036854775807)=true:=dE c9
       try have c9b2:(9223372036854775807<t521.size+t522.size)=False:=eq_false (Nat.not_lt.2 c9)
       by_cases c10:x3_1.size+(t521.size+t522.size)≤9223372036854775807
       ·rw [if_pos c10] at H
        have c10b0:=eq_true c10
        have c10b1:decide (x3_1.size+(t521.size+t522.size)≤9223372036854775807)=true:=dE c10
        try have c10b2:(9223372036854775807<x3_1.size+(t521.size+t522.size))=False:=eq_false (Nat.not_lt.2 c10)
        have H':=aM H
        clear H
        have p519:0≤(x11_1:Int):=dT (z7_)
        have q519:x11_1<(l0.length:Int):=dT (z7_)
        obtain ⟨ad519,e519,hx519_0,hx519_1⟩:=at_T49 HR0.out x11_1 p519 q519
        cases e519
        replace hx519_0:=(HB.out.cell (World.block_lt_of_cell? w _ hx519_0)).trans hx519_0
        replace hx519_1:=(HB.out.cell (World.block_lt_of_cell? w _ hx519_1)).trans hx519_1
        replace p519:=eq_true p519
        replace q519:=eq_true q519
        try go_wp2_with (first | ((with_reducible refine gd_ 5 ?_);refine be_ 5 #[.int .i64 0,.int .i64 0] 49 ?_;intro gb520 hg w11 hbox hb;have n0_:=aM (below_step (z1_ HB.out) hb);have n1_:=aM (hbox);have n2_:=aM ((z8_ HB.out:w.heap.size≤gb520));have n3_:=aM ((z8_ HB.out:w.heap.size≤gb520));clear HB;have HB:=n0_;have BK520:=n1_;have GW520:=n2_;have GE520:=n3_;clear n0_ n1_ n2_ n3_;clear hb hbox hg;have ⟨hcz12_0,hcz12_1,hfz12_0,hfz12_1⟩:=cz2_ BK520.out))
        have n0_:Aside0 (((w11.setCell ⟨gb520,0,none⟩ (.int .i64 ((rd_T49 l0 x11_1).f0))).setCell ⟨gb520,1,none⟩ (.int .i64 ((rd_T49 l0 x11_1).f1))).heap[gb520]? = some (.cells #[.int .i64 ((rd_T49 l0 x11_1).f0),.int .i64 ((rd_T49 l0 x11_1).f1)] 49 (0,0))):=⟨z15_ BK520.out⟩
        have n1_:Aside0 (Below w.heap.size w ((w11.setCell ⟨gb520,0,none⟩ (.int .i64 ((rd_T49 l0 x11_1).f0))).setCell ⟨gb520,1,none⟩ (.int .i64 ((rd_T49 l0 x11_1).f1)))):=⟨z4_ HB.out GE520.out⟩
        (try clear BK520)
        (try clear HB)
        generalize ((w11.setCell ⟨gb520,0,none⟩ (.int .i64 ((rd_T49 l0 x11_1).f0))).setCell ⟨gb520,1,none⟩ (.int .i64 ((rd_T49 l0 x11_1).f1)))=w13 at n0_ n1_ ⊢
        have BK520:=n0_
        have HB:=n1_
        clear n0_ n1_
        have n0_:=aM (blk_drew BK520.out)
        have n1_:=aM (below_drew1 HB.out)
        clear BK520
        clear HB
        have BK520:=n0_
        have HB:=n1_
        clear n0_ n1_
        refine start_ (n:=10) (S:=fun w'=>w'.cell? ⟨gb520,0,none⟩=some (.int .i64 ((rd_T49 l0 x11_1).f0))∧w'.cell? ⟨gb520,1,none⟩=some (.int .i64 ((rd_T49 l0 x11_1).f1))) (ds:=[]) #[O,O,O,O,O,O,O,O,O,O] (by kernel_rfl) rfl rfl (cc2_ BK520.out) (fun hHeld=>?_);refine with_tabW Y26.tab5 Y26.bits5 (fun HT_ HW_=>?_)
        generalize w13.drew=w14 at BK520 HB hHeld ⊢
        refine pu_ 0 15 #[I,O,O,O,O,O,O,O,O,O] HT_.out ?_
        refine pu_ 1 16 #[I,I,O,O,O,O,O,O,O,O] HT_.out ?_
        refine pu_ 4 19 #[I,I,O,O,I,O,O,O,O,O] HT_.out ?_
        refine tk2_ 2 17 #[I,I,I,O,I,O,O,O,O,O] HT_.out HW_.out hHeld ?_
        refine tk2_ 5 20 #[I,I,I,O,I,I,O,O,O,O] HT_.out HW_.out hHeld ?_
        refine o1_ 3 18 #[I,I,I,I,I,I,O,O,O,O] HT_.out (fun K hK=>?_)
        refine gs_ Try.func99 #[.int .i64 ((rd_T49 l0 x11_1).f0)] ?_
        with_reducible refine (Y39.calls k1 ((rd_T49 l0 x11_1).f0) t521 _ A7.out).mono ?_
        rintro e w15 ⟨rfl,hb⟩
        refine ⟨_,rfl,?_⟩
        have n0_:=aM (blkB_ BK520.out hb)
        have n1_:=aM (below_step (z4_ HB.out GE520.out) hb)
        clear BK520
        clear HB
        have BK520:=n0_
        have HB:=n1_
        clear n0_ n1_
        (try clear hb)
        refine hK.out _ _ (cc2_ BK520.out) (fun hHeld=>?_)
        clear hK K
        refine nm_ 18 ?_
        refine o1_ 6 21 #[I,I,I,I,I,I,I,O,O,O] HT_.out (fun K hK=>?_)
        refine gs_ Try.func99 #[.int .i64 ((rd_T49 l0 x11_1).f1)] ?_
        with_reducible refine (Y39.calls k1 ((rd_T49 l0 x11_1).f1) t522 _ A8.out).mono ?_
        rintro e w16 ⟨rfl,hb⟩
        refine ⟨_,rfl,?_⟩
        have n0_:=aM (blkB_ BK520.out hb)
        have n1_:=aM (below_step (z4_ HB.out GE520.out) hb)
        clear BK520
        clear HB
        have BK520:=n0_
        have HB:=n1_
        clear n0_ n1_
        (try clear hb)
        refine hK.out _ _ (cc2_ BK520.out) (fun hHeld=>?_)
        clear hK K
        refine nm_ 21 ?_
        refine pu_ 7 22 #[I,I,I,I,I,I,I,I,O,O] HT_.out ?_
        refine pu_ 8 23 #[I,I,I,I,I,I,I,I,I,O] HT_.out ?_
        refine pu_ 9 3 #[I,I,I,I,I,I,I,I,I,I] HT_.out ?_
        refine done_ (done_of HT_.out (by kernel_rfl)) ?_
        try go_wp2
        go_roundg k1
        case measure=>have:=HK1.out;omega
        case rel=>exact ⟨(x3_1 ++ (t521 ++ t522)),(wrap64 (x11_1+1)),(z3_),(z3_),H',⟨by have:=HK1.out;omega⟩,⟨z4_ HB.out GE520.out⟩⟩
       ·rw [if_neg c10] at H
        exact nO H
      ·rw [if_neg c9] at H
       exact nO H
     ·rw [if_neg c6] at H
      exact nO H
    ·rw [if_neg c5] at H
     exact nO H
   ·rw [if_neg c4] at H
    have c4b0:decide (x11_1<(l0.length:Int))=false:=dF c4
    clear c4
    obtain rfl:=sI H
    go_wp2
    go_ret
    exact ⟨z5_,z1_ HB.out⟩


/-! ### Y9: function 27 -/
def Y9.f (k:Nat) (l0:List (S49)):Option (ByteArray):=(Y12.f k l0).bind fun t523=>(if t523=true then ((Y26.f k l0).bind fun t524=>(some t524)) else (some (⟨#[]⟩:ByteArray)))
theorem Y9.mono:∀ a0 k,LeO (Y9.f k a0) (Y9.f (k+1) a0):=by
 intro a0 k
 have m0:=@Y12.mono
 have m1:=@Y26.mono
 unfold Y9.f
 exact mO
theorem Y9.calls (k:Nat) (A0:Option Addr) (c0:Nat) (l0:List (S49)) (r:ByteArray) (w:World) (hr0:Kd.C k49 w A0 l0.length l0) (hc0:l0.length≤c0) (h:Y9.f k l0=some r) :
  Calls Try.prog 27 #[.slice A0 l0.length c0] w fun e w'=>e = .returned (.string r)∧Below w.heap.size w w':=by
 have HR0:=aM hr0
 have HC0:=aM hc0
 clear hr0 hc0
 have HB:=aM (Below.refl w.heap.size w)
 have H:((Y12.f k l0).bind fun t523=>(if t523=true then ((Y26.f k l0).bind fun t524=>(some t524)) else (some (⟨#[]⟩:ByteArray))))=some r:=h
 clear h
 replace H:=bS H
 obtain ⟨t523,A20,H⟩:=H
 replace H:(if t523=true then ((Y26.f k l0).bind fun t524=>(some t524)) else (some (⟨#[]⟩:ByteArray)))=some r:=H
 have A2:=aM A20
 clear A20
 by_cases c3:t523=true
 ·subst c3
  have H1:((Y26.f k l0).bind fun t524=>(some t524))=some r:=by rw [if_pos rfl] at H;exact H
  clear H
  have H:=H1
  clear H1
  replace H:=bS H
  obtain ⟨t524,A40,H⟩:=H
  replace H:(some t524)=some r:=H
  have A4:=aM A40
  clear A40
  obtain rfl:=sI H
  go_enter Try.func27,Try.ntmps27
  go_wp2_with (first | ((with_reducible refine gc_ 41 ?_);refine gl_ (some 4) Try.func41 #[.slice A0 l0.length c0] ?_;(with_reducible refine (Y12.calls k _ _ l0 true _ ?s1 ?s2 A2.out).mono ?_);(case s1=>repeat (first | exact HR0.out | (with_reducible refine Kd.C_alloc ?_ _) | (with_reducible refine Kd.C_drewN ?_ _) | (with_reducible refine Kd.C_drew ?_)));(case s2=>exact HC0.out);rintro e w5 ⟨rfl,hb⟩;refine ⟨_,rfl,?_⟩;have n0_:=aM (below_step (z1_ HB.out) hb);clear HB;have HB:=n0_;clear n0_;(try clear hb)) | ((with_reducible refine gc_ 76 ?_);refine gl_ (some 7) Try.func76 #[.slice A0 l0.length c0] ?_;(with_reducible refine (Y26.calls k _ _ l0 t524 _ ?s1 ?s2 A4.out).mono ?_);(case s1=>repeat (first | exact (Kd.C_below HR0.out HB.out) | (with_reducible refine Kd.C_alloc ?_ _) | (with_reducible refine Kd.C_drewN ?_ _) | (with_reducible refine Kd.C_drew ?_)));(case s2=>exact HC0.out);rintro e w6 ⟨rfl,hb⟩;refine ⟨_,rfl,?_⟩;have n0_:=aM (below_step (z1_ HB.out) hb);clear HB;have HB:=n0_;clear n0_;(try clear hb)))
  go_ret
  exact ⟨z5_,z1_ HB.out⟩
 ·replace c3:=Bool.eq_false_iff.mpr c3
  subst c3
  have H1:(some (⟨#[]⟩:ByteArray))=some r:=by rw [if_neg (show ¬ (false=true) by decide)] at H;exact H
  clear H
  have H:=H1
  clear H1
  obtain rfl:=sI H
  go_enter Try.func27,Try.ntmps27
  go_wp2_with (first | ((with_reducible refine gc_ 41 ?_);refine gl_ (some 4) Try.func41 #[.slice A0 l0.length c0] ?_;(with_reducible refine (Y12.calls k _ _ l0 false _ ?s1 ?s2 A2.out).mono ?_);(case s1=>repeat (first | exact HR0.out | (with_reducible refine Kd.C_alloc ?_ _) | (with_reducible refine Kd.C_drewN ?_ _) | (with_reducible refine Kd.C_drew ?_)));(case s2=>exact HC0.out);rintro e w7 ⟨rfl,hb⟩;refine ⟨_,rfl,?_⟩;have n0_:=aM (below_step (z1_ HB.out) hb);clear HB;have HB:=n0_;clear n0_;(try clear hb)))
  go_ret
  exact ⟨z5_,z1_ HB.out⟩


/-! ### Y73: function 118 -/
def Y73.f (a0:Int):Option (Int):=if a0<0 then (some (IntKind.u64.wrap ((IntKind.u64.wrap (2*(IntKind.u64.wrap (wrap64 (-(wrap64 (a0+1)))))))+1))) else (some (IntKind.u64.wrap (2*(IntKind.u64.wrap (a0)))))
theorem Y73.calls (a0:Int) (r:Int) (w:World) (h:Y73.f a0=some r) :
  Calls Try.prog 118 #[.int .i64 a0] w fun e w'=>e = .returned (.int .u64 r)∧Drawn0 w w':=by
 have H:(if a0<0 then (some (IntKind.u64.wrap ((IntKind.u64.wrap (2*(IntKind.u64.wrap (wrap64 (-(wrap64 (a0+1)))))))+1))) else (some (IntKind.u64.wrap (2*(IntKind.u64.wrap (a0))))))=some r:=h
 clear h
 by_cases c2:a0<0
 ·rw [if_pos c2] at H
  have c2b0:decide (a0<0)=true:=dE c2
  clear c2
  obtain rfl:=sI H
  go_enter Try.func118,Try.ntmps118
  go_wp2
  go_ret
  exact ⟨z3_,z14_⟩
 ·rw [if_neg c2] at H
  have c2b0:decide (a0<0)=false:=dF c2
  clear c2
  obtain rfl:=sI H
  go_enter Try.func118,Try.ntmps118
  go_wp2
  go_ret
  exact ⟨z3_,z14_⟩


/-! ### Y37: function 106 -/
def Y37.l0:Nat→Int→List Int→Option (ByteArray)
 | 0,_,_=>none
 | k+1,x3,x4=>if x3≥128 then (if x4.length<140737488355328 then (Y37.l0 k (IntKind.u64.wrap (Int.tdiv x3 128)) (x4 ++ [(IntKind.u64.wrap ((Int.tmod x3 128)+128)) % 256])) else (none)) else (if x4.length<140737488355328 then (some (strOfNums (x4 ++ [(x3) % 256]))) else (none))
def Y37.f (k:Nat) (a0:Int):Option (ByteArray):=(Y73.f a0).bind fun t525=>(Y37.l0 k t525 (([]:List Int)))
theorem Y37.mono_l:∀ k,(∀ y0 y1,LeO (Y37.l0 k y0 y1) (Y37.l0 (k+1) y0 y1))
 | 0=>by intros <;> exact LeO.none _
 | k+1=>by
  have ih0:=Y37.mono_l k
  ·intros
   unfold Y37.l0
   exact mO
theorem Y37.mono:∀ a0 k,LeO (Y37.f k a0) (Y37.f (k+1) a0):=by
 intro a0 k
 have ih0:=Y37.mono_l k
 unfold Y37.f
 exact mO
theorem Y37.calls (k:Nat) (a0:Int) (r:ByteArray) (w:World) (h:Y37.f k a0=some r) :
  Calls Try.prog 106 #[.int .i64 a0] w fun e w'=>e = .returned (.string r)∧Below w.heap.size w w':=by
 have HB:=aM (Below.refl w.heap.size w)
 have H:((Y73.f a0).bind fun t525=>(Y37.l0 k t525 (([]:List Int))))=some r:=h
 clear h
 replace H:=bS H
 obtain ⟨t525,A20,H⟩:=H
 replace H:(Y37.l0 k t525 (([]:List Int)))=some r:=H
 have A2:=aM A20
 clear A20
 obtain ⟨y526,hy526⟩:∃ y_:List Int,y_=(([]:List Int)):=⟨_,rfl⟩
 replace H:(Y37.l0 k t525 y526)=some r:=by first | (rw [hy526];with_reducible exact H) | (have H2_:=(Option.bind_some _ _).symm.trans H;rw [hy526];with_reducible exact H2_) | (have H2_:=(Option.bind_some _ _).symm.trans H;with_reducible exact H2_) | with_reducible exact H | (rw [hy526];exact H) | exact H
 have Ny526:=aM hy526
 clear hy526
 have H':=aM H
 clear H
 go_enter Try.func106,Try.ntmps106
 go_wp2_with (first | ((with_reducible refine gc_ 118 ?_);refine gl_ (some 6) Try.func118 #[.int .i64 a0] ?_;(with_reducible refine (Y73.calls a0 t525 _ A2.out).mono ?_);rintro e w' ⟨rfl,⟨nd,rfl⟩⟩;refine ⟨_,rfl,?_⟩) | ((with_reducible refine gd_ 7 ?_);refine Kd.R_lit (Kd.int .u8) _ 5 ?hg (N:=7) ?hd (xs:=([]:List Int)) (inner:=[]) (ok:=fun _=>True) (okp:=fun _=>True) ?hr ?hp (fun _ hk=>hk) trivial (Below.refl _ _) (Nat.le_refl _) (by simp) ?_;(case hd=>rfl);(case hg=>rfl);(case hr=>first | (go_simp;done) | (go_simp;rfl));(case hp=>exact (Reps.none _ _));intro v527 w3 ho4 hb hg_ hnew_;clear hg_ hnew_;(first | rw [← Ny526.out] at ho4 | (simp only [Int.reduceToNat] at ho4;rw [← Ny526.out] at ho4));have n0_:=aM (Kd.R_lower ho4 (below_size (z1_ HB.out)));have n1_:=aM (below_step (z1_ HB.out) hb);clear HB;have HO528:=n0_;have HB:=n1_;clear n0_ n1_;clear hb ho4))
 go_loopg [3,4] k (fun kq v3 v4 w'=>∃ (x3_1:Int) (x4_1:List Int),v3 = .int .u64 x3_1∧Aside0 (Y37.l0 kq x3_1 x4_1=some r)∧Aside0 (kq≤k)∧Aside0 (Kd.R (Kd.int .u8) 5 w' w.heap.size (fun _=>True) v4 x4_1)∧Aside0 (Below w.heap.size w w'))
 case atStart=>exact ⟨(t525),(y526),(z3_),H',⟨Nat.le_refl _⟩,⟨z0_ HO528.out⟩,⟨z1_ HB.out⟩⟩
 case round =>
  clear H'
  try clear c1
  try clear p2
  obtain ⟨x3_1,x4_1,rfl,HA,HK1,HO_4,HB⟩:=hrel
  cases gk with
  | zero=>exact absurd HA.out (by simp [Y37.l0])
  | succ k1 =>
   have H:=HA.out
   clear HA
   simp only [Y37.l0] at H
   by_cases c5:x3_1≥128
   ·rw [if_pos c5] at H
    have c5b0:decide (128≤x3_1)=true:=dE c5
    clear c5
    by_cases c6:x4_1.length<140737488355328
    ·rw [if_pos c6] at H
     have LMc6:=aM c6
     clear c6
     obtain ⟨y529,hy529⟩:∃ y_:List Int,y_=(x4_1 ++ [(IntKind.u64.wrap ((Int.tmod x3_1 128)+128)) % 256]):=⟨_,rfl⟩
     replace H:(Y37.l0 k1 (IntKind.u64.wrap (Int.tdiv x3_1 128)) y529)=some r:=by first | (rw [hy529];with_reducible exact H) | (have H2_:=(Option.bind_some _ _).symm.trans H;rw [hy529];with_reducible exact H2_) | (have H2_:=(Option.bind_some _ _).symm.trans H;with_reducible exact H2_) | with_reducible exact H | (rw [hy529];exact H) | exact H
     have Ny529:=aM hy529
     clear hy529
     have H':=aM H
     clear H
     go_wp2_with (first | ((with_reducible refine gate_builtin (b:=.append) (xs:=#[.tmp 10,.tmp 15]) rfl ?_);at_builtin;refine Kd.R_append (Kd.int .u8) (w0:=w) w.heap.size rfl (.tmp 10) (.tmp 15) 44 5 (.int .u8 0) 1 rfl Try.underlying44 info5 rfl (by decide) (by omega) u4 x4_1 ((IntKind.u64.wrap ((Int.tmod x3_1 128)+128)) % 256) [.int .u8 ((IntKind.u64.wrap ((Int.tmod x3_1 128)+128)) % 256)] (fun _=>True) (fun _=>False) rfl rfl ?aP (fun _ hk=>hk.elim) ?aF ?aO ?aB ?aS ?aL ?_;(case aP=>exact rfl);(case aB=>exact (z1_ HB.out));(case aF=>exact (fun _ _=>trivial));(case aO=>exact (z0_ HO_4.out));(case aS=>exact (below_size (z1_ HB.out)));(case aL=>have:=LMc6.out;omega);intro v530 w7 ho hb hg hat;rw [← Ny529.out] at ho;have n0_:=aM (hb);have n1_:=aM (ho);clear HB;clear HO_4;have HB:=n0_;have HO531:=n1_;clear n0_ n1_;clear ho hb hg hat))
     go_roundg k1
     case measure=>have:=HK1.out;omega
     case rel=>exact ⟨(IntKind.u64.wrap (Int.tdiv x3_1 128)),(y529),(z3_),H',⟨by have:=HK1.out;omega⟩,⟨z0_ HO531.out⟩,⟨z1_ HB.out⟩⟩
    ·rw [if_neg c6] at H
     exact nO H
   ·rw [if_neg c5] at H
    have c5b0:decide (128≤x3_1)=false:=dF c5
    clear c5
    by_cases c8:x4_1.length<140737488355328
    ·rw [if_pos c8] at H
     have LMc8:=aM c8
     clear c8
     obtain ⟨y532,hy532⟩:∃ y_:List Int,y_=(x4_1 ++ [(x3_1) % 256]):=⟨_,rfl⟩
     replace H:(some (strOfNums y532))=some r:=by first | (rw [hy532];with_reducible exact H) | (have H2_:=(Option.bind_some _ _).symm.trans H;rw [hy532];with_reducible exact H2_) | (have H2_:=(Option.bind_some _ _).symm.trans H;with_reducible exact H2_) | with_reducible exact H | (rw [hy532];exact H) | exact H
     have Ny532:=aM hy532
     clear hy532
     obtain rfl:=sI H
     go_wp2_with (first | ((with_reducible refine gate_builtin (b:=.append) (xs:=#[.tmp 19,.tmp 22]) rfl ?_);at_builtin;refine Kd.R_append (Kd.int .u8) (w0:=w) w.heap.size rfl (.tmp 19) (.tmp 22) 44 5 (.int .u8 0) 1 rfl Try.underlying44 info5 rfl (by decide) (by omega) u4 x4_1 ((x3_1) % 256) [.int .u8 ((x3_1) % 256)] (fun _=>True) (fun _=>False) rfl rfl ?aP (fun _ hk=>hk.elim) ?aF ?aO ?aB ?aS ?aL ?_;(case aP=>exact rfl);(case aB=>exact (z1_ HB.out));(case aF=>exact (fun _ _=>trivial));(case aO=>exact (z0_ HO_4.out));(case aS=>exact (below_size (z1_ HB.out)));(case aL=>have:=LMc8.out;omega);intro v533 w9 ho hb hg hat;rw [← Ny532.out] at ho;have n0_:=aM (hb);have n1_:=aM (ho);clear HB;clear HO_4;have HB:=n0_;have HO534:=n1_;clear n0_ n1_;clear ho hb hg hat;have hcv10:=own_string (P:=Try.prog) Try.underlying44 Try.underlying5 Try.underlying9 (Kd.own_of_R HO534.out)))
     go_ret
     exact ⟨z5_,z1_ HB.out⟩
    ·rw [if_neg c8] at H
     exact nO H


/-! ### Y31: function 86 -/
def Y31.l0:Nat→List (S49)→ByteArray→Int→Option (ByteArray)
 | 0,_,_,_=>none
 | k+1,x0,x3,x4=>if x4<(x0.length:Int) then (if 0≤x4 then ((Y37.f k ((rd_T49 x0 x4).f0)).bind fun t537=>(if x3.size+t537.size≤9223372036854775807 then ((Y37.f k ((rd_T49 x0 x4).f1)).bind fun t539=>(if (x3.size+t537.size)+t539.size≤9223372036854775807 then (Y31.l0 k x0 ((x3 ++ t537) ++ t539) (wrap64 (x4+1))) else (none))) else (none))) else (none)) else (some x3)
def Y31.f (k:Nat) (l0:List (S49)):Option (ByteArray):=(Y37.f k (l0.length:Int)).bind fun t535=>(Y31.l0 k l0 t535 0)
theorem Y31.mono_l:∀ k,(∀ y0 y1 y2,LeO (Y31.l0 k y0 y1 y2) (Y31.l0 (k+1) y0 y1 y2))
 | 0=>by intros <;> exact LeO.none _
 | k+1=>by
  have ih0:=Y31.mono_l k
  have m0:=@Y37.mono
  ·intros
   unfold Y31.l0
   exact mO
theorem Y31.mono:∀ a0 k,LeO (Y31.f k a0) (Y31.f (k+1) a0):=by
 intro a0 k
 have m0:=@Y37.mono
 have ih0:=Y31.mono_l k
 unfold Y31.f
 exact mO
def Y31.T5:Bool × List (List Nat × List Nat):=(true,[([],[]),([],[]),([],[]),([1,2],[1,2]),([3],[3]),([4],[4]),([5],[5]),([0,6],[0,6]),([],[]),([],[]),([8,9],[8,9]),([10],[10]),([11],[11]),([12,6],[12]),([7,13],[7,13]),([14,13,0,1,2,3,4,5,6,7,8,9,10,11,12,13,14],[0,14])])
def Y31.B5:List Nat:=[0,0,0,6,14,30,62,127,0,0,768,1792,3840,8062,16383,32767]
theorem Y31.tab5:rtab .any (opsOf Try.f86 5)=Y31.T5:=by kernel_rfl
theorem Y31.bits5:waitsOk Y31.T5.2 Y31.B5=true:=by kernel_rfl
theorem Y31.calls (k:Nat) (A0:Option Addr) (c0:Nat) (l0:List (S49)) (r:ByteArray) (w:World) (hr0:Kd.C k49 w A0 l0.length l0) (hc0:l0.length≤c0) (h:Y31.f k l0=some r) :
  Calls Try.prog 86 #[.slice A0 l0.length c0] w fun e w'=>e = .returned (.string r)∧Below w.heap.size w w':=by
 have HR0:=aM hr0
 have HC0:=aM hc0
 clear hr0 hc0
 have HB:=aM (Below.refl w.heap.size w)
 have H:((Y37.f k (l0.length:Int)).bind fun t535=>(Y31.l0 k l0 t535 0))=some r:=h
 clear h
 replace H:=bS H
 obtain ⟨t535,A20,H⟩:=H
 replace H:(Y31.l0 k l0 t535 0)=some r:=H
 have A2:=aM A20
 clear A20
 have H':=aM H
 clear H
 go_enter Try.func86,Try.ntmps86
 go_wp2_with (first | ((with_reducible refine gc_ 106 ?_);refine gl_ (some 7) Try.func106 #[.int .i64 (l0.length:Int)] ?_;(with_reducible refine (Y37.calls k (l0.length:Int) t535 _ A2.out).mono ?_);rintro e w3 ⟨rfl,hb⟩;refine ⟨_,rfl,?_⟩;have n0_:=aM (below_step (z1_ HB.out) hb);clear HB;have HB:=n0_;clear n0_;(try clear hb)))
 go_loopg [3,4] k (fun kq v3 v4 w'=>∃ (x3_1:ByteArray) (x4_1:Int),v3 = .string x3_1∧v4 = .int .i64 x4_1∧Aside0 (Y31.l0 kq l0 x3_1 x4_1=some r)∧Aside0 (kq≤k)∧Aside0 (Below w.heap.size w w'))
 case atStart=>exact ⟨(t535),(0),(z3_),(z3_),H',⟨Nat.le_refl _⟩,⟨z1_ HB.out⟩⟩
 case round =>
  clear H'
  try clear c1
  try clear p2
  obtain ⟨x3_1,x4_1,rfl,rfl,HA,HK1,HB⟩:=hrel
  cases gk with
  | zero=>exact absurd HA.out (by simp [Y31.l0])
  | succ k1 =>
   have H:=HA.out
   clear HA
   simp only [Y31.l0] at H
   by_cases c4:x4_1<(l0.length:Int)
   ·rw [if_pos c4] at H
    have c4b0:decide (x4_1<(l0.length:Int))=true:=dE c4
    clear c4
    by_cases c5:0≤x4_1
    ·rw [if_pos c5] at H
     have c5b0:decide (0≤x4_1)=true:=dE c5
     clear c5
     replace H:=bS H
     obtain ⟨t537,A60,H⟩:=H
     replace H:(if x3_1.size+t537.size≤9223372036854775807 then ((Y37.f k1 ((rd_T49 l0 x4_1).f1)).bind fun t539=>(if (x3_1.size+t537.size)+t539.size≤9223372036854775807 then (Y31.l0 k1 l0 ((x3_1 ++ t537) ++ t539) (wrap64 (x4_1+1))) else (none))) else (none))=some r:=H
     have A6:=aM A60
     clear A60
     by_cases c7:x3_1.size+t537.size≤9223372036854775807
     ·rw [if_pos c7] at H
      have c7b0:=eq_true c7
      have c7b1:decide (x3_1.size+t537.size≤9223372036854775807)=true:=dE c7
      try have c7b2:(9223372036854775807<x3_1.size+t537.size)=False:=eq_false (Nat.not_lt.2 c7)
      replace H:=bS H
      obtain ⟨t539,A80,H⟩:=H
      replace H:(if (x3_1.size+t537.size)+t539.size≤9223372036854775807 then (Y31.l0 k1 l0 ((x3_1 ++ t537) ++ t539) (wrap64 (x4_1+1))) else (none))=some r:=H
      have A8:=aM A80
      clear A80
      by_cases c9:(x3_1.size+t537.size)+t539.size≤9223372036854775807
      ·rw [if_pos c9] at H
       have c9b0:=eq_true c9
       have c9b1:decide ((x3_1.size+t537.size)+t539.size≤9223372036854775807)=true:=dE c9
       try have c9b2:(9223372036854775807<(x3_1.size+t537.size)+t539.size)=False:=eq_false (Nat.not_lt.2 c9)
       have H':=aM H
       clear H
       try go_wp2
       have n0_:=aM (below_drew1 HB.out)
       clear HB
       have HB:=n0_
       clear n0_
       have p536:0≤(x4_1:Int):=dT (z7_)
       have q536:x4_1<(l0.length:Int):=dT (z7_)
       obtain ⟨ad536,e536,hx536_0,hx536_1⟩:=at_T49 HR0.out x4_1 p536 q536
       have hw536_1:=hx536_1
       have hw536_0:=hx536_0
       cases e536
       replace hx536_0:=(HB.out.cell (World.block_lt_of_cell? w _ hx536_0)).trans hx536_0
       replace hx536_1:=(HB.out.cell (World.block_lt_of_cell? w _ hx536_1)).trans hx536_1
       replace p536:=eq_true p536
       replace q536:=eq_true q536
       have p538:0≤(x4_1:Int):=dT (z7_)
       have q538:x4_1<(l0.length:Int):=dT (z7_)
       obtain ⟨ad538,e538,hx538_0,hx538_1⟩:=at_T49 HR0.out x4_1 p538 q538
       have hw538_1:=hx538_1
       have hw538_0:=hx538_0
       obtain rfl:ad536=ad538:=(by injection e538)
       replace hx538_0:=(HB.out.cell (World.block_lt_of_cell? w _ hx538_0)).trans hx538_0
       replace hx538_1:=(HB.out.cell (World.block_lt_of_cell? w _ hx538_1)).trans hx538_1
       replace p538:=eq_true p538
       replace q538:=eq_true q538
       refine start_ (n:=16) (S:=fun w'=>w'.cell? (ad536.add ((x4_1).toNat*2))=some (.int .i64 ((rd_T49 l0 x4_1).f0))∧w'.cell? ⟨(ad536.add ((x4_1).toNat*2)).block,(ad536.add ((x4_1).toNat*2)).off+1,none⟩=some (.int .i64 ((rd_T49 l0 x4_1).f1))∧w'.cell? (ad536.add ((x4_1).toNat*2))=some (.int .i64 ((rd_T49 l0 x4_1).f0))∧w'.cell? ⟨(ad536.add ((x4_1).toNat*2)).block,(ad536.add ((x4_1).toNat*2)).off+1,none⟩=some (.int .i64 ((rd_T49 l0 x4_1).f1))) (ds:=[]) #[O,O,O,O,O,O,O,O,O,O,O,O,O,O,O,O] (by kernel_rfl) rfl rfl ⟨((HB.out.cell (World.block_lt_of_cell? w _ hw536_0)).trans hw536_0),((HB.out.cell (World.block_lt_of_cell? w _ hw536_1)).trans hw536_1),((HB.out.cell (World.block_lt_of_cell? w _ hw538_0)).trans hw538_0),((HB.out.cell (World.block_lt_of_cell? w _ hw538_1)).trans hw538_1)⟩ (fun hHeld=>?_);refine with_tabW Y31.tab5 Y31.bits5 (fun HT_ HW_=>?_)
       generalize wr.drew=w10 at HB hx536_0 hx536_1 hx538_0 hx538_1 hHeld ⊢
       refine pu_ 0 14 #[I,O,O,O,O,O,O,O,O,O,O,O,O,O,O,O] HT_.out ?_
       refine pu_ 1 15 #[I,I,O,O,O,O,O,O,O,O,O,O,O,O,O,O] HT_.out ?_
       refine pu_ 2 16 #[I,I,I,O,O,O,O,O,O,O,O,O,O,O,O,O] HT_.out ?_
       refine pu_ 3 17 #[I,I,I,I,O,O,O,O,O,O,O,O,O,O,O,O] HT_.out ?_
       refine pu_ 4 18 #[I,I,I,I,I,O,O,O,O,O,O,O,O,O,O,O] HT_.out ?_
       refine pu_ 8 22 #[I,I,I,I,I,O,O,O,I,O,O,O,O,O,O,O] HT_.out ?_
       refine pu_ 9 23 #[I,I,I,I,I,O,O,O,I,I,O,O,O,O,O,O] HT_.out ?_
       refine pu_ 10 24 #[I,I,I,I,I,O,O,O,I,I,I,O,O,O,O,O] HT_.out ?_
       refine pu_ 11 25 #[I,I,I,I,I,O,O,O,I,I,I,I,O,O,O,O] HT_.out ?_
       refine tk4_ 5 19 #[I,I,I,I,I,I,O,O,I,I,I,I,O,O,O,O] HT_.out HW_.out hHeld ?_
       refine tk4_ 12 26 #[I,I,I,I,I,I,O,O,I,I,I,I,I,O,O,O] HT_.out HW_.out hHeld ?_
       refine o1_ 6 20 #[I,I,I,I,I,I,I,O,I,I,I,I,I,O,O,O] HT_.out (fun K hK=>?_)
       refine gs_ Try.func106 #[.int .i64 ((rd_T49 l0 x4_1).f0)] ?_
       with_reducible refine (Y37.calls k1 ((rd_T49 l0 x4_1).f0) t537 _ A6.out).mono ?_
       rintro e w11 ⟨rfl,hb⟩
       refine ⟨_,rfl,?_⟩
       have n0_:=aM (below_step (z1_ HB.out) hb)
       clear HB
       have HB:=n0_
       clear n0_
       (try clear hb)
       refine hK.out _ _ ⟨((HB.out.cell (World.block_lt_of_cell? w _ hw536_0)).trans hw536_0),((HB.out.cell (World.block_lt_of_cell? w _ hw536_1)).trans hw536_1),((HB.out.cell (World.block_lt_of_cell? w _ hw538_0)).trans hw538_0),((HB.out.cell (World.block_lt_of_cell? w _ hw538_1)).trans hw538_1)⟩ (fun hHeld=>?_)
       clear hK K
       refine nm_ 20 ?_
       refine pu_ 7 21 #[I,I,I,I,I,I,I,I,I,I,I,I,I,O,O,O] HT_.out ?_
       refine o1_ 13 27 #[I,I,I,I,I,I,I,I,I,I,I,I,I,I,O,O] HT_.out (fun K hK=>?_)
       refine gs_ Try.func106 #[.int .i64 ((rd_T49 l0 x4_1).f1)] ?_
       with_reducible refine (Y37.calls k1 ((rd_T49 l0 x4_1).f1) t539 _ A8.out).mono ?_
       rintro e w12 ⟨rfl,hb⟩
       refine ⟨_,rfl,?_⟩
       have n0_:=aM (below_step (z1_ HB.out) hb)
       clear HB
       have HB:=n0_
       clear n0_
       (try clear hb)
       refine hK.out _ _ ⟨((HB.out.cell (World.block_lt_of_cell? w _ hw536_0)).trans hw536_0),((HB.out.cell (World.block_lt_of_cell? w _ hw536_1)).trans hw536_1),((HB.out.cell (World.block_lt_of_cell? w _ hw538_0)).trans hw538_0),((HB.out.cell (World.block_lt_of_cell? w _ hw538_1)).trans hw538_1)⟩ (fun hHeld=>?_)
       clear hK K
       refine nm_ 27 ?_
       refine pu_ 14 28 #[I,I,I,I,I,I,I,I,I,I,I,I,I,I,I,O] HT_.out ?_
       refine pu_ 15 3 #[I,I,I,I,I,I,I,I,I,I,I,I,I,I,I,I] HT_.out ?_
       refine done_ (done_of HT_.out (by kernel_rfl)) ?_
       try go_wp2
       go_roundg k1
       case measure=>have:=HK1.out;omega
       case rel=>exact ⟨((x3_1 ++ t537) ++ t539),(wrap64 (x4_1+1)),(z3_),(z3_),H',⟨by have:=HK1.out;omega⟩,⟨z1_ HB.out⟩⟩
      ·rw [if_neg c9] at H
       exact nO H
     ·rw [if_neg c7] at H
      exact nO H
    ·rw [if_neg c5] at H
     exact nO H
   ·rw [if_neg c4] at H
    have c4b0:decide (x4_1<(l0.length:Int))=false:=dF c4
    clear c4
    obtain rfl:=sI H
    go_wp2
    go_ret
    exact ⟨z5_,z1_ HB.out⟩


/-! ### Y22: function 39 -/
def Y22.f (k:Nat) (l0:List (S49)):Option (ByteArray):=(Y1.f k l0).bind fun t540=>(if t540=true then ((Y31.f k l0).bind fun t541=>(some t541)) else (some (⟨#[]⟩:ByteArray)))
theorem Y22.mono:∀ a0 k,LeO (Y22.f k a0) (Y22.f (k+1) a0):=by
 intro a0 k
 have m0:=@Y1.mono
 have m1:=@Y31.mono
 unfold Y22.f
 exact mO
theorem Y22.calls (k:Nat) (A0:Option Addr) (c0:Nat) (l0:List (S49)) (r:ByteArray) (w:World) (hr0:Kd.C k49 w A0 l0.length l0) (hc0:l0.length≤c0) (h:Y22.f k l0=some r) :
  Calls Try.prog 39 #[.slice A0 l0.length c0] w fun e w'=>e = .returned (.string r)∧Below w.heap.size w w':=by
 have HR0:=aM hr0
 have HC0:=aM hc0
 clear hr0 hc0
 have HB:=aM (Below.refl w.heap.size w)
 have H:((Y1.f k l0).bind fun t540=>(if t540=true then ((Y31.f k l0).bind fun t541=>(some t541)) else (some (⟨#[]⟩:ByteArray))))=some r:=h
 clear h
 replace H:=bS H
 obtain ⟨t540,A20,H⟩:=H
 replace H:(if t540=true then ((Y31.f k l0).bind fun t541=>(some t541)) else (some (⟨#[]⟩:ByteArray)))=some r:=H
 have A2:=aM A20
 clear A20
 by_cases c3:t540=true
 ·subst c3
  have H1:((Y31.f k l0).bind fun t541=>(some t541))=some r:=by rw [if_pos rfl] at H;exact H
  clear H
  have H:=H1
  clear H1
  replace H:=bS H
  obtain ⟨t541,A40,H⟩:=H
  replace H:(some t541)=some r:=H
  have A4:=aM A40
  clear A40
  obtain rfl:=sI H
  go_enter Try.func39,Try.ntmps39
  go_wp2_with (first | ((with_reducible refine gc_ 42 ?_);refine gl_ (some 4) Try.func42 #[.slice A0 l0.length c0] ?_;(with_reducible refine (Y1.calls k _ _ l0 true _ ?s1 ?s2 A2.out).mono ?_);(case s1=>repeat (first | exact HR0.out | (with_reducible refine Kd.C_alloc ?_ _) | (with_reducible refine Kd.C_drewN ?_ _) | (with_reducible refine Kd.C_drew ?_)));(case s2=>exact HC0.out);rintro e w5 ⟨rfl,hb⟩;refine ⟨_,rfl,?_⟩;have n0_:=aM (below_step (z1_ HB.out) hb);clear HB;have HB:=n0_;clear n0_;(try clear hb)) | ((with_reducible refine gc_ 86 ?_);refine gl_ (some 7) Try.func86 #[.slice A0 l0.length c0] ?_;(with_reducible refine (Y31.calls k _ _ l0 t541 _ ?s1 ?s2 A4.out).mono ?_);(case s1=>repeat (first | exact (Kd.C_below HR0.out HB.out) | (with_reducible refine Kd.C_alloc ?_ _) | (with_reducible refine Kd.C_drewN ?_ _) | (with_reducible refine Kd.C_drew ?_)));(case s2=>exact HC0.out);rintro e w6 ⟨rfl,hb⟩;refine ⟨_,rfl,?_⟩;have n0_:=aM (below_step (z1_ HB.out) hb);clear HB;have HB:=n0_;clear n0_;(try clear hb)))
  go_ret
  exact ⟨z5_,z1_ HB.out⟩
 ·replace c3:=Bool.eq_false_iff.mpr c3
  subst c3
  have H1:(some (⟨#[]⟩:ByteArray))=some r:=by rw [if_neg (show ¬ (false=true) by decide)] at H;exact H
  clear H
  have H:=H1
  clear H1
  obtain rfl:=sI H
  go_enter Try.func39,Try.ntmps39
  go_wp2_with (first | ((with_reducible refine gc_ 42 ?_);refine gl_ (some 4) Try.func42 #[.slice A0 l0.length c0] ?_;(with_reducible refine (Y1.calls k _ _ l0 false _ ?s1 ?s2 A2.out).mono ?_);(case s1=>repeat (first | exact HR0.out | (with_reducible refine Kd.C_alloc ?_ _) | (with_reducible refine Kd.C_drewN ?_ _) | (with_reducible refine Kd.C_drew ?_)));(case s2=>exact HC0.out);rintro e w7 ⟨rfl,hb⟩;refine ⟨_,rfl,?_⟩;have n0_:=aM (below_step (z1_ HB.out) hb);clear HB;have HB:=n0_;clear n0_;(try clear hb)))
  go_ret
  exact ⟨z5_,z1_ HB.out⟩


/-! ### Y23: function 77 -/
def Y23.j0:Nat→ByteArray→Int→ByteArray→Bool→List Int→Int→Int→Int→Option (ByteArray × Int × Int × Int)
 | 0,_,_,_,_,_,_,_,_=>none
 | k+1,x1,x5,x6,x24,x1000,x1001,x1002,x1003=>if x24=true then (if 0≤x5 then (if x5≤(x1.size:Int) then (if (x1.extract 0 (x5:Int).toNat).size+x6.size≤9223372036854775807 then (if ((x1.extract 0 (x5:Int).toNat).size+x6.size)+(x1.extract (x5:Int).toNat x1.size).size≤9223372036854775807 then (some (((x1.extract 0 (x5:Int).toNat) ++ x6) ++ (x1.extract (x5:Int).toNat x1.size),x1001,x1002,x1003)) else (none)) else (none)) else (none)) else (none)) else ((Y38.f x1000 x1001 x1002 x1003 2).bind fun bt557=>(if bt557.1=true then (if 0≤x5 then (if x5≤(x1.size:Int) then (if 0≤(wrap64 (x5+1)) then (if (wrap64 (x5+1))≤(x1.size:Int) then (if (x1.extract 0 (x5:Int).toNat).size+(x1.extract ((wrap64 (x5+1)):Int).toNat x1.size).size≤9223372036854775807 then (some ((x1.extract 0 (x5:Int).toNat) ++ (x1.extract ((wrap64 (x5+1)):Int).toNat x1.size),bt557.2.1,bt557.2.2.1,bt557.2.2.2)) else (none)) else (none)) else (none)) else (none)) else (none)) else (if 0≤x5 then (if x5≤(x1.size:Int) then (if (x1.extract 0 (x5:Int).toNat).size+x6.size≤9223372036854775807 then (if 0≤(wrap64 (x5+1)) then (if (wrap64 (x5+1))≤(x1.size:Int) then (if ((x1.extract 0 (x5:Int).toNat).size+x6.size)+(x1.extract ((wrap64 (x5+1)):Int).toNat x1.size).size≤9223372036854775807 then (some (((x1.extract 0 (x5:Int).toNat) ++ x6) ++ (x1.extract ((wrap64 (x5+1)):Int).toNat x1.size),bt557.2.1,bt557.2.2.1,bt557.2.2.2)) else (none)) else (none)) else (none)) else (none)) else (none)) else (none))))
def Y23.f (k:Nat) (s0_0:List Int) (s0_1:Int) (s0_2:Int) (s0_3:Int) (a1:ByteArray):Option (ByteArray × Int × Int × Int):=(Y2.f s0_0 s0_1 s0_2 s0_3 (wrap64 ((a1.size:Int)+1))).bind fun bt542=>((Y2.f s0_0 bt542.2.1 bt542.2.2.1 bt542.2.2.2 17).bind fun bt546=>(if 0≤bt546.1 then (if bt546.1<17 then ((some (([bt (⟨#[32,10,48,97,45,110,44,58,93,255,40,120,126,49,128,225,59]⟩:ByteArray) bt546.1]:List Int):List Int)).bind fun y550=>(if bt542.1=(a1.size:Int) then (Y23.j0 k a1 bt542.1 (strOfNums y550) true s0_0 bt546.2.1 bt546.2.2.1 bt546.2.2.2) else ((Y38.f s0_0 bt546.2.1 bt546.2.2.1 bt546.2.2.2 3).bind fun bt553=>(Y23.j0 k a1 bt542.1 (strOfNums y550) bt553.1 s0_0 bt553.2.1 bt553.2.2.1 bt553.2.2.2)))) else (none)) else (none)))
theorem Y23.mono_l:∀ k,(∀ y0 y1 y2 y3 y4 y5 y6 y7,LeO (Y23.j0 k y0 y1 y2 y3 y4 y5 y6 y7) (Y23.j0 (k+1) y0 y1 y2 y3 y4 y5 y6 y7))
 | 0=>by intros <;> exact LeO.none _
 | k+1=>by
  have ih0:=Y23.mono_l k
  ·intros
   unfold Y23.j0
   exact mO
theorem Y23.mono:∀ a0 a1 a2 a3 a4 k,LeO (Y23.f k a0 a1 a2 a3 a4) (Y23.f (k+1) a0 a1 a2 a3 a4):=by
 intro a0 a1 a2 a3 a4 k
 have ih0:=Y23.mono_l k
 unfold Y23.f
 exact mO
theorem Y23.calls (k:Nat) (g:Nat) (s0_0:List Int) (s0_1:Int) (s0_2:Int) (s0_3:Int) (a1:ByteArray) (r1:ByteArray) (r2:Int) (r3:Int) (r4:Int) (w0 w:World) (hI:IsS118 w0 w g s0_0 s0_1 s0_2 s0_3) (hB:Below w0.heap.size w0 w) (h:Y23.f k s0_0 s0_1 s0_2 s0_3 a1=some (r1,r2,r3,r4)) :
  Calls Try.prog 77 #[.pointer (some ⟨g,0,none⟩),.string a1] w fun e w'=>e = .returned (.string r1)∧IsS118 w0 w' g s0_0 r2 r3 r4∧Below w0.heap.size w0 w'∧KeepBut w w' g none:=by
 have HI0:=aM hI
 have HK:=aM (KeepBut.refl w g none)
 have HL:=aM hB.size
 clear hI
 have HW0:=aM hB.size
 have HB:=aM hB
 clear hB
 have H:((Y2.f s0_0 s0_1 s0_2 s0_3 (wrap64 ((a1.size:Int)+1))).bind fun bt542=>((Y2.f s0_0 bt542.2.1 bt542.2.2.1 bt542.2.2.2 17).bind fun bt546=>(if 0≤bt546.1 then (if bt546.1<17 then ((some (([bt (⟨#[32,10,48,97,45,110,44,58,93,255,40,120,126,49,128,225,59]⟩:ByteArray) bt546.1]:List Int):List Int)).bind fun y550=>(if bt542.1=(a1.size:Int) then (Y23.j0 k a1 bt542.1 (strOfNums y550) true s0_0 bt546.2.1 bt546.2.2.1 bt546.2.2.2) else ((Y38.f s0_0 bt546.2.1 bt546.2.2.1 bt546.2.2.2 3).bind fun bt553=>(Y23.j0 k a1 bt542.1 (strOfNums y550) bt553.1 s0_0 bt553.2.1 bt553.2.2.1 bt553.2.2.2)))) else (none)) else (none))))=some (r1,r2,r3,r4):=h
 clear h
 replace H:=bS H
 obtain ⟨⟨t542,t543,t544,t545⟩,A30,H⟩:=H
 replace H:((Y2.f s0_0 t543 t544 t545 17).bind fun bt546=>(if 0≤bt546.1 then (if bt546.1<17 then ((some (([bt (⟨#[32,10,48,97,45,110,44,58,93,255,40,120,126,49,128,225,59]⟩:ByteArray) bt546.1]:List Int):List Int)).bind fun y550=>(if t542=(a1.size:Int) then (Y23.j0 k a1 t542 (strOfNums y550) true s0_0 bt546.2.1 bt546.2.2.1 bt546.2.2.2) else ((Y38.f s0_0 bt546.2.1 bt546.2.2.1 bt546.2.2.2 3).bind fun bt553=>(Y23.j0 k a1 t542 (strOfNums y550) bt553.1 s0_0 bt553.2.1 bt553.2.2.1 bt553.2.2.2)))) else (none)) else (none)))=some (r1,r2,r3,r4):=H
 have A3:=aM A30
 clear A30
 replace H:=bS H
 obtain ⟨⟨t546,t547,t548,t549⟩,A40,H⟩:=H
 replace H:(if 0≤t546 then (if t546<17 then ((some (([bt (⟨#[32,10,48,97,45,110,44,58,93,255,40,120,126,49,128,225,59]⟩:ByteArray) t546]:List Int):List Int)).bind fun y550=>(if t542=(a1.size:Int) then (Y23.j0 k a1 t542 (strOfNums y550) true s0_0 t547 t548 t549) else ((Y38.f s0_0 t547 t548 t549 3).bind fun bt553=>(Y23.j0 k a1 t542 (strOfNums y550) bt553.1 s0_0 bt553.2.1 bt553.2.2.1 bt553.2.2.2)))) else (none)) else (none))=some (r1,r2,r3,r4):=H
 have A4:=aM A40
 clear A40
 by_cases c5:0≤t546
 ·rw [if_pos c5] at H
  have c5b0:decide (0≤t546)=true:=dE c5
  clear c5
  by_cases c6:t546<17
  ·rw [if_pos c6] at H
   have c6b0:decide (t546<17)=true:=dE c6
   clear c6
   obtain ⟨y550,hy550⟩:∃ y_:List Int,y_=(([bt (⟨#[32,10,48,97,45,110,44,58,93,255,40,120,126,49,128,225,59]⟩:ByteArray) t546]:List Int)):=⟨_,rfl⟩
   replace H:(if t542=(a1.size:Int) then (Y23.j0 k a1 t542 (strOfNums y550) true s0_0 t547 t548 t549) else ((Y38.f s0_0 t547 t548 t549 3).bind fun bt553=>(Y23.j0 k a1 t542 (strOfNums y550) bt553.1 s0_0 bt553.2.1 bt553.2.2.1 bt553.2.2.2)))=some (r1,r2,r3,r4):=by first | (rw [hy550];with_reducible exact H) | (have H2_:=(Option.bind_some _ _).symm.trans H;rw [hy550];with_reducible exact H2_) | (have H2_:=(Option.bind_some _ _).symm.trans H;with_reducible exact H2_) | with_reducible exact H | (rw [hy550];exact H) | exact H
   have Ny550:=aM hy550
   clear hy550
   have HC8:=aM H
   clear H
   go_enter Try.func77,Try.ntmps77
   go_upto_region 3 with (first | (go_at_call 74;(with_reducible refine (Y2.calls g s0_0 s0_1 s0_2 s0_3 (wrap64 ((a1.size:Int)+1)) t542 t543 t544 t545 w0 _ ?s1 ?s2 A3.out).mono ?_);(case s1=>repeat (first | (with_reducible first | exact HI0.out | apply IsS118.alloc | apply IsS118.drewN | apply IsS118.drew | apply IsS118.set_1 | apply IsS118.set_2 | apply IsS118.set_3) | exact HI0.out));(case s2=>repeat (first | (with_reducible first | exact HB.out | apply below_alloc | apply pw_below_drewN | apply below_drew1 | refine below_set ?_ (IsS118.ge HI0.out)) | exact HB.out));rintro e w9 ⟨rfl,hi,hb,hk⟩;have n0_:=aM (KeepBut.trans (z6_ HK.out) hk (.inl rfl));have n1_:=aM (hb);have n2_:=aM (hi);clear HK;clear HB;clear HI0;have HK:=n0_;have HB:=n1_;have HI0:=n2_;clear n0_ n1_ n2_;(try clear hb);(try clear hk);(try clear hi)) | (go_at_call 74;(with_reducible refine (Y2.calls g s0_0 t543 t544 t545 17 t546 t547 t548 t549 w0 _ ?s1 ?s2 A4.out).mono ?_);(case s1=>repeat (first | (with_reducible first | exact HI0.out | apply IsS118.alloc | apply IsS118.drewN | apply IsS118.drew | apply IsS118.set_1 | apply IsS118.set_2 | apply IsS118.set_3) | exact HI0.out));(case s2=>repeat (first | (with_reducible first | exact HB.out | apply below_alloc | apply pw_below_drewN | apply below_drew1 | refine below_set ?_ (IsS118.ge HI0.out)) | exact HB.out));rintro e w10 ⟨rfl,hi,hb,hk⟩;have n0_:=aM (KeepBut.trans (z6_ HK.out) hk (.inl rfl));have n1_:=aM (hb);have n2_:=aM (hi);clear HK;clear HB;clear HI0;have HK:=n0_;have HB:=n1_;have HI0:=n2_;clear n0_ n1_ n2_;(try clear hb);(try clear hk);(try clear hi);have p7:0≤(t546:Int):=dT (z7_);have q7:t546<(17:Int):=dT (z7_);have hx7:=bt_at (⟨#[32,10,48,97,45,110,44,58,93,255,40,120,126,49,128,225,59]⟩:ByteArray) t546;replace p7:=eq_true p7;replace q7:=eq_true q7) | ((with_reducible refine gd_ 15 ?_);refine Kd.R_lit (Kd.int .u8) _ 5 ?hg (N:=15) ?hd (xs:=([bt (⟨#[32,10,48,97,45,110,44,58,93,255,40,120,126,49,128,225,59]⟩:ByteArray) t546]:List Int)) (inner:=[.int .u8 (bt (⟨#[32,10,48,97,45,110,44,58,93,255,40,120,126,49,128,225,59]⟩:ByteArray) t546)]) (ok:=fun _=>True) (okp:=fun _=>True) ?hr ?hp (fun _ hk=>hk) trivial (Below.refl _ _) (Nat.le_refl _) (by simp) ?_;(case hd=>rfl);(case hg=>rfl);(case hr=>first | (go_simp;done) | (go_simp;rfl));(case hp=>exact (Reps.one (show Kd.M (Kd.int .u8) _ _ _ (bt (⟨#[32,10,48,97,45,110,44,58,93,255,40,120,126,49,128,225,59]⟩:ByteArray) t546) [.int .u8 (bt (⟨#[32,10,48,97,45,110,44,58,93,255,40,120,126,49,128,225,59]⟩:ByteArray) t546)] from rfl) (Reps.none _ _)));intro v551 w11 ho12 hb hg_ hnew_;clear hg_ hnew_;(first | rw [← Ny550.out] at ho12 | (simp only [Int.reduceToNat] at ho12;rw [← Ny550.out] at ho12));have n0_:=aM (Kd.R_lower ho12 (keep_size (w:=w) (g:=g) (row:=none) (z6_ HK.out)));have n1_:=aM (IsS118.below (z12_ HI0.out) hb);have n2_:=aM (KeepBut.trans (z6_ HK.out) (KeepBut.of_below hb g none) (.inl rfl));have n3_:=aM (below_step (z10_ HB.out HI0.out) hb);clear HI0;clear HK;clear HB;have HO552:=n0_;have HI0:=n1_;have HK:=n2_;have HB:=n3_;clear n0_ n1_ n2_ n3_;clear hb ho12;have hcv13:=own_string (P:=Try.prog) Try.underlying44 Try.underlying5 Try.underlying9 (Kd.own_of_R HO552.out)))
   repeat (go_quiet (first | (go_at_call 74;(with_reducible refine (Y2.calls g s0_0 s0_1 s0_2 s0_3 (wrap64 ((a1.size:Int)+1)) t542 t543 t544 t545 w0 _ ?s1 ?s2 A3.out).mono ?_);(case s1=>repeat (first | (with_reducible first | exact HI0.out | apply IsS118.alloc | apply IsS118.drewN | apply IsS118.drew | apply IsS118.set_1 | apply IsS118.set_2 | apply IsS118.set_3) | exact HI0.out));(case s2=>repeat (first | (with_reducible first | exact HB.out | apply below_alloc | apply pw_below_drewN | apply below_drew1 | refine below_set ?_ (IsS118.ge HI0.out)) | exact HB.out));rintro e w9 ⟨rfl,hi,hb,hk⟩;have n0_:=aM (KeepBut.trans (z6_ HK.out) hk (.inl rfl));have n1_:=aM (hb);have n2_:=aM (hi);clear HK;clear HB;clear HI0;have HK:=n0_;have HB:=n1_;have HI0:=n2_;clear n0_ n1_ n2_;(try clear hb);(try clear hk);(try clear hi)) | (go_at_call 74;(with_reducible refine (Y2.calls g s0_0 t543 t544 t545 17 t546 t547 t548 t549 w0 _ ?s1 ?s2 A4.out).mono ?_);(case s1=>repeat (first | (with_reducible first | exact HI0.out | apply IsS118.alloc | apply IsS118.drewN | apply IsS118.drew | apply IsS118.set_1 | apply IsS118.set_2 | apply IsS118.set_3) | exact HI0.out));(case s2=>repeat (first | (with_reducible first | exact HB.out | apply below_alloc | apply pw_below_drewN | apply below_drew1 | refine below_set ?_ (IsS118.ge HI0.out)) | exact HB.out));rintro e w10 ⟨rfl,hi,hb,hk⟩;have n0_:=aM (KeepBut.trans (z6_ HK.out) hk (.inl rfl));have n1_:=aM (hb);have n2_:=aM (hi);clear HK;clear HB;clear HI0;have HK:=n0_;have HB:=n1_;have HI0:=n2_;clear n0_ n1_ n2_;(try clear hb);(try clear hk);(try clear hi);have p7:0≤(t546:Int):=dT (z7_);have q7:t546<(17:Int):=dT (z7_);have hx7:=bt_at (⟨#[32,10,48,97,45,110,44,58,93,255,40,120,126,49,128,225,59]⟩:ByteArray) t546;replace p7:=eq_true p7;replace q7:=eq_true q7) | ((with_reducible refine gd_ 15 ?_);refine Kd.R_lit (Kd.int .u8) _ 5 ?hg (N:=15) ?hd (xs:=([bt (⟨#[32,10,48,97,45,110,44,58,93,255,40,120,126,49,128,225,59]⟩:ByteArray) t546]:List Int)) (inner:=[.int .u8 (bt (⟨#[32,10,48,97,45,110,44,58,93,255,40,120,126,49,128,225,59]⟩:ByteArray) t546)]) (ok:=fun _=>True) (okp:=fun _=>True) ?hr ?hp (fun _ hk=>hk) trivial (Below.refl _ _) (Nat.le_refl _) (by simp) ?_;(case hd=>rfl);(case hg=>rfl);(case hr=>first | (go_simp;done) | (go_simp;rfl));(case hp=>exact (Reps.one (show Kd.M (Kd.int .u8) _ _ _ (bt (⟨#[32,10,48,97,45,110,44,58,93,255,40,120,126,49,128,225,59]⟩:ByteArray) t546) [.int .u8 (bt (⟨#[32,10,48,97,45,110,44,58,93,255,40,120,126,49,128,225,59]⟩:ByteArray) t546)] from rfl) (Reps.none _ _)));intro v551 w11 ho12 hb hg_ hnew_;clear hg_ hnew_;(first | rw [← Ny550.out] at ho12 | (simp only [Int.reduceToNat] at ho12;rw [← Ny550.out] at ho12));have n0_:=aM (Kd.R_lower ho12 (keep_size (w:=w) (g:=g) (row:=none) (z6_ HK.out)));have n1_:=aM (IsS118.below (z12_ HI0.out) hb);have n2_:=aM (KeepBut.trans (z6_ HK.out) (KeepBut.of_below hb g none) (.inl rfl));have n3_:=aM (below_step (z10_ HB.out HI0.out) hb);clear HI0;clear HK;clear HB;have HO552:=n0_;have HI0:=n1_;have HK:=n2_;have HB:=n3_;clear n0_ n1_ n2_ n3_;clear hb ho12;have hcv13:=own_string (P:=Try.prog) Try.underlying44 Try.underlying5 Try.underlying9 (Kd.own_of_R HO552.out)));go_upto_region 3 with (first | (go_at_call 74;(with_reducible refine (Y2.calls g s0_0 s0_1 s0_2 s0_3 (wrap64 ((a1.size:Int)+1)) t542 t543 t544 t545 w0 _ ?s1 ?s2 A3.out).mono ?_);(case s1=>repeat (first | (with_reducible first | exact HI0.out | apply IsS118.alloc | apply IsS118.drewN | apply IsS118.drew | apply IsS118.set_1 | apply IsS118.set_2 | apply IsS118.set_3) | exact HI0.out));(case s2=>repeat (first | (with_reducible first | exact HB.out | apply below_alloc | apply pw_below_drewN | apply below_drew1 | refine below_set ?_ (IsS118.ge HI0.out)) | exact HB.out));rintro e w9 ⟨rfl,hi,hb,hk⟩;have n0_:=aM (KeepBut.trans (z6_ HK.out) hk (.inl rfl));have n1_:=aM (hb);have n2_:=aM (hi);clear HK;clear HB;clear HI0;have HK:=n0_;have HB:=n1_;have HI0:=n2_;clear n0_ n1_ n2_;(try clear hb);(try clear hk);(try clear hi)) | (go_at_call 74;(with_reducible refine (Y2.calls g s0_0 t543 t544 t545 17 t546 t547 t548 t549 w0 _ ?s1 ?s2 A4.out).mono ?_);(case s1=>repeat (first | (with_reducible first | exact HI0.out | apply IsS118.alloc | apply IsS118.drewN | apply IsS118.drew | apply IsS118.set_1 | apply IsS118.set_2 | apply IsS118.set_3) | exact HI0.out));(case s2=>repeat (first | (with_reducible first | exact HB.out | apply below_alloc | apply pw_below_drewN | apply below_drew1 | refine below_set ?_ (IsS118.ge HI0.out)) | exact HB.out));rintro e w10 ⟨rfl,hi,hb,hk⟩;have n0_:=aM (KeepBut.trans (z6_ HK.out) hk (.inl rfl));have n1_:=aM (hb);have n2_:=aM (hi);clear HK;clear HB;clear HI0;have HK:=n0_;have HB:=n1_;have HI0:=n2_;clear n0_ n1_ n2_;(try clear hb);(try clear hk);(try clear hi);have p7:0≤(t546:Int):=dT (z7_);have q7:t546<(17:Int):=dT (z7_);have hx7:=bt_at (⟨#[32,10,48,97,45,110,44,58,93,255,40,120,126,49,128,225,59]⟩:ByteArray) t546;replace p7:=eq_true p7;replace q7:=eq_true q7) | ((with_reducible refine gd_ 15 ?_);refine Kd.R_lit (Kd.int .u8) _ 5 ?hg (N:=15) ?hd (xs:=([bt (⟨#[32,10,48,97,45,110,44,58,93,255,40,120,126,49,128,225,59]⟩:ByteArray) t546]:List Int)) (inner:=[.int .u8 (bt (⟨#[32,10,48,97,45,110,44,58,93,255,40,120,126,49,128,225,59]⟩:ByteArray) t546)]) (ok:=fun _=>True) (okp:=fun _=>True) ?hr ?hp (fun _ hk=>hk) trivial (Below.refl _ _) (Nat.le_refl _) (by simp) ?_;(case hd=>rfl);(case hg=>rfl);(case hr=>first | (go_simp;done) | (go_simp;rfl));(case hp=>exact (Reps.one (show Kd.M (Kd.int .u8) _ _ _ (bt (⟨#[32,10,48,97,45,110,44,58,93,255,40,120,126,49,128,225,59]⟩:ByteArray) t546) [.int .u8 (bt (⟨#[32,10,48,97,45,110,44,58,93,255,40,120,126,49,128,225,59]⟩:ByteArray) t546)] from rfl) (Reps.none _ _)));intro v551 w11 ho12 hb hg_ hnew_;clear hg_ hnew_;(first | rw [← Ny550.out] at ho12 | (simp only [Int.reduceToNat] at ho12;rw [← Ny550.out] at ho12));have n0_:=aM (Kd.R_lower ho12 (keep_size (w:=w) (g:=g) (row:=none) (z6_ HK.out)));have n1_:=aM (IsS118.below (z12_ HI0.out) hb);have n2_:=aM (KeepBut.trans (z6_ HK.out) (KeepBut.of_below hb g none) (.inl rfl));have n3_:=aM (below_step (z10_ HB.out HI0.out) hb);clear HI0;clear HK;clear HB;have HO552:=n0_;have HI0:=n1_;have HK:=n2_;have HB:=n3_;clear n0_ n1_ n2_ n3_;clear hb ho12;have hcv13:=own_string (P:=Try.prog) Try.underlying44 Try.underlying5 Try.underlying9 (Kd.own_of_R HO552.out))))
   (try simp only [Act.put,sa_,s0_,ss_])
   go_cut [24] (fun v24 wc=>∃ (kq:Nat) (x24_7:Bool) (x1001_7:Int) (x1002_7:Int) (x1003_7:Int),v24 = .bool x24_7∧Aside0 (Y23.j0 kq a1 t542 (strOfNums y550) x24_7 s0_0 x1001_7 x1002_7 x1003_7=some (r1,r2,r3,r4))∧Aside0 (kq≤k)∧Aside0 (IsS118 w0 wc g s0_0 x1001_7 x1002_7 x1003_7)∧Aside0 (KeepBut w wc g none)∧Aside0 (Below w0.heap.size w0 wc))
   case first =>
    have H:=HC8.out
    clear HC8
    by_cases c14:t542=(a1.size:Int)
    ·rw [if_pos c14] at H
     have c14b0:(t542 == (a1.size:Int))=true:=beq_iff_eq.mpr c14
     have c14b1:(t542 != (a1.size:Int))=false:=bne_eq_false_iff_eq.mpr c14
     clear c14
     (first | rw [c14b0] | (simp only [i64_w,i32_w];rw [c14b0]) | skip)
     have H':=aM H
     clear H
     go_wp2
     repeat (go_quiet (fail);try go_wp2)
     go_meet
     case rel=>exact ⟨_,(true),(t547),(t548),(t549),(z3_),H',⟨by first | omega | exact Nat.le_refl _⟩,⟨z12_ HI0.out⟩,⟨z6_ HK.out⟩,⟨z10_ HB.out HI0.out⟩⟩
    ·rw [if_neg c14] at H
     have c14b0:(t542 == (a1.size:Int))=false:=beq_eq_false_iff_ne.mpr c14
     have c14b1:(t542 != (a1.size:Int))=true:=bne_iff_ne.mpr c14
     (first | rw [c14b0] | (simp only [i64_w,i32_w];rw [c14b0]) | skip)
     replace H:=bS H
     obtain ⟨⟨t553,t554,t555,t556⟩,A150,H⟩:=H
     replace H:(Y23.j0 k a1 t542 (strOfNums y550) t553 s0_0 t554 t555 t556)=some (r1,r2,r3,r4):=H
     have A15:=aM A150
     clear A150
     have H':=aM H
     clear H
     go_wp2_with (first | (go_at_call 97;(with_reducible refine (Y38.calls g s0_0 t547 t548 t549 3 t553 t554 t555 t556 w0 _ ?s1 ?s2 A15.out).mono ?_);(case s1=>repeat (first | (with_reducible first | exact HI0.out | apply IsS118.alloc | apply IsS118.drewN | apply IsS118.drew | apply IsS118.set_1 | apply IsS118.set_2 | apply IsS118.set_3) | exact HI0.out));(case s2=>repeat (first | (with_reducible first | exact HB.out | apply below_alloc | apply pw_below_drewN | apply below_drew1 | refine below_set ?_ (IsS118.ge HI0.out)) | exact HB.out));rintro e w16 ⟨rfl,hi,hb,hk⟩;have n0_:=aM (Kd.R_mono (Kd.R_keep (IsS118.apart (show IsS118 w0 _ g s0_0 t547 t548 t549 from by repeat (first | (with_reducible first | exact HI0.out | apply IsS118.alloc | apply IsS118.drewN | apply IsS118.drew | apply IsS118.set_1 | apply IsS118.set_2 | apply IsS118.set_3) | exact HI0.out)) (z0_ HO552.out) (by decide)) hk (fun _ h=>h.2)) (fun _ h=>h.1));have n1_:=aM (KeepBut.trans (z6_ HK.out) hk (.inl rfl));have n2_:=aM (hb);have n3_:=aM (hi);clear HO552;clear HK;clear HB;clear HI0;have HO552:=n0_;have HK:=n1_;have HB:=n2_;have HI0:=n3_;clear n0_ n1_ n2_ n3_;(try clear hb);(try clear hk);(try clear hi)))
     repeat (go_quiet (first | (go_at_call 97;(with_reducible refine (Y38.calls g s0_0 t547 t548 t549 3 t553 t554 t555 t556 w0 _ ?s1 ?s2 A15.out).mono ?_);(case s1=>repeat (first | (with_reducible first | exact HI0.out | apply IsS118.alloc | apply IsS118.drewN | apply IsS118.drew | apply IsS118.set_1 | apply IsS118.set_2 | apply IsS118.set_3) | exact HI0.out));(case s2=>repeat (first | (with_reducible first | exact HB.out | apply below_alloc | apply pw_below_drewN | apply below_drew1 | refine below_set ?_ (IsS118.ge HI0.out)) | exact HB.out));rintro e w16 ⟨rfl,hi,hb,hk⟩;have n0_:=aM (Kd.R_mono (Kd.R_keep (IsS118.apart (show IsS118 w0 _ g s0_0 t547 t548 t549 from by repeat (first | (with_reducible first | exact HI0.out | apply IsS118.alloc | apply IsS118.drewN | apply IsS118.drew | apply IsS118.set_1 | apply IsS118.set_2 | apply IsS118.set_3) | exact HI0.out)) (z0_ HO552.out) (by decide)) hk (fun _ h=>h.2)) (fun _ h=>h.1));have n1_:=aM (KeepBut.trans (z6_ HK.out) hk (.inl rfl));have n2_:=aM (hb);have n3_:=aM (hi);clear HO552;clear HK;clear HB;clear HI0;have HO552:=n0_;have HK:=n1_;have HB:=n2_;have HI0:=n3_;clear n0_ n1_ n2_ n3_;(try clear hb);(try clear hk);(try clear hi)));try go_wp2_with (first | (go_at_call 97;(with_reducible refine (Y38.calls g s0_0 t547 t548 t549 3 t553 t554 t555 t556 w0 _ ?s1 ?s2 A15.out).mono ?_);(case s1=>repeat (first | (with_reducible first | exact HI0.out | apply IsS118.alloc | apply IsS118.drewN | apply IsS118.drew | apply IsS118.set_1 | apply IsS118.set_2 | apply IsS118.set_3) | exact HI0.out));(case s2=>repeat (first | (with_reducible first | exact HB.out | apply below_alloc | apply pw_below_drewN | apply below_drew1 | refine below_set ?_ (IsS118.ge HI0.out)) | exact HB.out));rintro e w16 ⟨rfl,hi,hb,hk⟩;have n0_:=aM (Kd.R_mono (Kd.R_keep (IsS118.apart (show IsS118 w0 _ g s0_0 t547 t548 t549 from by repeat (first | (with_reducible first | exact HI0.out | apply IsS118.alloc | apply IsS118.drewN | apply IsS118.drew | apply IsS118.set_1 | apply IsS118.set_2 | apply IsS118.set_3) | exact HI0.out)) (z0_ HO552.out) (by decide)) hk (fun _ h=>h.2)) (fun _ h=>h.1));have n1_:=aM (KeepBut.trans (z6_ HK.out) hk (.inl rfl));have n2_:=aM (hb);have n3_:=aM (hi);clear HO552;clear HK;clear HB;clear HI0;have HO552:=n0_;have HK:=n1_;have HB:=n2_;have HI0:=n3_;clear n0_ n1_ n2_ n3_;(try clear hb);(try clear hk);(try clear hi))))
     go_meet
     case rel=>exact ⟨_,(t553),(t554),(t555),(t556),(z3_),H',⟨by first | omega | exact Nat.le_refl _⟩,⟨z12_ HI0.out⟩,⟨z6_ HK.out⟩,⟨z10_ HB.out HI0.out⟩⟩
   case rest =>
    clear HC8
    try clear c1
    try clear hcv1
    try clear p2
    try clear c5
    try clear c5b0
    try clear c6
    try clear c6b0
    try clear p6
    try clear c7
    try clear p7
    try clear q7
    try clear hx7
    try clear hcv13
    try clear c14
    try clear c14b0
    try clear c14b1
    try clear p7
    try clear q7
    obtain ⟨kq,x24_7,x1001_7,x1002_7,x1003_7,rfl,HA,HJ7,HI0,HK,HB⟩:=hcut
    cases kq with
    | zero=>exact absurd HA.out (by simp [Y23.j0])
    | succ kj7 =>
     have H:=HA.out
     clear HA
     simp only [Y23.j0] at H
     by_cases c17:x24_7=true
     ·subst c17
      have H1:(if 0≤t542 then (if t542≤(a1.size:Int) then (if (a1.extract 0 (t542:Int).toNat).size+(strOfNums y550).size≤9223372036854775807 then (if ((a1.extract 0 (t542:Int).toNat).size+(strOfNums y550).size)+(a1.extract (t542:Int).toNat a1.size).size≤9223372036854775807 then (some (((a1.extract 0 (t542:Int).toNat) ++ (strOfNums y550)) ++ (a1.extract (t542:Int).toNat a1.size),x1001_7,x1002_7,x1003_7)) else (none)) else (none)) else (none)) else (none))=some (r1,r2,r3,r4):=by rw [if_pos rfl] at H;exact H
      clear H
      have H:=H1
      clear H1
      by_cases c18:0≤t542
      ·rw [if_pos c18] at H
       have c18b0:=eq_true c18
       have c18b1:decide (0≤t542)=true:=dE c18
       clear c18
       by_cases c19:t542≤(a1.size:Int)
       ·rw [if_pos c19] at H
        have c19b0:=eq_true c19
        have c19b1:decide (t542≤(a1.size:Int))=true:=dE c19
        clear c19
        by_cases c20:(a1.extract 0 (t542:Int).toNat).size+(strOfNums y550).size≤9223372036854775807
        ·rw [if_pos c20] at H
         have c20b0:=eq_true c20
         have c20b1:decide ((a1.extract 0 (t542:Int).toNat).size+(strOfNums y550).size≤9223372036854775807)=true:=dE c20
         have c20s:(9223372036854775807<((t542:Int).toNat)+(strOfNums y550).size)=False:=eq_false (by have h0a_:0≤(t542:Int):=dT (by assumption);have h0b_:(t542:Int)≤(a1.size:Int):=dT (by assumption);have h_:=c20;simp only [ByteArray.size_extract,ByteArray.size_append] at h_;omega)
         try have c20b2:(9223372036854775807<(a1.extract 0 (t542:Int).toNat).size+(strOfNums y550).size)=False:=eq_false (Nat.not_lt.2 c20)
         have c21b0:=eq_true (dT (z7_):0≤t542)
         have c22b0:=eq_true (dT (z7_):t542≤(a1.size:Int))
         by_cases c23:((a1.extract 0 (t542:Int).toNat).size+(strOfNums y550).size)+(a1.extract (t542:Int).toNat a1.size).size≤9223372036854775807
         ·rw [if_pos c23] at H
          have c23b0:=eq_true c23
          have c23b1:decide (((a1.extract 0 (t542:Int).toNat).size+(strOfNums y550).size)+(a1.extract (t542:Int).toNat a1.size).size≤9223372036854775807)=true:=dE c23
          have c23s:(9223372036854775807<(((t542:Int).toNat)+(strOfNums y550).size)+(a1.size-(t542:Int).toNat))=False:=eq_false (by have h0a_:0≤(t542:Int):=dT (by assumption);have h0b_:(t542:Int)≤(a1.size:Int):=dT (by assumption);have h_:=c23;simp only [ByteArray.size_extract,ByteArray.size_append] at h_;omega)
          try have c23b2:(9223372036854775807<((a1.extract 0 (t542:Int).toNat).size+(strOfNums y550).size)+(a1.extract (t542:Int).toNat a1.size).size)=False:=eq_false (Nat.not_lt.2 c23)
          simp only [Option.some.injEq,Prod.mk.injEq] at H
          obtain ⟨rfl,rfl,rfl,rfl⟩:=H
          go_wp2
          repeat (go_quiet (fail);try go_wp2)
          go_ret
          exact ⟨z5_,z12_ HI0.out,z10_ HB.out HI0.out,z6_ HK.out⟩
         ·rw [if_neg c23] at H
          exact nO H
        ·rw [if_neg c20] at H
         exact nO H
       ·rw [if_neg c19] at H
        exact nO H
      ·rw [if_neg c18] at H
       exact nO H
     ·replace c17:=Bool.eq_false_iff.mpr c17
      subst c17
      have H1:((Y38.f s0_0 x1001_7 x1002_7 x1003_7 2).bind fun bt557=>(if bt557.1=true then (if 0≤t542 then (if t542≤(a1.size:Int) then (if 0≤(wrap64 (t542+1)) then (if (wrap64 (t542+1))≤(a1.size:Int) then (if (a1.extract 0 (t542:Int).toNat).size+(a1.extract ((wrap64 (t542+1)):Int).toNat a1.size).size≤9223372036854775807 then (some ((a1.extract 0 (t542:Int).toNat) ++ (a1.extract ((wrap64 (t542+1)):Int).toNat a1.size),bt557.2.1,bt557.2.2.1,bt557.2.2.2)) else (none)) else (none)) else (none)) else (none)) else (none)) else (if 0≤t542 then (if t542≤(a1.size:Int) then (if (a1.extract 0 (t542:Int).toNat).size+(strOfNums y550).size≤9223372036854775807 then (if 0≤(wrap64 (t542+1)) then (if (wrap64 (t542+1))≤(a1.size:Int) then (if ((a1.extract 0 (t542:Int).toNat).size+(strOfNums y550).size)+(a1.extract ((wrap64 (t542+1)):Int).toNat a1.size).size≤9223372036854775807 then (some (((a1.extract 0 (t542:Int).toNat) ++ (strOfNums y550)) ++ (a1.extract ((wrap64 (t542+1)):Int).toNat a1.size),bt557.2.1,bt557.2.2.1,bt557.2.2.2)) else (none)) else (none)) else (none)) else (none)) else (none)) else (none))))=some (r1,r2,r3,r4):=by rw [if_neg (show ¬ (false=true) by decide)] at H;exact H
      clear H
      have H:=H1
      clear H1
      replace H:=bS H
      obtain ⟨⟨t557,t558,t559,t560⟩,A240,H⟩:=H
      replace H:(if t557=true then (if 0≤t542 then (if t542≤(a1.size:Int) then (if 0≤(wrap64 (t542+1)) then (if (wrap64 (t542+1))≤(a1.size:Int) then (if (a1.extract 0 (t542:Int).toNat).size+(a1.extract ((wrap64 (t542+1)):Int).toNat a1.size).size≤9223372036854775807 then (some ((a1.extract 0 (t542:Int).toNat) ++ (a1.extract ((wrap64 (t542+1)):Int).toNat a1.size),t558,t559,t560)) else (none)) else (none)) else (none)) else (none)) else (none)) else (if 0≤t542 then (if t542≤(a1.size:Int) then (if (a1.extract 0 (t542:Int).toNat).size+(strOfNums y550).size≤9223372036854775807 then (if 0≤(wrap64 (t542+1)) then (if (wrap64 (t542+1))≤(a1.size:Int) then (if ((a1.extract 0 (t542:Int).toNat).size+(strOfNums y550).size)+(a1.extract ((wrap64 (t542+1)):Int).toNat a1.size).size≤9223372036854775807 then (some (((a1.extract 0 (t542:Int).toNat) ++ (strOfNums y550)) ++ (a1.extract ((wrap64 (t542+1)):Int).toNat a1.size),t558,t559,t560)) else (none)) else (none)) else (none)) else (none)) else (none)) else (none)))=some (r1,r2,r3,r4):=H
      have A24:=aM A240
      clear A240
      by_cases c25:t557=true
      ·subst c25
       have H1:(if 0≤t542 then (if t542≤(a1.size:Int) then (if 0≤(wrap64 (t542+1)) then (if (wrap64 (t542+1))≤(a1.size:Int) then (if (a1.extract 0 (t542:Int).toNat).size+(a1.extract ((wrap64 (t542+1)):Int).toNat a1.size).size≤9223372036854775807 then (some ((a1.extract 0 (t542:Int).toNat) ++ (a1.extract ((wrap64 (t542+1)):Int).toNat a1.size),t558,t559,t560)) else (none)) else (none)) else (none)) else (none)) else (none))=some (r1,r2,r3,r4):=by rw [if_pos rfl] at H;exact H
       clear H
       have H:=H1
       clear H1
       by_cases c26:0≤t542
       ·rw [if_pos c26] at H
        have c26b0:=eq_true c26
        have c26b1:decide (0≤t542)=true:=dE c26
        clear c26
        by_cases c27:t542≤(a1.size:Int)
        ·rw [if_pos c27] at H
         have c27b0:=eq_true c27
         have c27b1:decide (t542≤(a1.size:Int))=true:=dE c27
         clear c27
         obtain ⟨ji28,hji28⟩:∃ j_:Int,(wrap64 (t542+1))=j_:=⟨_,rfl⟩
         replace H:(if 0≤(ji28) then (if (ji28)≤(a1.size:Int) then (if (a1.extract 0 (t542:Int).toNat).size+(a1.extract ((ji28):Int).toNat a1.size).size≤9223372036854775807 then (some ((a1.extract 0 (t542:Int).toNat) ++ (a1.extract ((ji28):Int).toNat a1.size),t558,t559,t560)) else (none)) else (none)) else (none))=some (r1,r2,r3,r4):=by first | (rw [hji28] at H;exact H) | (simp only [hji28] at H ⊢;exact H)
         (try rw [hji28] at A24)
         have hji28w:(IntKind.i64.wrap (t542+1))=ji28:=(i64_w _).trans hji28
         by_cases c29:0≤(ji28)
         ·rw [if_pos c29] at H
          have c29b0:=eq_true c29
          have c29b1:decide (0≤(ji28))=true:=dE c29
          clear c29
          by_cases c30:(ji28)≤(a1.size:Int)
          ·rw [if_pos c30] at H
           have c30b0:=eq_true c30
           have c30b1:decide ((ji28)≤(a1.size:Int))=true:=dE c30
           clear c30
           by_cases c31:(a1.extract 0 (t542:Int).toNat).size+(a1.extract ((ji28):Int).toNat a1.size).size≤9223372036854775807
           ·rw [if_pos c31] at H
            have c31b0:=eq_true c31
            have c31b1:decide ((a1.extract 0 (t542:Int).toNat).size+(a1.extract ((ji28):Int).toNat a1.size).size≤9223372036854775807)=true:=dE c31
            have c31s:(9223372036854775807<((t542:Int).toNat)+(a1.size-((ji28):Int).toNat))=False:=eq_false (by have h0a_:0≤(t542:Int):=dT (by assumption);have h0b_:(t542:Int)≤(a1.size:Int):=dT (by assumption);have h1a_:0≤((ji28):Int):=dT (by assumption);have h1b_:((ji28):Int)≤(a1.size:Int):=dT (by assumption);have h_:=c31;simp only [ByteArray.size_extract,ByteArray.size_append] at h_;omega)
            try have c31b2:(9223372036854775807<(a1.extract 0 (t542:Int).toNat).size+(a1.extract ((ji28):Int).toNat a1.size).size)=False:=eq_false (Nat.not_lt.2 c31)
            simp only [Option.some.injEq,Prod.mk.injEq] at H
            obtain ⟨rfl,rfl,rfl,rfl⟩:=H
            go_wp2_with (first | (go_at_call 97;(with_reducible refine (Y38.calls g s0_0 x1001_7 x1002_7 x1003_7 2 true t558 t559 t560 w0 _ ?s1 ?s2 A24.out).mono ?_);(case s1=>repeat (first | (with_reducible first | exact HI0.out | apply IsS118.alloc | apply IsS118.drewN | apply IsS118.drew | apply IsS118.set_1 | apply IsS118.set_2 | apply IsS118.set_3) | exact HI0.out));(case s2=>repeat (first | (with_reducible first | exact HB.out | apply below_alloc | apply pw_below_drewN | apply below_drew1 | refine below_set ?_ (IsS118.ge HI0.out)) | exact HB.out));rintro e w32 ⟨rfl,hi,hb,hk⟩;have n0_:=aM (KeepBut.trans (z6_ HK.out) hk (.inl rfl));have n1_:=aM (hb);have n2_:=aM (hi);clear HK;clear HB;clear HI0;have HK:=n0_;have HB:=n1_;have HI0:=n2_;clear n0_ n1_ n2_;(try clear hb);(try clear hk);(try clear hi)))
            repeat (go_quiet (first | (go_at_call 97;(with_reducible refine (Y38.calls g s0_0 x1001_7 x1002_7 x1003_7 2 true t558 t559 t560 w0 _ ?s1 ?s2 A24.out).mono ?_);(case s1=>repeat (first | (with_reducible first | exact HI0.out | apply IsS118.alloc | apply IsS118.drewN | apply IsS118.drew | apply IsS118.set_1 | apply IsS118.set_2 | apply IsS118.set_3) | exact HI0.out));(case s2=>repeat (first | (with_reducible first | exact HB.out | apply below_alloc | apply pw_below_drewN | apply below_drew1 | refine below_set ?_ (IsS118.ge HI0.out)) | exact HB.out));rintro e w32 ⟨rfl,hi,hb,hk⟩;have n0_:=aM (KeepBut.trans (z6_ HK.out) hk (.inl rfl));have n1_:=aM (hb);have n2_:=aM (hi);clear HK;clear HB;clear HI0;have HK:=n0_;have HB:=n1_;have HI0:=n2_;clear n0_ n1_ n2_;(try clear hb);(try clear hk);(try clear hi)));try go_wp2_with (first | (go_at_call 97;(with_reducible refine (Y38.calls g s0_0 x1001_7 x1002_7 x1003_7 2 true t558 t559 t560 w0 _ ?s1 ?s2 A24.out).mono ?_);(case s1=>repeat (first | (with_reducible first | exact HI0.out | apply IsS118.alloc | apply IsS118.drewN | apply IsS118.drew | apply IsS118.set_1 | apply IsS118.set_2 | apply IsS118.set_3) | exact HI0.out));(case s2=>repeat (first | (with_reducible first | exact HB.out | apply below_alloc | apply pw_below_drewN | apply below_drew1 | refine below_set ?_ (IsS118.ge HI0.out)) | exact HB.out));rintro e w32 ⟨rfl,hi,hb,hk⟩;have n0_:=aM (KeepBut.trans (z6_ HK.out) hk (.inl rfl));have n1_:=aM (hb);have n2_:=aM (hi);clear HK;clear HB;clear HI0;have HK:=n0_;have HB:=n1_;have HI0:=n2_;clear n0_ n1_ n2_;(try clear hb);(try clear hk);(try clear hi))))
            go_ret
            exact ⟨by first | rfl | (simp [errW_none,errW_some] <;> rfl) | (simp only [← hji28];first | rfl | (simp [errW_none,errW_some] <;> rfl)) | (simp [*,errW_none,errW_some] <;> rfl),z12_ HI0.out,z10_ HB.out HI0.out,z6_ HK.out⟩
           ·rw [if_neg c31] at H
            exact nO H
          ·rw [if_neg c30] at H
           exact nO H
         ·rw [if_neg c29] at H
          exact nO H
        ·rw [if_neg c27] at H
         exact nO H
       ·rw [if_neg c26] at H
        exact nO H
      ·replace c25:=Bool.eq_false_iff.mpr c25
       subst c25
       have H1:(if 0≤t542 then (if t542≤(a1.size:Int) then (if (a1.extract 0 (t542:Int).toNat).size+(strOfNums y550).size≤9223372036854775807 then (if 0≤(wrap64 (t542+1)) then (if (wrap64 (t542+1))≤(a1.size:Int) then (if ((a1.extract 0 (t542:Int).toNat).size+(strOfNums y550).size)+(a1.extract ((wrap64 (t542+1)):Int).toNat a1.size).size≤9223372036854775807 then (some (((a1.extract 0 (t542:Int).toNat) ++ (strOfNums y550)) ++ (a1.extract ((wrap64 (t542+1)):Int).toNat a1.size),t558,t559,t560)) else (none)) else (none)) else (none)) else (none)) else (none)) else (none))=some (r1,r2,r3,r4):=by rw [if_neg (show ¬ (false=true) by decide)] at H;exact H
       clear H
       have H:=H1
       clear H1
       by_cases c33:0≤t542
       ·rw [if_pos c33] at H
        have c33b0:=eq_true c33
        have c33b1:decide (0≤t542)=true:=dE c33
        clear c33
        by_cases c34:t542≤(a1.size:Int)
        ·rw [if_pos c34] at H
         have c34b0:=eq_true c34
         have c34b1:decide (t542≤(a1.size:Int))=true:=dE c34
         clear c34
         by_cases c35:(a1.extract 0 (t542:Int).toNat).size+(strOfNums y550).size≤9223372036854775807
         ·rw [if_pos c35] at H
          have c35b0:=eq_true c35
          have c35b1:decide ((a1.extract 0 (t542:Int).toNat).size+(strOfNums y550).size≤9223372036854775807)=true:=dE c35
          have c35s:(9223372036854775807<((t542:Int).toNat)+(strOfNums y550).size)=False:=eq_false (by have h0a_:0≤(t542:Int):=dT (by assumption);have h0b_:(t542:Int)≤(a1.size:Int):=dT (by assumption);have h_:=c35;simp only [ByteArray.size_extract,ByteArray.size_append] at h_;omega)
          try have c35b2:(9223372036854775807<(a1.extract 0 (t542:Int).toNat).size+(strOfNums y550).size)=False:=eq_false (Nat.not_lt.2 c35)
          obtain ⟨ji36,hji36⟩:∃ j_:Int,(wrap64 (t542+1))=j_:=⟨_,rfl⟩
          replace H:(if 0≤(ji36) then (if (ji36)≤(a1.size:Int) then (if ((a1.extract 0 (t542:Int).toNat).size+(strOfNums y550).size)+(a1.extract ((ji36):Int).toNat a1.size).size≤9223372036854775807 then (some (((a1.extract 0 (t542:Int).toNat) ++ (strOfNums y550)) ++ (a1.extract ((ji36):Int).toNat a1.size),t558,t559,t560)) else (none)) else (none)) else (none))=some (r1,r2,r3,r4):=by first | (rw [hji36] at H;exact H) | (simp only [hji36] at H ⊢;exact H)
          (try rw [hji36] at A24)
          have hji36w:(IntKind.i64.wrap (t542+1))=ji36:=(i64_w _).trans hji36
          by_cases c37:0≤(ji36)
          ·rw [if_pos c37] at H
           have c37b0:=eq_true c37
           have c37b1:decide (0≤(ji36))=true:=dE c37
           clear c37
           by_cases c38:(ji36)≤(a1.size:Int)
           ·rw [if_pos c38] at H
            have c38b0:=eq_true c38
            have c38b1:decide ((ji36)≤(a1.size:Int))=true:=dE c38
            clear c38
            by_cases c39:((a1.extract 0 (t542:Int).toNat).size+(strOfNums y550).size)+(a1.extract ((ji36):Int).toNat a1.size).size≤9223372036854775807
            ·rw [if_pos c39] at H
             have c39b0:=eq_true c39
             have c39b1:decide (((a1.extract 0 (t542:Int).toNat).size+(strOfNums y550).size)+(a1.extract ((ji36):Int).toNat a1.size).size≤9223372036854775807)=true:=dE c39
             have c39s:(9223372036854775807<(((t542:Int).toNat)+(strOfNums y550).size)+(a1.size-((ji36):Int).toNat))=False:=eq_false (by have h0a_:0≤(t542:Int):=dT (by assumption);have h0b_:(t542:Int)≤(a1.size:Int):=dT (by assumption);have h1a_:0≤((ji36):Int):=dT (by assumption);have h1b_:((ji36):Int)≤(a1.size:Int):=dT (by assumption);have h_:=c39;simp only [ByteArray.size_extract,ByteArray.size_append] at h_;omega)
             try have c39b2:(9223372036854775807<((a1.extract 0 (t542:Int).toNat).size+(strOfNums y550).size)+(a1.extract ((ji36):Int).toNat a1.size).size)=False:=eq_false (Nat.not_lt.2 c39)
             simp only [Option.some.injEq,Prod.mk.injEq] at H
             obtain ⟨rfl,rfl,rfl,rfl⟩:=H
             go_wp2_with (first | (go_at_call 97;(with_reducible refine (Y38.calls g s0_0 x1001_7 x1002_7 x1003_7 2 false t558 t559 t560 w0 _ ?s1 ?s2 A24.out).mono ?_);(case s1=>repeat (first | (with_reducible first | exact HI0.out | apply IsS118.alloc | apply IsS118.drewN | apply IsS118.drew | apply IsS118.set_1 | apply IsS118.set_2 | apply IsS118.set_3) | exact HI0.out));(case s2=>repeat (first | (with_reducible first | exact HB.out | apply below_alloc | apply pw_below_drewN | apply below_drew1 | refine below_set ?_ (IsS118.ge HI0.out)) | exact HB.out));rintro e w40 ⟨rfl,hi,hb,hk⟩;have n0_:=aM (KeepBut.trans (z6_ HK.out) hk (.inl rfl));have n1_:=aM (hb);have n2_:=aM (hi);clear HK;clear HB;clear HI0;have HK:=n0_;have HB:=n1_;have HI0:=n2_;clear n0_ n1_ n2_;(try clear hb);(try clear hk);(try clear hi)))
             repeat (go_quiet (first | (go_at_call 97;(with_reducible refine (Y38.calls g s0_0 x1001_7 x1002_7 x1003_7 2 false t558 t559 t560 w0 _ ?s1 ?s2 A24.out).mono ?_);(case s1=>repeat (first | (with_reducible first | exact HI0.out | apply IsS118.alloc | apply IsS118.drewN | apply IsS118.drew | apply IsS118.set_1 | apply IsS118.set_2 | apply IsS118.set_3) | exact HI0.out));(case s2=>repeat (first | (with_reducible first | exact HB.out | apply below_alloc | apply pw_below_drewN | apply below_drew1 | refine below_set ?_ (IsS118.ge HI0.out)) | exact HB.out));rintro e w40 ⟨rfl,hi,hb,hk⟩;have n0_:=aM (KeepBut.trans (z6_ HK.out) hk (.inl rfl));have n1_:=aM (hb);have n2_:=aM (hi);clear HK;clear HB;clear HI0;have HK:=n0_;have HB:=n1_;have HI0:=n2_;clear n0_ n1_ n2_;(try clear hb);(try clear hk);(try clear hi)));try go_wp2_with (first | (go_at_call 97;(with_reducible refine (Y38.calls g s0_0 x1001_7 x1002_7 x1003_7 2 false t558 t559 t560 w0 _ ?s1 ?s2 A24.out).mono ?_);(case s1=>repeat (first | (with_reducible first | exact HI0.out | apply IsS118.alloc | apply IsS118.drewN | apply IsS118.drew | apply IsS118.set_1 | apply IsS118.set_2 | apply IsS118.set_3) | exact HI0.out));(case s2=>repeat (first | (with_reducible first | exact HB.out | apply below_alloc | apply pw_below_drewN | apply below_drew1 | refine below_set ?_ (IsS118.ge HI0.out)) | exact HB.out));rintro e w40 ⟨rfl,hi,hb,hk⟩;have n0_:=aM (KeepBut.trans (z6_ HK.out) hk (.inl rfl));have n1_:=aM (hb);have n2_:=aM (hi);clear HK;clear HB;clear HI0;have HK:=n0_;have HB:=n1_;have HI0:=n2_;clear n0_ n1_ n2_;(try clear hb);(try clear hk);(try clear hi))))
             go_ret
             exact ⟨by first | rfl | (simp [errW_none,errW_some] <;> rfl) | (simp only [← hji36];first | rfl | (simp [errW_none,errW_some] <;> rfl)) | (simp [*,errW_none,errW_some] <;> rfl),z12_ HI0.out,z10_ HB.out HI0.out,z6_ HK.out⟩
            ·rw [if_neg c39] at H
             exact nO H
           ·rw [if_neg c38] at H
            exact nO H
          ·rw [if_neg c37] at H
           exact nO H
         ·rw [if_neg c35] at H
          exact nO H
        ·rw [if_neg c34] at H
         exact nO H
       ·rw [if_neg c33] at H
        exact nO H
  ·rw [if_neg c6] at H
   exact nO H
 ·rw [if_neg c5] at H
  exact nO H


/-! ### Y42: function 28 -/
def Y42.f (k:Nat) (l0:List Int):Option (ByteArray):=(Y14.f k l0).bind fun bt561=>((Y10.f k bt561.1 bt561.2.1 bt561.2.2.1 bt561.2.2.2).bind fun bt566=>((Y22.f k bt566.1).bind fun t572=>((Y2.f bt561.1 bt566.2.1 bt566.2.2.1 bt566.2.2.2 4).bind fun bt573=>(if bt573.1=0 then ((Y23.f k bt561.1 bt573.2.1 bt573.2.2.1 bt573.2.2.2 t572).bind fun bt577=>(some bt577.1)) else (if bt573.1=1 then ((Y2.f bt561.1 bt573.2.1 bt573.2.2.1 bt573.2.2.2 (wrap64 ((t572.size:Int)+1))).bind fun bt581=>(if 0≤bt581.1 then (if bt581.1≤(t572.size:Int) then (some (t572.extract 0 (bt581.1:Int).toNat)) else (none)) else (none))) else (some t572))))))
theorem Y42.mono:∀ a0 k,LeO (Y42.f k a0) (Y42.f (k+1) a0):=by
 intro a0 k
 have m0:=@Y22.mono
 have m1:=@Y14.mono
 have m2:=@Y10.mono
 have m3:=@Y23.mono
 unfold Y42.f
 exact mO
theorem Y42.calls (k:Nat) (A0:Option Addr) (c0:Nat) (l0:List Int) (r:ByteArray) (w:World) (hr0:Kd.C (Kd.int .u8) w A0 l0.length l0) (hc0:l0.length≤c0) (h:Y42.f k l0=some r) :
  Calls Try.prog 28 #[.slice A0 l0.length c0] w fun e w'=>e = .returned (.string r)∧Below w.heap.size w w':=by
 have HR0:=aM hr0
 have HC0:=aM hc0
 clear hr0 hc0
 have HB:=aM (Below.refl w.heap.size w)
 have H:((Y14.f k l0).bind fun bt561=>((Y10.f k bt561.1 bt561.2.1 bt561.2.2.1 bt561.2.2.2).bind fun bt566=>((Y22.f k bt566.1).bind fun t572=>((Y2.f bt561.1 bt566.2.1 bt566.2.2.1 bt566.2.2.2 4).bind fun bt573=>(if bt573.1=0 then ((Y23.f k bt561.1 bt573.2.1 bt573.2.2.1 bt573.2.2.2 t572).bind fun bt577=>(some bt577.1)) else (if bt573.1=1 then ((Y2.f bt561.1 bt573.2.1 bt573.2.2.1 bt573.2.2.2 (wrap64 ((t572.size:Int)+1))).bind fun bt581=>(if 0≤bt581.1 then (if bt581.1≤(t572.size:Int) then (some (t572.extract 0 (bt581.1:Int).toNat)) else (none)) else (none))) else (some t572)))))))=some r:=h
 clear h
 replace H:=bS H
 obtain ⟨⟨t561,t562,t563,t564⟩,A20,H⟩:=H
 replace H:((Y10.f k t561 t562 t563 t564).bind fun bt566=>((Y22.f k bt566.1).bind fun t572=>((Y2.f t561 bt566.2.1 bt566.2.2.1 bt566.2.2.2 4).bind fun bt573=>(if bt573.1=0 then ((Y23.f k t561 bt573.2.1 bt573.2.2.1 bt573.2.2.2 t572).bind fun bt577=>(some bt577.1)) else (if bt573.1=1 then ((Y2.f t561 bt573.2.1 bt573.2.2.1 bt573.2.2.2 (wrap64 ((t572.size:Int)+1))).bind fun bt581=>(if 0≤bt581.1 then (if bt581.1≤(t572.size:Int) then (some (t572.extract 0 (bt581.1:Int).toNat)) else (none)) else (none))) else (some t572))))))=some r:=H
 have A2:=aM A20
 clear A20
 replace H:=bS H
 obtain ⟨⟨t566,t569,t570,t571⟩,A30,H⟩:=H
 replace H:((Y22.f k t566).bind fun t572=>((Y2.f t561 t569 t570 t571 4).bind fun bt573=>(if bt573.1=0 then ((Y23.f k t561 bt573.2.1 bt573.2.2.1 bt573.2.2.2 t572).bind fun bt577=>(some bt577.1)) else (if bt573.1=1 then ((Y2.f t561 bt573.2.1 bt573.2.2.1 bt573.2.2.2 (wrap64 ((t572.size:Int)+1))).bind fun bt581=>(if 0≤bt581.1 then (if bt581.1≤(t572.size:Int) then (some (t572.extract 0 (bt581.1:Int).toNat)) else (none)) else (none))) else (some t572)))))=some r:=H
 have A3:=aM A30
 clear A30
 replace H:=bS H
 obtain ⟨t572,A40,H⟩:=H
 replace H:((Y2.f t561 t569 t570 t571 4).bind fun bt573=>(if bt573.1=0 then ((Y23.f k t561 bt573.2.1 bt573.2.2.1 bt573.2.2.2 t572).bind fun bt577=>(some bt577.1)) else (if bt573.1=1 then ((Y2.f t561 bt573.2.1 bt573.2.2.1 bt573.2.2.2 (wrap64 ((t572.size:Int)+1))).bind fun bt581=>(if 0≤bt581.1 then (if bt581.1≤(t572.size:Int) then (some (t572.extract 0 (bt581.1:Int).toNat)) else (none)) else (none))) else (some t572))))=some r:=H
 have A4:=aM A40
 clear A40
 replace H:=bS H
 obtain ⟨⟨t573,t574,t575,t576⟩,A50,H⟩:=H
 replace H:(if t573=0 then ((Y23.f k t561 t574 t575 t576 t572).bind fun bt577=>(some bt577.1)) else (if t573=1 then ((Y2.f t561 t574 t575 t576 (wrap64 ((t572.size:Int)+1))).bind fun bt581=>(if 0≤bt581.1 then (if bt581.1≤(t572.size:Int) then (some (t572.extract 0 (bt581.1:Int).toNat)) else (none)) else (none))) else (some t572)))=some r:=H
 have A5:=aM A50
 clear A50
 by_cases c6:t573=0
 ·rw [if_pos c6] at H
  have c6b0:(t573 == 0)=true:=beq_iff_eq.mpr c6
  have c6b1:(t573 != 0)=false:=bne_eq_false_iff_eq.mpr c6
  clear c6
  replace H:=bS H
  obtain ⟨⟨t577,t578,t579,t580⟩,A70,H⟩:=H
  replace H:(some t577)=some r:=H
  have A7:=aM A70
  clear A70
  obtain rfl:=sI H
  go_enter Try.func28,Try.ntmps28
  go_wp2_with (first | ((with_reducible refine gc_ 68 ?_);refine gl_ (some 6) Try.func68 #[.slice A0 l0.length c0] ?_;(with_reducible refine (Y14.calls k _ _ l0 t561 t562 t563 t564 w _ ?s1 ?s2 ?s3 A2.out).mono ?_);(case s1=>repeat (first | (with_reducible first | exact HB.out | apply below_alloc | apply pw_below_drewN | apply below_drew1) | exact HB.out));(case s2=>exact HR0.out);(case s3=>exact HC0.out);rintro e w8 ⟨g565,rfl,hi,hb,hb2⟩;refine ⟨_,rfl,?_⟩;have n0_:=aM (hb);have n1_:=aM (hi);clear HB;have HB:=n0_;have HI565:=n1_;clear n0_ n1_;(try clear hb);(try clear hb2);(try clear hi)) | ((with_reducible refine gc_ 69 ?_);refine gl_ (some 8) Try.func69 #[.pointer (some ⟨g565,0,none⟩)] ?_;(with_reducible refine (Y10.calls k g565 t561 t562 t563 t564 t566 t569 t570 t571 w _ ?s1 ?s2 A3.out).mono ?_);(case s1=>repeat (first | (with_reducible first | exact HI565.out | apply IsS118.alloc | apply IsS118.drewN | apply IsS118.drew | apply IsS118.set_1 | apply IsS118.set_2 | apply IsS118.set_3) | exact HI565.out));(case s2=>repeat (first | (with_reducible first | exact HB.out | apply below_alloc | apply pw_below_drewN | apply below_drew1 | refine below_set ?_ (IsS118.ge HI565.out)) | exact HB.out));rintro e w9 ⟨v567,rfl,ho0,hi,hb,hk⟩;refine ⟨_,rfl,?_⟩;have n0_:=aM (Kd.R_lower ho0 (below_size (z10_ HB.out HI565.out)));have n1_:=aM (hb);have n2_:=aM (hi);clear HB;clear HI565;have HO568:=n0_;have HB:=n1_;have HI565:=n2_;clear n0_ n1_ n2_;(try clear hb);(try clear hk);(try clear hi);(try clear ho0);obtain ⟨Ao10,co10,eo10⟩:=Kd.R_slice HO568.out;subst eo10) | ((with_reducible refine gc_ 39 ?_);refine gl_ (some 9) Try.func39 #[.slice Ao10 t566.length co10] ?_;(with_reducible refine (Y22.calls k _ _ t566 t572 _ ?s1 ?s2 A4.out).mono ?_);(case s1=>repeat (first | exact (Kd.R_reads' HO568.out).2.2 | (with_reducible refine Kd.C_alloc ?_ _) | (with_reducible refine Kd.C_drewN ?_ _) | (with_reducible refine Kd.C_drew ?_)));(case s2=>exact (Kd.R_reads' HO568.out).2.1);rintro e w11 ⟨rfl,hb⟩;refine ⟨_,rfl,?_⟩;have n0_:=aM (Kd.R_below (z0_ HO568.out) hb);have n1_:=aM (IsS118.below (z12_ HI565.out) hb);have n2_:=aM (below_step (z10_ HB.out HI565.out) hb);clear HO568;clear HI565;clear HB;have HO568:=n0_;have HI565:=n1_;have HB:=n2_;clear n0_ n1_ n2_;(try clear hb)) | ((with_reducible refine gc_ 74 ?_);refine gl_ (some 11) Try.func74 #[.pointer (some ⟨g565,0,none⟩),.int .i64 4] ?_;(with_reducible refine (Y2.calls g565 t561 t569 t570 t571 4 t573 t574 t575 t576 w _ ?s1 ?s2 A5.out).mono ?_);(case s1=>repeat (first | (with_reducible first | exact HI565.out | apply IsS118.alloc | apply IsS118.drewN | apply IsS118.drew | apply IsS118.set_1 | apply IsS118.set_2 | apply IsS118.set_3) | exact HI565.out));(case s2=>repeat (first | (with_reducible first | exact HB.out | apply below_alloc | apply pw_below_drewN | apply below_drew1 | refine below_set ?_ (IsS118.ge HI565.out)) | exact HB.out));rintro e w12 ⟨rfl,hi,hb,hk⟩;refine ⟨_,rfl,?_⟩;have n0_:=aM (Kd.R_mono (Kd.R_keep (IsS118.apart (show IsS118 w _ g565 t561 t569 t570 t571 from by repeat (first | (with_reducible first | exact HI565.out | apply IsS118.alloc | apply IsS118.drewN | apply IsS118.drew | apply IsS118.set_1 | apply IsS118.set_2 | apply IsS118.set_3) | exact HI565.out)) (z0_ HO568.out) (by decide)) hk (fun _ h=>h.2)) (fun _ h=>h.1));have n1_:=aM (hb);have n2_:=aM (hi);clear HO568;clear HB;clear HI565;have HO568:=n0_;have HB:=n1_;have HI565:=n2_;clear n0_ n1_ n2_;(try clear hb);(try clear hk);(try clear hi)) | ((with_reducible refine gc_ 77 ?_);refine gl_ (some 16) Try.func77 #[.pointer (some ⟨g565,0,none⟩),.string t572] ?_;(with_reducible refine (Y23.calls k g565 t561 t574 t575 t576 t572 t577 t578 t579 t580 w _ ?s1 ?s2 A7.out).mono ?_);(case s1=>repeat (first | (with_reducible first | exact HI565.out | apply IsS118.alloc | apply IsS118.drewN | apply IsS118.drew | apply IsS118.set_1 | apply IsS118.set_2 | apply IsS118.set_3) | exact HI565.out));(case s2=>repeat (first | (with_reducible first | exact HB.out | apply below_alloc | apply pw_below_drewN | apply below_drew1 | refine below_set ?_ (IsS118.ge HI565.out)) | exact HB.out));rintro e w13 ⟨rfl,hi,hb,hk⟩;refine ⟨_,rfl,?_⟩;have n0_:=aM (Kd.R_mono (Kd.R_keep (IsS118.apart (show IsS118 w _ g565 t561 t574 t575 t576 from by repeat (first | (with_reducible first | exact HI565.out | apply IsS118.alloc | apply IsS118.drewN | apply IsS118.drew | apply IsS118.set_1 | apply IsS118.set_2 | apply IsS118.set_3) | exact HI565.out)) (z0_ HO568.out) (by decide)) hk (fun _ h=>h.2)) (fun _ h=>h.1));have n1_:=aM (hb);have n2_:=aM (hi);clear HO568;clear HB;clear HI565;have HO568:=n0_;have HB:=n1_;have HI565:=n2_;clear n0_ n1_ n2_;(try clear hb);(try clear hk);(try clear hi)))
  go_ret
  exact ⟨z5_,z10_ HB.out HI565.out⟩
 ·rw [if_neg c6] at H
  have c6b0:(t573 == 0)=false:=beq_eq_false_iff_ne.mpr c6
  have c6b1:(t573 != 0)=true:=bne_iff_ne.mpr c6
  by_cases c14:t573=1
  ·rw [if_pos c14] at H
   have c14b0:(t573 == 1)=true:=beq_iff_eq.mpr c14
   have c14b1:(t573 != 1)=false:=bne_eq_false_iff_eq.mpr c14
   clear c14
   replace H:=bS H
   obtain ⟨⟨t581,t582,t583,t584⟩,A150,H⟩:=H
   replace H:(if 0≤t581 then (if t581≤(t572.size:Int) then (some (t572.extract 0 (t581:Int).toNat)) else (none)) else (none))=some r:=H
   have A15:=aM A150
   clear A150
   by_cases c16:0≤t581
   ·rw [if_pos c16] at H
    have c16b0:=eq_true c16
    have c16b1:decide (0≤t581)=true:=dE c16
    clear c16
    by_cases c17:t581≤(t572.size:Int)
    ·rw [if_pos c17] at H
     have c17b0:=eq_true c17
     have c17b1:decide (t581≤(t572.size:Int))=true:=dE c17
     clear c17
     obtain rfl:=sI H
     go_enter Try.func28,Try.ntmps28
     go_wp2_with (first | ((with_reducible refine gc_ 68 ?_);refine gl_ (some 6) Try.func68 #[.slice A0 l0.length c0] ?_;(with_reducible refine (Y14.calls k _ _ l0 t561 t562 t563 t564 w _ ?s1 ?s2 ?s3 A2.out).mono ?_);(case s1=>repeat (first | (with_reducible first | exact HB.out | apply below_alloc | apply pw_below_drewN | apply below_drew1) | exact HB.out));(case s2=>exact HR0.out);(case s3=>exact HC0.out);rintro e w18 ⟨g565,rfl,hi,hb,hb2⟩;refine ⟨_,rfl,?_⟩;have n0_:=aM (hb);have n1_:=aM (hi);clear HB;have HB:=n0_;have HI565:=n1_;clear n0_ n1_;(try clear hb);(try clear hb2);(try clear hi)) | ((with_reducible refine gc_ 69 ?_);refine gl_ (some 8) Try.func69 #[.pointer (some ⟨g565,0,none⟩)] ?_;(with_reducible refine (Y10.calls k g565 t561 t562 t563 t564 t566 t569 t570 t571 w _ ?s1 ?s2 A3.out).mono ?_);(case s1=>repeat (first | (with_reducible first | exact HI565.out | apply IsS118.alloc | apply IsS118.drewN | apply IsS118.drew | apply IsS118.set_1 | apply IsS118.set_2 | apply IsS118.set_3) | exact HI565.out));(case s2=>repeat (first | (with_reducible first | exact HB.out | apply below_alloc | apply pw_below_drewN | apply below_drew1 | refine below_set ?_ (IsS118.ge HI565.out)) | exact HB.out));rintro e w19 ⟨v567,rfl,ho0,hi,hb,hk⟩;refine ⟨_,rfl,?_⟩;have n0_:=aM (Kd.R_lower ho0 (below_size (z10_ HB.out HI565.out)));have n1_:=aM (hb);have n2_:=aM (hi);clear HB;clear HI565;have HO568:=n0_;have HB:=n1_;have HI565:=n2_;clear n0_ n1_ n2_;(try clear hb);(try clear hk);(try clear hi);(try clear ho0);obtain ⟨Ao20,co20,eo20⟩:=Kd.R_slice HO568.out;subst eo20) | ((with_reducible refine gc_ 39 ?_);refine gl_ (some 9) Try.func39 #[.slice Ao20 t566.length co20] ?_;(with_reducible refine (Y22.calls k _ _ t566 t572 _ ?s1 ?s2 A4.out).mono ?_);(case s1=>repeat (first | exact (Kd.R_reads' HO568.out).2.2 | (with_reducible refine Kd.C_alloc ?_ _) | (with_reducible refine Kd.C_drewN ?_ _) | (with_reducible refine Kd.C_drew ?_)));(case s2=>exact (Kd.R_reads' HO568.out).2.1);rintro e w21 ⟨rfl,hb⟩;refine ⟨_,rfl,?_⟩;have n0_:=aM (Kd.R_below (z0_ HO568.out) hb);have n1_:=aM (IsS118.below (z12_ HI565.out) hb);have n2_:=aM (below_step (z10_ HB.out HI565.out) hb);clear HO568;clear HI565;clear HB;have HO568:=n0_;have HI565:=n1_;have HB:=n2_;clear n0_ n1_ n2_;(try clear hb)) | ((with_reducible refine gc_ 74 ?_);refine gl_ (some 11) Try.func74 #[.pointer (some ⟨g565,0,none⟩),.int .i64 4] ?_;(with_reducible refine (Y2.calls g565 t561 t569 t570 t571 4 t573 t574 t575 t576 w _ ?s1 ?s2 A5.out).mono ?_);(case s1=>repeat (first | (with_reducible first | exact HI565.out | apply IsS118.alloc | apply IsS118.drewN | apply IsS118.drew | apply IsS118.set_1 | apply IsS118.set_2 | apply IsS118.set_3) | exact HI565.out));(case s2=>repeat (first | (with_reducible first | exact HB.out | apply below_alloc | apply pw_below_drewN | apply below_drew1 | refine below_set ?_ (IsS118.ge HI565.out)) | exact HB.out));rintro e w22 ⟨rfl,hi,hb,hk⟩;refine ⟨_,rfl,?_⟩;have n0_:=aM (Kd.R_mono (Kd.R_keep (IsS118.apart (show IsS118 w _ g565 t561 t569 t570 t571 from by repeat (first | (with_reducible first | exact HI565.out | apply IsS118.alloc | apply IsS118.drewN | apply IsS118.drew | apply IsS118.set_1 | apply IsS118.set_2 | apply IsS118.set_3) | exact HI565.out)) (z0_ HO568.out) (by decide)) hk (fun _ h=>h.2)) (fun _ h=>h.1));have n1_:=aM (hb);have n2_:=aM (hi);clear HO568;clear HB;clear HI565;have HO568:=n0_;have HB:=n1_;have HI565:=n2_;clear n0_ n1_ n2_;(try clear hb);(try clear hk);(try clear hi)) | ((with_reducible refine gc_ 74 ?_);refine gl_ (some 24) Try.func74 #[.pointer (some ⟨g565,0,none⟩),.int .i64 (wrap64 ((t572.size:Int)+1))] ?_;(with_reducible refine (Y2.calls g565 t561 t574 t575 t576 (wrap64 ((t572.size:Int)+1)) t581 t582 t583 t584 w _ ?s1 ?s2 A15.out).mono ?_);(case s1=>repeat (first | (with_reducible first | exact HI565.out | apply IsS118.alloc | apply IsS118.drewN | apply IsS118.drew | apply IsS118.set_1 | apply IsS118.set_2 | apply IsS118.set_3) | exact HI565.out));(case s2=>repeat (first | (with_reducible first | exact HB.out | apply below_alloc | apply pw_below_drewN | apply below_drew1 | refine below_set ?_ (IsS118.ge HI565.out)) | exact HB.out));rintro e w23 ⟨rfl,hi,hb,hk⟩;refine ⟨_,rfl,?_⟩;have n0_:=aM (Kd.R_mono (Kd.R_keep (IsS118.apart (show IsS118 w _ g565 t561 t574 t575 t576 from by repeat (first | (with_reducible first | exact HI565.out | apply IsS118.alloc | apply IsS118.drewN | apply IsS118.drew | apply IsS118.set_1 | apply IsS118.set_2 | apply IsS118.set_3) | exact HI565.out)) (z0_ HO568.out) (by decide)) hk (fun _ h=>h.2)) (fun _ h=>h.1));have n1_:=aM (hb);have n2_:=aM (hi);clear HO568;clear HB;clear HI565;have HO568:=n0_;have HB:=n1_;have HI565:=n2_;clear n0_ n1_ n2_;(try clear hb);(try clear hk);(try clear hi)))
     go_ret
     exact ⟨z5_,z10_ HB.out HI565.out⟩
    ·rw [if_neg c17] at H
     exact nO H
   ·rw [if_neg c16] at H
    exact nO H
  ·rw [if_neg c14] at H
   have c14b0:(t573 == 1)=false:=beq_eq_false_iff_ne.mpr c14
   have c14b1:(t573 != 1)=true:=bne_iff_ne.mpr c14
   obtain rfl:=sI H
   go_enter Try.func28,Try.ntmps28
   go_wp2_with (first | ((with_reducible refine gc_ 68 ?_);refine gl_ (some 6) Try.func68 #[.slice A0 l0.length c0] ?_;(with_reducible refine (Y14.calls k _ _ l0 t561 t562 t563 t564 w _ ?s1 ?s2 ?s3 A2.out).mono ?_);(case s1=>repeat (first | (with_reducible first | exact HB.out | apply below_alloc | apply pw_below_drewN | apply below_drew1) | exact HB.out));(case s2=>exact HR0.out);(case s3=>exact HC0.out);rintro e w24 ⟨g565,rfl,hi,hb,hb2⟩;refine ⟨_,rfl,?_⟩;have n0_:=aM (hb);have n1_:=aM (hi);clear HB;have HB:=n0_;have HI565:=n1_;clear n0_ n1_;(try clear hb);(try clear hb2);(try clear hi)) | ((with_reducible refine gc_ 69 ?_);refine gl_ (some 8) Try.func69 #[.pointer (some ⟨g565,0,none⟩)] ?_;(with_reducible refine (Y10.calls k g565 t561 t562 t563 t564 t566 t569 t570 t571 w _ ?s1 ?s2 A3.out).mono ?_);(case s1=>repeat (first | (with_reducible first | exact HI565.out | apply IsS118.alloc | apply IsS118.drewN | apply IsS118.drew | apply IsS118.set_1 | apply IsS118.set_2 | apply IsS118.set_3) | exact HI565.out));(case s2=>repeat (first | (with_reducible first | exact HB.out | apply below_alloc | apply pw_below_drewN | apply below_drew1 | refine below_set ?_ (IsS118.ge HI565.out)) | exact HB.out));rintro e w25 ⟨v567,rfl,ho0,hi,hb,hk⟩;refine ⟨_,rfl,?_⟩;have n0_:=aM (Kd.R_lower ho0 (below_size (z10_ HB.out HI565.out)));have n1_:=aM (hb);have n2_:=aM (hi);clear HB;clear HI565;have HO568:=n0_;have HB:=n1_;have HI565:=n2_;clear n0_ n1_ n2_;(try clear hb);(try clear hk);(try clear hi);(try clear ho0);obtain ⟨Ao26,co26,eo26⟩:=Kd.R_slice HO568.out;subst eo26) | ((with_reducible refine gc_ 39 ?_);refine gl_ (some 9) Try.func39 #[.slice Ao26 t566.length co26] ?_;(with_reducible refine (Y22.calls k _ _ t566 t572 _ ?s1 ?s2 A4.out).mono ?_);(case s1=>repeat (first | exact (Kd.R_reads' HO568.out).2.2 | (with_reducible refine Kd.C_alloc ?_ _) | (with_reducible refine Kd.C_drewN ?_ _) | (with_reducible refine Kd.C_drew ?_)));(case s2=>exact (Kd.R_reads' HO568.out).2.1);rintro e w27 ⟨rfl,hb⟩;refine ⟨_,rfl,?_⟩;have n0_:=aM (Kd.R_below (z0_ HO568.out) hb);have n1_:=aM (IsS118.below (z12_ HI565.out) hb);have n2_:=aM (below_step (z10_ HB.out HI565.out) hb);clear HO568;clear HI565;clear HB;have HO568:=n0_;have HI565:=n1_;have HB:=n2_;clear n0_ n1_ n2_;(try clear hb)) | ((with_reducible refine gc_ 74 ?_);refine gl_ (some 11) Try.func74 #[.pointer (some ⟨g565,0,none⟩),.int .i64 4] ?_;(with_reducible refine (Y2.calls g565 t561 t569 t570 t571 4 t573 t574 t575 t576 w _ ?s1 ?s2 A5.out).mono ?_);(case s1=>repeat (first | (with_reducible first | exact HI565.out | apply IsS118.alloc | apply IsS118.drewN | apply IsS118.drew | apply IsS118.set_1 | apply IsS118.set_2 | apply IsS118.set_3) | exact HI565.out));(case s2=>repeat (first | (with_reducible first | exact HB.out | apply below_alloc | apply pw_below_drewN | apply below_drew1 | refine below_set ?_ (IsS118.ge HI565.out)) | exact HB.out));rintro e w28 ⟨rfl,hi,hb,hk⟩;refine ⟨_,rfl,?_⟩;have n0_:=aM (Kd.R_mono (Kd.R_keep (IsS118.apart (show IsS118 w _ g565 t561 t569 t570 t571 from by repeat (first | (with_reducible first | exact HI565.out | apply IsS118.alloc | apply IsS118.drewN | apply IsS118.drew | apply IsS118.set_1 | apply IsS118.set_2 | apply IsS118.set_3) | exact HI565.out)) (z0_ HO568.out) (by decide)) hk (fun _ h=>h.2)) (fun _ h=>h.1));have n1_:=aM (hb);have n2_:=aM (hi);clear HO568;clear HB;clear HI565;have HO568:=n0_;have HB:=n1_;have HI565:=n2_;clear n0_ n1_ n2_;(try clear hb);(try clear hk);(try clear hi)))
   go_ret
   exact ⟨z5_,z10_ HB.out HI565.out⟩


/-! ### Y71: function 93 -/
def Y71.f (a0:ByteArray):Option (Bool):=some (decide ((a0.size:Int)>8000))
theorem Y71.calls (a0:ByteArray) (r:Bool) (w:World) (h:Y71.f a0=some r) :
  Calls Try.prog 93 #[.string a0] w fun e w'=>e = .returned (.bool r)∧Drawn0 w w':=by
 have H:(some (decide ((a0.size:Int)>8000)))=some r:=h
 clear h
 obtain rfl:=sI H
 go_enter Try.func93,Try.ntmps93
 go_wp2
 go_ret
 exact ⟨z3_,z14_⟩


/-! ### Y7: function 112 -/
def Y7.l0:Nat→List ByteArray→Int→Int→Option (Int)
 | 0,_,_,_=>none
 | k+1,x0,x7,x8=>if x8<x7 then (if 0≤x8 then (if x8<(x0.length:Int) then ((Y71.f (rdOf ByteArray.empty x0 x8)).bind fun t255=>(if t255=true then (some x8) else (Y7.l0 k x0 x7 (wrap64 (x8+1))))) else (none)) else (none)) else (some (-1))
def Y7.f (k:Nat) (l0:List ByteArray)  : Option (Int):=Y7.l0 k l0 (l0.length:Int) 0
theorem Y7.mono_l:∀ k,(∀ y0 y1 y2,LeO (Y7.l0 k y0 y1 y2) (Y7.l0 (k+1) y0 y1 y2))
 | 0=>by intros <;> exact LeO.none _
 | k+1=>by
  have ih0:=Y7.mono_l k
  ·intros
   unfold Y7.l0
   exact mO
theorem Y7.mono:∀ a0 k,LeO (Y7.f k a0) (Y7.f (k+1) a0):=by
 intro a0 k
 have ih0:=Y7.mono_l k
 unfold Y7.f
 exact mO
theorem Y7.calls (k:Nat) (A0:Option Addr) (c0:Nat) (l0:List ByteArray)  (r:Int) (w:World) (hr0:Kd.C Kd.string w A0 l0.length l0) (hc0:l0.length≤c0) (h:Y7.f k l0=some r) :
  Calls Try.prog 112 #[.slice A0 l0.length c0,.func (.func 93) #[] #[]] w fun e w'=>e = .returned (.int .i64 r)∧Drawn0 w w':=by
 have HR0:=aM hr0
 have HC0:=aM hc0
 clear hr0 hc0
 have H:(Y7.l0 k l0 (l0.length:Int) 0)=some r:=h
 clear h
 have H':=aM H
 clear H
 go_enter Try.func112,Try.ntmps112
 go_wp2
 go_loopg [8] k (fun kq v8 w'=>∃ (x8_1:Int),v8 = .int .i64 x8_1∧Aside0 (Y7.l0 kq l0 (l0.length:Int) x8_1=some r)∧Aside0 (kq≤k)∧Drawn0 w w')
 case atStart=>exact ⟨(0),(z3_),H',⟨Nat.le_refl _⟩,z14_⟩
 case round =>
  clear H'
  try clear p2
  obtain ⟨x8_1,rfl,HA,HK1,⟨m1,rfl⟩⟩:=hrel
  cases gk with
  | zero=>exact absurd HA.out (by simp [Y7.l0])
  | succ k1 =>
   have H:=HA.out
   clear HA
   simp only [Y7.l0] at H
   by_cases c3:x8_1<(l0.length:Int)
   ·rw [if_pos c3] at H
    have c3b0:decide (x8_1<(l0.length:Int))=true:=dE c3
    clear c3
    by_cases c4:0≤x8_1
    ·rw [if_pos c4] at H
     have c4b0:decide (0≤x8_1)=true:=dE c4
     clear c4
     by_cases c5:x8_1<(l0.length:Int)
     ·rw [if_pos c5] at H
      have c5b0:decide (x8_1<(l0.length:Int))=true:=dE c5
      clear c5
      replace H:=bS H
      obtain ⟨t255,A60,H⟩:=H
      replace H:(if t255=true then (some x8_1) else (Y7.l0 k1 l0 (l0.length:Int) (wrap64 (x8_1+1))))=some r:=H
      have A6:=aM A60
      clear A60
      by_cases c7:t255=true
      ·subst c7
       have H1:(some x8_1)=some r:=by rw [if_pos rfl] at H;exact H
       clear H
       have H:=H1
       clear H1
       obtain rfl:=sI H
       have p254:0≤(x8_1:Int):=dT (z7_)
       have q254:x8_1<(l0.length:Int):=dT (z7_)
       obtain ⟨ad254,e254,hx254_0⟩:=Kd.at_string HR0.out x8_1 p254 q254
       cases e254
       replace p254:=eq_true p254
       replace q254:=eq_true q254
       go_wp2_with (first | (go_at_call 93;(with_reducible refine (Y71.calls (rdOf ByteArray.empty l0 x8_1) true _ A6.out).mono ?_);rintro e w' ⟨rfl,⟨nd,rfl⟩⟩))
       go_ret
       exact ⟨z3_,z14_⟩
      ·replace c7:=Bool.eq_false_iff.mpr c7
       subst c7
       have H1:(Y7.l0 k1 l0 (l0.length:Int) (wrap64 (x8_1+1)))=some r:=by rw [if_neg (show ¬ (false=true) by decide)] at H;exact H
       clear H
       have H:=H1
       clear H1
       have H':=aM H
       clear H
       have p254:0≤(x8_1:Int):=dT (z7_)
       have q254:x8_1<(l0.length:Int):=dT (z7_)
       obtain ⟨ad254,e254,hx254_0⟩:=Kd.at_string HR0.out x8_1 p254 q254
       cases e254
       replace p254:=eq_true p254
       replace q254:=eq_true q254
       go_wp2_with (first | (go_at_call 93;(with_reducible refine (Y71.calls (rdOf ByteArray.empty l0 x8_1) false _ A6.out).mono ?_);rintro e w' ⟨rfl,⟨nd,rfl⟩⟩))
       go_roundg k1
       case measure=>have:=HK1.out;omega
       case rel=>exact ⟨(wrap64 (x8_1+1)),(z3_),H',⟨by have:=HK1.out;omega⟩,z14_⟩
     ·rw [if_neg c5] at H
      exact nO H
    ·rw [if_neg c4] at H
     exact nO H
   ·rw [if_neg c3] at H
    have c3b0:decide (x8_1<(l0.length:Int))=false:=dF c3
    clear c3
    obtain rfl:=sI H
    go_wp2
    go_ret
    exact ⟨z3_,z14_⟩


/-! ### Y28: function 92 -/
def Y28.f (k:Nat) (l0:List ByteArray)  : Option (Bool):=(Y7.f k l0).bind fun t256=>(some (decide (t256≥0)))
theorem Y28.mono:∀ a0 k,LeO (Y28.f k a0) (Y28.f (k+1) a0):=by
 intro a0 k
 have m0:=@Y7.mono
 unfold Y28.f
 exact mO
theorem Y28.calls (k:Nat) (A0:Option Addr) (c0:Nat) (l0:List ByteArray)  (r:Bool) (w:World) (hr0:Kd.C Kd.string w A0 l0.length l0) (hc0:l0.length≤c0) (h:Y28.f k l0=some r) :
  Calls Try.prog 92 #[.slice A0 l0.length c0,.func (.func 93) #[] #[]] w fun e w'=>e = .returned (.bool r)∧Drawn0 w w':=by
 have HR0:=aM hr0
 have HC0:=aM hc0
 clear hr0 hc0
 have H:((Y7.f k l0).bind fun t256=>(some (decide (t256≥0))))=some r:=h
 clear h
 replace H:=bS H
 obtain ⟨t256,A30,H⟩:=H
 replace H:(some (decide (t256≥0)))=some r:=H
 have A3:=aM A30
 clear A30
 obtain rfl:=sI H
 go_enter Try.func92,Try.ntmps92
 go_wp2_with (first | ((with_reducible refine gc_ 112 ?_);refine gl_ (some 7) Try.func112 #[.slice A0 l0.length c0,.func (.func 93) #[] #[]] ?_;(with_reducible refine (Y7.calls k _ _ l0  t256 _ ?s1 ?s2 A3.out).mono ?_);(case s1=>repeat (first | exact HR0.out | (with_reducible refine Kd.C_alloc ?_ _) | (with_reducible refine Kd.C_drewN ?_ _) | (with_reducible refine Kd.C_drew ?_)));(case s2=>exact HC0.out);rintro e w' ⟨rfl,⟨nd,rfl⟩⟩;refine ⟨_,rfl,?_⟩))
 go_ret
 exact ⟨z3_,z14_⟩


/-! ### Y52: function 61 -/
def Y52.f (k:Nat) (l0:List ByteArray):Option (Bool):=(Y28.f k l0).bind fun t257=>(some t257)
theorem Y52.mono:∀ a0 k,LeO (Y52.f k a0) (Y52.f (k+1) a0):=by
 intro a0 k
 have m0:=@Y28.mono
 unfold Y52.f
 exact mO
theorem Y52.calls (k:Nat) (A0:Option Addr) (c0:Nat) (l0:List ByteArray) (r:Bool) (w:World) (hr0:Kd.C Kd.string w A0 l0.length l0) (hc0:l0.length≤c0) (h:Y52.f k l0=some r) :
  Calls Try.prog 61 #[.slice A0 l0.length c0] w fun e w'=>e = .returned (.bool r)∧Drawn0 w w':=by
 have HR0:=aM hr0
 have HC0:=aM hc0
 clear hr0 hc0
 have H:((Y28.f k l0).bind fun t257=>(some t257))=some r:=h
 clear h
 replace H:=bS H
 obtain ⟨t257,A20,H⟩:=H
 replace H:(some t257)=some r:=H
 have A2:=aM A20
 clear A20
 obtain rfl:=sI H
 go_enter Try.func61,Try.ntmps61
 go_wp2_with (first | ((with_reducible refine gc_ 92 ?_);refine gl_ (some 4) Try.func92 #[.slice A0 l0.length c0,.func (.func 93) #[] #[]] ?_;(with_reducible refine (Y28.calls k _ _ l0  t257 _ ?s1 ?s2 A2.out).mono ?_);(case s1=>repeat (first | exact HR0.out | (with_reducible refine Kd.C_alloc ?_ _) | (with_reducible refine Kd.C_drewN ?_ _) | (with_reducible refine Kd.C_drew ?_)));(case s2=>exact HC0.out);rintro e w' ⟨rfl,⟨nd,rfl⟩⟩;refine ⟨_,rfl,?_⟩))
 go_ret
 exact ⟨z3_,z14_⟩


/-! ### Y66: function 89 -/
def Y66.f (a0:ByteArray):Option (Int):=some (a0.size:Int)
theorem Y66.calls (a0:ByteArray) (r:Int) (w:World) (h:Y66.f a0=some r) :
  Calls Try.prog 89 #[.string a0] w fun e w'=>e = .returned (.int .i64 r)∧Drawn0 w w':=by
 have H:(some (a0.size:Int))=some r:=h
 clear h
 obtain rfl:=sI H
 go_enter Try.func89,Try.ntmps89
 go_wp2
 go_ret
 exact ⟨z3_,z14_⟩


/-! ### Y18: function 116 -/
mutual
def Y18.l0:Nat→ByteArray→Int→Int→Int→Option (Int × Int × Int)
 | 0,_,_,_,_=>none
 | k+1,x0,x1,x5,x15=>if x15<10 then ((Y66.f x0).bind fun t590=>(if x1≥t590 then (Y18.j1 k x0 x1 x5 x15 x15 true) else ((Y66.f x0).bind fun t591=>(Y18.j1 k x0 x1 x5 x15 x15 (decide (x15≥(wrap64 (t591-x1)))))))) else (some (0,0,3))
def Y18.j1:Nat→ByteArray→Int→Int→Int→Int→Bool→Option (Int × Int × Int)
 | 0,_,_,_,_,_,_=>none
 | k+1,x0,x1,x5,x6,x15,x29=>if x29=true then (some (0,0,4)) else (if 0≤(wrap64 (x1+x6)) then (if (wrap64 (x1+x6))<(x0.size:Int) then (if x6=9 then (Y18.j2 k x0 x1 x5 x6 (bt x0 (wrap64 (x1+x6))) x15 (decide ((bt x0 (wrap64 (x1+x6)))>1))) else (Y18.j2 k x0 x1 x5 x6 (bt x0 (wrap64 (x1+x6))) x15 false)) else (none)) else (none))
def Y18.j2:Nat→ByteArray→Int→Int→Int→Int→Int→Bool→Option (Int × Int × Int)
 | 0,_,_,_,_,_,_,_=>none
 | k+1,x0,x1,x5,x6,x7,x15,x41=>if x41=true then (some (0,0,3)) else (if 0≤(IntKind.u64.wrap (7*(IntKind.u64.wrap (x6)))) then (if x7<128 then (if x7=0 then (if x6>0 then (some (0,0,3)) else (some (Go.bits .xor .i64 (wrap64 ((Go.bits .or .u64 x5 (shl .u64 (IntKind.u64.wrap (Go.bits .and .u8 x7 127)) (IntKind.u64.wrap (7*(IntKind.u64.wrap (x6)))))) / 2)) (wrap64 (-(wrap64 (Go.bits .and .u64 (Go.bits .or .u64 x5 (shl .u64 (IntKind.u64.wrap (Go.bits .and .u8 x7 127)) (IntKind.u64.wrap (7*(IntKind.u64.wrap (x6)))))) 1)))),wrap64 ((wrap64 (x1+x6))+1),0))) else (some (Go.bits .xor .i64 (wrap64 ((Go.bits .or .u64 x5 (shl .u64 (IntKind.u64.wrap (Go.bits .and .u8 x7 127)) (IntKind.u64.wrap (7*(IntKind.u64.wrap (x6)))))) / 2)) (wrap64 (-(wrap64 (Go.bits .and .u64 (Go.bits .or .u64 x5 (shl .u64 (IntKind.u64.wrap (Go.bits .and .u8 x7 127)) (IntKind.u64.wrap (7*(IntKind.u64.wrap (x6)))))) 1)))),wrap64 ((wrap64 (x1+x6))+1),0))) else (Y18.l0 k x0 x1 (Go.bits .or .u64 x5 (shl .u64 (IntKind.u64.wrap (Go.bits .and .u8 x7 127)) (IntKind.u64.wrap (7*(IntKind.u64.wrap (x6)))))) (wrap64 (x15+1)))) else (none))
end
def Y18.f (k:Nat) (a0:ByteArray) (a1:Int):Option (Int × Int × Int):=(Y52.f k (([a0]:List ByteArray))).bind fun t589=>(if t589=true then (some (0,0,2)) else (if a1<0 then (some (0,0,1)) else (Y18.l0 k a0 a1 0 0)))
theorem Y18.mono_l:∀ k,(∀ y0 y1 y2 y3,LeO (Y18.l0 k y0 y1 y2 y3) (Y18.l0 (k+1) y0 y1 y2 y3))∧(∀ y0 y1 y2 y3 y4 y5,LeO (Y18.j1 k y0 y1 y2 y3 y4 y5) (Y18.j1 (k+1) y0 y1 y2 y3 y4 y5))∧(∀ y0 y1 y2 y3 y4 y5 y6,LeO (Y18.j2 k y0 y1 y2 y3 y4 y5 y6) (Y18.j2 (k+1) y0 y1 y2 y3 y4 y5 y6))
 | 0=>by refine ⟨?_,?_,?_⟩ <;> intros <;> exact LeO.none _
 | k+1=>by
  obtain ⟨ih0,ih1,ih2⟩:=Y18.mono_l k
  have m0:=@Y52.mono
  refine ⟨?_,?_,?_⟩
  ·intros
   unfold Y18.l0
   exact mO
  ·intros
   unfold Y18.j1
   exact mO
  ·intros
   unfold Y18.j2
   exact mO
theorem Y18.mono:∀ a0 a1 k,LeO (Y18.f k a0 a1) (Y18.f (k+1) a0 a1):=by
 intro a0 a1 k
 have m0:=@Y52.mono
 obtain ⟨ih0,ih1,ih2⟩:=Y18.mono_l k
 unfold Y18.f
 exact mO
theorem Y18.calls (k:Nat) (a0:ByteArray) (a1:Int) (r1:Int) (r2:Int) (r3:Int) (w:World) (h:Y18.f k a0 a1=some (r1,r2,r3)) :
  Calls Try.prog 116 #[.string a0,.int .i64 a1] w fun e w'=>e = .returned (.agg #[.int .i64 r1,.int .i64 r2,.int .i64 r3])∧Below w.heap.size w w':=by
 have hu130:=Try.underlying130
 have HB:=aM (Below.refl w.heap.size w)
 have H:((Y52.f k (([a0]:List ByteArray))).bind fun t589=>(if t589=true then (some (0,0,2)) else (if a1<0 then (some (0,0,1)) else (Y18.l0 k a0 a1 0 0))))=some (r1,r2,r3):=h
 clear h
 obtain ⟨y586,hy586⟩:∃ y_:List ByteArray,y_=(([a0]:List ByteArray)):=⟨_,rfl⟩
 replace H:((Y52.f k y586).bind fun t589=>(if t589=true then (some (0,0,2)) else (if a1<0 then (some (0,0,1)) else (Y18.l0 k a0 a1 0 0))))=some (r1,r2,r3):=by first | (rw [hy586];with_reducible exact H) | (have H2_:=(Option.bind_some _ _).symm.trans H;rw [hy586];with_reducible exact H2_) | (have H2_:=(Option.bind_some _ _).symm.trans H;with_reducible exact H2_) | with_reducible exact H | (rw [hy586];exact H) | exact H
 have Ny586:=aM hy586
 clear hy586
 replace H:=bS H
 obtain ⟨t589,A30,H⟩:=H
 replace H:(if t589=true then (some (0,0,2)) else (if a1<0 then (some (0,0,1)) else (Y18.l0 k a0 a1 0 0)))=some (r1,r2,r3):=H
 have A3:=aM A30
 clear A30
 by_cases c4:t589=true
 ·subst c4
  have H1:(some (0,0,2))=some (r1,r2,r3):=by rw [if_pos rfl] at H;exact H
  clear H
  have H:=H1
  clear H1
  simp only [Option.some.injEq,Prod.mk.injEq] at H
  obtain ⟨rfl,rfl,rfl⟩:=H
  go_enter Try.func116,Try.ntmps116
  go_wp2_with (first | ((with_reducible refine gd_ 4 ?_);refine be_ 4 #[.int .i64 0,.int .i64 0,.int .i64 0] 130 ?_;intro gb585 hg w5 hbox hb;have n0_:=aM (below_step (z1_ HB.out) hb);have n1_:=aM (hbox);have n2_:=aM ((z8_ HB.out:w.heap.size≤gb585));have n3_:=aM ((z8_ HB.out:w.heap.size≤gb585));clear HB;have HB:=n0_;have BK585:=n1_;have GW585:=n2_;have GE585:=n3_;clear n0_ n1_ n2_ n3_;clear hb hbox hg) | ((with_reducible refine gd_ 9 ?_);refine Kd.R_lit Kd.string _ 9 ?hg (N:=9) ?hd (xs:=([a0]:List ByteArray)) (inner:=[.string a0]) (ok:=fun _=>True) (okp:=fun _=>True) ?hr ?hp (fun _ hk=>hk) trivial (Below.refl _ _) (Nat.le_refl _) (by simp) ?_;(case hd=>rfl);(case hg=>rfl);(case hr=>first | (go_simp;done) | (go_simp;rfl));(case hp=>exact (Reps.one (show Kd.M Kd.string _ _ _ a0 [.string a0] from rfl) (Reps.none _ _)));intro v587 w6 ho7 hb hg_ hnew_;clear hg_ hnew_;(first | rw [← Ny586.out] at ho7 | (simp only [Int.reduceToNat] at ho7;rw [← Ny586.out] at ho7));have n0_:=aM (Kd.R_lower ho7 (below_size (z4_ HB.out GE585.out)));have n1_:=aM (blkB_ BK585.out hb);have n2_:=aM (below_step (z4_ HB.out GE585.out) hb);clear BK585;clear HB;have HO588:=n0_;have BK585:=n1_;have HB:=n2_;clear n0_ n1_ n2_;clear hb ho7;obtain ⟨Ao8,co8,eo8⟩:=Kd.R_slice HO588.out;subst eo8) | ((with_reducible refine gc_ 61 ?_);refine gl_ (some 10) Try.func61 #[.slice Ao8 y586.length co8] ?_;(with_reducible refine (Y52.calls k _ _ y586 true _ ?s1 ?s2 A3.out).mono ?_);(case s1=>repeat (first | exact (Kd.R_reads' HO588.out).2.2 | (with_reducible refine Kd.C_alloc ?_ _) | (with_reducible refine Kd.C_drewN ?_ _) | (with_reducible refine Kd.C_drew ?_)));(case s2=>exact (Kd.R_reads' HO588.out).2.1);rintro e w' ⟨rfl,⟨nd,rfl⟩⟩;refine ⟨_,rfl,?_⟩;(try (rw [drewN_self w6];generalize hq_:World.drewN w6 _=w6;have n0_:Aside0 (Kd.R Kd.string 9 w6 w.heap.size (fun _=>True) (.slice Ao8 y586.length co8) y586):=⟨z42_ HO588.out⟩;have n1_:Aside0 (w6.heap[gb585]? = some (.cells #[.int .i64 0,.int .i64 0,.int .i64 0] 130 (0,0))):=⟨z37_ BK585.out⟩;have n2_:Aside0 (Below w.heap.size w w6):=⟨z43_ HB.out GE585.out⟩;clear HO588 BK585 HB hq_;have HO588:=n0_;have BK585:=n1_;have HB:=n2_;clear n0_ n1_ n2_));have ⟨hcz9_0,hcz9_1,hcz9_2,hfz9_0,hfz9_1,hfz9_2⟩:=cz3_ BK585.out))
  refine bodyPost_ret (results_cell_row rfl _ _ gb585 130 #[.int .i64 0,.int .i64 0,.int .i64 2] (0,0) _ rfl (z18_ BK585.out) Try.underlying130 rfl (by kernel_rfl)) rfl ?_
  exact ⟨z5_,z4_ HB.out GE585.out⟩
 ·replace c4:=Bool.eq_false_iff.mpr c4
  subst c4
  have H1:(if a1<0 then (some (0,0,1)) else (Y18.l0 k a0 a1 0 0))=some (r1,r2,r3):=by rw [if_neg (show ¬ (false=true) by decide)] at H;exact H
  clear H
  have H:=H1
  clear H1
  by_cases c10:a1<0
  ·rw [if_pos c10] at H
   have c10b0:decide (a1<0)=true:=dE c10
   clear c10
   simp only [Option.some.injEq,Prod.mk.injEq] at H
   obtain ⟨rfl,rfl,rfl⟩:=H
   go_enter Try.func116,Try.ntmps116
   go_wp2_with (first | ((with_reducible refine gd_ 4 ?_);refine be_ 4 #[.int .i64 0,.int .i64 0,.int .i64 0] 130 ?_;intro gb585 hg w11 hbox hb;have n0_:=aM (below_step (z1_ HB.out) hb);have n1_:=aM (hbox);have n2_:=aM ((z8_ HB.out:w.heap.size≤gb585));have n3_:=aM ((z8_ HB.out:w.heap.size≤gb585));clear HB;have HB:=n0_;have BK585:=n1_;have GW585:=n2_;have GE585:=n3_;clear n0_ n1_ n2_ n3_;clear hb hbox hg) | ((with_reducible refine gd_ 9 ?_);refine Kd.R_lit Kd.string _ 9 ?hg (N:=9) ?hd (xs:=([a0]:List ByteArray)) (inner:=[.string a0]) (ok:=fun _=>True) (okp:=fun _=>True) ?hr ?hp (fun _ hk=>hk) trivial (Below.refl _ _) (Nat.le_refl _) (by simp) ?_;(case hd=>rfl);(case hg=>rfl);(case hr=>first | (go_simp;done) | (go_simp;rfl));(case hp=>exact (Reps.one (show Kd.M Kd.string _ _ _ a0 [.string a0] from rfl) (Reps.none _ _)));intro v587 w12 ho13 hb hg_ hnew_;clear hg_ hnew_;(first | rw [← Ny586.out] at ho13 | (simp only [Int.reduceToNat] at ho13;rw [← Ny586.out] at ho13));have n0_:=aM (Kd.R_lower ho13 (below_size (z4_ HB.out GE585.out)));have n1_:=aM (blkB_ BK585.out hb);have n2_:=aM (below_step (z4_ HB.out GE585.out) hb);clear BK585;clear HB;have HO588:=n0_;have BK585:=n1_;have HB:=n2_;clear n0_ n1_ n2_;clear hb ho13;obtain ⟨Ao14,co14,eo14⟩:=Kd.R_slice HO588.out;subst eo14) | ((with_reducible refine gc_ 61 ?_);refine gl_ (some 10) Try.func61 #[.slice Ao14 y586.length co14] ?_;(with_reducible refine (Y52.calls k _ _ y586 false _ ?s1 ?s2 A3.out).mono ?_);(case s1=>repeat (first | exact (Kd.R_reads' HO588.out).2.2 | (with_reducible refine Kd.C_alloc ?_ _) | (with_reducible refine Kd.C_drewN ?_ _) | (with_reducible refine Kd.C_drew ?_)));(case s2=>exact (Kd.R_reads' HO588.out).2.1);rintro e w' ⟨rfl,⟨nd,rfl⟩⟩;refine ⟨_,rfl,?_⟩;(try (rw [drewN_self w12];generalize hq_:World.drewN w12 _=w12;have n0_:Aside0 (Kd.R Kd.string 9 w12 w.heap.size (fun _=>True) (.slice Ao14 y586.length co14) y586):=⟨z42_ HO588.out⟩;have n1_:Aside0 (w12.heap[gb585]? = some (.cells #[.int .i64 0,.int .i64 0,.int .i64 0] 130 (0,0))):=⟨z37_ BK585.out⟩;have n2_:Aside0 (Below w.heap.size w w12):=⟨z43_ HB.out GE585.out⟩;clear HO588 BK585 HB hq_;have HO588:=n0_;have BK585:=n1_;have HB:=n2_;clear n0_ n1_ n2_));have ⟨hcz15_0,hcz15_1,hcz15_2,hfz15_0,hfz15_1,hfz15_2⟩:=cz3_ BK585.out))
   refine bodyPost_ret (results_cell_row rfl _ _ gb585 130 #[.int .i64 0,.int .i64 0,.int .i64 1] (0,0) _ rfl (z18_ BK585.out) Try.underlying130 rfl (by kernel_rfl)) rfl ?_
   exact ⟨z5_,z4_ HB.out GE585.out⟩
  ·rw [if_neg c10] at H
   have c10b0:decide (a1<0)=false:=dF c10
   clear c10
   have H':=aM H
   clear H
   go_enter Try.func116,Try.ntmps116
   go_wp2_with (first | ((with_reducible refine gd_ 4 ?_);refine be_ 4 #[.int .i64 0,.int .i64 0,.int .i64 0] 130 ?_;intro gb585 hg w16 hbox hb;have n0_:=aM (below_step (z1_ HB.out) hb);have n1_:=aM (hbox);have n2_:=aM ((z8_ HB.out:w.heap.size≤gb585));have n3_:=aM ((z8_ HB.out:w.heap.size≤gb585));clear HB;have HB:=n0_;have BK585:=n1_;have GW585:=n2_;have GE585:=n3_;clear n0_ n1_ n2_ n3_;clear hb hbox hg) | ((with_reducible refine gd_ 9 ?_);refine Kd.R_lit Kd.string _ 9 ?hg (N:=9) ?hd (xs:=([a0]:List ByteArray)) (inner:=[.string a0]) (ok:=fun _=>True) (okp:=fun _=>True) ?hr ?hp (fun _ hk=>hk) trivial (Below.refl _ _) (Nat.le_refl _) (by simp) ?_;(case hd=>rfl);(case hg=>rfl);(case hr=>first | (go_simp;done) | (go_simp;rfl));(case hp=>exact (Reps.one (show Kd.M Kd.string _ _ _ a0 [.string a0] from rfl) (Reps.none _ _)));intro v587 w17 ho18 hb hg_ hnew_;clear hg_ hnew_;(first | rw [← Ny586.out] at ho18 | (simp only [Int.reduceToNat] at ho18;rw [← Ny586.out] at ho18));have n0_:=aM (Kd.R_lower ho18 (below_size (z4_ HB.out GE585.out)));have n1_:=aM (blkB_ BK585.out hb);have n2_:=aM (below_step (z4_ HB.out GE585.out) hb);clear BK585;clear HB;have HO588:=n0_;have BK585:=n1_;have HB:=n2_;clear n0_ n1_ n2_;clear hb ho18;obtain ⟨Ao19,co19,eo19⟩:=Kd.R_slice HO588.out;subst eo19) | ((with_reducible refine gc_ 61 ?_);refine gl_ (some 10) Try.func61 #[.slice Ao19 y586.length co19] ?_;(with_reducible refine (Y52.calls k _ _ y586 false _ ?s1 ?s2 A3.out).mono ?_);(case s1=>repeat (first | exact (Kd.R_reads' HO588.out).2.2 | (with_reducible refine Kd.C_alloc ?_ _) | (with_reducible refine Kd.C_drewN ?_ _) | (with_reducible refine Kd.C_drew ?_)));(case s2=>exact (Kd.R_reads' HO588.out).2.1);rintro e w' ⟨rfl,⟨nd,rfl⟩⟩;refine ⟨_,rfl,?_⟩))
   go_loopg [5,15] k (fun kq v5 v15 w'=>∃ (x5_1:Int) (x15_1:Int) (x586000_1:Int) (x586001_1:Int) (x586002_1:Int),v5 = .int .u64 x5_1∧v15 = .int .i64 x15_1∧Aside0 (Y18.l0 kq a0 a1 x5_1 x15_1=some (r1,r2,r3))∧Aside0 (kq≤k)∧Aside0 (w'.heap[gb585]? = some (.cells #[.int .i64 x586000_1,.int .i64 x586001_1,.int .i64 x586002_1] 130 (0,0)))∧Aside0 (Below w.heap.size w w'))
   case atStart=>exact ⟨(0),(0),(0),(0),(0),(z3_),(z3_),H',⟨Nat.le_refl _⟩,⟨z2_ BK585.out⟩,⟨z4_ HB.out GE585.out⟩⟩
   case round =>
    clear H'
    try clear c1
    try clear p2
    try clear c4
    try clear c6
    try clear c10
    try clear c10b0
    try clear c11
    try clear hcz15_0
    try clear hcz15_1
    try clear hcz15_2
    try clear hcz9_0
    try clear hcz9_1
    try clear hcz9_2
    try clear hfz15_0
    try clear hfz15_1
    try clear hfz15_2
    try clear hfz9_0
    try clear hfz9_1
    try clear hfz9_2
    obtain ⟨x5_1,x15_1,x586000_1,x586001_1,x586002_1,rfl,rfl,HA,HK1,BK585,HB⟩:=hrel
    cases gk with
    | zero=>exact absurd HA.out (by simp [Y18.l0])
    | succ k1 =>
     have H:=HA.out
     clear HA
     simp only [Y18.l0] at H
     by_cases c20:x15_1<10
     ·rw [if_pos c20] at H
      have c20b0:decide (x15_1<10)=true:=dE c20
      clear c20
      have HC21:=aM H
      clear H
      go_upto_region 9 with (fail)
      go_cut [29] (fun v29 wc=>∃ (kq:Nat) (x29_20:Bool),v29 = .bool x29_20∧Aside0 (Y18.j1 kq a0 a1 x5_1 x15_1 x15_1 x29_20=some (r1,r2,r3))∧Aside0 (kq≤k1)∧Aside0 (wc.heap[gb585]? = some (.cells #[.int .i64 x586000_1,.int .i64 x586001_1,.int .i64 x586002_1] 130 (0,0)))∧Aside0 (Below w.heap.size w wc))
      case first =>
       have H:=HC21.out
       clear HC21
       replace H:=bS H
       obtain ⟨t590,A220,H⟩:=H
       replace H:(if a1≥t590 then (Y18.j1 k1 a0 a1 x5_1 x15_1 x15_1 true) else ((Y66.f a0).bind fun t591=>(Y18.j1 k1 a0 a1 x5_1 x15_1 x15_1 (decide (x15_1≥(wrap64 (t591-a1)))))))=some (r1,r2,r3):=H
       have A22:=aM A220
       clear A220
       by_cases c23:a1≥t590
       ·rw [if_pos c23] at H
        have c23b0:decide (t590≤a1)=true:=dE c23
        clear c23
        (first | rw [c23b0] | (simp only [i64_w,i32_w];rw [c23b0]) | skip)
        have H':=aM H
        clear H
        go_wp2_with (first | ((with_reducible refine gc_ 89 ?_);refine gl_ (some 20) Try.func89 #[.string a0] ?_;(with_reducible refine (Y66.calls a0 t590 _ A22.out).mono ?_);rintro e w' ⟨rfl,⟨nd,rfl⟩⟩;refine ⟨_,rfl,?_⟩))
        go_meet
        case rel=>exact ⟨_,(true),(z3_),H',⟨z16_ HK1.out⟩,⟨z2_ BK585.out⟩,⟨z4_ HB.out GE585.out⟩⟩
       ·rw [if_neg c23] at H
        have c23b0:decide (t590≤a1)=false:=dF c23
        clear c23
        (first | rw [c23b0] | (simp only [i64_w,i32_w];rw [c23b0]) | skip)
        replace H:=bS H
        obtain ⟨t591,A240,H⟩:=H
        replace H:(Y18.j1 k1 a0 a1 x5_1 x15_1 x15_1 (decide (x15_1≥(wrap64 (t591-a1)))))=some (r1,r2,r3):=H
        have A24:=aM A240
        clear A240
        have H':=aM H
        clear H
        go_wp2_with (first | ((with_reducible refine gc_ 89 ?_);refine gl_ (some 20) Try.func89 #[.string a0] ?_;(with_reducible refine (Y66.calls a0 t590 _ A22.out).mono ?_);rintro e w' ⟨rfl,⟨nd,rfl⟩⟩;refine ⟨_,rfl,?_⟩) | (go_at_call 89;(with_reducible refine (Y66.calls a0 t591 _ A24.out).mono ?_);rintro e w' ⟨rfl,⟨nd,rfl⟩⟩))
        go_meet
        case rel=>exact ⟨_,(decide (x15_1≥(wrap64 (t591-a1)))),(z3_),H',⟨z16_ HK1.out⟩,⟨z2_ BK585.out⟩,⟨z4_ HB.out GE585.out⟩⟩
      case rest =>
       clear HC21
       try clear c1
       try clear c2
       try clear p2
       try clear c4
       try clear c6
       try clear p6
       try clear c8
       try clear c10
       try clear c10b0
       try clear c11
       try clear c20
       try clear c20b0
       try clear c23
       try clear c23b0
       try clear hcz15_0
       try clear hcz15_1
       try clear hcz15_2
       try clear hcz9_0
       try clear hcz9_1
       try clear hcz9_2
       try clear hfz15_0
       try clear hfz15_1
       try clear hfz15_2
       try clear hfz9_0
       try clear hfz9_1
       try clear hfz9_2
       try clear p2
       obtain ⟨kq,x29_20,rfl,HA,HJ20,BK585,HB⟩:=hcut
       cases kq with
       | zero=>exact absurd HA.out (by simp [Y18.j1])
       | succ kj20 =>
        have H:=HA.out
        clear HA
        simp only [Y18.j1] at H
        by_cases c25:x29_20=true
        ·subst c25
         have H1:(some (0,0,4))=some (r1,r2,r3):=by rw [if_pos rfl] at H;exact H
         clear H
         have H:=H1
         clear H1
         simp only [Option.some.injEq,Prod.mk.injEq] at H
         obtain ⟨rfl,rfl,rfl⟩:=H
         have ⟨hcz26_0,hcz26_1,hcz26_2,hfz26_0,hfz26_1,hfz26_2⟩:=cz3_ BK585.out
         go_wp2
         refine bodyPost_ret (results_cell_row rfl _ _ gb585 130 #[.int .i64 0,.int .i64 0,.int .i64 4] (0,0) _ rfl (z18_ BK585.out) Try.underlying130 rfl (by kernel_rfl)) rfl ?_
         exact ⟨z5_,z4_ HB.out GE585.out⟩
        ·replace c25:=Bool.eq_false_iff.mpr c25
         subst c25
         have H1:(if 0≤(wrap64 (a1+x15_1)) then (if (wrap64 (a1+x15_1))<(a0.size:Int) then (if x15_1=9 then (Y18.j2 kj20 a0 a1 x5_1 x15_1 (bt a0 (wrap64 (a1+x15_1))) x15_1 (decide ((bt a0 (wrap64 (a1+x15_1)))>1))) else (Y18.j2 kj20 a0 a1 x5_1 x15_1 (bt a0 (wrap64 (a1+x15_1))) x15_1 false)) else (none)) else (none))=some (r1,r2,r3):=by rw [if_neg (show ¬ (false=true) by decide)] at H;exact H
         clear H
         have H:=H1
         clear H1
         obtain ⟨ji27,hji27⟩:∃ j_:Int,(wrap64 (a1+x15_1))=j_:=⟨_,rfl⟩
         replace H:(if 0≤(ji27) then (if (ji27)<(a0.size:Int) then (if x15_1=9 then (Y18.j2 kj20 a0 a1 x5_1 x15_1 (bt a0 (ji27)) x15_1 (decide ((bt a0 (ji27))>1))) else (Y18.j2 kj20 a0 a1 x5_1 x15_1 (bt a0 (ji27)) x15_1 false)) else (none)) else (none))=some (r1,r2,r3):=by first | (rw [hji27] at H;exact H) | (simp only [hji27] at H ⊢;exact H)
         have hji27w:(IntKind.i64.wrap (a1+x15_1))=ji27:=(i64_w _).trans hji27
         by_cases c28:0≤(ji27)
         ·rw [if_pos c28] at H
          have c28b0:decide (0≤(ji27))=true:=dE c28
          clear c28
          by_cases c29:(ji27)<(a0.size:Int)
          ·rw [if_pos c29] at H
           have c29b0:decide ((ji27)<(a0.size:Int))=true:=dE c29
           clear c29
           have HC31:=aM H
           clear H
           have p30:0≤((ji27):Int):=dT (z7_)
           have q30:(ji27)<(a0.size:Int):=dT (z7_)
           have hx30:=bt_at a0 (ji27)
           replace p30:=eq_true p30
           replace q30:=eq_true q30
           go_upto_region 12 with (fail)
           go_cut [41] (fun v41 wc=>∃ (kq:Nat) (x41_30:Bool),v41 = .bool x41_30∧Aside0 (Y18.j2 kq a0 a1 x5_1 x15_1 (bt a0 (ji27)) x15_1 x41_30=some (r1,r2,r3))∧Aside0 (kq≤kj20)∧Aside0 (wc.heap[gb585]? = some (.cells #[.int .i64 x586000_1,.int .i64 x586001_1,.int .i64 x586002_1] 130 (0,0)))∧Aside0 (Below w.heap.size w wc))
           case first =>
            have H:=HC31.out
            clear HC31
            by_cases c32:x15_1=9
            ·rw [if_pos c32] at H
             have c32b0:(x15_1 == 9)=true:=beq_iff_eq.mpr c32
             have c32b1:(x15_1 != 9)=false:=bne_eq_false_iff_eq.mpr c32
             clear c32
             (first | rw [c32b0] | (simp only [i64_w,i32_w];rw [c32b0]) | skip)
             have H':=aM H
             clear H
             go_wp2
             go_meet
             case rel=>exact ⟨_,(decide ((bt a0 (ji27))>1)),(by first | rfl | (simp;done) | (simp only [← hji27] <;> (first | rfl | simp)) | (simp [*];done)),H',⟨z41_ HK1.out HJ20.out⟩,⟨z2_ BK585.out⟩,⟨z4_ HB.out GE585.out⟩⟩
            ·rw [if_neg c32] at H
             have c32b0:(x15_1 == 9)=false:=beq_eq_false_iff_ne.mpr c32
             have c32b1:(x15_1 != 9)=true:=bne_iff_ne.mpr c32
             (first | rw [c32b0] | (simp only [i64_w,i32_w];rw [c32b0]) | skip)
             have H':=aM H
             clear H
             go_wp2
             go_meet
             case rel=>exact ⟨_,(false),(z3_),H',⟨z41_ HK1.out HJ20.out⟩,⟨z2_ BK585.out⟩,⟨z4_ HB.out GE585.out⟩⟩
           case rest =>
            clear HC31
            try clear c1
            try clear c2
            try clear p2
            try clear c3
            try clear p3
            try clear q3
            try clear hx3
            try clear c4
            try clear c6
            try clear p6
            try clear c8
            try clear c10
            try clear c10b0
            try clear c11
            try clear c20
            try clear c20b0
            try clear c23
            try clear c23b0
            try clear c25
            try clear c28
            try clear c28b0
            try clear c29
            try clear c29b0
            try clear p30
            try clear q30
            try clear hx30
            try clear c32
            try clear c32b0
            try clear c32b1
            try clear hcz15_0
            try clear hcz15_1
            try clear hcz15_2
            try clear hcz26_0
            try clear hcz26_1
            try clear hcz26_2
            try clear hcz9_0
            try clear hcz9_1
            try clear hcz9_2
            try clear hfz15_0
            try clear hfz15_1
            try clear hfz15_2
            try clear hfz26_0
            try clear hfz26_1
            try clear hfz26_2
            try clear hfz9_0
            try clear hfz9_1
            try clear hfz9_2
            try clear p2
            try clear p30
            try clear p6
            try clear q30
            obtain ⟨kq,x41_30,rfl,HA,HJ30,BK585,HB⟩:=hcut
            cases kq with
            | zero=>exact absurd HA.out (by simp [Y18.j2])
            | succ kj30 =>
             have H:=HA.out
             clear HA
             simp only [Y18.j2] at H
             by_cases c33:x41_30=true
             ·subst c33
              have H1:(some (0,0,3))=some (r1,r2,r3):=by rw [if_pos rfl] at H;exact H
              clear H
              have H:=H1
              clear H1
              simp only [Option.some.injEq,Prod.mk.injEq] at H
              obtain ⟨rfl,rfl,rfl⟩:=H
              have ⟨hcz34_0,hcz34_1,hcz34_2,hfz34_0,hfz34_1,hfz34_2⟩:=cz3_ BK585.out
              go_wp2
              (try subst hji27)
              refine bodyPost_ret (results_cell_row rfl _ _ gb585 130 #[.int .i64 0,.int .i64 0,.int .i64 3] (0,0) _ rfl (z18_ BK585.out) Try.underlying130 rfl (by kernel_rfl)) rfl ?_
              exact ⟨by first | rfl | (simp [errW_none,errW_some] <;> rfl) | (simp only [← hji27];first | rfl | (simp [errW_none,errW_some] <;> rfl)) | (simp [*,errW_none,errW_some] <;> rfl),z4_ HB.out GE585.out⟩
             ·replace c33:=Bool.eq_false_iff.mpr c33
              subst c33
              have H1:(if 0≤(IntKind.u64.wrap (7*(IntKind.u64.wrap (x15_1)))) then (if (bt a0 (ji27))<128 then (if (bt a0 (ji27))=0 then (if x15_1>0 then (some (0,0,3)) else (some (Go.bits .xor .i64 (wrap64 ((Go.bits .or .u64 x5_1 (shl .u64 (IntKind.u64.wrap (Go.bits .and .u8 (bt a0 (ji27)) 127)) (IntKind.u64.wrap (7*(IntKind.u64.wrap (x15_1)))))) / 2)) (wrap64 (-(wrap64 (Go.bits .and .u64 (Go.bits .or .u64 x5_1 (shl .u64 (IntKind.u64.wrap (Go.bits .and .u8 (bt a0 (ji27)) 127)) (IntKind.u64.wrap (7*(IntKind.u64.wrap (x15_1)))))) 1)))),wrap64 ((wrap64 (a1+x15_1))+1),0))) else (some (Go.bits .xor .i64 (wrap64 ((Go.bits .or .u64 x5_1 (shl .u64 (IntKind.u64.wrap (Go.bits .and .u8 (bt a0 (ji27)) 127)) (IntKind.u64.wrap (7*(IntKind.u64.wrap (x15_1)))))) / 2)) (wrap64 (-(wrap64 (Go.bits .and .u64 (Go.bits .or .u64 x5_1 (shl .u64 (IntKind.u64.wrap (Go.bits .and .u8 (bt a0 (ji27)) 127)) (IntKind.u64.wrap (7*(IntKind.u64.wrap (x15_1)))))) 1)))),wrap64 ((wrap64 (a1+x15_1))+1),0))) else (Y18.l0 kj30 a0 a1 (Go.bits .or .u64 x5_1 (shl .u64 (IntKind.u64.wrap (Go.bits .and .u8 (bt a0 (ji27)) 127)) (IntKind.u64.wrap (7*(IntKind.u64.wrap (x15_1)))))) (wrap64 (x15_1+1)))) else (none))=some (r1,r2,r3):=by rw [if_neg (show ¬ (false=true) by decide)] at H;exact H
              clear H
              have H:=H1
              clear H1
              obtain ⟨ji35,hji35⟩:∃ j_:Int,(IntKind.u64.wrap (7*(IntKind.u64.wrap (x15_1))))=j_:=⟨_,rfl⟩
              replace H:(if 0≤(ji35) then (if (bt a0 (ji27))<128 then (if (bt a0 (ji27))=0 then (if x15_1>0 then (some (0,0,3)) else (some (Go.bits .xor .i64 (wrap64 ((Go.bits .or .u64 x5_1 (shl .u64 (IntKind.u64.wrap (Go.bits .and .u8 (bt a0 (ji27)) 127)) (ji35))) / 2)) (wrap64 (-(wrap64 (Go.bits .and .u64 (Go.bits .or .u64 x5_1 (shl .u64 (IntKind.u64.wrap (Go.bits .and .u8 (bt a0 (ji27)) 127)) (ji35))) 1)))),wrap64 ((wrap64 (a1+x15_1))+1),0))) else (some (Go.bits .xor .i64 (wrap64 ((Go.bits .or .u64 x5_1 (shl .u64 (IntKind.u64.wrap (Go.bits .and .u8 (bt a0 (ji27)) 127)) (ji35))) / 2)) (wrap64 (-(wrap64 (Go.bits .and .u64 (Go.bits .or .u64 x5_1 (shl .u64 (IntKind.u64.wrap (Go.bits .and .u8 (bt a0 (ji27)) 127)) (ji35))) 1)))),wrap64 ((wrap64 (a1+x15_1))+1),0))) else (Y18.l0 kj30 a0 a1 (Go.bits .or .u64 x5_1 (shl .u64 (IntKind.u64.wrap (Go.bits .and .u8 (bt a0 (ji27)) 127)) (ji35))) (wrap64 (x15_1+1)))) else (none))=some (r1,r2,r3):=by first | (rw [hji35] at H;exact H) | (simp only [hji35] at H ⊢;exact H)
              by_cases c36:0≤(ji35)
              ·rw [if_pos c36] at H
               have c36b0:=eq_true c36
               have c36b1:decide (0≤(ji35))=true:=dE c36
               clear c36
               obtain ⟨ji37,hji37⟩:∃ j_:Int,(shl .u64 (IntKind.u64.wrap (Go.bits .and .u8 (bt a0 (ji27)) 127)) (ji35))=j_:=⟨_,rfl⟩
               replace H:(if (bt a0 (ji27))<128 then (if (bt a0 (ji27))=0 then (if x15_1>0 then (some (0,0,3)) else (some (Go.bits .xor .i64 (wrap64 ((Go.bits .or .u64 x5_1 (ji37)) / 2)) (wrap64 (-(wrap64 (Go.bits .and .u64 (Go.bits .or .u64 x5_1 (ji37)) 1)))),wrap64 ((wrap64 (a1+x15_1))+1),0))) else (some (Go.bits .xor .i64 (wrap64 ((Go.bits .or .u64 x5_1 (ji37)) / 2)) (wrap64 (-(wrap64 (Go.bits .and .u64 (Go.bits .or .u64 x5_1 (ji37)) 1)))),wrap64 ((wrap64 (a1+x15_1))+1),0))) else (Y18.l0 kj30 a0 a1 (Go.bits .or .u64 x5_1 (ji37)) (wrap64 (x15_1+1))))=some (r1,r2,r3):=by first | (rw [hji37] at H;exact H) | (simp only [hji37] at H ⊢;exact H)
               have hji37_:(IntKind.u64.wrap ((IntKind.u64.wrap (Go.bits .and .u8 (bt a0 (ji27)) 127))*2 ^ min (ji35).toNat 64))=ji37:=hji37
               have hji37z:(ji35)≤64→(IntKind.u64.wrap ((IntKind.u64.wrap (Go.bits .and .u8 (bt a0 (ji27)) 127))*2 ^ (ji35).toNat))=ji37:=shl_small hji37
               by_cases c38:(bt a0 (ji27))<128
               ·rw [if_pos c38] at H
                have c38b0:decide ((bt a0 (ji27))<128)=true:=dE c38
                clear c38
                by_cases c39:(bt a0 (ji27))=0
                ·rw [if_pos c39] at H
                 have c39b0:((bt a0 (ji27)) == 0)=true:=beq_iff_eq.mpr c39
                 have c39b1:((bt a0 (ji27)) != 0)=false:=bne_eq_false_iff_eq.mpr c39
                 clear c39
                 by_cases c40:x15_1>0
                 ·rw [if_pos c40] at H
                  have c40b0:decide (0<x15_1)=true:=dE c40
                  clear c40
                  simp only [Option.some.injEq,Prod.mk.injEq] at H
                  obtain ⟨rfl,rfl,rfl⟩:=H
                  have ⟨hcz41_0,hcz41_1,hcz41_2,hfz41_0,hfz41_1,hfz41_2⟩:=cz3_ BK585.out
                  go_wp2
                  (try subst hji37)
                  (try subst hji35)
                  (try subst hji27)
                  refine bodyPost_ret (results_cell_row rfl _ _ gb585 130 #[.int .i64 0,.int .i64 0,.int .i64 3] (0,0) _ rfl (z18_ BK585.out) Try.underlying130 rfl (by kernel_rfl)) rfl ?_
                  exact ⟨z50_,z4_ HB.out GE585.out⟩
                 ·rw [if_neg c40] at H
                  have c40b0:decide (0<x15_1)=false:=dF c40
                  clear c40
                  simp only [Option.some.injEq,Prod.mk.injEq] at H
                  obtain ⟨rfl,rfl,rfl⟩:=H
                  have ⟨hcz42_0,hcz42_1,hcz42_2,hfz42_0,hfz42_1,hfz42_2⟩:=cz3_ BK585.out
                  go_wp2
                  (try subst hji35)
                  (try subst hji27)
                  refine bodyPost_ret (results_cell_row rfl _ _ gb585 130 #[.int .i64 (Go.bits .xor .i64 (wrap64 ((Go.bits .or .u64 x5_1 (ji37)) / 2)) (wrap64 (-(wrap64 (Go.bits .and .u64 (Go.bits .or .u64 x5_1 (ji37)) 1))))),.int .i64 (wrap64 ((wrap64 (a1+x15_1))+1)),.int .i64 0] (0,0) _ rfl (z18_ BK585.out) Try.underlying130 rfl (by kernel_rfl)) rfl ?_
                  exact ⟨z50_,z4_ HB.out GE585.out⟩
                ·rw [if_neg c39] at H
                 have c39b0:((bt a0 (ji27)) == 0)=false:=beq_eq_false_iff_ne.mpr c39
                 have c39b1:((bt a0 (ji27)) != 0)=true:=bne_iff_ne.mpr c39
                 simp only [Option.some.injEq,Prod.mk.injEq] at H
                 obtain ⟨rfl,rfl,rfl⟩:=H
                 have ⟨hcz43_0,hcz43_1,hcz43_2,hfz43_0,hfz43_1,hfz43_2⟩:=cz3_ BK585.out
                 go_wp2
                 (try subst hji35)
                 (try subst hji27)
                 refine bodyPost_ret (results_cell_row rfl _ _ gb585 130 #[.int .i64 (Go.bits .xor .i64 (wrap64 ((Go.bits .or .u64 x5_1 (ji37)) / 2)) (wrap64 (-(wrap64 (Go.bits .and .u64 (Go.bits .or .u64 x5_1 (ji37)) 1))))),.int .i64 (wrap64 ((wrap64 (a1+x15_1))+1)),.int .i64 0] (0,0) _ rfl (z18_ BK585.out) Try.underlying130 rfl (by kernel_rfl)) rfl ?_
                 exact ⟨z50_,z4_ HB.out GE585.out⟩
               ·rw [if_neg c38] at H
                have c38b0:decide ((bt a0 (ji27))<128)=false:=dF c38
                clear c38
                have H':=aM H
                clear H
                go_wp2
                go_roundg kj30
                case measure=>have:=HK1.out;have:=HJ20.out;have:=HJ30.out;omega
                case rel=>exact ⟨(Go.bits .or .u64 x5_1 (ji37)),(wrap64 (x15_1+1)),(x586000_1),(x586001_1),(x586002_1),(by first | rfl | (simp;done) | (simp only [← hji37] <;> (first | rfl | simp)) | (simp [*];done)),(z3_),H',⟨by have:=HK1.out;have:=HJ20.out;have:=HJ30.out;omega⟩,⟨z2_ BK585.out⟩,⟨z4_ HB.out GE585.out⟩⟩
              ·rw [if_neg c36] at H
               exact nO H
          ·rw [if_neg c29] at H
           exact nO H
         ·rw [if_neg c28] at H
          exact nO H
     ·rw [if_neg c20] at H
      have c20b0:decide (x15_1<10)=false:=dF c20
      clear c20
      simp only [Option.some.injEq,Prod.mk.injEq] at H
      obtain ⟨rfl,rfl,rfl⟩:=H
      have ⟨hcz44_0,hcz44_1,hcz44_2,hfz44_0,hfz44_1,hfz44_2⟩:=cz3_ BK585.out
      go_wp2
      refine bodyPost_ret (results_cell_row rfl _ _ gb585 130 #[.int .i64 0,.int .i64 0,.int .i64 3] (0,0) _ rfl (z18_ BK585.out) Try.underlying130 rfl (by kernel_rfl)) rfl ?_
      exact ⟨z5_,z4_ HB.out GE585.out⟩


/-- A state of type 95 at block g of W; what its slices lead to came in by w0. -/
def IsS95 (w0 W:World) (g:Nat) (f0:ByteArray) (f1:Int) (f2:Bool):Prop:=W.heap[g]? = some (.cells #[.string f0,.int .i64 f1,.bool f2] 95 (0,0))∧w0.heap.size≤g
theorem IsS95.grown {w0 W:World} {g:Nat} {f0:ByteArray} {f1:Int} {f2:Bool} {W1:World} {row:Option Nat} (h:IsS95 w0 W g f0 f1 f2) (hw:W.grownBy W1 row) (hne:some g≠row):IsS95 w0 W1 g f0 f1 f2:=by
 obtain ⟨hb,hg⟩:=h
 exact ⟨blk_grown hb hw hne,hg⟩
theorem IsS95.kept {w0 W:World} {g:Nat} {f0:ByteArray} {f1:Int} {f2:Bool} {W1:World} {S:Nat→Prop} (h:IsS95 w0 W g f0 f1 f2) (hk:Kept W W1 S) (hne:¬ S g):IsS95 w0 W1 g f0 f1 f2:=by
 obtain ⟨hb,hg⟩:=h
 exact ⟨blk_kept hb hk hne,hg⟩
theorem IsS95.below {w0 W:World} {g:Nat} {f0:ByteArray} {f1:Int} {f2:Bool} {W1:World} (h:IsS95 w0 W g f0 f1 f2) (hw:Below W.heap.size W W1):IsS95 w0 W1 g f0 f1 f2:=h.grown (grown_of_below hw none) (by simp)
theorem IsS95.alloc {w0 W:World} {g:Nat} {f0:ByteArray} {f1:Int} {f2:Bool} (h:IsS95 w0 W g f0 f1 f2) (o:Obj):IsS95 w0 (W.alloc o) g f0 f1 f2:=h.below (below_alloc (Below.refl _ _) o)
theorem IsS95.drewN {w0 W:World} {g:Nat} {f0:ByteArray} {f1:Int} {f2:Bool} (h:IsS95 w0 W g f0 f1 f2) (m:Nat):IsS95 w0 (W.drewN m) g f0 f1 f2:=h
theorem IsS95.drew {w0 W:World} {g:Nat} {f0:ByteArray} {f1:Int} {f2:Bool} (h:IsS95 w0 W g f0 f1 f2):IsS95 w0 W.drew g f0 f1 f2:=h
theorem IsS95.at_ {w0 W:World} {g:Nat} {f0:ByteArray} {f1:Int} {f2:Bool} {w':World} {m:Nat} (hq:W.drewN m=w') (h:IsS95 w0 W g f0 f1 f2):IsS95 w0 w' g f0 f1 f2:=by subst hq;exact IsS95.drewN h m
theorem IsS95.apart {w0 W:World} {g:Nat} {f0:ByteArray} {f1:Int} {f2:Bool} {α:Type} {d:Kd α} {e:Nat} {base:Nat} {ok:Nat→Prop} {v:Value} {xs:List α} (h:IsS95 w0 W g f0 f1 f2) (ho:d.R e W base ok v xs) (ht:∀ q,q ∈ e :: d.E→q≠95):d.R e W base (fun k=>ok k∧k≠g) v xs:=by
 obtain ⟨hb,hg⟩:=h
 exact Kd.R_types ho hb ht
theorem IsS95.own_ne {w0 W:World} {g:Nat} {f0:ByteArray} {f1:Int} {f2:Bool} {α:Type} {d:Kd α} {e:Nat} {base:Nat} {ok:Nat→Prop} {v:Value} {xs:List α} (h:IsS95 w0 W g f0 f1 f2) (ho:d.R e W base ok v xs) (ht:e≠95):some g≠v.ownBlock:=by
 obtain ⟨hb,hg⟩:=h
 exact Kd.R_ne ho hb ht
theorem IsS95.lt {w0 W:World} {g:Nat} {f0:ByteArray} {f1:Int} {f2:Bool} (h:IsS95 w0 W g f0 f1 f2):g<W.heap.size:=by
 obtain ⟨hb,hg⟩:=h
 exact blk_lt hb
theorem IsS95.ge {w0 W:World} {g:Nat} {f0:ByteArray} {f1:Int} {f2:Bool} (h:IsS95 w0 W g f0 f1 f2):w0.heap.size≤g:=by
 obtain ⟨hb,hg⟩:=h
 exact hg
theorem IsS95.far {w0 W:World} {g:Nat} {f0:ByteArray} {f1:Int} {f2:Bool} {p:Addr} (h:IsS95 w0 W g f0 f1 f2) (hne:g≠p.block) (u:Value):IsS95 w0 (W.setCell p u) g f0 f1 f2:=by
 obtain ⟨hb,hg⟩:=h
 exact ⟨blk_far hb hne u,hg⟩
theorem cellS95_0 {W:World} {g:Nat} {f0:ByteArray} {f1:Int} {f2:Bool} (h:W.heap[g]? = some (.cells #[.string f0,.int .i64 f1,.bool f2] 95 (0,0))):W.cell? ⟨g,0,none⟩=some (.string f0):=(blk_cell h 0).trans rfl
theorem IsS95.set_0 {w0 W:World} {g:Nat} {f0:ByteArray} {f1:Int} {f2:Bool} (h:IsS95 w0 W g f0 f1 f2) (x:ByteArray):IsS95 w0 (W.setCell ⟨g,0,none⟩ (.string x)) g x f1 f2:=by
 obtain ⟨hb,hg⟩:=h
 exact ⟨by simpa using blk_set hb 0 (.string x),hg⟩
theorem cellS95_1 {W:World} {g:Nat} {f0:ByteArray} {f1:Int} {f2:Bool} (h:W.heap[g]? = some (.cells #[.string f0,.int .i64 f1,.bool f2] 95 (0,0))):W.cell? ⟨g,1,none⟩=some (.int .i64 f1):=(blk_cell h 1).trans rfl
theorem IsS95.set_1 {w0 W:World} {g:Nat} {f0:ByteArray} {f1:Int} {f2:Bool} (h:IsS95 w0 W g f0 f1 f2) (x:Int):IsS95 w0 (W.setCell ⟨g,1,none⟩ (.int .i64 x)) g f0 x f2:=by
 obtain ⟨hb,hg⟩:=h
 exact ⟨by simpa using blk_set hb 1 (.int .i64 x),hg⟩
theorem cellS95_2 {W:World} {g:Nat} {f0:ByteArray} {f1:Int} {f2:Bool} (h:W.heap[g]? = some (.cells #[.string f0,.int .i64 f1,.bool f2] 95 (0,0))):W.cell? ⟨g,2,none⟩=some (.bool f2):=(blk_cell h 2).trans rfl
theorem IsS95.set_2 {w0 W:World} {g:Nat} {f0:ByteArray} {f1:Int} {f2:Bool} (h:IsS95 w0 W g f0 f1 f2) (x:Bool):IsS95 w0 (W.setCell ⟨g,2,none⟩ (.bool x)) g f0 f1 x:=by
 obtain ⟨hb,hg⟩:=h
 exact ⟨by simpa using blk_set hb 2 (.bool x),hg⟩
/-! ### Y27: function 101 -/
def Y27.f (k:Nat) (s0_0:ByteArray) (s0_1:Int) (s0_2:Bool):Option (Int × ByteArray × Int × Bool):=if s0_2=true then (some (0,s0_0,s0_1,s0_2)) else ((Y18.f k s0_0 s0_1).bind fun bt592=>(some (bt592.1,s0_0,bt592.2.1,(bt592.2.2 != 0))))
theorem Y27.mono:∀ a0 a1 a2 k,LeO (Y27.f k a0 a1 a2) (Y27.f (k+1) a0 a1 a2):=by
 intro a0 a1 a2 k
 have m0:=@Y18.mono
 unfold Y27.f
 exact mO
def Y27.T3:Bool × List (List Nat × List Nat):=(true,[([],[]),([0],[0]),([1],[1]),([2],[2]),([],[]),([4],[4]),([5],[5]),([6],[6]),([3,7],[3,7]),([],[]),([9,8,8,0,1,2,3,4,5,6,7,8,9],[8,9])])
def Y27.B3:List Nat:=[0,1,3,7,0,16,48,112,255,0,1023]
theorem Y27.tab3:rtab .any (opsOf Try.f101 3)=Y27.T3:=by kernel_rfl
theorem Y27.bits3:waitsOk Y27.T3.2 Y27.B3=true:=by kernel_rfl
def Y27.T4:Bool × List (List Nat × List Nat):=(true,[([],[]),([],[]),([],[]),([2],[2]),([],[]),([4],[4]),([5],[5]),([0,0,2,3],[0]),([7,0,2,3],[7]),([8,3,0,2,3],[3,8]),([1,0,1,2,3,4,5,6,7,8,9],[1]),([10,0,1,2,3,4,5,6,7,8,9],[10]),([11,6,9,0,1,2,3,4,5,6,7,8,9],[6,11])])
def Y27.B4:List Nat:=[0,0,0,4,0,16,48,13,141,397,1023,2047,4095]
theorem Y27.tab4:rtab .any (opsOf Try.f101 4)=Y27.T4:=by kernel_rfl
theorem Y27.bits4:waitsOk Y27.T4.2 Y27.B4=true:=by kernel_rfl
theorem Y27.calls (k:Nat) (g:Nat) (s0_0:ByteArray) (s0_1:Int) (s0_2:Bool) (r1:Int) (r2:ByteArray) (r3:Int) (r4:Bool) (w0 w:World) (hI:IsS95 w0 w g s0_0 s0_1 s0_2) (hB:Below w0.heap.size w0 w) (h:Y27.f k s0_0 s0_1 s0_2=some (r1,r2,r3,r4)) :
  Calls Try.prog 101 #[.pointer (some ⟨g,0,none⟩)] w fun e w'=>e = .returned (.int .i64 r1)∧IsS95 w0 w' g r2 r3 r4∧Below w0.heap.size w0 w'∧KeepBut w w' g none:=by
 have hu130:=Try.underlying130
 have HI0:=aM hI
 have HK:=aM (KeepBut.refl w g none)
 have HL:=aM hB.size
 clear hI
 have HW0:=aM hB.size
 have HB:=aM hB
 clear hB
 have H:(if s0_2=true then (some (0,s0_0,s0_1,s0_2)) else ((Y18.f k s0_0 s0_1).bind fun bt592=>(some (bt592.1,s0_0,bt592.2.1,(bt592.2.2 != 0)))))=some (r1,r2,r3,r4):=h
 clear h
 by_cases c2:s0_2=true
 ·subst c2
  have H1:(some (0,s0_0,s0_1,true))=some (r1,r2,r3,r4):=by rw [if_pos rfl] at H;exact H
  clear H
  have H:=H1
  clear H1
  simp only [Option.some.injEq,Prod.mk.injEq] at H
  obtain ⟨rfl,rfl,rfl,rfl⟩:=H
  obtain ⟨HGz3,hgz3⟩:=HI0.out
  have hcz3_0:=cellS95_0 HGz3
  have hcz3_1:=cellS95_1 HGz3
  have hcz3_2:=cellS95_2 HGz3
  have hfz3_0:=blk_frozen HGz3 0
  have hfz3_1:=blk_frozen HGz3 1
  have hfz3_2:=blk_frozen HGz3 2
  clear HGz3 hgz3
  go_enter Try.func101,Try.ntmps101
  go_wp2
  go_ret
  exact ⟨z5_,z21_ HI0.out,z22_ HB.out HI0.out,z6_ HK.out⟩
 ·replace c2:=Bool.eq_false_iff.mpr c2
  subst c2
  have H1:((Y18.f k s0_0 s0_1).bind fun bt592=>(some (bt592.1,s0_0,bt592.2.1,(bt592.2.2 != 0))))=some (r1,r2,r3,r4):=by rw [if_neg (show ¬ (false=true) by decide)] at H;exact H
  clear H
  have H:=H1
  clear H1
  replace H:=bS H
  obtain ⟨⟨t592,t593,t594⟩,A40,H⟩:=H
  replace H:(some (t592,s0_0,t593,(t594 != 0)))=some (r1,r2,r3,r4):=H
  have A4:=aM A40
  clear A40
  simp only [Option.some.injEq,Prod.mk.injEq] at H
  obtain ⟨rfl,rfl,rfl,rfl⟩:=H
  obtain ⟨HGz5,hgz5⟩:=HI0.out
  have hcz5_0:=cellS95_0 HGz5
  have hcz5_1:=cellS95_1 HGz5
  have hcz5_2:=cellS95_2 HGz5
  have hfz5_0:=blk_frozen HGz5 0
  have hfz5_1:=blk_frozen HGz5 1
  have hfz5_2:=blk_frozen HGz5 2
  clear HGz5 hgz5
  go_enter Try.func101,Try.ntmps101
  try go_wp2
  have n0_:=aM (IsS95.drew HI0.out)
  have n1_:=aM (keep_drew HK.out)
  have n2_:=aM (below_drew1 HB.out)
  clear HI0
  clear HK
  clear HB
  have HI0:=n0_
  have HK:=n1_
  have HB:=n2_
  clear n0_ n1_ n2_
  refine start_ (n:=11) (S:=fun w'=>w'.cell? ⟨g,0,none⟩=some (.string s0_0)∧w'.cell? ⟨g,1,none⟩=some (.int .i64 s0_1)∧w'.cell? ⟨g,2,none⟩=some (.bool false)) (ds:=[]) #[O,O,O,O,O,O,O,O,O,O,O] (by kernel_rfl) rfl rfl (cc3_ (aM HI0.out.1).out) (fun hHeld=>?_);refine with_tabW Y27.tab3 Y27.bits3 (fun HT_ HW_=>?_)
  generalize w.drew=w6 at HI0 HK HB hHeld ⊢
  refine pu_ 0 8 #[I,O,O,O,O,O,O,O,O,O,O] HT_.out ?_
  refine pu_ 1 9 #[I,I,O,O,O,O,O,O,O,O,O] HT_.out ?_
  refine pu_ 2 10 #[I,I,I,O,O,O,O,O,O,O,O] HT_.out ?_
  refine pu_ 4 12 #[I,I,I,O,I,O,O,O,O,O,O] HT_.out ?_
  refine pu_ 5 13 #[I,I,I,O,I,I,O,O,O,O,O] HT_.out ?_
  refine pu_ 6 14 #[I,I,I,O,I,I,I,O,O,O,O] HT_.out ?_
  refine tk3_ 3 11 #[I,I,I,I,I,I,I,O,O,O,O] HT_.out HW_.out hHeld ?_
  refine tk3_ 7 15 #[I,I,I,I,I,I,I,I,O,O,O] HT_.out HW_.out hHeld ?_
  refine join_ (σ:=Nat) 1 #[I,I,I,I,I,I,I,I,I,I,O] (fun s_=>[(16,.agg #[.int .i64 t592,.int .i64 t593,.int .i64 t594]),(3,.pointer (some ⟨s_,0,none⟩))]) (fun s_ w'=>(w'.cell? ⟨g,0,none⟩=some (.string s0_0)∧w'.cell? ⟨g,1,none⟩=some (.int .i64 s0_1)∧w'.cell? ⟨g,2,none⟩=some (.bool false))∧(w'.heap[s_]? = some (.cells #[.int .i64 0,.int .i64 0,.int .i64 0] 130 (0,0)))∧(w.heap.size≤s_)∧(w0.heap.size≤s_)∧(g≠s_)∧(s_≠g)∧(IsS95 w0 w' g s0_0 s0_1 false)∧(KeepBut w w' g none)∧(Below w0.heap.size w0 w')) ?_ ?_
  rotate_left
  ·intro hCont
   refine o2_ 8 9 16 3 #[I,I,I,I,I,I,I,I,I,O,O] #[I,I,I,I,I,I,I,I,O,I,O] HT_.out (fun K hK=>?_) (fun K hK=>?_)
   ·skip
    refine gs_ Try.func116 #[.string s0_0,.int .i64 s0_1] ?_
    with_reducible refine (Y18.calls k s0_0 s0_1 t592 t593 t594 _ A4.out).mono ?_
    rintro e w7 ⟨rfl,hb⟩
    refine ⟨_,rfl,?_⟩
    have n0_:=aM (IsS95.below (z21_ HI0.out) hb)
    have n1_:=aM (KeepBut.trans (z6_ HK.out) (KeepBut.of_below hb g none) (.inl rfl))
    have n2_:=aM (below_step (z22_ HB.out HI0.out) hb)
    clear HI0
    clear HK
    clear HB
    have HI0:=n0_
    have HK:=n1_
    have HB:=n2_
    clear n0_ n1_ n2_
    (try clear hb)
    refine hK.out _ _ (cc3_ (aM HI0.out.1).out) (fun hHeld=>?_)
    clear hK K
    refine nm_ 16 ?_
    refine o1_ 9 3 #[I,I,I,I,I,I,I,I,I,I,O] HT_.out (fun K hK=>?_)
    refine bs_ 3 #[.int .i64 0,.int .i64 0,.int .i64 0] 130 ?_
    intro gb595 hg w8 hbox hb
    have n0_:=aM (IsS95.below (z21_ HI0.out) hb)
    have n1_:=aM (KeepBut.trans (z6_ HK.out) (KeepBut.of_below hb g none) (.inl rfl))
    have n2_:=aM (below_step (z22_ HB.out HI0.out) hb)
    have n3_:=aM (hbox)
    have n4_:=aM ((z19_ HK.out:w.heap.size≤gb595))
    have n5_:=aM ((Nat.le_trans HW0.out (z19_ HK.out:w.heap.size≤gb595):w0.heap.size≤gb595))
    have n6_:=aM ((by rw [hg];exact Nat.ne_of_lt (IsS95.lt (show IsS95 w0 _ g s0_0 s0_1 false from by repeat (first | (with_reducible first | exact HI0.out | apply IsS95.alloc | apply IsS95.drewN | apply IsS95.drew | apply IsS95.set_0 | apply IsS95.set_1 | apply IsS95.set_2) | exact HI0.out))):g≠gb595))
    have n7_:=aM ((by rw [hg];exact Nat.ne_of_gt (IsS95.lt (show IsS95 w0 _ g s0_0 s0_1 false from by repeat (first | (with_reducible first | exact HI0.out | apply IsS95.alloc | apply IsS95.drewN | apply IsS95.drew | apply IsS95.set_0 | apply IsS95.set_1 | apply IsS95.set_2) | exact HI0.out))):gb595≠g))
    clear HI0
    clear HK
    clear HB
    have HI0:=n0_
    have HK:=n1_
    have HB:=n2_
    have BK595:=n3_
    have GW595:=n4_
    have GE595:=n5_
    have NB0_595:=n6_
    have NB595_0:=n7_
    clear n0_ n1_ n2_ n3_ n4_ n5_ n6_ n7_
    clear hb hbox hg
    refine hK.out _ _ (cc3_ (aM HI0.out.1).out) (fun hHeld=>?_)
    clear hK K
    refine nm_ 3 ?_
    exact norm_ (z45_) (hCont (gb595) _ ⟨hHeld,(z2_ BK595.out),GW595.out,GE595.out,NB0_595.out,NB595_0.out,(z44_ HI0.out NB0_595.out),(z11_ HK.out GW595.out),(z32_ HB.out HI0.out GE595.out)⟩)
   ·skip
    refine bs_ 3 #[.int .i64 0,.int .i64 0,.int .i64 0] 130 ?_
    intro gb595 hg w7 hbox hb
    have n0_:=aM (IsS95.below (z21_ HI0.out) hb)
    have n1_:=aM (KeepBut.trans (z6_ HK.out) (KeepBut.of_below hb g none) (.inl rfl))
    have n2_:=aM (below_step (z22_ HB.out HI0.out) hb)
    have n3_:=aM (hbox)
    have n4_:=aM ((z19_ HK.out:w.heap.size≤gb595))
    have n5_:=aM ((Nat.le_trans HW0.out (z19_ HK.out:w.heap.size≤gb595):w0.heap.size≤gb595))
    have n6_:=aM ((by rw [hg];exact Nat.ne_of_lt (IsS95.lt (show IsS95 w0 _ g s0_0 s0_1 false from by repeat (first | (with_reducible first | exact HI0.out | apply IsS95.alloc | apply IsS95.drewN | apply IsS95.drew | apply IsS95.set_0 | apply IsS95.set_1 | apply IsS95.set_2) | exact HI0.out))):g≠gb595))
    have n7_:=aM ((by rw [hg];exact Nat.ne_of_gt (IsS95.lt (show IsS95 w0 _ g s0_0 s0_1 false from by repeat (first | (with_reducible first | exact HI0.out | apply IsS95.alloc | apply IsS95.drewN | apply IsS95.drew | apply IsS95.set_0 | apply IsS95.set_1 | apply IsS95.set_2) | exact HI0.out))):gb595≠g))
    clear HI0
    clear HK
    clear HB
    have HI0:=n0_
    have HK:=n1_
    have HB:=n2_
    have BK595:=n3_
    have GW595:=n4_
    have GE595:=n5_
    have NB0_595:=n6_
    have NB595_0:=n7_
    clear n0_ n1_ n2_ n3_ n4_ n5_ n6_ n7_
    clear hb hbox hg
    refine hK.out _ _ (cc3_ (aM HI0.out.1).out) (fun hHeld=>?_)
    clear hK K
    refine nm_ 3 ?_
    refine o1_ 8 16 #[I,I,I,I,I,I,I,I,I,I,O] HT_.out (fun K hK=>?_)
    refine gs_ Try.func116 #[.string s0_0,.int .i64 s0_1] ?_
    with_reducible refine (Y18.calls k s0_0 s0_1 t592 t593 t594 _ A4.out).mono ?_
    rintro e w8 ⟨rfl,hb⟩
    refine ⟨_,rfl,?_⟩
    have n0_:=aM (IsS95.below (z44_ HI0.out NB0_595.out) hb)
    have n1_:=aM (blkB_ BK595.out hb)
    have n2_:=aM (KeepBut.trans (z11_ HK.out GW595.out) (KeepBut.of_below hb g none) (.inl rfl))
    have n3_:=aM (below_step (z32_ HB.out HI0.out GE595.out) hb)
    clear HI0
    clear BK595
    clear HK
    clear HB
    have HI0:=n0_
    have BK595:=n1_
    have HK:=n2_
    have HB:=n3_
    clear n0_ n1_ n2_ n3_
    (try clear hb)
    refine hK.out _ _ (cc3_ (aM HI0.out.1).out) (fun hHeld=>?_)
    clear hK K
    refine nm_ 16 ?_
    exact norm_ (z45_) (hCont (gb595) _ ⟨hHeld,(z2_ BK595.out),GW595.out,GE595.out,NB0_595.out,NB595_0.out,(z44_ HI0.out NB0_595.out),(z11_ HK.out GW595.out),(z32_ HB.out HI0.out GE595.out)⟩)
  rintro gb595 w9 ⟨hS_,h0_,h1_,h2_,h3_,h4_,h5_,h6_,h7_⟩
  have n0_:Aside0 (w9.heap[gb595]? = some (.cells #[.int .i64 0,.int .i64 0,.int .i64 0] 130 (0,0))):=⟨h0_⟩
  have n1_:Aside0 (w.heap.size≤gb595):=⟨h1_⟩
  have n2_:Aside0 (w0.heap.size≤gb595):=⟨h2_⟩
  have n3_:Aside0 (g≠gb595):=⟨h3_⟩
  have n4_:Aside0 (gb595≠g):=⟨h4_⟩
  have n5_:Aside0 (IsS95 w0 w9 g s0_0 s0_1 false):=⟨h5_⟩
  have n6_:Aside0 (KeepBut w w9 g none):=⟨h6_⟩
  have n7_:Aside0 (Below w0.heap.size w0 w9):=⟨h7_⟩
  clear HI0
  clear HK
  clear HB
  clear h0_ h1_ h2_ h3_ h4_ h5_ h6_ h7_
  have BK595:=n0_
  have GW595:=n1_
  have GE595:=n2_
  have NB0_595:=n3_
  have NB595_0:=n4_
  have HI0:=n5_
  have HK:=n6_
  have HB:=n7_
  clear n0_ n1_ n2_ n3_ n4_ n5_ n6_ n7_
  have hHeld:w9.cell? ⟨g,0,none⟩=some (.string s0_0)∧w9.cell? ⟨g,1,none⟩=some (.int .i64 s0_1)∧w9.cell? ⟨g,2,none⟩=some (.bool false):=hS_
  refine norm_ (a':=?_) ?_ ?_
  rotate_left
  ·simp only [putAll,Act.put,List.setIfInBounds_toArray,List.set_cons_zero,List.set_cons_succ]
   rfl
  refine one_ (i:=10) (N:=none) #[I,I,I,I,I,I,I,I,I,I,I] rfl rfl (one_of HT_.out (by kernel_rfl)) (by decide) (fun K hK=>?_)
  have hs10:w9.cell? ⟨gb595,0,none⟩=some (.int .i64 0):=(blk_cell BK595.out 0).trans rfl
  have hfs10:=blk_frozen BK595.out 0
  have hs11:w9.cell? ⟨gb595,1,none⟩=some (.int .i64 0):=(blk_cell BK595.out 1).trans rfl
  have hfs11:=blk_frozen BK595.out 1
  have hs12:w9.cell? ⟨gb595,2,none⟩=some (.int .i64 0):=(blk_cell BK595.out 2).trans rfl
  have hfs12:=blk_frozen BK595.out 2
  refine skip_ (w1:=?_) (by rfl) rfl ?_ ?_
  rotate_left
  ·go_simp
   rfl
  refine hK.out _ _ ⟨((cell_far (p:=⟨gb595,_,none⟩) NB0_595.out _).trans (((cell_far (p:=⟨gb595,_,none⟩) NB0_595.out _).trans (((cell_far (p:=⟨gb595,_,none⟩) NB0_595.out _).trans (hHeld.1)))))),((cell_far (p:=⟨gb595,_,none⟩) NB0_595.out _).trans (((cell_far (p:=⟨gb595,_,none⟩) NB0_595.out _).trans (((cell_far (p:=⟨gb595,_,none⟩) NB0_595.out _).trans (hHeld.2.1)))))),((cell_far (p:=⟨gb595,_,none⟩) NB0_595.out _).trans (((cell_far (p:=⟨gb595,_,none⟩) NB0_595.out _).trans (((cell_far (p:=⟨gb595,_,none⟩) NB0_595.out _).trans (hHeld.2.2))))))⟩ (fun hHeld=>?_)
  clear hK K
  refine done_ (done_of HT_.out (by kernel_rfl)) ?_
  try go_wp2
  have n0_:Aside0 ((((w9.setCell ⟨gb595,0,none⟩ (.int .i64 t592)).setCell ⟨gb595,1,none⟩ (.int .i64 t593)).setCell ⟨gb595,2,none⟩ (.int .i64 t594)).heap[gb595]? = some (.cells #[.int .i64 t592,.int .i64 t593,.int .i64 t594] 130 (0,0))):=⟨z18_ BK595.out⟩
  have n1_:Aside0 (IsS95 w0 (((w9.setCell ⟨gb595,0,none⟩ (.int .i64 t592)).setCell ⟨gb595,1,none⟩ (.int .i64 t593)).setCell ⟨gb595,2,none⟩ (.int .i64 t594)) g s0_0 s0_1 false):=⟨z44_ HI0.out NB0_595.out⟩
  have n2_:Aside0 (KeepBut w (((w9.setCell ⟨gb595,0,none⟩ (.int .i64 t592)).setCell ⟨gb595,1,none⟩ (.int .i64 t593)).setCell ⟨gb595,2,none⟩ (.int .i64 t594)) g none):=⟨z11_ HK.out GW595.out⟩
  have n3_:Aside0 (Below w0.heap.size w0 (((w9.setCell ⟨gb595,0,none⟩ (.int .i64 t592)).setCell ⟨gb595,1,none⟩ (.int .i64 t593)).setCell ⟨gb595,2,none⟩ (.int .i64 t594))):=⟨z32_ HB.out HI0.out GE595.out⟩
  (try clear BK595)
  (try clear HI0)
  (try clear HK)
  (try clear HB)
  generalize (((w9.setCell ⟨gb595,0,none⟩ (.int .i64 t592)).setCell ⟨gb595,1,none⟩ (.int .i64 t593)).setCell ⟨gb595,2,none⟩ (.int .i64 t594))=w13 at n0_ n1_ n2_ n3_ ⊢
  have BK595:=n0_
  have HI0:=n1_
  have HK:=n2_
  have HB:=n3_
  clear n0_ n1_ n2_ n3_
  have n0_:=aM (blk_drew BK595.out)
  have n1_:=aM (IsS95.drew HI0.out)
  have n2_:=aM (keep_drew HK.out)
  have n3_:=aM (below_drew1 HB.out)
  clear BK595
  clear HI0
  clear HK
  clear HB
  have BK595:=n0_
  have HI0:=n1_
  have HK:=n2_
  have HB:=n3_
  clear n0_ n1_ n2_ n3_
  refine start_ (n:=13) (S:=fun w'=>w'.cell? ⟨gb595,0,none⟩=some (.int .i64 t592)∧w'.cell? ⟨gb595,1,none⟩=some (.int .i64 t593)∧w'.cell? ⟨gb595,2,none⟩=some (.int .i64 t594)) (ds:=[]) #[O,O,O,O,O,O,O,O,O,O,O,O,O] (by kernel_rfl) rfl rfl (cc3_ BK595.out) (fun hHeld=>?_);refine with_tabW Y27.tab4 Y27.bits4 (fun HT_ HW_=>?_)
  generalize w13.drew=w14 at BK595 HI0 HK HB hHeld ⊢
  refine pu_ 0 17 #[I,O,O,O,O,O,O,O,O,O,O,O,O] HT_.out ?_
  refine pu_ 1 18 #[I,I,O,O,O,O,O,O,O,O,O,O,O] HT_.out ?_
  refine pu_ 2 19 #[I,I,I,O,O,O,O,O,O,O,O,O,O] HT_.out ?_
  refine pu_ 4 21 #[I,I,I,O,I,O,O,O,O,O,O,O,O] HT_.out ?_
  refine tk3_ 3 20 #[I,I,I,I,I,O,O,O,O,O,O,O,O] HT_.out HW_.out hHeld ?_
  refine pu_ 7 24 #[I,I,I,I,I,O,O,I,O,O,O,O,O] HT_.out ?_
  refine pu_ 8 25 #[I,I,I,I,I,O,O,I,I,O,O,O,O] HT_.out ?_
  refine tk3_ 5 22 #[I,I,I,I,I,I,O,I,I,O,O,O,O] HT_.out HW_.out hHeld ?_
  refine pu_ 6 23 #[I,I,I,I,I,I,I,I,I,O,O,O,O] HT_.out ?_
  refine one_ (i:=9) (N:=none) #[I,I,I,I,I,I,I,I,I,I,O,O,O] rfl rfl (one_of HT_.out (by kernel_rfl)) (by decide) (fun K hK=>?_)
  have hcQ9_0:=(blk_cell HI0.out.1 0).trans (show _=some (.string s0_0:Value) by rfl)
  have hfQ9_0:=blk_frozen HI0.out.1 0
  have hcQ9_1:=(blk_cell HI0.out.1 1).trans (show _=some (.int .i64 s0_1:Value) by rfl)
  have hfQ9_1:=blk_frozen HI0.out.1 1
  have hcQ9_2:=(blk_cell HI0.out.1 2).trans (show _=some (.bool false:Value) by rfl)
  have hfQ9_2:=blk_frozen HI0.out.1 2
  refine skip_ (w1:=?_) (by rfl) rfl ?_ ?_
  rotate_left
  ·go_simp
   rfl
  refine hK.out _ _ ⟨((cell_far (p:=⟨g,_,none⟩) NB595_0.out _).trans (hHeld.1)),((cell_far (p:=⟨g,_,none⟩) NB595_0.out _).trans (hHeld.2.1)),((cell_far (p:=⟨g,_,none⟩) NB595_0.out _).trans (hHeld.2.2))⟩ (fun hHeld=>?_)
  clear hK K
  refine pu_ 10 26 #[I,I,I,I,I,I,I,I,I,I,I,O,O] HT_.out ?_
  refine pu_ 11 27 #[I,I,I,I,I,I,I,I,I,I,I,I,O] HT_.out ?_
  refine one_ (i:=12) (N:=none) #[I,I,I,I,I,I,I,I,I,I,I,I,I] rfl rfl (one_of HT_.out (by kernel_rfl)) (by decide) (fun K hK=>?_)
  have hcQ12_0:=(blk_cell HI0.out.1 0).trans (show _=some (.string s0_0:Value) by rfl)
  have hfQ12_0:=blk_frozen HI0.out.1 0
  have hcQ12_1:=(blk_cell HI0.out.1 1).trans (show _=some (.int .i64 s0_1:Value) by rfl)
  have hfQ12_1:=blk_frozen HI0.out.1 1
  have hcQ12_2:=(blk_cell HI0.out.1 2).trans (show _=some (.bool false:Value) by rfl)
  have hfQ12_2:=blk_frozen HI0.out.1 2
  refine skip_ (w1:=?_) (by rfl) rfl ?_ ?_
  rotate_left
  ·go_simp
   rfl
  refine hK.out _ _ ⟨((cell_far (p:=⟨g,_,none⟩) NB595_0.out _).trans (hHeld.1)),((cell_far (p:=⟨g,_,none⟩) NB595_0.out _).trans (hHeld.2.1)),((cell_far (p:=⟨g,_,none⟩) NB595_0.out _).trans (hHeld.2.2))⟩ (fun hHeld=>?_)
  clear hK K
  refine done_ (done_of HT_.out (by kernel_rfl)) ?_
  have hnb15:=NB595_0.out
  have hnc15:=NB0_595.out
  have ⟨hcz16_0,hcz16_1,hcz16_2,hfz16_0,hfz16_1,hfz16_2⟩:=cz3_ BK595.out
  try go_wp2
  go_ret
  exact ⟨z5_,z44_ HI0.out NB0_595.out,z32_ HB.out HI0.out GE595.out,z11_ HK.out GW595.out⟩


/-! ### Y59: function 100 -/
def Y59.f (k:Nat) (s0_0:ByteArray) (s0_1:Int) (s0_2:Bool) (a1:Int):Option (Int × ByteArray × Int × Bool):=(Y27.f k s0_0 s0_1 s0_2).bind fun bt596=>((Y61.f bt596.1 0 a1).bind fun t600=>(if t600=true then (some (bt596.1,bt596.2.1,bt596.2.2.1,bt596.2.2.2)) else (some (0,bt596.2.1,bt596.2.2.1,true))))
theorem Y59.mono:∀ a0 a1 a2 a3 k,LeO (Y59.f k a0 a1 a2 a3) (Y59.f (k+1) a0 a1 a2 a3):=by
 intro a0 a1 a2 a3 k
 have m0:=@Y27.mono
 unfold Y59.f
 exact mO
theorem Y59.calls (k:Nat) (g:Nat) (s0_0:ByteArray) (s0_1:Int) (s0_2:Bool) (a1:Int) (r1:Int) (r2:ByteArray) (r3:Int) (r4:Bool) (w0 w:World) (hI:IsS95 w0 w g s0_0 s0_1 s0_2) (hB:Below w0.heap.size w0 w) (h:Y59.f k s0_0 s0_1 s0_2 a1=some (r1,r2,r3,r4)) :
  Calls Try.prog 100 #[.pointer (some ⟨g,0,none⟩),.int .i64 a1] w fun e w'=>e = .returned (.int .i64 r1)∧IsS95 w0 w' g r2 r3 r4∧Below w0.heap.size w0 w'∧KeepBut w w' g none:=by
 have HI0:=aM hI
 have HK:=aM (KeepBut.refl w g none)
 have HL:=aM hB.size
 clear hI
 have HW0:=aM hB.size
 have HB:=aM hB
 clear hB
 have H:((Y27.f k s0_0 s0_1 s0_2).bind fun bt596=>((Y61.f bt596.1 0 a1).bind fun t600=>(if t600=true then (some (bt596.1,bt596.2.1,bt596.2.2.1,bt596.2.2.2)) else (some (0,bt596.2.1,bt596.2.2.1,true)))))=some (r1,r2,r3,r4):=h
 clear h
 replace H:=bS H
 obtain ⟨⟨t596,t597,t598,t599⟩,A30,H⟩:=H
 replace H:((Y61.f t596 0 a1).bind fun t600=>(if t600=true then (some (t596,t597,t598,t599)) else (some (0,t597,t598,true))))=some (r1,r2,r3,r4):=H
 have A3:=aM A30
 clear A30
 replace H:=bS H
 obtain ⟨t600,A40,H⟩:=H
 replace H:(if t600=true then (some (t596,t597,t598,t599)) else (some (0,t597,t598,true)))=some (r1,r2,r3,r4):=H
 have A4:=aM A40
 clear A40
 by_cases c5:t600=true
 ·subst c5
  have H1:(some (t596,t597,t598,t599))=some (r1,r2,r3,r4):=by rw [if_pos rfl] at H;exact H
  clear H
  have H:=H1
  clear H1
  simp only [Option.some.injEq,Prod.mk.injEq] at H
  obtain ⟨rfl,rfl,rfl,rfl⟩:=H
  go_enter Try.func100,Try.ntmps100
  go_wp2_with (first | ((with_reducible refine gc_ 101 ?_);refine gl_ (some 7) Try.func101 #[.pointer (some ⟨g,0,none⟩)] ?_;(with_reducible refine (Y27.calls k g s0_0 s0_1 s0_2 t596 t597 t598 t599 w0 _ ?s1 ?s2 A3.out).mono ?_);(case s1=>repeat (first | (with_reducible first | exact HI0.out | apply IsS95.alloc | apply IsS95.drewN | apply IsS95.drew | apply IsS95.set_0 | apply IsS95.set_1 | apply IsS95.set_2) | exact HI0.out));(case s2=>repeat (first | (with_reducible first | exact HB.out | apply below_alloc | apply pw_below_drewN | apply below_drew1 | refine below_set ?_ (IsS95.ge HI0.out)) | exact HB.out));rintro e w6 ⟨rfl,hi,hb,hk⟩;refine ⟨_,rfl,?_⟩;have n0_:=aM (KeepBut.trans (z6_ HK.out) hk (.inl rfl));have n1_:=aM (hb);have n2_:=aM (hi);clear HK;clear HB;clear HI0;have HK:=n0_;have HB:=n1_;have HI0:=n2_;clear n0_ n1_ n2_;(try clear hb);(try clear hk);(try clear hi)) | ((with_reducible refine gc_ 49 ?_);refine gl_ (some 10) Try.func49 #[.int .i64 t596,.int .i64 0,.int .i64 a1] ?_;(with_reducible refine (Y61.calls t596 0 a1 true _ A4.out).mono ?_);rintro e w' ⟨rfl,⟨nd,rfl⟩⟩;refine ⟨_,rfl,?_⟩))
  go_ret
  exact ⟨z5_,z21_ HI0.out,z22_ HB.out HI0.out,z6_ HK.out⟩
 ·replace c5:=Bool.eq_false_iff.mpr c5
  subst c5
  have H1:(some (0,t597,t598,true))=some (r1,r2,r3,r4):=by rw [if_neg (show ¬ (false=true) by decide)] at H;exact H
  clear H
  have H:=H1
  clear H1
  simp only [Option.some.injEq,Prod.mk.injEq] at H
  obtain ⟨rfl,rfl,rfl,rfl⟩:=H
  go_enter Try.func100,Try.ntmps100
  go_wp2_with (first | ((with_reducible refine gc_ 101 ?_);refine gl_ (some 7) Try.func101 #[.pointer (some ⟨g,0,none⟩)] ?_;(with_reducible refine (Y27.calls k g s0_0 s0_1 s0_2 t596 t597 t598 t599 w0 _ ?s1 ?s2 A3.out).mono ?_);(case s1=>repeat (first | (with_reducible first | exact HI0.out | apply IsS95.alloc | apply IsS95.drewN | apply IsS95.drew | apply IsS95.set_0 | apply IsS95.set_1 | apply IsS95.set_2) | exact HI0.out));(case s2=>repeat (first | (with_reducible first | exact HB.out | apply below_alloc | apply pw_below_drewN | apply below_drew1 | refine below_set ?_ (IsS95.ge HI0.out)) | exact HB.out));rintro e w7 ⟨rfl,hi,hb,hk⟩;refine ⟨_,rfl,?_⟩;have n0_:=aM (KeepBut.trans (z6_ HK.out) hk (.inl rfl));have n1_:=aM (hb);have n2_:=aM (hi);clear HK;clear HB;clear HI0;have HK:=n0_;have HB:=n1_;have HI0:=n2_;clear n0_ n1_ n2_;(try clear hb);(try clear hk);(try clear hi)) | ((with_reducible refine gc_ 49 ?_);refine gl_ (some 10) Try.func49 #[.int .i64 t596,.int .i64 0,.int .i64 a1] ?_;(with_reducible refine (Y61.calls t596 0 a1 false _ A4.out).mono ?_);rintro e w' ⟨rfl,⟨nd,rfl⟩⟩;refine ⟨_,rfl,?_⟩;(try (rw [drewN_self w7];generalize hq_:World.drewN w7 _=w7;have n0_:Aside0 (IsS95 w0 w7 g t597 t598 t599):=⟨by rw [← hq_];exact (by repeat (first | (with_reducible first | exact HI0.out | apply IsS95.alloc | apply IsS95.drewN | apply IsS95.drew | apply IsS95.set_0 | apply IsS95.set_1 | apply IsS95.set_2) | exact HI0.out))⟩;have n1_:Aside0 (KeepBut w w7 g none):=⟨by rw [← hq_];exact (by repeat (first | (with_reducible first | exact HK.out | apply KeepBut.set_ | apply keep_drewN | apply keep_drew | apply keep_alloc) | exact HK.out))⟩;have n2_:Aside0 (Below w0.heap.size w0 w7):=⟨by rw [← hq_];exact (by repeat (first | (with_reducible first | exact HB.out | apply below_alloc | apply pw_below_drewN | apply below_drew1 | refine below_set ?_ (IsS95.ge HI0.out)) | exact HB.out))⟩;clear HI0 HK HB hq_;have HI0:=n0_;have HK:=n1_;have HB:=n2_;clear n0_ n1_ n2_));obtain ⟨HGz8,hgz8⟩:=HI0.out;have hcz8_0:=cellS95_0 HGz8;have hcz8_1:=cellS95_1 HGz8;have hcz8_2:=cellS95_2 HGz8;have hfz8_0:=blk_frozen HGz8 0;have hfz8_1:=blk_frozen HGz8 1;have hfz8_2:=blk_frozen HGz8 2;clear HGz8 hgz8))
  go_ret
  exact ⟨z5_,z21_ HI0.out,z22_ HB.out HI0.out,z6_ HK.out⟩


/-! ### Y19: function 78 -/
mutual
def Y19.l0:Nat→List (S49)→Int→ByteArray→Int→Bool→Option ((List (S49)) × ByteArray × Int × Bool)
 | 0,_,_,_,_,_=>none
 | k+1,x3,x4,x1000,x1001,x1002=>if x4>0 then (Y19.j1 k x3 x4 (!x1002) x1000 x1001 x1002) else (Y19.j1 k x3 x4 false x1000 x1001 x1002)
def Y19.j1:Nat→List (S49)→Int→Bool→ByteArray→Int→Bool→Option ((List (S49)) × ByteArray × Int × Bool)
 | 0,_,_,_,_,_,_=>none
 | k+1,x3,x4,x16,x1000,x1001,x1002=>if x16=true then ((Y27.f k x1000 x1001 x1002).bind fun bt606=>((Y27.f k bt606.2.1 bt606.2.2.1 bt606.2.2.2).bind fun bt610=>(if x3.length<8796093022208 then (Y19.l0 k (x3 ++ [(⟨bt606.1,bt610.1⟩:S49)]) (wrap64 (x4-1)) bt610.2.1 bt610.2.2.1 bt610.2.2.2) else (none)))) else (if x1002=true then (some (x3,x1000,x1001,true)) else ((Y3.f k x3).bind fun t605=>(some (x3,x1000,x1001,!t605))))
end
def Y19.f (k:Nat) (s0_0:ByteArray) (s0_1:Int) (s0_2:Bool):Option ((List (S49)) × ByteArray × Int × Bool):=(Y59.f k s0_0 s0_1 s0_2 5).bind fun bt601=>(Y19.l0 k ([]:List (S49)) bt601.1 bt601.2.1 bt601.2.2.1 bt601.2.2.2)
theorem Y19.mono_l:∀ k,(∀ y0 y1 y2 y3 y4,LeO (Y19.l0 k y0 y1 y2 y3 y4) (Y19.l0 (k+1) y0 y1 y2 y3 y4))∧(∀ y0 y1 y2 y3 y4 y5,LeO (Y19.j1 k y0 y1 y2 y3 y4 y5) (Y19.j1 (k+1) y0 y1 y2 y3 y4 y5))
 | 0=>by refine ⟨?_,?_⟩ <;> intros <;> exact LeO.none _
 | k+1=>by
  obtain ⟨ih0,ih1⟩:=Y19.mono_l k
  have m0:=@Y3.mono
  have m1:=@Y59.mono
  have m2:=@Y27.mono
  refine ⟨?_,?_⟩
  ·intros
   unfold Y19.l0
   exact mO
  ·intros
   unfold Y19.j1
   exact mO
theorem Y19.mono:∀ a0 a1 a2 k,LeO (Y19.f k a0 a1 a2) (Y19.f (k+1) a0 a1 a2):=by
 intro a0 a1 a2 k
 have m0:=@Y3.mono
 have m1:=@Y59.mono
 have m2:=@Y27.mono
 obtain ⟨ih0,ih1⟩:=Y19.mono_l k
 unfold Y19.f
 exact mO
theorem Y19.calls (k:Nat) (g:Nat) (s0_0:ByteArray) (s0_1:Int) (s0_2:Bool) (r1:List (S49)) (r2:ByteArray) (r3:Int) (r4:Bool) (w0 w:World) (hI:IsS95 w0 w g s0_0 s0_1 s0_2) (hB:Below w0.heap.size w0 w) (h:Y19.f k s0_0 s0_1 s0_2=some (r1,r2,r3,r4)) :
  Calls Try.prog 78 #[.pointer (some ⟨g,0,none⟩)] w fun e w'=>∃ v0_:Value,e = .returned (v0_)∧Kd.R k49 49 w' w.heap.size (fun _=>True) v0_ r1∧IsS95 w0 w' g r2 r3 r4∧Below w0.heap.size w0 w'∧KeepBut w w' g none:=by
 have hu49:=Try.underlying49
 have HI0:=aM hI
 have HK:=aM (KeepBut.refl w g none)
 have HL:=aM hB.size
 clear hI
 have HW0:=aM hB.size
 have HB:=aM hB
 clear hB
 have H:((Y59.f k s0_0 s0_1 s0_2 5).bind fun bt601=>(Y19.l0 k ([]:List (S49)) bt601.1 bt601.2.1 bt601.2.2.1 bt601.2.2.2))=some (r1,r2,r3,r4):=h
 clear h
 replace H:=bS H
 obtain ⟨⟨t601,t602,t603,t604⟩,A20,H⟩:=H
 replace H:(Y19.l0 k ([]:List (S49)) t601 t602 t603 t604)=some (r1,r2,r3,r4):=H
 have A2:=aM A20
 clear A20
 have H':=aM H
 clear H
 go_enter Try.func78,Try.ntmps78
 go_wp2_with (first | ((with_reducible refine gc_ 100 ?_);refine gl_ (some 7) Try.func100 #[.pointer (some ⟨g,0,none⟩),.int .i64 5] ?_;(with_reducible refine (Y59.calls k g s0_0 s0_1 s0_2 5 t601 t602 t603 t604 w0 _ ?s1 ?s2 A2.out).mono ?_);(case s1=>repeat (first | (with_reducible first | exact HI0.out | apply IsS95.alloc | apply IsS95.drewN | apply IsS95.drew | apply IsS95.set_0 | apply IsS95.set_1 | apply IsS95.set_2) | exact HI0.out));(case s2=>repeat (first | (with_reducible first | exact HB.out | apply below_alloc | apply pw_below_drewN | apply below_drew1 | refine below_set ?_ (IsS95.ge HI0.out)) | exact HB.out));rintro e w3 ⟨rfl,hi,hb,hk⟩;refine ⟨_,rfl,?_⟩;have n0_:=aM (KeepBut.trans (z6_ HK.out) hk (.inl rfl));have n1_:=aM (hb);have n2_:=aM (hi);clear HK;clear HB;clear HI0;have HK:=n0_;have HB:=n1_;have HI0:=n2_;clear n0_ n1_ n2_;(try clear hb);(try clear hk);(try clear hi)))
 go_loopg [3,4] k (fun kq v3 v4 w'=>∃ (x3_1:List (S49)) (x4_1:Int) (x1000_1:ByteArray) (x1001_1:Int) (x1002_1:Bool),v4 = .int .i64 x4_1∧Aside0 (Y19.l0 kq x3_1 x4_1 x1000_1 x1001_1 x1002_1=some (r1,r2,r3,r4))∧Aside0 (kq≤k)∧Aside0 (Kd.R k49 49 w' w.heap.size (fun _=>True) v3 x3_1)∧Aside0 (IsS95 w0 w' g x1000_1 x1001_1 x1002_1)∧Aside0 (KeepBut w w' g none)∧Aside0 (Below w0.heap.size w0 w'))
 case atStart=>exact ⟨(([]:List (S49))),(t601),(t602),(t603),(t604),(z3_),H',⟨Nat.le_refl _⟩,⟨z25_⟩,⟨z21_ HI0.out⟩,⟨z6_ HK.out⟩,⟨z22_ HB.out HI0.out⟩⟩
 case round =>
  clear H'
  try clear c1
  try clear p2
  obtain ⟨x3_1,x4_1,x1000_1,x1001_1,x1002_1,rfl,HA,HK1,HO_3,HI0,HK,HB⟩:=hrel
  cases gk with
  | zero=>exact absurd HA.out (by simp [Y19.l0])
  | succ k1 =>
   have H:=HA.out
   clear HA
   simp only [Y19.l0] at H
   have HC4:=aM H
   clear H
   go_upto_region 3 with (fail)
   go_cut [16] (fun v16 wc=>∃ (kq:Nat) (x16_3:Bool),v16 = .bool x16_3∧Aside0 (Y19.j1 kq x3_1 x4_1 x16_3 x1000_1 x1001_1 x1002_1=some (r1,r2,r3,r4))∧Aside0 (kq≤k1)∧Aside0 (Kd.R k49 49 wc w.heap.size (fun _=>True) u3 x3_1)∧Aside0 (IsS95 w0 wc g x1000_1 x1001_1 x1002_1)∧Aside0 (KeepBut w wc g none)∧Aside0 (Below w0.heap.size w0 wc))
   case first =>
    have H:=HC4.out
    clear HC4
    by_cases c5:x4_1>0
    ·rw [if_pos c5] at H
     have c5b0:decide (0<x4_1)=true:=dE c5
     clear c5
     (first | rw [c5b0] | (simp only [i64_w,i32_w];rw [c5b0]) | skip)
     have H':=aM H
     clear H
     obtain ⟨HGz6,hgz6⟩:=HI0.out
     have hcz6_0:=cellS95_0 HGz6
     have hcz6_1:=cellS95_1 HGz6
     have hcz6_2:=cellS95_2 HGz6
     have hfz6_0:=blk_frozen HGz6 0
     have hfz6_1:=blk_frozen HGz6 1
     have hfz6_2:=blk_frozen HGz6 2
     clear HGz6 hgz6
     go_wp2
     go_meet
     case rel=>exact ⟨_,(!x1002_1),(z3_),H',⟨z16_ HK1.out⟩,⟨z0_ HO_3.out⟩,⟨z21_ HI0.out⟩,⟨z6_ HK.out⟩,⟨z22_ HB.out HI0.out⟩⟩
    ·rw [if_neg c5] at H
     have c5b0:decide (0<x4_1)=false:=dF c5
     clear c5
     (first | rw [c5b0] | (simp only [i64_w,i32_w];rw [c5b0]) | skip)
     have H':=aM H
     clear H
     go_wp2
     go_meet
     case rel=>exact ⟨_,(false),(z3_),H',⟨z16_ HK1.out⟩,⟨z0_ HO_3.out⟩,⟨z21_ HI0.out⟩,⟨z6_ HK.out⟩,⟨z22_ HB.out HI0.out⟩⟩
   case rest =>
    clear HC4
    try clear c1
    try clear p2
    try clear c5
    try clear c5b0
    try clear hcz6_0
    try clear hcz6_1
    try clear hcz6_2
    try clear hfz6_0
    try clear hfz6_1
    try clear hfz6_2
    try clear p2
    obtain ⟨kq,x16_3,rfl,HA,HJ3,HO_3,HI0,HK,HB⟩:=hcut
    cases kq with
    | zero=>exact absurd HA.out (by simp [Y19.j1])
    | succ kj3 =>
     have H:=HA.out
     clear HA
     simp only [Y19.j1] at H
     by_cases c7:x16_3=true
     ·subst c7
      have H1:((Y27.f kj3 x1000_1 x1001_1 x1002_1).bind fun bt606=>((Y27.f kj3 bt606.2.1 bt606.2.2.1 bt606.2.2.2).bind fun bt610=>(if x3_1.length<8796093022208 then (Y19.l0 kj3 (x3_1 ++ [(⟨bt606.1,bt610.1⟩:S49)]) (wrap64 (x4_1-1)) bt610.2.1 bt610.2.2.1 bt610.2.2.2) else (none))))=some (r1,r2,r3,r4):=by rw [if_pos rfl] at H;exact H
      clear H
      have H:=H1
      clear H1
      replace H:=bS H
      obtain ⟨⟨t606,t607,t608,t609⟩,A80,H⟩:=H
      replace H:((Y27.f kj3 t607 t608 t609).bind fun bt610=>(if x3_1.length<8796093022208 then (Y19.l0 kj3 (x3_1 ++ [(⟨t606,bt610.1⟩:S49)]) (wrap64 (x4_1-1)) bt610.2.1 bt610.2.2.1 bt610.2.2.2) else (none)))=some (r1,r2,r3,r4):=H
      have A8:=aM A80
      clear A80
      replace H:=bS H
      obtain ⟨⟨t610,t611,t612,t613⟩,A90,H⟩:=H
      replace H:(if x3_1.length<8796093022208 then (Y19.l0 kj3 (x3_1 ++ [(⟨t606,t610⟩:S49)]) (wrap64 (x4_1-1)) t611 t612 t613) else (none))=some (r1,r2,r3,r4):=H
      have A9:=aM A90
      clear A90
      by_cases c10:x3_1.length<8796093022208
      ·rw [if_pos c10] at H
       have LMc10:=aM c10
       clear c10
       obtain ⟨y614,hy614⟩:∃ y_:List (S49),y_=(x3_1 ++ [(⟨t606,t610⟩:S49)]):=⟨_,rfl⟩
       replace H:(Y19.l0 kj3 y614 (wrap64 (x4_1-1)) t611 t612 t613)=some (r1,r2,r3,r4):=by first | (rw [hy614];with_reducible exact H) | (have H2_:=(Option.bind_some _ _).symm.trans H;rw [hy614];with_reducible exact H2_) | (have H2_:=(Option.bind_some _ _).symm.trans H;with_reducible exact H2_) | with_reducible exact H | (rw [hy614];exact H) | exact H
       have Ny614:=aM hy614
       clear hy614
       have H':=aM H
       clear H
       go_wp2_with (first | ((with_reducible refine gc_ 101 ?_);refine gl_ (some 20) Try.func101 #[.pointer (some ⟨g,0,none⟩)] ?_;(with_reducible refine (Y27.calls kj3 g x1000_1 x1001_1 x1002_1 t606 t607 t608 t609 w0 _ ?s1 ?s2 A8.out).mono ?_);(case s1=>repeat (first | (with_reducible first | exact HI0.out | apply IsS95.alloc | apply IsS95.drewN | apply IsS95.drew | apply IsS95.set_0 | apply IsS95.set_1 | apply IsS95.set_2) | exact HI0.out));(case s2=>repeat (first | (with_reducible first | exact HB.out | apply below_alloc | apply pw_below_drewN | apply below_drew1 | refine below_set ?_ (IsS95.ge HI0.out)) | exact HB.out));rintro e w11 ⟨rfl,hi,hb,hk⟩;refine ⟨_,rfl,?_⟩;have n0_:=aM (Kd.R_mono (Kd.R_keep (IsS95.apart (show IsS95 w0 _ g x1000_1 x1001_1 x1002_1 from by repeat (first | (with_reducible first | exact HI0.out | apply IsS95.alloc | apply IsS95.drewN | apply IsS95.drew | apply IsS95.set_0 | apply IsS95.set_1 | apply IsS95.set_2) | exact HI0.out)) (z0_ HO_3.out) (by decide)) hk (fun _ h=>h.2)) (fun _ h=>h.1));have n1_:=aM (KeepBut.trans (z6_ HK.out) hk (.inl rfl));have n2_:=aM (hb);have n3_:=aM (hi);clear HO_3;clear HK;clear HB;clear HI0;have HO_3:=n0_;have HK:=n1_;have HB:=n2_;have HI0:=n3_;clear n0_ n1_ n2_ n3_;(try clear hb);(try clear hk);(try clear hi)) | ((with_reducible refine gc_ 101 ?_);refine gl_ (some 24) Try.func101 #[.pointer (some ⟨g,0,none⟩)] ?_;(with_reducible refine (Y27.calls kj3 g t607 t608 t609 t610 t611 t612 t613 w0 _ ?s1 ?s2 A9.out).mono ?_);(case s1=>repeat (first | (with_reducible first | exact HI0.out | apply IsS95.alloc | apply IsS95.drewN | apply IsS95.drew | apply IsS95.set_0 | apply IsS95.set_1 | apply IsS95.set_2) | exact HI0.out));(case s2=>repeat (first | (with_reducible first | exact HB.out | apply below_alloc | apply pw_below_drewN | apply below_drew1 | refine below_set ?_ (IsS95.ge HI0.out)) | exact HB.out));rintro e w12 ⟨rfl,hi,hb,hk⟩;refine ⟨_,rfl,?_⟩;have n0_:=aM (Kd.R_mono (Kd.R_keep (IsS95.apart (show IsS95 w0 _ g t607 t608 t609 from by repeat (first | (with_reducible first | exact HI0.out | apply IsS95.alloc | apply IsS95.drewN | apply IsS95.drew | apply IsS95.set_0 | apply IsS95.set_1 | apply IsS95.set_2) | exact HI0.out)) (z0_ HO_3.out) (by decide)) hk (fun _ h=>h.2)) (fun _ h=>h.1));have n1_:=aM (KeepBut.trans (z6_ HK.out) hk (.inl rfl));have n2_:=aM (hb);have n3_:=aM (hi);clear HO_3;clear HK;clear HB;clear HI0;have HO_3:=n0_;have HK:=n1_;have HB:=n2_;have HI0:=n3_;clear n0_ n1_ n2_ n3_;(try clear hb);(try clear hk);(try clear hi)) | ((with_reducible refine gate_builtin (b:=.append) (xs:=#[.tmp 21,.tmp 26]) rfl ?_);at_builtin;refine Kd.R_append k49 w.heap.size rfl (.tmp 21) (.tmp 26) 33 49 (.agg #[(.int .i64 0),(.int .i64 0)]) 16 rfl Try.underlying33 info49 rfl (by decide) (by omega) u3 x3_1 (⟨t606,t610⟩:S49) [.int .i64 t606,.int .i64 t610] (fun _=>True) (fun _=>False) rfl rfl ?aP (fun _ hk=>hk.elim) ?aF ?aO (Below.refl _ _) ?aS ?aL ?_;(case aP=>exact k49_mkM _ _ _ (⟨t606,t610⟩:S49));(case aF=>exact (fun _ _=>trivial));(case aO=>exact (z0_ HO_3.out));(case aS=>exact (keep_size (w:=w) (g:=g) (row:=none) (z6_ HK.out)));(case aL=>have:=LMc10.out;omega);intro v615 w13 ho hb hg hat;rw [← Ny614.out] at ho;have n0_:=aM (IsS95.grown (z21_ HI0.out) hg (IsS95.own_ne HI0.out HO_3.out (by decide)));have n1_:=aM (below_weaken (z22_ HB.out HI0.out) HL.out hb);have n2_:=aM (KeepBut.trans (z6_ HK.out) (KeepBut.of_grown hg g) (Kd.R_base2 HO_3.out));have n3_:=aM (ho);clear HI0;clear HB;clear HK;clear HO_3;have HI0:=n0_;have HB:=n1_;have HK:=n2_;have HO616:=n3_;clear n0_ n1_ n2_ n3_;clear ho hb hg hat))
       go_roundg kj3
       case measure=>have:=HK1.out;have:=HJ3.out;omega
       case rel=>exact ⟨(y614),(wrap64 (x4_1-1)),(t611),(t612),(t613),(z3_),H',⟨by have:=HK1.out;have:=HJ3.out;omega⟩,⟨z0_ HO616.out⟩,⟨z21_ HI0.out⟩,⟨z6_ HK.out⟩,⟨z22_ HB.out HI0.out⟩⟩
      ·rw [if_neg c10] at H
       exact nO H
     ·replace c7:=Bool.eq_false_iff.mpr c7
      subst c7
      have H1:(if x1002_1=true then (some (x3_1,x1000_1,x1001_1,true)) else ((Y3.f kj3 x3_1).bind fun t605=>(some (x3_1,x1000_1,x1001_1,!t605))))=some (r1,r2,r3,r4):=by rw [if_neg (show ¬ (false=true) by decide)] at H;exact H
      clear H
      have H:=H1
      clear H1
      by_cases c14:x1002_1=true
      ·subst c14
       have H1:(some (x3_1,x1000_1,x1001_1,true))=some (r1,r2,r3,r4):=by rw [if_pos rfl] at H;exact H
       clear H
       have H:=H1
       clear H1
       simp only [Option.some.injEq,Prod.mk.injEq] at H
       obtain ⟨rfl,rfl,rfl,rfl⟩:=H
       obtain ⟨HGz15,hgz15⟩:=HI0.out
       have hcz15_0:=cellS95_0 HGz15
       have hcz15_1:=cellS95_1 HGz15
       have hcz15_2:=cellS95_2 HGz15
       have hfz15_0:=blk_frozen HGz15 0
       have hfz15_1:=blk_frozen HGz15 1
       have hfz15_2:=blk_frozen HGz15 2
       clear HGz15 hgz15
       go_wp2
       go_ret
       exact ⟨_,z5_,by (with_reducible repeat (first | apply Kd.R_alloc | apply Kd.R_drewN | apply Kd.R_drew));exact Kd.R_mono (Kd.R_far (p:=⟨g,2,none⟩) (IsS95.apart HI0.out HO_3.out (by decide)) (fun _ hk=>hk.2) (.bool true)) (fun _ hk=>trivial),z21_ HI0.out,z22_ HB.out HI0.out,z6_ HK.out⟩
      ·replace c14:=Bool.eq_false_iff.mpr c14
       subst c14
       have H1:((Y3.f kj3 x3_1).bind fun t605=>(some (x3_1,x1000_1,x1001_1,!t605)))=some (r1,r2,r3,r4):=by rw [if_neg (show ¬ (false=true) by decide)] at H;exact H
       clear H
       have H:=H1
       clear H1
       replace H:=bS H
       obtain ⟨t605,A160,H⟩:=H
       replace H:(some (x3_1,x1000_1,x1001_1,!t605))=some (r1,r2,r3,r4):=H
       have A16:=aM A160
       clear A160
       simp only [Option.some.injEq,Prod.mk.injEq] at H
       obtain ⟨rfl,rfl,rfl,rfl⟩:=H
       obtain ⟨HGz17,hgz17⟩:=HI0.out
       have hcz17_0:=cellS95_0 HGz17
       have hcz17_1:=cellS95_1 HGz17
       have hcz17_2:=cellS95_2 HGz17
       have hfz17_0:=blk_frozen HGz17 0
       have hfz17_1:=blk_frozen HGz17 1
       have hfz17_2:=blk_frozen HGz17 2
       clear HGz17 hgz17
       obtain ⟨Ao18,co18,eo18⟩:=Kd.R_slice HO_3.out
       subst eo18
       go_wp2_with (first | (go_at_call 72;(with_reducible refine (Y3.calls kj3 _ _ x3_1 t605 _ ?s1 ?s2 A16.out).mono ?_);(case s1=>repeat (first | exact (Kd.R_reads' HO_3.out).2.2 | (with_reducible refine Kd.C_alloc ?_ _) | (with_reducible refine Kd.C_drewN ?_ _) | (with_reducible refine Kd.C_drew ?_)));(case s2=>exact (Kd.R_reads' HO_3.out).2.1);rintro e w19 ⟨rfl,hb⟩;have n0_:=aM (Kd.R_below (z0_ HO_3.out) hb);have n1_:=aM (IsS95.below (z21_ HI0.out) hb);have n2_:=aM (KeepBut.trans (z6_ HK.out) (KeepBut.of_below hb g none) (.inl rfl));have n3_:=aM (below_step (z22_ HB.out HI0.out) hb);clear HO_3;clear HI0;clear HK;clear HB;have HO_3:=n0_;have HI0:=n1_;have HK:=n2_;have HB:=n3_;clear n0_ n1_ n2_ n3_;(try clear hb);obtain ⟨HGz20,hgz20⟩:=HI0.out;have hcz20_0:=cellS95_0 HGz20;have hcz20_1:=cellS95_1 HGz20;have hcz20_2:=cellS95_2 HGz20;have hfz20_0:=blk_frozen HGz20 0;have hfz20_1:=blk_frozen HGz20 1;have hfz20_2:=blk_frozen HGz20 2;clear HGz20 hgz20))
       go_ret
       exact ⟨_,z5_,by (with_reducible repeat (first | apply Kd.R_alloc | apply Kd.R_drewN | apply Kd.R_drew));exact Kd.R_mono (Kd.R_far (p:=⟨g,2,none⟩) (IsS95.apart HI0.out HO_3.out (by decide)) (fun _ hk=>hk.2) (.bool (!t605))) (fun _ hk=>trivial),z21_ HI0.out,z22_ HB.out HI0.out,z6_ HK.out⟩


/-! ### Y64: function 79 -/
def Y64.f (s0_0:ByteArray) (s0_1:Int) (s0_2:Bool):Option (Bool × ByteArray × Int × Bool):=if s0_2=true then (some (false,s0_0,s0_1,s0_2)) else ((Y66.f s0_0).bind fun t617=>(some ((s0_1 == t617),s0_0,s0_1,s0_2)))
theorem Y64.calls (g:Nat) (s0_0:ByteArray) (s0_1:Int) (s0_2:Bool) (r1:Bool) (r2:ByteArray) (r3:Int) (r4:Bool) (w0 w:World) (hI:IsS95 w0 w g s0_0 s0_1 s0_2) (hB:Below w0.heap.size w0 w) (h:Y64.f s0_0 s0_1 s0_2=some (r1,r2,r3,r4)) :
  Calls Try.prog 79 #[.pointer (some ⟨g,0,none⟩)] w fun e w'=>e = .returned (.bool r1)∧IsS95 w0 w' g r2 r3 r4∧Below w0.heap.size w0 w'∧KeepBut w w' g none:=by
 have HI0:=aM hI
 have HK:=aM (KeepBut.refl w g none)
 have HL:=aM hB.size
 clear hI
 have HW0:=aM hB.size
 have HB:=aM hB
 clear hB
 have H:(if s0_2=true then (some (false,s0_0,s0_1,s0_2)) else ((Y66.f s0_0).bind fun t617=>(some ((s0_1 == t617),s0_0,s0_1,s0_2))))=some (r1,r2,r3,r4):=h
 clear h
 by_cases c2:s0_2=true
 ·subst c2
  have H1:(some (false,s0_0,s0_1,true))=some (r1,r2,r3,r4):=by rw [if_pos rfl] at H;exact H
  clear H
  have H:=H1
  clear H1
  simp only [Option.some.injEq,Prod.mk.injEq] at H
  obtain ⟨rfl,rfl,rfl,rfl⟩:=H
  obtain ⟨HGz3,hgz3⟩:=HI0.out
  have hcz3_0:=cellS95_0 HGz3
  have hcz3_1:=cellS95_1 HGz3
  have hcz3_2:=cellS95_2 HGz3
  have hfz3_0:=blk_frozen HGz3 0
  have hfz3_1:=blk_frozen HGz3 1
  have hfz3_2:=blk_frozen HGz3 2
  clear HGz3 hgz3
  go_enter Try.func79,Try.ntmps79
  go_wp2
  repeat (go_quiet (fail);try go_wp2)
  go_ret
  exact ⟨z5_,z21_ HI0.out,z22_ HB.out HI0.out,z6_ HK.out⟩
 ·replace c2:=Bool.eq_false_iff.mpr c2
  subst c2
  have H1:((Y66.f s0_0).bind fun t617=>(some ((s0_1 == t617),s0_0,s0_1,false)))=some (r1,r2,r3,r4):=by rw [if_neg (show ¬ (false=true) by decide)] at H;exact H
  clear H
  have H:=H1
  clear H1
  replace H:=bS H
  obtain ⟨t617,A40,H⟩:=H
  replace H:(some ((s0_1 == t617),s0_0,s0_1,false))=some (r1,r2,r3,r4):=H
  have A4:=aM A40
  clear A40
  simp only [Option.some.injEq,Prod.mk.injEq] at H
  obtain ⟨rfl,rfl,rfl,rfl⟩:=H
  obtain ⟨HGz5,hgz5⟩:=HI0.out
  have hcz5_0:=cellS95_0 HGz5
  have hcz5_1:=cellS95_1 HGz5
  have hcz5_2:=cellS95_2 HGz5
  have hfz5_0:=blk_frozen HGz5 0
  have hfz5_1:=blk_frozen HGz5 1
  have hfz5_2:=blk_frozen HGz5 2
  clear HGz5 hgz5
  go_enter Try.func79,Try.ntmps79
  go_wp2_with (first | (go_at_call 89;(with_reducible refine (Y66.calls s0_0 t617 _ A4.out).mono ?_);rintro e w' ⟨rfl,⟨nd,rfl⟩⟩;(try first | exact ⟨rfl,_,World.drewN_drewN _ _ _⟩ | exact ⟨rfl,_,Eq.trans (World.drewN_drewN _ _ _) (congrArg (World.drewN _) (Nat.add_assoc _ _ _))⟩)))
  repeat (go_quiet (first | (go_at_call 89;(with_reducible refine (Y66.calls s0_0 t617 _ A4.out).mono ?_);rintro e w' ⟨rfl,⟨nd,rfl⟩⟩;(try first | exact ⟨rfl,_,World.drewN_drewN _ _ _⟩ | exact ⟨rfl,_,Eq.trans (World.drewN_drewN _ _ _) (congrArg (World.drewN _) (Nat.add_assoc _ _ _))⟩)));try go_wp2_with (first | (go_at_call 89;(with_reducible refine (Y66.calls s0_0 t617 _ A4.out).mono ?_);rintro e w' ⟨rfl,⟨nd,rfl⟩⟩;(try first | exact ⟨rfl,_,World.drewN_drewN _ _ _⟩ | exact ⟨rfl,_,Eq.trans (World.drewN_drewN _ _ _) (congrArg (World.drewN _) (Nat.add_assoc _ _ _))⟩))))
  go_ret
  exact ⟨z5_,z21_ HI0.out,z22_ HB.out HI0.out,z6_ HK.out⟩


/-! ### Y20: function 29 -/
def Y20.f (k:Nat) (a0:ByteArray):Option ((List (S49)) × Int):=(Y52.f k (([a0]:List ByteArray))).bind fun t622=>(if t622=true then (some (([]:List (S49)),2)) else ((Y19.f k a0 0 false).bind fun bt624=>((Y64.f bt624.2.1 bt624.2.2.1 bt624.2.2.2).bind fun bt630=>(if bt630.1=true then (some (bt624.1,0)) else (some (([]:List (S49)),3))))))
theorem Y20.mono:∀ a0 k,LeO (Y20.f k a0) (Y20.f (k+1) a0):=by
 intro a0 k
 have m0:=@Y52.mono
 have m1:=@Y19.mono
 unfold Y20.f
 exact mO
theorem Y20.calls (k:Nat) (a0:ByteArray) (r1:List (S49)) (r2:Int) (w:World) (h:Y20.f k a0=some (r1,r2)) :
  Calls Try.prog 29 #[.string a0] w fun e w'=>∃ v0_:Value,e = .returned (.agg #[v0_,.int .i64 r2])∧Kd.R k49 49 w' w.heap.size (fun _=>True) v0_ r1∧Below w.heap.size w w':=by
 have hu53:=Try.underlying53
 have hu95:=Try.underlying95
 have HB:=aM (Below.refl w.heap.size w)
 have H:((Y52.f k (([a0]:List ByteArray))).bind fun t622=>(if t622=true then (some (([]:List (S49)),2)) else ((Y19.f k a0 0 false).bind fun bt624=>((Y64.f bt624.2.1 bt624.2.2.1 bt624.2.2.2).bind fun bt630=>(if bt630.1=true then (some (bt624.1,0)) else (some (([]:List (S49)),3)))))))=some (r1,r2):=h
 clear h
 obtain ⟨y619,hy619⟩:∃ y_:List ByteArray,y_=(([a0]:List ByteArray)):=⟨_,rfl⟩
 replace H:((Y52.f k y619).bind fun t622=>(if t622=true then (some (([]:List (S49)),2)) else ((Y19.f k a0 0 false).bind fun bt624=>((Y64.f bt624.2.1 bt624.2.2.1 bt624.2.2.2).bind fun bt630=>(if bt630.1=true then (some (bt624.1,0)) else (some (([]:List (S49)),3)))))))=some (r1,r2):=by first | (rw [hy619];with_reducible exact H) | (have H2_:=(Option.bind_some _ _).symm.trans H;rw [hy619];with_reducible exact H2_) | (have H2_:=(Option.bind_some _ _).symm.trans H;with_reducible exact H2_) | with_reducible exact H | (rw [hy619];exact H) | exact H
 have Ny619:=aM hy619
 clear hy619
 replace H:=bS H
 obtain ⟨t622,A20,H⟩:=H
 replace H:(if t622=true then (some (([]:List (S49)),2)) else ((Y19.f k a0 0 false).bind fun bt624=>((Y64.f bt624.2.1 bt624.2.2.1 bt624.2.2.2).bind fun bt630=>(if bt630.1=true then (some (bt624.1,0)) else (some (([]:List (S49)),3))))))=some (r1,r2):=H
 have A2:=aM A20
 clear A20
 by_cases c3:t622=true
 ·subst c3
  have H1:(some (([]:List (S49)),2))=some (r1,r2):=by rw [if_pos rfl] at H;exact H
  clear H
  have H:=H1
  clear H1
  simp only [Option.some.injEq,Prod.mk.injEq] at H
  obtain ⟨rfl,rfl⟩:=H
  go_enter Try.func29,Try.ntmps29
  go_wp2_with (first | ((with_reducible refine gd_ 2 ?_);refine be_ 2 #[.slice none 0 0,.int .i64 0] 53 ?_;intro gb618 hg w4 hbox hb;have n0_:=aM (below_step (z1_ HB.out) hb);have n1_:=aM (hbox);have n2_:=aM ((z8_ HB.out:w.heap.size≤gb618));have n3_:=aM ((z8_ HB.out:w.heap.size≤gb618));clear HB;have HB:=n0_;have BK618:=n1_;have GW618:=n2_;have GE618:=n3_;clear n0_ n1_ n2_ n3_;clear hb hbox hg) | ((with_reducible refine gd_ 6 ?_);refine Kd.R_lit Kd.string _ 9 ?hg (N:=6) ?hd (xs:=([a0]:List ByteArray)) (inner:=[.string a0]) (ok:=fun _=>True) (okp:=fun _=>True) ?hr ?hp (fun _ hk=>hk) trivial (Below.refl _ _) (Nat.le_refl _) (by simp) ?_;(case hd=>rfl);(case hg=>rfl);(case hr=>first | (go_simp;done) | (go_simp;rfl));(case hp=>exact (Reps.one (show Kd.M Kd.string _ _ _ a0 [.string a0] from rfl) (Reps.none _ _)));intro v620 w5 ho6 hb hg_ hnew_;clear hg_ hnew_;(first | rw [← Ny619.out] at ho6 | (simp only [Int.reduceToNat] at ho6;rw [← Ny619.out] at ho6));have n0_:=aM (Kd.R_lower ho6 (below_size (z4_ HB.out GE618.out)));have n1_:=aM (blkB_ BK618.out hb);have n2_:=aM (below_step (z4_ HB.out GE618.out) hb);clear BK618;clear HB;have HO621:=n0_;have BK618:=n1_;have HB:=n2_;clear n0_ n1_ n2_;clear hb ho6;obtain ⟨Ao7,co7,eo7⟩:=Kd.R_slice HO621.out;subst eo7) | ((with_reducible refine gc_ 61 ?_);refine gl_ (some 7) Try.func61 #[.slice Ao7 y619.length co7] ?_;(with_reducible refine (Y52.calls k _ _ y619 true _ ?s1 ?s2 A2.out).mono ?_);(case s1=>repeat (first | exact (Kd.R_reads' HO621.out).2.2 | (with_reducible refine Kd.C_alloc ?_ _) | (with_reducible refine Kd.C_drewN ?_ _) | (with_reducible refine Kd.C_drew ?_)));(case s2=>exact (Kd.R_reads' HO621.out).2.1);rintro e w' ⟨rfl,⟨nd,rfl⟩⟩;refine ⟨_,rfl,?_⟩;(try (rw [drewN_self w5];generalize hq_:World.drewN w5 _=w5;have n0_:Aside0 (Kd.R Kd.string 9 w5 w.heap.size (fun _=>True) (.slice Ao7 y619.length co7) y619):=⟨z42_ HO621.out⟩;have n1_:Aside0 (w5.heap[gb618]? = some (.cells #[.slice none 0 0,.int .i64 0] 53 (0,0))):=⟨z37_ BK618.out⟩;have n2_:Aside0 (Below w.heap.size w w5):=⟨z43_ HB.out GE618.out⟩;clear HO621 BK618 HB hq_;have HO621:=n0_;have BK618:=n1_;have HB:=n2_;clear n0_ n1_ n2_));have ⟨hcz8_0,hcz8_1,hfz8_0,hfz8_1⟩:=cz2_ BK618.out))
  refine bodyPost_ret (results_cell_row rfl _ _ gb618 53 #[.slice none 0 0,.int .i64 2] (0,0) _ rfl (z15_ BK618.out) Try.underlying53 rfl (by kernel_rfl)) rfl ?_
  exact ⟨_,z5_,z25_,z4_ HB.out GE618.out⟩
 ·replace c3:=Bool.eq_false_iff.mpr c3
  subst c3
  have H1:((Y19.f k a0 0 false).bind fun bt624=>((Y64.f bt624.2.1 bt624.2.2.1 bt624.2.2.2).bind fun bt630=>(if bt630.1=true then (some (bt624.1,0)) else (some (([]:List (S49)),3)))))=some (r1,r2):=by rw [if_neg (show ¬ (false=true) by decide)] at H;exact H
  clear H
  have H:=H1
  clear H1
  replace H:=bS H
  obtain ⟨⟨t624,t627,t628,t629⟩,A90,H⟩:=H
  replace H:((Y64.f t627 t628 t629).bind fun bt630=>(if bt630.1=true then (some (t624,0)) else (some (([]:List (S49)),3))))=some (r1,r2):=H
  have A9:=aM A90
  clear A90
  replace H:=bS H
  obtain ⟨⟨t630,t631,t632,t633⟩,A100,H⟩:=H
  replace H:(if t630=true then (some (t624,0)) else (some (([]:List (S49)),3)))=some (r1,r2):=H
  have A10:=aM A100
  clear A100
  by_cases c11:t630=true
  ·subst c11
   have H1:(some (t624,0))=some (r1,r2):=by rw [if_pos rfl] at H;exact H
   clear H
   have H:=H1
   clear H1
   simp only [Option.some.injEq,Prod.mk.injEq] at H
   obtain ⟨rfl,rfl⟩:=H
   go_enter Try.func29,Try.ntmps29
   go_wp2_with (first | ((with_reducible refine gd_ 2 ?_);refine be_ 2 #[.slice none 0 0,.int .i64 0] 53 ?_;intro gb618 hg w12 hbox hb;have n0_:=aM (below_step (z1_ HB.out) hb);have n1_:=aM (hbox);have n2_:=aM ((z8_ HB.out:w.heap.size≤gb618));have n3_:=aM ((z8_ HB.out:w.heap.size≤gb618));clear HB;have HB:=n0_;have BK618:=n1_;have GW618:=n2_;have GE618:=n3_;clear n0_ n1_ n2_ n3_;clear hb hbox hg) | ((with_reducible refine gd_ 6 ?_);refine Kd.R_lit Kd.string _ 9 ?hg (N:=6) ?hd (xs:=([a0]:List ByteArray)) (inner:=[.string a0]) (ok:=fun _=>True) (okp:=fun _=>True) ?hr ?hp (fun _ hk=>hk) trivial (Below.refl _ _) (Nat.le_refl _) (by simp) ?_;(case hd=>rfl);(case hg=>rfl);(case hr=>first | (go_simp;done) | (go_simp;rfl));(case hp=>exact (Reps.one (show Kd.M Kd.string _ _ _ a0 [.string a0] from rfl) (Reps.none _ _)));intro v620 w13 ho14 hb hg_ hnew_;clear hg_ hnew_;(first | rw [← Ny619.out] at ho14 | (simp only [Int.reduceToNat] at ho14;rw [← Ny619.out] at ho14));have n0_:=aM (Kd.R_lower ho14 (below_size (z4_ HB.out GE618.out)));have n1_:=aM (blkB_ BK618.out hb);have n2_:=aM (below_step (z4_ HB.out GE618.out) hb);clear BK618;clear HB;have HO621:=n0_;have BK618:=n1_;have HB:=n2_;clear n0_ n1_ n2_;clear hb ho14;obtain ⟨Ao15,co15,eo15⟩:=Kd.R_slice HO621.out;subst eo15) | ((with_reducible refine gc_ 61 ?_);refine gl_ (some 7) Try.func61 #[.slice Ao15 y619.length co15] ?_;(with_reducible refine (Y52.calls k _ _ y619 false _ ?s1 ?s2 A2.out).mono ?_);(case s1=>repeat (first | exact (Kd.R_reads' HO621.out).2.2 | (with_reducible refine Kd.C_alloc ?_ _) | (with_reducible refine Kd.C_drewN ?_ _) | (with_reducible refine Kd.C_drew ?_)));(case s2=>exact (Kd.R_reads' HO621.out).2.1);rintro e w' ⟨rfl,⟨nd,rfl⟩⟩;refine ⟨_,rfl,?_⟩;(try (rw [drewN_self w13];generalize hq_:World.drewN w13 _=w13;have n0_:Aside0 (Kd.R Kd.string 9 w13 w.heap.size (fun _=>True) (.slice Ao15 y619.length co15) y619):=⟨z42_ HO621.out⟩;have n1_:Aside0 (w13.heap[gb618]? = some (.cells #[.slice none 0 0,.int .i64 0] 53 (0,0))):=⟨z37_ BK618.out⟩;have n2_:Aside0 (Below w.heap.size w w13):=⟨z43_ HB.out GE618.out⟩;clear HO621 BK618 HB hq_;have HO621:=n0_;have BK618:=n1_;have HB:=n2_;clear n0_ n1_ n2_))) | ((with_reducible refine gd_ 11 ?_);refine be_ 11 #[.string a0,.int .i64 0,.bool false] 95 ?_;intro gb623 hg w16 hbox hb;have n0_:=aM (Kd.R_below (z0_ HO621.out) hb);have n1_:=aM (blkB_ BK618.out hb);have n2_:=aM (below_step (z4_ HB.out GE618.out) hb);have n3_:=aM ((show IsS95 w w16 gb623 a0 0 false from ⟨hbox,(z17_ HB.out GE618.out:w.heap.size≤gb623)⟩));have n4_:=aM ((z17_ HB.out GE618.out:w.heap.size≤gb623));have n5_:=aM ((z17_ HB.out GE618.out:w.heap.size≤gb623));have n6_:=aM (neL_ BK618.out hg);have n7_:=aM (neG_ BK618.out hg);clear HO621;clear BK618;clear HB;have HO621:=n0_;have BK618:=n1_;have HB:=n2_;have HI623:=n3_;have GW623:=n4_;have GE623:=n5_;have NB618_623:=n6_;have NB623_618:=n7_;clear n0_ n1_ n2_ n3_ n4_ n5_ n6_ n7_;clear hb hbox hg) | ((with_reducible refine gc_ 78 ?_);refine gl_ (some 13) Try.func78 #[.pointer (some ⟨gb623,0,none⟩)] ?_;(with_reducible refine (Y19.calls k gb623 a0 0 false t624 t627 t628 t629 w _ ?s1 ?s2 A9.out).mono ?_);(case s1=>repeat (first | (with_reducible first | exact HI623.out | apply IsS95.alloc | apply IsS95.drewN | apply IsS95.drew | apply IsS95.set_0 | apply IsS95.set_1 | apply IsS95.set_2 | refine IsS95.far ?_ (by exact NB623_618.out) _) | exact HI623.out));(case s2=>repeat (first | (with_reducible first | exact HB.out | apply below_alloc | apply pw_below_drewN | apply below_drew1 | refine below_set ?_ (IsS95.ge HI623.out) | refine below_set ?_ GE618.out) | exact HB.out));rintro e w17 ⟨v625,rfl,ho0,hi,hb,hk⟩;refine ⟨_,rfl,?_⟩;have n0_:=aM (KeepBut.blk hk (g':=gb618) (o:=.cells #[.slice none 0 0,.int .i64 0] 53 (0,0)) (z2_ BK618.out) NB618_623.out (by simp));have n1_:=aM (Kd.R_mono (Kd.R_keep (IsS95.apart (show IsS95 w _ gb623 a0 0 false from by repeat (first | (with_reducible first | exact HI623.out | apply IsS95.alloc | apply IsS95.drewN | apply IsS95.drew | apply IsS95.set_0 | apply IsS95.set_1 | apply IsS95.set_2 | refine IsS95.far ?_ (by exact NB623_618.out) _) | exact HI623.out)) (z0_ HO621.out) (by decide)) hk (fun _ h=>h.2)) (fun _ h=>h.1));have n2_:=aM (Kd.R_lower ho0 (below_size (z32_ HB.out HI623.out GE618.out)));have n3_:=aM (hb);have n4_:=aM (hi);clear BK618;clear HO621;clear HB;clear HI623;have BK618:=n0_;have HO621:=n1_;have HO626:=n2_;have HB:=n3_;have HI623:=n4_;clear n0_ n1_ n2_ n3_ n4_;(try clear hb);(try clear hk);(try clear hi);(try clear ho0)) | ((with_reducible refine gc_ 79 ?_);refine gl_ (some 15) Try.func79 #[.pointer (some ⟨gb623,0,none⟩)] ?_;(with_reducible refine (Y64.calls gb623 t627 t628 t629 true t631 t632 t633 w _ ?s1 ?s2 A10.out).mono ?_);(case s1=>repeat (first | (with_reducible first | exact HI623.out | apply IsS95.alloc | apply IsS95.drewN | apply IsS95.drew | apply IsS95.set_0 | apply IsS95.set_1 | apply IsS95.set_2 | refine IsS95.far ?_ (by exact NB623_618.out) _) | exact HI623.out));(case s2=>repeat (first | (with_reducible first | exact HB.out | apply below_alloc | apply pw_below_drewN | apply below_drew1 | refine below_set ?_ (IsS95.ge HI623.out) | refine below_set ?_ GE618.out) | exact HB.out));rintro e w18 ⟨rfl,hi,hb,hk⟩;refine ⟨_,rfl,?_⟩;have n0_:=aM (KeepBut.blk hk (g':=gb618) (o:=.cells #[.slice none 0 0,.int .i64 0] 53 (0,0)) (z2_ BK618.out) NB618_623.out (by simp));have n1_:=aM (Kd.R_mono (Kd.R_keep (IsS95.apart (show IsS95 w _ gb623 t627 t628 t629 from by repeat (first | (with_reducible first | exact HI623.out | apply IsS95.alloc | apply IsS95.drewN | apply IsS95.drew | apply IsS95.set_0 | apply IsS95.set_1 | apply IsS95.set_2 | refine IsS95.far ?_ (by exact NB623_618.out) _) | exact HI623.out)) (z0_ HO621.out) (by decide)) hk (fun _ h=>h.2)) (fun _ h=>h.1));have n2_:=aM (Kd.R_mono (Kd.R_keep (IsS95.apart (show IsS95 w _ gb623 t627 t628 t629 from by repeat (first | (with_reducible first | exact HI623.out | apply IsS95.alloc | apply IsS95.drewN | apply IsS95.drew | apply IsS95.set_0 | apply IsS95.set_1 | apply IsS95.set_2 | refine IsS95.far ?_ (by exact NB623_618.out) _) | exact HI623.out)) (z0_ HO626.out) (by decide)) hk (fun _ h=>h.2)) (fun _ h=>h.1));have n3_:=aM (hb);have n4_:=aM (hi);clear BK618;clear HO621;clear HO626;clear HB;clear HI623;have BK618:=n0_;have HO621:=n1_;have HO626:=n2_;have HB:=n3_;have HI623:=n4_;clear n0_ n1_ n2_ n3_ n4_;(try clear hb);(try clear hk);(try clear hi);obtain ⟨Ao19,co19,eo19⟩:=Kd.R_slice HO626.out;subst eo19;have hnb20:=NB618_623.out;have hnc20:=NB623_618.out;have ⟨hcz21_0,hcz21_1,hfz21_0,hfz21_1⟩:=cz2_ BK618.out))
   refine bodyPost_ret (results_cell_row rfl _ _ gb618 53 #[.slice Ao19 t624.length co19,.int .i64 0] (0,0) _ rfl (z15_ BK618.out) Try.underlying53 rfl (by kernel_rfl)) rfl ?_
   exact ⟨_,z5_,z38_ HO626.out BK618.out,z32_ HB.out HI623.out GE618.out⟩
  ·replace c11:=Bool.eq_false_iff.mpr c11
   subst c11
   have H1:(some (([]:List (S49)),3))=some (r1,r2):=by rw [if_neg (show ¬ (false=true) by decide)] at H;exact H
   clear H
   have H:=H1
   clear H1
   simp only [Option.some.injEq,Prod.mk.injEq] at H
   obtain ⟨rfl,rfl⟩:=H
   go_enter Try.func29,Try.ntmps29
   go_wp2_with (first | ((with_reducible refine gd_ 2 ?_);refine be_ 2 #[.slice none 0 0,.int .i64 0] 53 ?_;intro gb618 hg w22 hbox hb;have n0_:=aM (below_step (z1_ HB.out) hb);have n1_:=aM (hbox);have n2_:=aM ((z8_ HB.out:w.heap.size≤gb618));have n3_:=aM ((z8_ HB.out:w.heap.size≤gb618));clear HB;have HB:=n0_;have BK618:=n1_;have GW618:=n2_;have GE618:=n3_;clear n0_ n1_ n2_ n3_;clear hb hbox hg) | ((with_reducible refine gd_ 6 ?_);refine Kd.R_lit Kd.string _ 9 ?hg (N:=6) ?hd (xs:=([a0]:List ByteArray)) (inner:=[.string a0]) (ok:=fun _=>True) (okp:=fun _=>True) ?hr ?hp (fun _ hk=>hk) trivial (Below.refl _ _) (Nat.le_refl _) (by simp) ?_;(case hd=>rfl);(case hg=>rfl);(case hr=>first | (go_simp;done) | (go_simp;rfl));(case hp=>exact (Reps.one (show Kd.M Kd.string _ _ _ a0 [.string a0] from rfl) (Reps.none _ _)));intro v620 w23 ho24 hb hg_ hnew_;clear hg_ hnew_;(first | rw [← Ny619.out] at ho24 | (simp only [Int.reduceToNat] at ho24;rw [← Ny619.out] at ho24));have n0_:=aM (Kd.R_lower ho24 (below_size (z4_ HB.out GE618.out)));have n1_:=aM (blkB_ BK618.out hb);have n2_:=aM (below_step (z4_ HB.out GE618.out) hb);clear BK618;clear HB;have HO621:=n0_;have BK618:=n1_;have HB:=n2_;clear n0_ n1_ n2_;clear hb ho24;obtain ⟨Ao25,co25,eo25⟩:=Kd.R_slice HO621.out;subst eo25) | ((with_reducible refine gc_ 61 ?_);refine gl_ (some 7) Try.func61 #[.slice Ao25 y619.length co25] ?_;(with_reducible refine (Y52.calls k _ _ y619 false _ ?s1 ?s2 A2.out).mono ?_);(case s1=>repeat (first | exact (Kd.R_reads' HO621.out).2.2 | (with_reducible refine Kd.C_alloc ?_ _) | (with_reducible refine Kd.C_drewN ?_ _) | (with_reducible refine Kd.C_drew ?_)));(case s2=>exact (Kd.R_reads' HO621.out).2.1);rintro e w' ⟨rfl,⟨nd,rfl⟩⟩;refine ⟨_,rfl,?_⟩;(try (rw [drewN_self w23];generalize hq_:World.drewN w23 _=w23;have n0_:Aside0 (Kd.R Kd.string 9 w23 w.heap.size (fun _=>True) (.slice Ao25 y619.length co25) y619):=⟨z42_ HO621.out⟩;have n1_:Aside0 (w23.heap[gb618]? = some (.cells #[.slice none 0 0,.int .i64 0] 53 (0,0))):=⟨z37_ BK618.out⟩;have n2_:Aside0 (Below w.heap.size w w23):=⟨z43_ HB.out GE618.out⟩;clear HO621 BK618 HB hq_;have HO621:=n0_;have BK618:=n1_;have HB:=n2_;clear n0_ n1_ n2_))) | ((with_reducible refine gd_ 11 ?_);refine be_ 11 #[.string a0,.int .i64 0,.bool false] 95 ?_;intro gb623 hg w26 hbox hb;have n0_:=aM (Kd.R_below (z0_ HO621.out) hb);have n1_:=aM (blkB_ BK618.out hb);have n2_:=aM (below_step (z4_ HB.out GE618.out) hb);have n3_:=aM ((show IsS95 w w26 gb623 a0 0 false from ⟨hbox,(z17_ HB.out GE618.out:w.heap.size≤gb623)⟩));have n4_:=aM ((z17_ HB.out GE618.out:w.heap.size≤gb623));have n5_:=aM ((z17_ HB.out GE618.out:w.heap.size≤gb623));have n6_:=aM (neL_ BK618.out hg);have n7_:=aM (neG_ BK618.out hg);clear HO621;clear BK618;clear HB;have HO621:=n0_;have BK618:=n1_;have HB:=n2_;have HI623:=n3_;have GW623:=n4_;have GE623:=n5_;have NB618_623:=n6_;have NB623_618:=n7_;clear n0_ n1_ n2_ n3_ n4_ n5_ n6_ n7_;clear hb hbox hg) | ((with_reducible refine gc_ 78 ?_);refine gl_ (some 13) Try.func78 #[.pointer (some ⟨gb623,0,none⟩)] ?_;(with_reducible refine (Y19.calls k gb623 a0 0 false t624 t627 t628 t629 w _ ?s1 ?s2 A9.out).mono ?_);(case s1=>repeat (first | (with_reducible first | exact HI623.out | apply IsS95.alloc | apply IsS95.drewN | apply IsS95.drew | apply IsS95.set_0 | apply IsS95.set_1 | apply IsS95.set_2 | refine IsS95.far ?_ (by exact NB623_618.out) _) | exact HI623.out));(case s2=>repeat (first | (with_reducible first | exact HB.out | apply below_alloc | apply pw_below_drewN | apply below_drew1 | refine below_set ?_ (IsS95.ge HI623.out) | refine below_set ?_ GE618.out) | exact HB.out));rintro e w27 ⟨v625,rfl,ho0,hi,hb,hk⟩;refine ⟨_,rfl,?_⟩;have n0_:=aM (KeepBut.blk hk (g':=gb618) (o:=.cells #[.slice none 0 0,.int .i64 0] 53 (0,0)) (z2_ BK618.out) NB618_623.out (by simp));have n1_:=aM (Kd.R_mono (Kd.R_keep (IsS95.apart (show IsS95 w _ gb623 a0 0 false from by repeat (first | (with_reducible first | exact HI623.out | apply IsS95.alloc | apply IsS95.drewN | apply IsS95.drew | apply IsS95.set_0 | apply IsS95.set_1 | apply IsS95.set_2 | refine IsS95.far ?_ (by exact NB623_618.out) _) | exact HI623.out)) (z0_ HO621.out) (by decide)) hk (fun _ h=>h.2)) (fun _ h=>h.1));have n2_:=aM (Kd.R_lower ho0 (below_size (z32_ HB.out HI623.out GE618.out)));have n3_:=aM (hb);have n4_:=aM (hi);clear BK618;clear HO621;clear HB;clear HI623;have BK618:=n0_;have HO621:=n1_;have HO626:=n2_;have HB:=n3_;have HI623:=n4_;clear n0_ n1_ n2_ n3_ n4_;(try clear hb);(try clear hk);(try clear hi);(try clear ho0)) | ((with_reducible refine gc_ 79 ?_);refine gl_ (some 15) Try.func79 #[.pointer (some ⟨gb623,0,none⟩)] ?_;(with_reducible refine (Y64.calls gb623 t627 t628 t629 false t631 t632 t633 w _ ?s1 ?s2 A10.out).mono ?_);(case s1=>repeat (first | (with_reducible first | exact HI623.out | apply IsS95.alloc | apply IsS95.drewN | apply IsS95.drew | apply IsS95.set_0 | apply IsS95.set_1 | apply IsS95.set_2 | refine IsS95.far ?_ (by exact NB623_618.out) _) | exact HI623.out));(case s2=>repeat (first | (with_reducible first | exact HB.out | apply below_alloc | apply pw_below_drewN | apply below_drew1 | refine below_set ?_ (IsS95.ge HI623.out) | refine below_set ?_ GE618.out) | exact HB.out));rintro e w28 ⟨rfl,hi,hb,hk⟩;refine ⟨_,rfl,?_⟩;have n0_:=aM (KeepBut.blk hk (g':=gb618) (o:=.cells #[.slice none 0 0,.int .i64 0] 53 (0,0)) (z2_ BK618.out) NB618_623.out (by simp));have n1_:=aM (Kd.R_mono (Kd.R_keep (IsS95.apart (show IsS95 w _ gb623 t627 t628 t629 from by repeat (first | (with_reducible first | exact HI623.out | apply IsS95.alloc | apply IsS95.drewN | apply IsS95.drew | apply IsS95.set_0 | apply IsS95.set_1 | apply IsS95.set_2 | refine IsS95.far ?_ (by exact NB623_618.out) _) | exact HI623.out)) (z0_ HO621.out) (by decide)) hk (fun _ h=>h.2)) (fun _ h=>h.1));have n2_:=aM (Kd.R_mono (Kd.R_keep (IsS95.apart (show IsS95 w _ gb623 t627 t628 t629 from by repeat (first | (with_reducible first | exact HI623.out | apply IsS95.alloc | apply IsS95.drewN | apply IsS95.drew | apply IsS95.set_0 | apply IsS95.set_1 | apply IsS95.set_2 | refine IsS95.far ?_ (by exact NB623_618.out) _) | exact HI623.out)) (z0_ HO626.out) (by decide)) hk (fun _ h=>h.2)) (fun _ h=>h.1));have n3_:=aM (hb);have n4_:=aM (hi);clear BK618;clear HO621;clear HO626;clear HB;clear HI623;have BK618:=n0_;have HO621:=n1_;have HO626:=n2_;have HB:=n3_;have HI623:=n4_;clear n0_ n1_ n2_ n3_ n4_;(try clear hb);(try clear hk);(try clear hi);have hnb29:=NB618_623.out;have hnc29:=NB623_618.out;have ⟨hcz30_0,hcz30_1,hfz30_0,hfz30_1⟩:=cz2_ BK618.out))
   refine bodyPost_ret (results_cell_row rfl _ _ gb618 53 #[.slice none 0 0,.int .i64 3] (0,0) _ rfl (z15_ BK618.out) Try.underlying53 rfl (by kernel_rfl)) rfl ?_
   exact ⟨_,z5_,z25_,z32_ HB.out HI623.out GE618.out⟩


theorem eqA49 (d:Nat) (w:World) (x0 y0:Int) (x1 y1:Int) :
  (Op.equalIn (d+2) 49 (.agg #[.int .i64 x0,.int .i64 x1]) (.agg #[.int .i64 y0,.int .i64 y1])).run Try.prog w = .ok (x0 == y0 && (x1 == y1)) w:=by
 refine eqA_of Try.underlying49 (by kernel_rfl) ?_
 refine eqf_cons (by rfl) (by go_simp;rfl) (by go_simp;rfl) (by go_simp) ?_
 exact eqf_last (by rfl) (by go_simp;rfl) (by go_simp;rfl) (by go_simp)

attribute [local go_sem high] eqA49
/-! ### Y6: function 30 -/
def Y6.l0:Nat→List (S49)→List (S49)→Int→Option (Bool)
 | 0,_,_,_=>none
 | k+1,x0,x1,x5=>if x5<(x0.length:Int) then (if 0≤x5 then (if x5<(x1.length:Int) then (if (!(((rd_T49 x0 x5).f0) == ((rd_T49 x1 x5).f0)) || (!(((rd_T49 x0 x5).f1) == ((rd_T49 x1 x5).f1))))=true then (some false) else (Y6.l0 k x0 x1 (wrap64 (x5+1)))) else (none)) else (none)) else (some true)
def Y6.f (k:Nat) (l0:List (S49)) (l1:List (S49)):Option (Bool):=if (l0.length:Int)=(l1.length:Int) then (Y6.l0 k l0 l1 0) else (some false)
theorem Y6.mono_l:∀ k,(∀ y0 y1 y2,LeO (Y6.l0 k y0 y1 y2) (Y6.l0 (k+1) y0 y1 y2))
 | 0=>by intros <;> exact LeO.none _
 | k+1=>by
  have ih0:=Y6.mono_l k
  ·intros
   unfold Y6.l0
   exact mO
theorem Y6.mono:∀ a0 a1 k,LeO (Y6.f k a0 a1) (Y6.f (k+1) a0 a1):=by
 intro a0 a1 k
 have ih0:=Y6.mono_l k
 unfold Y6.f
 exact mO
theorem Y6.calls (k:Nat) (A0:Option Addr) (c0:Nat) (l0:List (S49)) (A1:Option Addr) (c1:Nat) (l1:List (S49)) (r:Bool) (w:World) (hr0:Kd.C k49 w A0 l0.length l0) (hc0:l0.length≤c0) (hr1:Kd.C k49 w A1 l1.length l1) (hc1:l1.length≤c1) (h:Y6.f k l0 l1=some r) :
  Calls Try.prog 30 #[.slice A0 l0.length c0,.slice A1 l1.length c1] w fun e w'=>e = .returned (.bool r)∧Drawn0 w w':=by
 have hu49:=Try.underlying49
 have HR0:=aM hr0
 have HC0:=aM hc0
 clear hr0 hc0
 have HR1:=aM hr1
 have HC1:=aM hc1
 clear hr1 hc1
 have H:(if (l0.length:Int)=(l1.length:Int) then (Y6.l0 k l0 l1 0) else (some false))=some r:=h
 clear h
 by_cases c3:(l0.length:Int)=(l1.length:Int)
 ·rw [if_pos c3] at H
  have c3b0:((l0.length:Int) == (l1.length:Int))=true:=beq_iff_eq.mpr c3
  have c3b1:((l0.length:Int) != (l1.length:Int))=false:=bne_eq_false_iff_eq.mpr c3
  have c3b2:(l0.length == l1.length)=true:=by first | simpa using c3 | (simp at c3 ⊢;omega)
  clear c3
  have H':=aM H
  clear H
  go_enter Try.func30,Try.ntmps30
  go_wp2
  repeat (go_quiet (fail);try go_wp2)
  go_loopg [5] k (fun kq v5 w'=>∃ (x5_1:Int),v5 = .int .i64 x5_1∧Aside0 (Y6.l0 kq l0 l1 x5_1=some r)∧Aside0 (kq≤k)∧Drawn0 w w')
  case atStart=>exact ⟨(0),(z3_),H',⟨Nat.le_refl _⟩,z14_⟩
  case round =>
   clear H'
   try clear c1
   try clear p2
   try clear c3
   try clear c3b0
   try clear c3b1
   try clear c3b2
   obtain ⟨x5_1,rfl,HA,HK1,⟨m1,rfl⟩⟩:=hrel
   cases gk with
   | zero=>exact absurd HA.out (by simp [Y6.l0])
   | succ k1 =>
    have H:=HA.out
    clear HA
    simp only [Y6.l0] at H
    by_cases c4:x5_1<(l0.length:Int)
    ·rw [if_pos c4] at H
     have c4b0:decide (x5_1<(l0.length:Int))=true:=dE c4
     clear c4
     by_cases c5:0≤x5_1
     ·rw [if_pos c5] at H
      have c5b0:decide (0≤x5_1)=true:=dE c5
      clear c5
      by_cases c6:x5_1<(l1.length:Int)
      ·rw [if_pos c6] at H
       have c6b0:decide (x5_1<(l1.length:Int))=true:=dE c6
       clear c6
       by_cases c7:(!(((rd_T49 l0 x5_1).f0) == ((rd_T49 l1 x5_1).f0)) || (!(((rd_T49 l0 x5_1).f1) == ((rd_T49 l1 x5_1).f1))))=true
       ·rw [if_pos c7] at H
        have c7b0:(!(((rd_T49 l0 x5_1).f0) == ((rd_T49 l1 x5_1).f0)) || (!(((rd_T49 l0 x5_1).f1) == ((rd_T49 l1 x5_1).f1))))=true:=c7
        clear c7
        obtain rfl:=sI H
        have p634:0≤(x5_1:Int):=dT (z7_)
        have q634:x5_1<(l0.length:Int):=dT (z7_)
        obtain ⟨ad634,e634,hx634_0,hx634_1⟩:=at_T49 HR0.out x5_1 p634 q634
        cases e634
        replace p634:=eq_true p634
        replace q634:=eq_true q634
        have p635:0≤(x5_1:Int):=dT (z7_)
        have q635:x5_1<(l1.length:Int):=dT (z7_)
        obtain ⟨ad635,e635,hx635_0,hx635_1⟩:=at_T49 HR1.out x5_1 p635 q635
        cases e635
        replace p635:=eq_true p635
        replace q635:=eq_true q635
        go_wp2
        repeat (go_quiet (fail);try go_wp2)
        go_ret
        exact ⟨z3_,z14_⟩
       ·rw [if_neg c7] at H
        have c7b0:(!(((rd_T49 l0 x5_1).f0) == ((rd_T49 l1 x5_1).f0)) || (!(((rd_T49 l0 x5_1).f1) == ((rd_T49 l1 x5_1).f1))))=false:=by simpa using c7
        clear c7
        have H':=aM H
        clear H
        have p634:0≤(x5_1:Int):=dT (z7_)
        have q634:x5_1<(l0.length:Int):=dT (z7_)
        obtain ⟨ad634,e634,hx634_0,hx634_1⟩:=at_T49 HR0.out x5_1 p634 q634
        cases e634
        replace p634:=eq_true p634
        replace q634:=eq_true q634
        have p635:0≤(x5_1:Int):=dT (z7_)
        have q635:x5_1<(l1.length:Int):=dT (z7_)
        obtain ⟨ad635,e635,hx635_0,hx635_1⟩:=at_T49 HR1.out x5_1 p635 q635
        cases e635
        replace p635:=eq_true p635
        replace q635:=eq_true q635
        go_wp2
        repeat (go_quiet (fail);try go_wp2)
        go_roundg k1
        case measure=>have:=HK1.out;omega
        case rel=>exact ⟨(wrap64 (x5_1+1)),(z3_),H',⟨by have:=HK1.out;omega⟩,z14_⟩
      ·rw [if_neg c6] at H
       exact nO H
     ·rw [if_neg c5] at H
      exact nO H
    ·rw [if_neg c4] at H
     have c4b0:decide (x5_1<(l0.length:Int))=false:=dF c4
     clear c4
     obtain rfl:=sI H
     go_wp2
     repeat (go_quiet (fail);try go_wp2)
     go_ret
     exact ⟨z3_,z14_⟩
 ·rw [if_neg c3] at H
  have c3b0:((l0.length:Int) == (l1.length:Int))=false:=beq_eq_false_iff_ne.mpr c3
  have c3b1:((l0.length:Int) != (l1.length:Int))=true:=bne_iff_ne.mpr c3
  have c3b2:(l0.length == l1.length)=false:=by first | simpa using c3 | (simp at c3 ⊢;omega)
  obtain rfl:=sI H
  go_enter Try.func30,Try.ntmps30
  go_wp2
  repeat (go_quiet (fail);try go_wp2)
  go_ret
  exact ⟨z3_,z14_⟩


/-! ### Y47: function 31 -/
def Y47.f (k:Nat) (l0:List (S49)) (l1:List (S49)):Option ((List (S49))):=(Y1.f k l0).bind fun t636=>(if t636=true then ((Y1.f k l1).bind fun t637=>(if t637=true then ((Y29.f k l0 l1).bind fun t638=>(some t638)) else (some (([]:List (S49)))))) else (some (([]:List (S49)))))
theorem Y47.mono:∀ a0 a1 k,LeO (Y47.f k a0 a1) (Y47.f (k+1) a0 a1):=by
 intro a0 a1 k
 have m0:=@Y1.mono
 have m1:=@Y29.mono
 unfold Y47.f
 exact mO
theorem Y47.calls (k:Nat) (A0:Option Addr) (c0:Nat) (l0:List (S49)) (A1:Option Addr) (c1:Nat) (l1:List (S49)) (r:List (S49)) (w:World) (hr0:Kd.C k49 w A0 l0.length l0) (hc0:l0.length≤c0) (hr1:Kd.C k49 w A1 l1.length l1) (hc1:l1.length≤c1) (h:Y47.f k l0 l1=some r) :
  Calls Try.prog 31 #[.slice A0 l0.length c0,.slice A1 l1.length c1] w fun e w'=>∃ v0_:Value,e = .returned (v0_)∧Kd.R k49 49 w' w.heap.size (fun _=>True) v0_ r∧Below w.heap.size w w':=by
 have HR0:=aM hr0
 have HC0:=aM hc0
 clear hr0 hc0
 have HR1:=aM hr1
 have HC1:=aM hc1
 clear hr1 hc1
 have HB:=aM (Below.refl w.heap.size w)
 have H:((Y1.f k l0).bind fun t636=>(if t636=true then ((Y1.f k l1).bind fun t637=>(if t637=true then ((Y29.f k l0 l1).bind fun t638=>(some t638)) else (some (([]:List (S49)))))) else (some (([]:List (S49))))))=some r:=h
 clear h
 replace H:=bS H
 obtain ⟨t636,A30,H⟩:=H
 replace H:(if t636=true then ((Y1.f k l1).bind fun t637=>(if t637=true then ((Y29.f k l0 l1).bind fun t638=>(some t638)) else (some (([]:List (S49)))))) else (some (([]:List (S49)))))=some r:=H
 have A3:=aM A30
 clear A30
 by_cases c4:t636=true
 ·subst c4
  have H1:((Y1.f k l1).bind fun t637=>(if t637=true then ((Y29.f k l0 l1).bind fun t638=>(some t638)) else (some (([]:List (S49))))))=some r:=by rw [if_pos rfl] at H;exact H
  clear H
  have H:=H1
  clear H1
  replace H:=bS H
  obtain ⟨t637,A50,H⟩:=H
  replace H:(if t637=true then ((Y29.f k l0 l1).bind fun t638=>(some t638)) else (some (([]:List (S49)))))=some r:=H
  have A5:=aM A50
  clear A50
  by_cases c6:t637=true
  ·subst c6
   have H1:((Y29.f k l0 l1).bind fun t638=>(some t638))=some r:=by rw [if_pos rfl] at H;exact H
   clear H
   have H:=H1
   clear H1
   replace H:=bS H
   obtain ⟨t638,A70,H⟩:=H
   replace H:(some t638)=some r:=H
   have A7:=aM A70
   clear A70
   obtain rfl:=sI H
   go_enter Try.func31,Try.ntmps31
   go_wp2_with (first | ((with_reducible refine gc_ 42 ?_);refine gl_ (some 6) Try.func42 #[.slice A0 l0.length c0] ?_;(with_reducible refine (Y1.calls k _ _ l0 true _ ?s1 ?s2 A3.out).mono ?_);(case s1=>repeat (first | exact HR0.out | (with_reducible refine Kd.C_alloc ?_ _) | (with_reducible refine Kd.C_drewN ?_ _) | (with_reducible refine Kd.C_drew ?_)));(case s2=>exact HC0.out);rintro e w8 ⟨rfl,hb⟩;refine ⟨_,rfl,?_⟩;have n0_:=aM (below_step (z1_ HB.out) hb);clear HB;have HB:=n0_;clear n0_;(try clear hb)) | (go_at_call 42;(with_reducible refine (Y1.calls k _ _ l1 true _ ?s1 ?s2 A5.out).mono ?_);(case s1=>repeat (first | exact (Kd.C_below HR1.out HB.out) | (with_reducible refine Kd.C_alloc ?_ _) | (with_reducible refine Kd.C_drewN ?_ _) | (with_reducible refine Kd.C_drew ?_)));(case s2=>exact HC1.out);rintro e w9 ⟨rfl,hb⟩;have n0_:=aM (below_step (z1_ HB.out) hb);clear HB;have HB:=n0_;clear n0_;(try clear hb)) | ((with_reducible refine gc_ 80 ?_);refine gl_ (some 16) Try.func80 #[.slice A0 l0.length c0,.slice A1 l1.length c1] ?_;(with_reducible refine (Y29.calls k _ _ l0 _ _ l1 t638 _ ?s1 ?s2 ?s3 ?s4 A7.out).mono ?_);(case s1=>repeat (first | exact (Kd.C_below HR0.out HB.out) | (with_reducible refine Kd.C_alloc ?_ _) | (with_reducible refine Kd.C_drewN ?_ _) | (with_reducible refine Kd.C_drew ?_)));(case s2=>exact HC0.out);(case s3=>repeat (first | exact (Kd.C_below HR1.out HB.out) | (with_reducible refine Kd.C_alloc ?_ _) | (with_reducible refine Kd.C_drewN ?_ _) | (with_reducible refine Kd.C_drew ?_)));(case s4=>exact HC1.out);rintro e w10 ⟨v639,rfl,ho0,hb⟩;refine ⟨_,rfl,?_⟩;have n0_:=aM (Kd.R_lower ho0 (below_size (z1_ HB.out)));have n1_:=aM (below_step (z1_ HB.out) hb);clear HB;have HO640:=n0_;have HB:=n1_;clear n0_ n1_;(try clear hb);(try clear ho0)))
   go_ret
   exact ⟨_,z5_,z0_ HO640.out,z1_ HB.out⟩
  ·replace c6:=Bool.eq_false_iff.mpr c6
   subst c6
   have H1:(some (([]:List (S49))))=some r:=by rw [if_neg (show ¬ (false=true) by decide)] at H;exact H
   clear H
   have H:=H1
   clear H1
   obtain ⟨y641,hy641⟩:∃ y_:List (S49),y_=(([]:List (S49))):=⟨_,rfl⟩
   replace H:(some y641)=some r:=by first | (rw [hy641];with_reducible exact H) | (have H2_:=(Option.bind_some _ _).symm.trans H;rw [hy641];with_reducible exact H2_) | (have H2_:=(Option.bind_some _ _).symm.trans H;with_reducible exact H2_) | with_reducible exact H | (rw [hy641];exact H) | exact H
   have Ny641:=aM hy641
   clear hy641
   obtain rfl:=sI H
   go_enter Try.func31,Try.ntmps31
   go_wp2_with (first | ((with_reducible refine gc_ 42 ?_);refine gl_ (some 6) Try.func42 #[.slice A0 l0.length c0] ?_;(with_reducible refine (Y1.calls k _ _ l0 true _ ?s1 ?s2 A3.out).mono ?_);(case s1=>repeat (first | exact HR0.out | (with_reducible refine Kd.C_alloc ?_ _) | (with_reducible refine Kd.C_drewN ?_ _) | (with_reducible refine Kd.C_drew ?_)));(case s2=>exact HC0.out);rintro e w11 ⟨rfl,hb⟩;refine ⟨_,rfl,?_⟩;have n0_:=aM (below_step (z1_ HB.out) hb);clear HB;have HB:=n0_;clear n0_;(try clear hb)) | (go_at_call 42;(with_reducible refine (Y1.calls k _ _ l1 false _ ?s1 ?s2 A5.out).mono ?_);(case s1=>repeat (first | exact (Kd.C_below HR1.out HB.out) | (with_reducible refine Kd.C_alloc ?_ _) | (with_reducible refine Kd.C_drewN ?_ _) | (with_reducible refine Kd.C_drew ?_)));(case s2=>exact HC1.out);rintro e w12 ⟨rfl,hb⟩;have n0_:=aM (below_step (z1_ HB.out) hb);clear HB;have HB:=n0_;clear n0_;(try clear hb)) | ((with_reducible refine gd_ 13 ?_);refine Kd.R_lit k49 _ 49 ?hg (N:=13) ?hd (xs:=([]:List (S49))) (inner:=[]) (ok:=fun _=>True) (okp:=fun _=>True) ?hr ?hp (fun _ hk=>hk) trivial (Below.refl _ _) (Nat.le_refl _) (by simp) ?_;(case hd=>rfl);(case hg=>rfl);(case hr=>first | (go_simp;done) | (go_simp;rfl));(case hp=>exact (Reps.none _ _));intro v642 w13 ho14 hb hg_ hnew_;clear hg_ hnew_;(first | rw [← Ny641.out] at ho14 | (simp only [Int.reduceToNat] at ho14;rw [← Ny641.out] at ho14));have n0_:=aM (Kd.R_lower ho14 (below_size (z1_ HB.out)));have n1_:=aM (below_step (z1_ HB.out) hb);clear HB;have HO643:=n0_;have HB:=n1_;clear n0_ n1_;clear hb ho14))
   go_ret
   exact ⟨_,z5_,z0_ HO643.out,z1_ HB.out⟩
 ·replace c4:=Bool.eq_false_iff.mpr c4
  subst c4
  have H1:(some (([]:List (S49))))=some r:=by rw [if_neg (show ¬ (false=true) by decide)] at H;exact H
  clear H
  have H:=H1
  clear H1
  obtain ⟨y644,hy644⟩:∃ y_:List (S49),y_=(([]:List (S49))):=⟨_,rfl⟩
  replace H:(some y644)=some r:=by first | (rw [hy644];with_reducible exact H) | (have H2_:=(Option.bind_some _ _).symm.trans H;rw [hy644];with_reducible exact H2_) | (have H2_:=(Option.bind_some _ _).symm.trans H;with_reducible exact H2_) | with_reducible exact H | (rw [hy644];exact H) | exact H
  have Ny644:=aM hy644
  clear hy644
  obtain rfl:=sI H
  go_enter Try.func31,Try.ntmps31
  go_wp2_with (first | ((with_reducible refine gc_ 42 ?_);refine gl_ (some 6) Try.func42 #[.slice A0 l0.length c0] ?_;(with_reducible refine (Y1.calls k _ _ l0 false _ ?s1 ?s2 A3.out).mono ?_);(case s1=>repeat (first | exact HR0.out | (with_reducible refine Kd.C_alloc ?_ _) | (with_reducible refine Kd.C_drewN ?_ _) | (with_reducible refine Kd.C_drew ?_)));(case s2=>exact HC0.out);rintro e w15 ⟨rfl,hb⟩;refine ⟨_,rfl,?_⟩;have n0_:=aM (below_step (z1_ HB.out) hb);clear HB;have HB:=n0_;clear n0_;(try clear hb)) | ((with_reducible refine gd_ 13 ?_);refine Kd.R_lit k49 _ 49 ?hg (N:=13) ?hd (xs:=([]:List (S49))) (inner:=[]) (ok:=fun _=>True) (okp:=fun _=>True) ?hr ?hp (fun _ hk=>hk) trivial (Below.refl _ _) (Nat.le_refl _) (by simp) ?_;(case hd=>rfl);(case hg=>rfl);(case hr=>first | (go_simp;done) | (go_simp;rfl));(case hp=>exact (Reps.none _ _));intro v645 w16 ho17 hb hg_ hnew_;clear hg_ hnew_;(first | rw [← Ny644.out] at ho17 | (simp only [Int.reduceToNat] at ho17;rw [← Ny644.out] at ho17));have n0_:=aM (Kd.R_lower ho17 (below_size (z1_ HB.out)));have n1_:=aM (below_step (z1_ HB.out) hb);clear HB;have HO646:=n0_;have HB:=n1_;clear n0_ n1_;clear hb ho17))
  go_ret
  exact ⟨_,z5_,z0_ HO646.out,z1_ HB.out⟩


/-! ### Y46: function 85 -/
def Y46.f (k:Nat) (l0:List (S49)) (a1_0:Int) (a1_1:Int):Option (Bool):=(Y35.f k l0 a1_0).bind fun t648=>(some (decide (a1_1≤t648)))
theorem Y46.mono:∀ a0 a1 a2 k,LeO (Y46.f k a0 a1 a2) (Y46.f (k+1) a0 a1 a2):=by
 intro a0 a1 a2 k
 have m0:=@Y35.mono
 unfold Y46.f
 exact mO
def Y46.T1:Bool × List (List Nat × List Nat):=(true,[([],[]),([0],[0]),([],[]),([],[]),([3],[3]),([2,4],[2,4]),([1,5],[1,5]),([6,5,0,1,2,3,4,5,6],[6])])
def Y46.B1:List Nat:=[0,1,0,0,8,28,63,127]
theorem Y46.tab1:rtab .any (opsOf Try.f85 1)=Y46.T1:=by kernel_rfl
theorem Y46.bits1:waitsOk Y46.T1.2 Y46.B1=true:=by kernel_rfl
theorem Y46.calls (k:Nat) (A0:Option Addr) (c0:Nat) (l0:List (S49)) (a1_0:Int) (a1_1:Int) (r:Bool) (w:World) (hr0:Kd.C k49 w A0 l0.length l0) (hc0:l0.length≤c0) (h:Y46.f k l0 a1_0 a1_1=some r) :
  Calls Try.prog 85 #[.slice A0 l0.length c0,.agg #[.int .i64 a1_0,.int .i64 a1_1]] w fun e w'=>e = .returned (.bool r)∧Below w.heap.size w w':=by
 have hu49:=Try.underlying49
 have HR0:=aM hr0
 have HC0:=aM hc0
 clear hr0 hc0
 have HB:=aM (Below.refl w.heap.size w)
 have H:((Y35.f k l0 a1_0).bind fun t648=>(some (decide (a1_1≤t648))))=some r:=h
 clear h
 replace H:=bS H
 obtain ⟨t648,A30,H⟩:=H
 replace H:(some (decide (a1_1≤t648)))=some r:=H
 have A3:=aM A30
 clear A30
 obtain rfl:=sI H
 go_enter Try.func85,Try.ntmps85
 try go_wp2_with (first | ((with_reducible refine gd_ 3 ?_);refine be_ 3 #[.int .i64 a1_0,.int .i64 a1_1] 49 ?_;intro gb647 hg w4 hbox hb;have n0_:=aM (below_step (z1_ HB.out) hb);have n1_:=aM (hbox);have n2_:=aM ((z8_ HB.out:w.heap.size≤gb647));have n3_:=aM ((z8_ HB.out:w.heap.size≤gb647));clear HB;have HB:=n0_;have BK647:=n1_;have GW647:=n2_;have GE647:=n3_;clear n0_ n1_ n2_ n3_;clear hb hbox hg))
 have n0_:=aM (blk_drew BK647.out)
 have n1_:=aM (below_drew1 HB.out)
 clear BK647
 clear HB
 have BK647:=n0_
 have HB:=n1_
 clear n0_ n1_
 refine start_ (n:=8) (S:=fun w'=>w'.cell? ⟨gb647,0,none⟩=some (.int .i64 a1_0)∧w'.cell? ⟨gb647,1,none⟩=some (.int .i64 a1_1)) (ds:=[]) #[O,O,O,O,O,O,O,O] (by kernel_rfl) rfl rfl (cc2_ BK647.out) (fun hHeld=>?_);refine with_tabW Y46.tab1 Y46.bits1 (fun HT_ HW_=>?_)
 generalize w4.drew=w5 at BK647 HB hHeld ⊢
 refine pu_ 0 5 #[I,O,O,O,O,O,O,O] HT_.out ?_
 refine pu_ 2 7 #[I,O,I,O,O,O,O,O] HT_.out ?_
 refine pu_ 3 8 #[I,O,I,I,O,O,O,O] HT_.out ?_
 refine tk2_ 1 6 #[I,I,I,I,O,O,O,O] HT_.out HW_.out hHeld ?_
 refine tk2_ 4 9 #[I,I,I,I,I,O,O,O] HT_.out HW_.out hHeld ?_
 refine o1_ 5 10 #[I,I,I,I,I,I,O,O] HT_.out (fun K hK=>?_)
 refine gs_ Try.func84 #[.slice A0 l0.length c0,.int .i64 a1_0] ?_
 with_reducible refine (Y35.calls k _ _ l0 a1_0 t648 _ ?s1 ?s2 A3.out).mono ?_
 (case s1=>repeat (first | exact (Kd.C_below HR0.out HB.out) | (with_reducible refine Kd.C_alloc ?_ _) | (with_reducible refine Kd.C_drewN ?_ _) | (with_reducible refine Kd.C_drew ?_)))
 (case s2=>exact HC0.out)
 rintro e w6 ⟨rfl,hb⟩
 refine ⟨_,rfl,?_⟩
 have n0_:=aM (blkB_ BK647.out hb)
 have n1_:=aM (below_step (z4_ HB.out GE647.out) hb)
 clear BK647
 clear HB
 have BK647:=n0_
 have HB:=n1_
 clear n0_ n1_
 (try clear hb)
 refine hK.out _ _ (cc2_ BK647.out) (fun hHeld=>?_)
 clear hK K
 refine nm_ 10 ?_
 refine pu_ 6 11 #[I,I,I,I,I,I,I,O] HT_.out ?_
 refine pu_ 7 4 #[I,I,I,I,I,I,I,I] HT_.out ?_
 refine done_ (done_of HT_.out (by kernel_rfl)) ?_
 try go_wp2
 go_ret
 exact ⟨z5_,z4_ HB.out GE647.out⟩


/-! ### Y56: function 104 -/
def Y56.f (k:Nat) (a0_0:Int) (a0_1:Int) (l1_0:List (S49)):Option (Bool):=(Y46.f k l1_0 a0_0 a0_1).bind fun t650=>(some (!t650))
theorem Y56.mono:∀ a0 a1 a2 k,LeO (Y56.f k a0 a1 a2) (Y56.f (k+1) a0 a1 a2):=by
 intro a0 a1 a2 k
 have m0:=@Y46.mono
 unfold Y56.f
 exact mO
theorem Y56.calls (k:Nat) (a0_0:Int) (a0_1:Int) (gb1:Nat) (A1_0:Option Addr) (c1_0:Nat) (l1_0:List (S49)) (r:Bool) (w:World) (hr1_0:Kd.C k49 w A1_0 l1_0.length l1_0) (hc1_0:l1_0.length≤c1_0) (hk1:w.heap[gb1]? = some (.cells #[.slice A1_0 l1_0.length c1_0] 33 (0,0))) (h:Y56.f k a0_0 a0_1 l1_0=some r) :
  Calls Try.prog 104 #[.agg #[.int .i64 a0_0,.int .i64 a0_1],.pointer (some ⟨gb1,0,none⟩)] w fun e w'=>e = .returned (.bool r)∧Below w.heap.size w w':=by
 have hu49:=Try.underlying49
 have HR1_0:=aM hr1_0
 have HC1_0:=aM hc1_0
 clear hr1_0 hc1_0
 have BK61:=aM hk1
 clear hk1
 have HB:=aM (Below.refl w.heap.size w)
 have H:((Y46.f k l1_0 a0_0 a0_1).bind fun t650=>(some (!t650)))=some r:=h
 clear h
 replace H:=bS H
 obtain ⟨t650,A30,H⟩:=H
 replace H:(some (!t650))=some r:=H
 have A3:=aM A30
 clear A30
 obtain rfl:=sI H
 go_enter Try.func104,Try.ntmps104
 go_wp2_with (first | ((with_reducible refine gd_ 2 ?_);refine be_ 2 #[.int .i64 a0_0,.int .i64 a0_1] 49 ?_;intro gb649 hg w4 hbox hb;have n0_:=aM (blkB_ BK61.out hb);have n1_:=aM (below_step (by repeat (first | (with_reducible first | exact HB.out | apply below_alloc | apply pw_below_drewN | apply below_drew1 | refine below_set ?_ GE61.out) | exact HB.out)) hb);have n2_:=aM (hbox);have n3_:=aM ((by rw [hg];exact (below_size (by repeat (first | (with_reducible first | exact HB.out | apply below_alloc | apply pw_below_drewN | apply below_drew1 | refine below_set ?_ GE61.out) | exact HB.out))):w.heap.size≤gb649));have n4_:=aM ((by rw [hg];exact (below_size (by repeat (first | (with_reducible first | exact HB.out | apply below_alloc | apply pw_below_drewN | apply below_drew1 | refine below_set ?_ GE61.out) | exact HB.out))):w.heap.size≤gb649));have n5_:=aM (neL_ BK61.out hg);have n6_:=aM (neG_ BK61.out hg);clear BK61;clear HB;have BK61:=n0_;have HB:=n1_;have BK649:=n2_;have GW649:=n3_;have GE649:=n4_;have NB61_649:=n5_;have NB649_61:=n6_;clear n0_ n1_ n2_ n3_ n4_ n5_ n6_;clear hb hbox hg;have hnb5:=NB61_649.out;have hnc5:=NB649_61.out;have ⟨hcz6_0,hfz6_0⟩:=cz1_ BK61.out;have ⟨hcz7_0,hcz7_1,hfz7_0,hfz7_1⟩:=cz2_ BK649.out) | ((with_reducible refine gc_ 85 ?_);refine gl_ (some 6) Try.func85 #[.slice A1_0 l1_0.length c1_0,.agg #[.int .i64 a0_0,.int .i64 a0_1]] ?_;(with_reducible refine (Y46.calls k _ _ l1_0 a0_0 a0_1 t650 _ ?s1 ?s2 A3.out).mono ?_);(case s1=>repeat (first | exact (Kd.C_below HR1_0.out HB.out) | (with_reducible refine Kd.C_alloc ?_ _) | (with_reducible refine Kd.C_drewN ?_ _) | (with_reducible refine Kd.C_drew ?_)));(case s2=>exact HC1_0.out);rintro e w8 ⟨rfl,hb⟩;refine ⟨_,rfl,?_⟩;have n0_:=aM (blkB_ BK61.out hb);have n1_:=aM (blkB_ BK649.out hb);have n2_:=aM (below_step (by repeat (first | (with_reducible first | exact HB.out | apply below_alloc | apply pw_below_drewN | apply below_drew1 | refine below_set ?_ GE61.out | refine below_set ?_ GE649.out) | exact HB.out)) hb);clear BK61;clear BK649;clear HB;have BK61:=n0_;have BK649:=n1_;have HB:=n2_;clear n0_ n1_ n2_;(try clear hb)))
 go_ret
 exact ⟨z5_,by repeat (first | (with_reducible first | exact HB.out | apply below_alloc | apply pw_below_drewN | apply below_drew1 | refine below_set ?_ GE61.out | refine below_set ?_ GE649.out) | exact HB.out)⟩


/-! ### Y5: function 117 -/
def Y5.l0:Nat→List (S49)→Int→Int→List (S49)→Option (Int)
 | 0,_,_,_,_=>none
 | k+1,x0,x7,x8,x62000=>if x8<x7 then (if 0≤x8 then (if x8<(x0.length:Int) then ((Y56.f k ((rd_T49 x0 x8).f0) ((rd_T49 x0 x8).f1) x62000).bind fun t652=>(if t652=true then (some x8) else (Y5.l0 k x0 x7 (wrap64 (x8+1)) x62000))) else (none)) else (none)) else (some (-1))
def Y5.f (k:Nat) (l0:List (S49)) (l1_0:List (S49)):Option (Int):=Y5.l0 k l0 (l0.length:Int) 0 l1_0
theorem Y5.mono_l:∀ k,(∀ y0 y1 y2 y3,LeO (Y5.l0 k y0 y1 y2 y3) (Y5.l0 (k+1) y0 y1 y2 y3))
 | 0=>by intros <;> exact LeO.none _
 | k+1=>by
  have ih0:=Y5.mono_l k
  have m0:=@Y56.mono
  ·intros
   unfold Y5.l0
   exact mO
theorem Y5.mono:∀ a0 a1 k,LeO (Y5.f k a0 a1) (Y5.f (k+1) a0 a1):=by
 intro a0 a1 k
 have m0:=@Y56.mono
 have ih0:=Y5.mono_l k
 unfold Y5.f
 exact mO
theorem Y5.calls (k:Nat) (A0:Option Addr) (c0:Nat) (l0:List (S49)) (gb1:Nat) (A1_0:Option Addr) (c1_0:Nat) (l1_0:List (S49)) (r:Int) (w:World) (hr0:Kd.C k49 w A0 l0.length l0) (hc0:l0.length≤c0) (hr1_0:Kd.C k49 w A1_0 l1_0.length l1_0) (hc1_0:l1_0.length≤c1_0) (hk1:w.heap[gb1]? = some (.cells #[.slice A1_0 l1_0.length c1_0] 33 (0,0))) (h:Y5.f k l0 l1_0=some r) :
  Calls Try.prog 117 #[.slice A0 l0.length c0,.func (.func 104) #[] #[.pointer (some ⟨gb1,0,none⟩)]] w fun e w'=>e = .returned (.int .i64 r)∧Below w.heap.size w w':=by
 have hu49:=Try.underlying49
 have HR0:=aM hr0
 have HC0:=aM hc0
 clear hr0 hc0
 have HR1_0:=aM hr1_0
 have HC1_0:=aM hc1_0
 clear hr1_0 hc1_0
 have BK61:=aM hk1
 clear hk1
 have HB:=aM (Below.refl w.heap.size w)
 have H:(Y5.l0 k l0 (l0.length:Int) 0 l1_0)=some r:=h
 clear h
 have H':=aM H
 clear H
 go_enter Try.func117,Try.ntmps117
 go_wp2
 go_loopg [8] k (fun kq v8 w'=>∃ (x8_1:Int),v8 = .int .i64 x8_1∧Aside0 (Y5.l0 kq l0 (l0.length:Int) x8_1 l1_0=some r)∧Aside0 (kq≤k)∧Aside0 (w'.heap[gb1]? = some (.cells #[(.slice A1_0 l1_0.length c1_0)] 33 (0,0)))∧Aside0 (Below w.heap.size w w'))
 case atStart=>exact ⟨(0),(z3_),H',⟨Nat.le_refl _⟩,⟨z2_ BK61.out⟩,⟨by repeat (first | (with_reducible first | exact HB.out | apply below_alloc | apply pw_below_drewN | apply below_drew1 | refine below_set ?_ GE61.out) | exact HB.out)⟩⟩
 case round =>
  clear H'
  try clear c1
  try clear p2
  obtain ⟨x8_1,rfl,HA,HK1,BK61,HB⟩:=hrel
  cases gk with
  | zero=>exact absurd HA.out (by simp [Y5.l0])
  | succ k1 =>
   have H:=HA.out
   clear HA
   simp only [Y5.l0] at H
   by_cases c3:x8_1<(l0.length:Int)
   ·rw [if_pos c3] at H
    have c3b0:decide (x8_1<(l0.length:Int))=true:=dE c3
    clear c3
    by_cases c4:0≤x8_1
    ·rw [if_pos c4] at H
     have c4b0:decide (0≤x8_1)=true:=dE c4
     clear c4
     by_cases c5:x8_1<(l0.length:Int)
     ·rw [if_pos c5] at H
      have c5b0:decide (x8_1<(l0.length:Int))=true:=dE c5
      clear c5
      replace H:=bS H
      obtain ⟨t652,A60,H⟩:=H
      replace H:(if t652=true then (some x8_1) else (Y5.l0 k1 l0 (l0.length:Int) (wrap64 (x8_1+1)) l1_0))=some r:=H
      have A6:=aM A60
      clear A60
      by_cases c7:t652=true
      ·subst c7
       have H1:(some x8_1)=some r:=by rw [if_pos rfl] at H;exact H
       clear H
       have H:=H1
       clear H1
       obtain rfl:=sI H
       have p651:0≤(x8_1:Int):=dT (z7_)
       have q651:x8_1<(l0.length:Int):=dT (z7_)
       obtain ⟨ad651,e651,hx651_0,hx651_1⟩:=at_T49 HR0.out x8_1 p651 q651
       cases e651
       replace hx651_0:=(HB.out.cell (World.block_lt_of_cell? w _ hx651_0)).trans hx651_0
       replace hx651_1:=(HB.out.cell (World.block_lt_of_cell? w _ hx651_1)).trans hx651_1
       replace p651:=eq_true p651
       replace q651:=eq_true q651
       go_wp2_with (first | (go_at_call 104;(with_reducible refine (Y56.calls k1 ((rd_T49 l0 x8_1).f0) ((rd_T49 l0 x8_1).f1) gb1 A1_0 c1_0 l1_0 true _ ?s1 ?s2 ?s3 A6.out).mono ?_);(case s1=>repeat (first | exact (Kd.C_below HR1_0.out HB.out) | (with_reducible refine Kd.C_alloc ?_ _) | (with_reducible refine Kd.C_drewN ?_ _) | (with_reducible refine Kd.C_drew ?_)));(case s2=>exact HC1_0.out);(case s3=>(with_reducible repeat (first | refine blk_drewN ?_ _ | refine blk_drew ?_ | refine blk_alloc ?_ _));exact BK61.out);rintro e w8 ⟨rfl,hb⟩;have n0_:=aM (blkB_ BK61.out hb);have n1_:=aM (below_step (by repeat (first | (with_reducible first | exact HB.out | apply below_alloc | apply pw_below_drewN | apply below_drew1 | refine below_set ?_ GE61.out) | exact HB.out)) hb);clear BK61;clear HB;have BK61:=n0_;have HB:=n1_;clear n0_ n1_;(try clear hb)))
       go_ret
       exact ⟨z5_,by repeat (first | (with_reducible first | exact HB.out | apply below_alloc | apply pw_below_drewN | apply below_drew1 | refine below_set ?_ GE61.out) | exact HB.out)⟩
      ·replace c7:=Bool.eq_false_iff.mpr c7
       subst c7
       have H1:(Y5.l0 k1 l0 (l0.length:Int) (wrap64 (x8_1+1)) l1_0)=some r:=by rw [if_neg (show ¬ (false=true) by decide)] at H;exact H
       clear H
       have H:=H1
       clear H1
       have H':=aM H
       clear H
       have p651:0≤(x8_1:Int):=dT (z7_)
       have q651:x8_1<(l0.length:Int):=dT (z7_)
       obtain ⟨ad651,e651,hx651_0,hx651_1⟩:=at_T49 HR0.out x8_1 p651 q651
       cases e651
       replace hx651_0:=(HB.out.cell (World.block_lt_of_cell? w _ hx651_0)).trans hx651_0
       replace hx651_1:=(HB.out.cell (World.block_lt_of_cell? w _ hx651_1)).trans hx651_1
       replace p651:=eq_true p651
       replace q651:=eq_true q651
       go_wp2_with (first | (go_at_call 104;(with_reducible refine (Y56.calls k1 ((rd_T49 l0 x8_1).f0) ((rd_T49 l0 x8_1).f1) gb1 A1_0 c1_0 l1_0 false _ ?s1 ?s2 ?s3 A6.out).mono ?_);(case s1=>repeat (first | exact (Kd.C_below HR1_0.out HB.out) | (with_reducible refine Kd.C_alloc ?_ _) | (with_reducible refine Kd.C_drewN ?_ _) | (with_reducible refine Kd.C_drew ?_)));(case s2=>exact HC1_0.out);(case s3=>(with_reducible repeat (first | refine blk_drewN ?_ _ | refine blk_drew ?_ | refine blk_alloc ?_ _));exact BK61.out);rintro e w9 ⟨rfl,hb⟩;have n0_:=aM (blkB_ BK61.out hb);have n1_:=aM (below_step (by repeat (first | (with_reducible first | exact HB.out | apply below_alloc | apply pw_below_drewN | apply below_drew1 | refine below_set ?_ GE61.out) | exact HB.out)) hb);clear BK61;clear HB;have BK61:=n0_;have HB:=n1_;clear n0_ n1_;(try clear hb)))
       go_roundg k1
       case measure=>have:=HK1.out;omega
       case rel=>exact ⟨(wrap64 (x8_1+1)),(z3_),H',⟨by have:=HK1.out;omega⟩,⟨z2_ BK61.out⟩,⟨by repeat (first | (with_reducible first | exact HB.out | apply below_alloc | apply pw_below_drewN | apply below_drew1 | refine below_set ?_ GE61.out) | exact HB.out)⟩⟩
     ·rw [if_neg c5] at H
      exact nO H
    ·rw [if_neg c4] at H
     exact nO H
   ·rw [if_neg c3] at H
    have c3b0:decide (x8_1<(l0.length:Int))=false:=dF c3
    clear c3
    obtain rfl:=sI H
    go_wp2
    go_ret
    exact ⟨z5_,by repeat (first | (with_reducible first | exact HB.out | apply below_alloc | apply pw_below_drewN | apply below_drew1 | refine below_set ?_ GE61.out) | exact HB.out)⟩


/-! ### Y24: function 103 -/
def Y24.f (k:Nat) (l0:List (S49)) (l1_0:List (S49)):Option (Bool):=(Y5.f k l0 l1_0).bind fun t653=>(some (decide (t653≥0)))
theorem Y24.mono:∀ a0 a1 k,LeO (Y24.f k a0 a1) (Y24.f (k+1) a0 a1):=by
 intro a0 a1 k
 have m0:=@Y5.mono
 unfold Y24.f
 exact mO
theorem Y24.calls (k:Nat) (A0:Option Addr) (c0:Nat) (l0:List (S49)) (gb1:Nat) (A1_0:Option Addr) (c1_0:Nat) (l1_0:List (S49)) (r:Bool) (w:World) (hr0:Kd.C k49 w A0 l0.length l0) (hc0:l0.length≤c0) (hr1_0:Kd.C k49 w A1_0 l1_0.length l1_0) (hc1_0:l1_0.length≤c1_0) (hk1:w.heap[gb1]? = some (.cells #[.slice A1_0 l1_0.length c1_0] 33 (0,0))) (h:Y24.f k l0 l1_0=some r) :
  Calls Try.prog 103 #[.slice A0 l0.length c0,.func (.func 104) #[] #[.pointer (some ⟨gb1,0,none⟩)]] w fun e w'=>e = .returned (.bool r)∧Below w.heap.size w w':=by
 have HR0:=aM hr0
 have HC0:=aM hc0
 clear hr0 hc0
 have HR1_0:=aM hr1_0
 have HC1_0:=aM hc1_0
 clear hr1_0 hc1_0
 have BK61:=aM hk1
 clear hk1
 have HB:=aM (Below.refl w.heap.size w)
 have H:((Y5.f k l0 l1_0).bind fun t653=>(some (decide (t653≥0))))=some r:=h
 clear h
 replace H:=bS H
 obtain ⟨t653,A30,H⟩:=H
 replace H:(some (decide (t653≥0)))=some r:=H
 have A3:=aM A30
 clear A30
 obtain rfl:=sI H
 go_enter Try.func103,Try.ntmps103
 go_wp2_with (first | ((with_reducible refine gc_ 117 ?_);refine gl_ (some 7) Try.func117 #[.slice A0 l0.length c0,.func (.func 104) #[] #[.pointer (some ⟨gb1,0,none⟩)]] ?_;(with_reducible refine (Y5.calls k _ _ l0 gb1 A1_0 c1_0 l1_0 t653 _ ?s1 ?s2 ?s3 ?s4 ?s5 A3.out).mono ?_);(case s1=>repeat (first | exact HR0.out | (with_reducible refine Kd.C_alloc ?_ _) | (with_reducible refine Kd.C_drewN ?_ _) | (with_reducible refine Kd.C_drew ?_)));(case s2=>exact HC0.out);(case s3=>repeat (first | exact HR1_0.out | (with_reducible refine Kd.C_alloc ?_ _) | (with_reducible refine Kd.C_drewN ?_ _) | (with_reducible refine Kd.C_drew ?_)));(case s4=>exact HC1_0.out);(case s5=>(with_reducible repeat (first | refine blk_drewN ?_ _ | refine blk_drew ?_ | refine blk_alloc ?_ _));exact BK61.out);rintro e w4 ⟨rfl,hb⟩;refine ⟨_,rfl,?_⟩;have n0_:=aM (blkB_ BK61.out hb);have n1_:=aM (below_step (by repeat (first | (with_reducible first | exact HB.out | apply below_alloc | apply pw_below_drewN | apply below_drew1 | refine below_set ?_ GE61.out) | exact HB.out)) hb);clear BK61;clear HB;have BK61:=n0_;have HB:=n1_;clear n0_ n1_;(try clear hb)))
 go_ret
 exact ⟨z5_,by repeat (first | (with_reducible first | exact HB.out | apply below_alloc | apply pw_below_drewN | apply below_drew1 | refine below_set ?_ GE61.out) | exact HB.out)⟩


/-! ### Y60: function 81 -/
def Y60.f (k:Nat) (l0:List (S49)) (l1:List (S49)):Option (Bool):=(Y24.f k l0 l1).bind fun t655=>(some (!t655))
theorem Y60.mono:∀ a0 a1 k,LeO (Y60.f k a0 a1) (Y60.f (k+1) a0 a1):=by
 intro a0 a1 k
 have m0:=@Y24.mono
 unfold Y60.f
 exact mO
theorem Y60.calls (k:Nat) (A0:Option Addr) (c0:Nat) (l0:List (S49)) (A1:Option Addr) (c1:Nat) (l1:List (S49)) (r:Bool) (w:World) (hr0:Kd.C k49 w A0 l0.length l0) (hc0:l0.length≤c0) (hr1:Kd.C k49 w A1 l1.length l1) (hc1:l1.length≤c1) (h:Y60.f k l0 l1=some r) :
  Calls Try.prog 81 #[.slice A0 l0.length c0,.slice A1 l1.length c1] w fun e w'=>e = .returned (.bool r)∧Below w.heap.size w w':=by
 have HR0:=aM hr0
 have HC0:=aM hc0
 clear hr0 hc0
 have HR1:=aM hr1
 have HC1:=aM hc1
 clear hr1 hc1
 have HB:=aM (Below.refl w.heap.size w)
 have H:((Y24.f k l0 l1).bind fun t655=>(some (!t655)))=some r:=h
 clear h
 replace H:=bS H
 obtain ⟨t655,A30,H⟩:=H
 replace H:(some (!t655))=some r:=H
 have A3:=aM A30
 clear A30
 obtain rfl:=sI H
 go_enter Try.func81,Try.ntmps81
 go_wp2_with (first | ((with_reducible refine gd_ 3 ?_);refine be_ 3 #[.slice A1 l1.length c1] 33 ?_;intro gb654 hg w4 hbox hb;have n0_:=aM (below_step (z1_ HB.out) hb);have n1_:=aM (hbox);have n2_:=aM ((z8_ HB.out:w.heap.size≤gb654));have n3_:=aM ((z8_ HB.out:w.heap.size≤gb654));clear HB;have HB:=n0_;have BK654:=n1_;have GW654:=n2_;have GE654:=n3_;clear n0_ n1_ n2_ n3_;clear hb hbox hg) | ((with_reducible refine gc_ 103 ?_);refine gl_ (some 7) Try.func103 #[.slice A0 l0.length c0,.func (.func 104) #[] #[.pointer (some ⟨gb654,0,none⟩)]] ?_;(with_reducible refine (Y24.calls k _ _ l0 gb654 A1 c1 l1 t655 _ ?s1 ?s2 ?s3 ?s4 ?s5 A3.out).mono ?_);(case s1=>repeat (first | exact (Kd.C_below HR0.out HB.out) | (with_reducible refine Kd.C_alloc ?_ _) | (with_reducible refine Kd.C_drewN ?_ _) | (with_reducible refine Kd.C_drew ?_)));(case s2=>exact HC0.out);(case s3=>repeat (first | exact (Kd.C_below HR1.out HB.out) | (with_reducible refine Kd.C_alloc ?_ _) | (with_reducible refine Kd.C_drewN ?_ _) | (with_reducible refine Kd.C_drew ?_)));(case s4=>exact HC1.out);(case s5=>(with_reducible repeat (first | refine blk_drewN ?_ _ | refine blk_drew ?_ | refine blk_alloc ?_ _));exact BK654.out);rintro e w5 ⟨rfl,hb⟩;refine ⟨_,rfl,?_⟩;have n0_:=aM (blkB_ BK654.out hb);have n1_:=aM (below_step (z4_ HB.out GE654.out) hb);clear BK654;clear HB;have BK654:=n0_;have HB:=n1_;clear n0_ n1_;(try clear hb)))
 go_ret
 exact ⟨z5_,z4_ HB.out GE654.out⟩

end Go.Proofs.Ytmefchanjoadfaa.P
