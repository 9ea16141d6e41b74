/- For all numbers the program's WorldNew and the reference's return the same, of memory of its own. No condition. (Part 2 of 4: written by programs of this workplace and by hand, merged.) -/
import Derived.Test.YtelecnmflodkkaaGreatDoorMFnExactWorldNewa
set_option linter.unusedVariables false
set_option linter.unusedSimpArgs false
set_option maxHeartbeats 8000000
set_option maxRecDepth 100000

namespace Go.Proofs.YtelecnmflodkkaaGreatDoor.P
open Go.RowKit Go.Proofs.YtelecnmflodkkaaGreatDoorW.PrintWords Go.Proofs.YtelecnmflodkkaaGreatDoorW.PrintLast Go.Proofs.YtelecnmflodkkaaGreatDoorW.PrintMore
attribute [local go_sem] max2_int min2_int max_two min_two max_three min_three max_four min_four   -- for this text's walks alone
set_option linter.unusedVariables false
set_option linter.unusedSimpArgs false

/-- A state of type 3 at block g of W; what its slices lead to came in by w0. -/
def IsS3 (w0 W:World) (g:Nat) (f0:Int):Prop:=W.heap[g]? = some (.cells #[.int .i64 f0] 3 (0,0))∧w0.heap.size≤g
theorem IsS3.grown {w0 W:World} {g:Nat} {f0:Int} {W1:World} {row:Option Nat} (h:IsS3 w0 W g f0) (hw:W.grownBy W1 row) (hne:some g≠row):IsS3 w0 W1 g f0:=by
 obtain ⟨hb,hg⟩:=h
 exact ⟨blk_grown hb hw hne,hg⟩
theorem IsS3.kept {w0 W:World} {g:Nat} {f0:Int} {W1:World} {S:Nat→Prop} (h:IsS3 w0 W g f0) (hk:Kept W W1 S) (hne:¬ S g):IsS3 w0 W1 g f0:=by
 obtain ⟨hb,hg⟩:=h
 exact ⟨blk_kept hb hk hne,hg⟩
theorem IsS3.below {w0 W:World} {g:Nat} {f0:Int} {W1:World} (h:IsS3 w0 W g f0) (hw:Below W.heap.size W W1):IsS3 w0 W1 g f0:=h.grown (grown_of_below hw none) (by simp)
theorem IsS3.alloc {w0 W:World} {g:Nat} {f0:Int} (h:IsS3 w0 W g f0) (o:Obj):IsS3 w0 (W.alloc o) g f0:=h.below (below_alloc (Below.refl _ _) o)
theorem IsS3.drewN {w0 W:World} {g:Nat} {f0:Int} (h:IsS3 w0 W g f0) (m:Nat):IsS3 w0 (W.drewN m) g f0:=h
theorem IsS3.drew {w0 W:World} {g:Nat} {f0:Int} (h:IsS3 w0 W g f0):IsS3 w0 W.drew g f0:=h
theorem IsS3.apart {w0 W:World} {g:Nat} {f0:Int} {α:Type} {d:Kd α} {e:Nat} {base:Nat} {ok:Nat→Prop} {v:Value} {xs:List α} (h:IsS3 w0 W g f0) (ho:d.R e W base ok v xs) (ht:∀ q,q ∈ e :: d.E→q≠3):d.R e W base (fun k=>ok k∧k≠g) v xs:=by
 obtain ⟨hb,hg⟩:=h
 exact Kd.R_types ho hb ht
theorem IsS3.own_ne {w0 W:World} {g:Nat} {f0:Int} {α:Type} {d:Kd α} {e:Nat} {base:Nat} {ok:Nat→Prop} {v:Value} {xs:List α} (h:IsS3 w0 W g f0) (ho:d.R e W base ok v xs) (ht:e≠3):some g≠v.ownBlock:=by
 obtain ⟨hb,hg⟩:=h
 exact Kd.R_ne ho hb ht
theorem IsS3.ge {w0 W:World} {g:Nat} {f0:Int} (h:IsS3 w0 W g f0):w0.heap.size≤g:=by
 obtain ⟨hb,hg⟩:=h
 exact hg
theorem cellS3_0 {W:World} {g:Nat} {f0:Int} (h:W.heap[g]? = some (.cells #[.int .i64 f0] 3 (0,0))):W.cell? ⟨g,0,none⟩=some (.int .i64 f0):=(blk_cell h 0).trans rfl
theorem IsS3.set_0 {w0 W:World} {g:Nat} {f0:Int} (h:IsS3 w0 W g f0) (x:Int):IsS3 w0 (W.setCell ⟨g,0,none⟩ (.int .i64 x)) g x:=by
 obtain ⟨hb,hg⟩:=h
 exact ⟨by simpa using blk_set hb 0 (.int .i64 x),hg⟩
/-! ### Y4: function 165 -/
def Y4.f (k:Nat) (l0:List (S78)) (a1:Int) (a2:Int) (s3_0:Int)  : Option (Int × Int × Int):=if 0≤a2 then (if a2<(l0.length:Int) then (if 0≤a1 then (if a1<(l0.length:Int) then ((Y14.f k ((rd_T78 l0 a2).f0) ((rd_T78 l0 a2).f1) ((rd_T78 l0 a1).f0) ((rd_T78 l0 a1).f1)).bind fun t253=>(if t253<0 then (some (a2,a1,wrap64 (s3_0+1))) else (some (a1,a2,s3_0)))) else (none)) else (none)) else (none)) else (none)
theorem Y4.mono:∀ a0 a1 a2 a3 k,LeO (Y4.f k a0 a1 a2 a3) (Y4.f (k+1) a0 a1 a2 a3):=by
 intro a0 a1 a2 a3 k
 have m0:=@Y14.mono
 unfold Y4.f
 exact mO
def Y4.T1:Bool × List (List Nat × List Nat):=(true,[([],[]),([],[]),([],[]),([1,2],[1,2]),([3],[3]),([],[]),([],[]),([5,6],[5,6]),([7],[7]),([0,4,8],[0,4,8]),([9],[9])])
def Y4.B1:List Nat:=[0,0,0,6,14,0,0,96,224,511,1023]
theorem Y4.tab1:rtab .any (opsOf Tryz.f165 1)=Y4.T1:=by kernel_rfl
theorem Y4.bits1:waitsOk Y4.T1.2 Y4.B1=true:=by kernel_rfl
theorem Y4.calls (k:Nat) (A0:Option Addr) (c0:Nat) (l0:List (S78)) (a1:Int) (a2:Int) (g:Nat) (s3_0:Int)  (r1:Int) (r2:Int) (r3:Int) (w0 w:World) (hI:IsS3 w0 w g s3_0) (hB:Below w0.heap.size w0 w) (hr0:∀ W_,KeepBut w W_ g none→Kd.C k78 W_ A0 l0.length l0) (hc0:l0.length≤c0) (h:Y4.f k l0 a1 a2 s3_0=some (r1,r2,r3)) :
  Calls Tryz.prog 165 #[.slice A0 l0.length c0,.int .i64 a1,.int .i64 a2,.pointer (some ⟨g,0,none⟩),.func (.func 72) #[] #[]] w fun e w'=>e = .returned (.tuple #[.int .i64 r1,.int .i64 r2])∧IsS3 w0 w' g r3∧Below w0.heap.size w0 w'∧KeepBut w w' g none:=by
 have hu78:=Tryz.underlying78
 have HR0:=aM hr0
 have HC0:=aM hc0
 clear hr0 hc0
 have HI3:=aM hI
 have HK:=aM (KeepBut.refl w g none)
 have HL:=aM hB.size
 clear hI
 have HW0:=aM hB.size
 have HB:=aM hB
 clear hB
 have H:(if 0≤a2 then (if a2<(l0.length:Int) then (if 0≤a1 then (if a1<(l0.length:Int) then ((Y14.f k ((rd_T78 l0 a2).f0) ((rd_T78 l0 a2).f1) ((rd_T78 l0 a1).f0) ((rd_T78 l0 a1).f1)).bind fun t253=>(if t253<0 then (some (a2,a1,wrap64 (s3_0+1))) else (some (a1,a2,s3_0)))) else (none)) else (none)) else (none)) else (none))=some (r1,r2,r3):=h
 clear h
 by_cases c6:0≤a2
 ·rw [if_pos c6] at H
  have c6b0:decide (0≤a2)=true:=dE c6
  clear c6
  by_cases c7:a2<(l0.length:Int)
  ·rw [if_pos c7] at H
   have c7b0:decide (a2<(l0.length:Int))=true:=dE c7
   clear c7
   by_cases c8:0≤a1
   ·rw [if_pos c8] at H
    have c8b0:decide (0≤a1)=true:=dE c8
    clear c8
    by_cases c9:a1<(l0.length:Int)
    ·rw [if_pos c9] at H
     have c9b0:decide (a1<(l0.length:Int))=true:=dE c9
     clear c9
     replace H:=bS H
     obtain ⟨t253,A100,H⟩:=H
     replace H:(if t253<0 then (some (a2,a1,wrap64 (s3_0+1))) else (some (a1,a2,s3_0)))=some (r1,r2,r3):=H
     have A10:=aM A100
     clear A100
     by_cases c11:t253<0
     ·rw [if_pos c11] at H
      have c11b0:decide (t253<0)=true:=dE c11
      clear c11
      simp only [Option.some.injEq,Prod.mk.injEq] at H
      obtain ⟨rfl,rfl,rfl⟩:=H
      go_enter Tryz.func165,Tryz.ntmps165
      try go_wp2
      have n0_:=aM (IsS3.drew HI3.out)
      have n1_:=aM (keep_drew HK.out)
      have n2_:=aM (below_drew1 HB.out)
      clear HI3
      clear HK
      clear HB
      have HI3:=n0_
      have HK:=n1_
      have HB:=n2_
      clear n0_ n1_ n2_
      have p251:0≤(a2:Int):=dT (z2_)
      have q251:a2<(l0.length:Int):=dT (z2_)
      obtain ⟨ad251,e251,hx251_0,hx251_1⟩:=at_T78 (Kd.C_foot_now HR0.out HK.out) a2 p251 q251
      have hw251_1:=hx251_1
      have hw251_0:=hx251_0
      cases e251
      have hne251_1:=(show (⟨(ad251.add ((a2).toNat*2)).block,(ad251.add ((a2).toNat*2)).off+1,none⟩:Addr).block≠g from by first | (rw [add_block];exact Kd.foot_ne HR0.out (by omega) (by decide)) | (show (Addr.add _ _).block≠_;rw [add_block];exact Kd.foot_ne HR0.out (by omega) (by decide)) | exact Kd.foot_ne HR0.out (by omega) (by decide) | (dsimp only;exact Kd.foot_ne HR0.out (by omega) (by decide)))
      have hlt251_1:=(Kd.foot_lt HR0.out (by omega) (by decide))
      have hne251_0:=(show ((ad251.add ((a2).toNat*2)):Addr).block≠g from by first | (rw [add_block];exact Kd.foot_ne HR0.out (by omega) (by decide)) | (show (Addr.add _ _).block≠_;rw [add_block];exact Kd.foot_ne HR0.out (by omega) (by decide)) | exact Kd.foot_ne HR0.out (by omega) (by decide) | (dsimp only;exact Kd.foot_ne HR0.out (by omega) (by decide)))
      have hlt251_0:=(Kd.foot_lt HR0.out (by omega) (by decide))
      replace p251:=eq_true p251
      replace q251:=eq_true q251
      have p252:0≤(a1:Int):=dT (z2_)
      have q252:a1<(l0.length:Int):=dT (z2_)
      obtain ⟨ad252,e252,hx252_0,hx252_1⟩:=at_T78 (Kd.C_foot_now HR0.out HK.out) a1 p252 q252
      have hw252_1:=hx252_1
      have hw252_0:=hx252_0
      obtain rfl:ad251=ad252:=(by injection e252)
      have hne252_1:=(show (⟨(ad251.add ((a1).toNat*2)).block,(ad251.add ((a1).toNat*2)).off+1,none⟩:Addr).block≠g from by first | (rw [add_block];exact Kd.foot_ne HR0.out (by omega) (by decide)) | (show (Addr.add _ _).block≠_;rw [add_block];exact Kd.foot_ne HR0.out (by omega) (by decide)) | exact Kd.foot_ne HR0.out (by omega) (by decide) | (dsimp only;exact Kd.foot_ne HR0.out (by omega) (by decide)))
      have hlt252_1:=(Kd.foot_lt HR0.out (by omega) (by decide))
      have hne252_0:=(show ((ad251.add ((a1).toNat*2)):Addr).block≠g from by first | (rw [add_block];exact Kd.foot_ne HR0.out (by omega) (by decide)) | (show (Addr.add _ _).block≠_;rw [add_block];exact Kd.foot_ne HR0.out (by omega) (by decide)) | exact Kd.foot_ne HR0.out (by omega) (by decide) | (dsimp only;exact Kd.foot_ne HR0.out (by omega) (by decide)))
      have hlt252_0:=(Kd.foot_lt HR0.out (by omega) (by decide))
      replace p252:=eq_true p252
      replace q252:=eq_true q252
      refine start_ (n:=11) (S:=fun w'=>w'.cell? (ad251.add ((a2).toNat*2))=some (.int .i64 ((rd_T78 l0 a2).f0))∧w'.cell? ⟨(ad251.add ((a2).toNat*2)).block,(ad251.add ((a2).toNat*2)).off+1,none⟩=some (.int .i64 ((rd_T78 l0 a2).f1))∧w'.cell? (ad251.add ((a1).toNat*2))=some (.int .i64 ((rd_T78 l0 a1).f0))∧w'.cell? ⟨(ad251.add ((a1).toNat*2)).block,(ad251.add ((a1).toNat*2)).off+1,none⟩=some (.int .i64 ((rd_T78 l0 a1).f1))) (ds:=[]) #[O,O,O,O,O,O,O,O,O,O,O] (by kernel_rfl) rfl rfl ⟨hx251_0,hx251_1,hx252_0,hx252_1⟩ (fun hHeld=>?_);refine with_tabW Y4.tab1 Y4.bits1 (fun HT_ HW_=>?_)
      generalize w.drew=w12 at HI3 HK HB hx251_0 hx251_1 hx252_0 hx252_1 hHeld ⊢
      refine pu_ 0 12 #[I,O,O,O,O,O,O,O,O,O,O] HT_.out ?_
      refine pu_ 1 13 #[I,I,O,O,O,O,O,O,O,O,O] HT_.out ?_
      refine pu_ 2 14 #[I,I,I,O,O,O,O,O,O,O,O] HT_.out ?_
      refine pu_ 3 15 #[I,I,I,I,O,O,O,O,O,O,O] HT_.out ?_
      refine pu_ 5 17 #[I,I,I,I,O,I,O,O,O,O,O] HT_.out ?_
      refine pu_ 6 18 #[I,I,I,I,O,I,I,O,O,O,O] HT_.out ?_
      refine pu_ 7 19 #[I,I,I,I,O,I,I,I,O,O,O] HT_.out ?_
      refine tk4_ 4 16 #[I,I,I,I,I,I,I,I,O,O,O] HT_.out HW_.out hHeld ?_
      refine tk4_ 8 20 #[I,I,I,I,I,I,I,I,I,O,O] HT_.out HW_.out hHeld ?_
      refine o1_ 9 21 #[I,I,I,I,I,I,I,I,I,I,O] HT_.out (fun K hK=>?_)
      refine goesD_ Tryz.func72 (by kernel_rfl) rfl #[.agg #[.int .i64 ((rd_T78 l0 a2).f0),.int .i64 ((rd_T78 l0 a2).f1)],.agg #[.int .i64 ((rd_T78 l0 a1).f0),.int .i64 ((rd_T78 l0 a1).f1)]] (by rfl) rfl rfl (by rfl) (z32_) ?_
      with_reducible refine (Y14.calls k ((rd_T78 l0 a2).f0) ((rd_T78 l0 a2).f1) ((rd_T78 l0 a1).f0) ((rd_T78 l0 a1).f1) t253 _ A10.out).mono ?_
      rintro e w13 ⟨rfl,hb⟩
      have HS0_:=(hb.cell (World.block_lt_of_cell? _ _ (hHeld.1))).trans (hHeld.1)
      have HS1_:=(hb.cell (World.block_lt_of_cell? _ _ (hHeld.2.1))).trans (hHeld.2.1)
      have HS2_:=(hb.cell (World.block_lt_of_cell? _ _ (hHeld.2.2.1))).trans (hHeld.2.2.1)
      have HS3_:=(hb.cell (World.block_lt_of_cell? _ _ (hHeld.2.2.2))).trans (hHeld.2.2.2)
      refine ⟨_,rfl,?_⟩
      have n0_:=aM (IsS3.below (z22_ HI3.out) hb)
      have n1_:=aM (KeepBut.trans (z17_ HK.out) (KeepBut.of_below hb g none) (.inl rfl))
      have n2_:=aM (below_step (z15_ HB.out HI3.out) hb)
      clear HI3
      clear HK
      clear HB
      have HI3:=n0_
      have HK:=n1_
      have HB:=n2_
      clear n0_ n1_ n2_
      (try clear hb)
      refine hK.out _ _ ⟨HS0_,HS1_,HS2_,HS3_⟩ (fun hHeld=>?_)
      clear hK K
      refine nm_ 21 ?_
      refine pu_ 10 22 #[I,I,I,I,I,I,I,I,I,I,I] HT_.out ?_
      refine done_ (done_of HT_.out (by kernel_rfl)) ?_
      obtain ⟨HGz14,hgz14⟩:=HI3.out
      have hcz14_0:=cellS3_0 HGz14
      have hfz14_0:=blk_frozen HGz14 0
      clear HGz14 hgz14
      try go_wp2
      go_ret2
      exact ⟨z10_,z22_ HI3.out,z15_ HB.out HI3.out,z17_ HK.out⟩
     ·rw [if_neg c11] at H
      have c11b0:decide (t253<0)=false:=dF c11
      clear c11
      simp only [Option.some.injEq,Prod.mk.injEq] at H
      obtain ⟨rfl,rfl,rfl⟩:=H
      go_enter Tryz.func165,Tryz.ntmps165
      try go_wp2
      have n0_:=aM (IsS3.drew HI3.out)
      have n1_:=aM (keep_drew HK.out)
      have n2_:=aM (below_drew1 HB.out)
      clear HI3
      clear HK
      clear HB
      have HI3:=n0_
      have HK:=n1_
      have HB:=n2_
      clear n0_ n1_ n2_
      have p251:0≤(a2:Int):=dT (z2_)
      have q251:a2<(l0.length:Int):=dT (z2_)
      obtain ⟨ad251,e251,hx251_0,hx251_1⟩:=at_T78 (Kd.C_foot_now HR0.out HK.out) a2 p251 q251
      have hw251_1:=hx251_1
      have hw251_0:=hx251_0
      cases e251
      have hne251_1:=(show (⟨(ad251.add ((a2).toNat*2)).block,(ad251.add ((a2).toNat*2)).off+1,none⟩:Addr).block≠g from by first | (rw [add_block];exact Kd.foot_ne HR0.out (by omega) (by decide)) | (show (Addr.add _ _).block≠_;rw [add_block];exact Kd.foot_ne HR0.out (by omega) (by decide)) | exact Kd.foot_ne HR0.out (by omega) (by decide) | (dsimp only;exact Kd.foot_ne HR0.out (by omega) (by decide)))
      have hlt251_1:=(Kd.foot_lt HR0.out (by omega) (by decide))
      have hne251_0:=(show ((ad251.add ((a2).toNat*2)):Addr).block≠g from by first | (rw [add_block];exact Kd.foot_ne HR0.out (by omega) (by decide)) | (show (Addr.add _ _).block≠_;rw [add_block];exact Kd.foot_ne HR0.out (by omega) (by decide)) | exact Kd.foot_ne HR0.out (by omega) (by decide) | (dsimp only;exact Kd.foot_ne HR0.out (by omega) (by decide)))
      have hlt251_0:=(Kd.foot_lt HR0.out (by omega) (by decide))
      replace p251:=eq_true p251
      replace q251:=eq_true q251
      have p252:0≤(a1:Int):=dT (z2_)
      have q252:a1<(l0.length:Int):=dT (z2_)
      obtain ⟨ad252,e252,hx252_0,hx252_1⟩:=at_T78 (Kd.C_foot_now HR0.out HK.out) a1 p252 q252
      have hw252_1:=hx252_1
      have hw252_0:=hx252_0
      obtain rfl:ad251=ad252:=(by injection e252)
      have hne252_1:=(show (⟨(ad251.add ((a1).toNat*2)).block,(ad251.add ((a1).toNat*2)).off+1,none⟩:Addr).block≠g from by first | (rw [add_block];exact Kd.foot_ne HR0.out (by omega) (by decide)) | (show (Addr.add _ _).block≠_;rw [add_block];exact Kd.foot_ne HR0.out (by omega) (by decide)) | exact Kd.foot_ne HR0.out (by omega) (by decide) | (dsimp only;exact Kd.foot_ne HR0.out (by omega) (by decide)))
      have hlt252_1:=(Kd.foot_lt HR0.out (by omega) (by decide))
      have hne252_0:=(show ((ad251.add ((a1).toNat*2)):Addr).block≠g from by first | (rw [add_block];exact Kd.foot_ne HR0.out (by omega) (by decide)) | (show (Addr.add _ _).block≠_;rw [add_block];exact Kd.foot_ne HR0.out (by omega) (by decide)) | exact Kd.foot_ne HR0.out (by omega) (by decide) | (dsimp only;exact Kd.foot_ne HR0.out (by omega) (by decide)))
      have hlt252_0:=(Kd.foot_lt HR0.out (by omega) (by decide))
      replace p252:=eq_true p252
      replace q252:=eq_true q252
      refine start_ (n:=11) (S:=fun w'=>w'.cell? (ad251.add ((a2).toNat*2))=some (.int .i64 ((rd_T78 l0 a2).f0))∧w'.cell? ⟨(ad251.add ((a2).toNat*2)).block,(ad251.add ((a2).toNat*2)).off+1,none⟩=some (.int .i64 ((rd_T78 l0 a2).f1))∧w'.cell? (ad251.add ((a1).toNat*2))=some (.int .i64 ((rd_T78 l0 a1).f0))∧w'.cell? ⟨(ad251.add ((a1).toNat*2)).block,(ad251.add ((a1).toNat*2)).off+1,none⟩=some (.int .i64 ((rd_T78 l0 a1).f1))) (ds:=[]) #[O,O,O,O,O,O,O,O,O,O,O] (by kernel_rfl) rfl rfl ⟨hx251_0,hx251_1,hx252_0,hx252_1⟩ (fun hHeld=>?_);refine with_tabW Y4.tab1 Y4.bits1 (fun HT_ HW_=>?_)
      generalize w.drew=w15 at HI3 HK HB hx251_0 hx251_1 hx252_0 hx252_1 hHeld ⊢
      refine pu_ 0 12 #[I,O,O,O,O,O,O,O,O,O,O] HT_.out ?_
      refine pu_ 1 13 #[I,I,O,O,O,O,O,O,O,O,O] HT_.out ?_
      refine pu_ 2 14 #[I,I,I,O,O,O,O,O,O,O,O] HT_.out ?_
      refine pu_ 3 15 #[I,I,I,I,O,O,O,O,O,O,O] HT_.out ?_
      refine pu_ 5 17 #[I,I,I,I,O,I,O,O,O,O,O] HT_.out ?_
      refine pu_ 6 18 #[I,I,I,I,O,I,I,O,O,O,O] HT_.out ?_
      refine pu_ 7 19 #[I,I,I,I,O,I,I,I,O,O,O] HT_.out ?_
      refine tk4_ 4 16 #[I,I,I,I,I,I,I,I,O,O,O] HT_.out HW_.out hHeld ?_
      refine tk4_ 8 20 #[I,I,I,I,I,I,I,I,I,O,O] HT_.out HW_.out hHeld ?_
      refine o1_ 9 21 #[I,I,I,I,I,I,I,I,I,I,O] HT_.out (fun K hK=>?_)
      refine goesD_ Tryz.func72 (by kernel_rfl) rfl #[.agg #[.int .i64 ((rd_T78 l0 a2).f0),.int .i64 ((rd_T78 l0 a2).f1)],.agg #[.int .i64 ((rd_T78 l0 a1).f0),.int .i64 ((rd_T78 l0 a1).f1)]] (by rfl) rfl rfl (by rfl) (z32_) ?_
      with_reducible refine (Y14.calls k ((rd_T78 l0 a2).f0) ((rd_T78 l0 a2).f1) ((rd_T78 l0 a1).f0) ((rd_T78 l0 a1).f1) t253 _ A10.out).mono ?_
      rintro e w16 ⟨rfl,hb⟩
      have HS0_:=(hb.cell (World.block_lt_of_cell? _ _ (hHeld.1))).trans (hHeld.1)
      have HS1_:=(hb.cell (World.block_lt_of_cell? _ _ (hHeld.2.1))).trans (hHeld.2.1)
      have HS2_:=(hb.cell (World.block_lt_of_cell? _ _ (hHeld.2.2.1))).trans (hHeld.2.2.1)
      have HS3_:=(hb.cell (World.block_lt_of_cell? _ _ (hHeld.2.2.2))).trans (hHeld.2.2.2)
      refine ⟨_,rfl,?_⟩
      have n0_:=aM (IsS3.below (z22_ HI3.out) hb)
      have n1_:=aM (KeepBut.trans (z17_ HK.out) (KeepBut.of_below hb g none) (.inl rfl))
      have n2_:=aM (below_step (z15_ HB.out HI3.out) hb)
      clear HI3
      clear HK
      clear HB
      have HI3:=n0_
      have HK:=n1_
      have HB:=n2_
      clear n0_ n1_ n2_
      (try clear hb)
      refine hK.out _ _ ⟨HS0_,HS1_,HS2_,HS3_⟩ (fun hHeld=>?_)
      clear hK K
      refine nm_ 21 ?_
      refine pu_ 10 22 #[I,I,I,I,I,I,I,I,I,I,I] HT_.out ?_
      refine done_ (done_of HT_.out (by kernel_rfl)) ?_
      try go_wp2
      go_ret2
      exact ⟨z10_,z22_ HI3.out,z15_ HB.out HI3.out,z17_ HK.out⟩
    ·rw [if_neg c9] at H
     exact nO H
   ·rw [if_neg c8] at H
    exact nO H
  ·rw [if_neg c7] at H
   exact nO H
 ·rw [if_neg c6] at H
  exact nO H


/-! ### Y6: function 156 -/
def Y6.f (k:Nat) (l0:List (S78)) (a1:Int) (a2:Int) (a3:Int) (s4_0:Int)  : Option (Int × Int):=(Y4.f k l0 a1 a2 s4_0).bind fun bt254=>((Y4.f k l0 bt254.2.1 a3 bt254.2.2).bind fun bt257=>((Y4.f k l0 bt254.1 bt257.1 bt257.2.2).bind fun bt260=>(some (bt260.2.1,bt260.2.2))))
theorem Y6.mono:∀ a0 a1 a2 a3 a4 k,LeO (Y6.f k a0 a1 a2 a3 a4) (Y6.f (k+1) a0 a1 a2 a3 a4):=by
 intro a0 a1 a2 a3 a4 k
 have m0:=@Y4.mono
 unfold Y6.f
 exact mO
theorem Y6.calls (k:Nat) (A0:Option Addr) (c0:Nat) (l0:List (S78)) (a1:Int) (a2:Int) (a3:Int) (g:Nat) (s4_0:Int)  (r1:Int) (r2:Int) (w0 w:World) (hI:IsS3 w0 w g s4_0) (hB:Below w0.heap.size w0 w) (hr0:∀ W_,KeepBut w W_ g none→Kd.C k78 W_ A0 l0.length l0) (hc0:l0.length≤c0) (h:Y6.f k l0 a1 a2 a3 s4_0=some (r1,r2)) :
  Calls Tryz.prog 156 #[.slice A0 l0.length c0,.int .i64 a1,.int .i64 a2,.int .i64 a3,.pointer (some ⟨g,0,none⟩),.func (.func 72) #[] #[]] w fun e w'=>e = .returned (.int .i64 r1)∧IsS3 w0 w' g r2∧Below w0.heap.size w0 w'∧KeepBut w w' g none:=by
 have HR0:=aM hr0
 have HC0:=aM hc0
 clear hr0 hc0
 have HI4:=aM hI
 have HK:=aM (KeepBut.refl w g none)
 have HL:=aM hB.size
 clear hI
 have HW0:=aM hB.size
 have HB:=aM hB
 clear hB
 have H:((Y4.f k l0 a1 a2 s4_0).bind fun bt254=>((Y4.f k l0 bt254.2.1 a3 bt254.2.2).bind fun bt257=>((Y4.f k l0 bt254.1 bt257.1 bt257.2.2).bind fun bt260=>(some (bt260.2.1,bt260.2.2)))))=some (r1,r2):=h
 clear h
 replace H:=bS H
 obtain ⟨⟨t254,t255,t256⟩,A70,H⟩:=H
 replace H:((Y4.f k l0 t255 a3 t256).bind fun bt257=>((Y4.f k l0 t254 bt257.1 bt257.2.2).bind fun bt260=>(some (bt260.2.1,bt260.2.2))))=some (r1,r2):=H
 have A7:=aM A70
 clear A70
 replace H:=bS H
 obtain ⟨⟨t257,t258,t259⟩,A80,H⟩:=H
 replace H:((Y4.f k l0 t254 t257 t259).bind fun bt260=>(some (bt260.2.1,bt260.2.2)))=some (r1,r2):=H
 have A8:=aM A80
 clear A80
 replace H:=bS H
 obtain ⟨⟨t260,t261,t262⟩,A90,H⟩:=H
 replace H:(some (t261,t262))=some (r1,r2):=H
 have A9:=aM A90
 clear A90
 simp only [Option.some.injEq,Prod.mk.injEq] at H
 obtain ⟨rfl,rfl⟩:=H
 go_enter Tryz.func156,Tryz.ntmps156
 go_wp2_with (first | ((with_reducible refine gc_ 165 ?_);refine gl_ (some 19) Tryz.func165 #[.slice A0 l0.length c0,.int .i64 a1,.int .i64 a2,.pointer (some ⟨g,0,none⟩),.func (.func 72) #[] #[]] ?_;(with_reducible refine (Y4.calls k _ _ l0 a1 a2 g s4_0  t254 t255 t256 w0 _ ?s1 ?s2 ?s3 ?s4 A7.out).mono ?_);(case s1=>repeat (first | (with_reducible first | exact HI4.out | apply IsS3.alloc | apply IsS3.drewN | apply IsS3.drew | apply IsS3.set_0) | exact HI4.out));(case s2=>repeat (first | (with_reducible first | exact HB.out | apply below_alloc | apply pw_below_drewN | apply below_drew1 | refine below_set ?_ (IsS3.ge HI4.out)) | exact HB.out));(case s3=>exact Kd.C_foot_step HR0.out (z17_ HK.out));(case s4=>exact HC0.out);rintro e w10 ⟨rfl,hi,hb,hk⟩;refine ⟨_,rfl,?_⟩;have n0_:=aM (KeepBut.trans (z17_ HK.out) hk (.inl rfl));have n1_:=aM (hb);have n2_:=aM (hi);clear HK;clear HB;clear HI4;have HK:=n0_;have HB:=n1_;have HI4:=n2_;clear n0_ n1_ n2_;(try clear hb);(try clear hk);(try clear hi)) | ((with_reducible refine gc_ 165 ?_);refine gl_ (some 28) Tryz.func165 #[.slice A0 l0.length c0,.int .i64 t255,.int .i64 a3,.pointer (some ⟨g,0,none⟩),.func (.func 72) #[] #[]] ?_;(with_reducible refine (Y4.calls k _ _ l0 t255 a3 g t256  t257 t258 t259 w0 _ ?s1 ?s2 ?s3 ?s4 A8.out).mono ?_);(case s1=>repeat (first | (with_reducible first | exact HI4.out | apply IsS3.alloc | apply IsS3.drewN | apply IsS3.drew | apply IsS3.set_0) | exact HI4.out));(case s2=>repeat (first | (with_reducible first | exact HB.out | apply below_alloc | apply pw_below_drewN | apply below_drew1 | refine below_set ?_ (IsS3.ge HI4.out)) | exact HB.out));(case s3=>exact Kd.C_foot_step HR0.out (z17_ HK.out));(case s4=>exact HC0.out);rintro e w11 ⟨rfl,hi,hb,hk⟩;refine ⟨_,rfl,?_⟩;have n0_:=aM (KeepBut.trans (z17_ HK.out) hk (.inl rfl));have n1_:=aM (hb);have n2_:=aM (hi);clear HK;clear HB;clear HI4;have HK:=n0_;have HB:=n1_;have HI4:=n2_;clear n0_ n1_ n2_;(try clear hb);(try clear hk);(try clear hi)) | ((with_reducible refine gc_ 165 ?_);refine gl_ (some 37) Tryz.func165 #[.slice A0 l0.length c0,.int .i64 t254,.int .i64 t257,.pointer (some ⟨g,0,none⟩),.func (.func 72) #[] #[]] ?_;(with_reducible refine (Y4.calls k _ _ l0 t254 t257 g t259  t260 t261 t262 w0 _ ?s1 ?s2 ?s3 ?s4 A9.out).mono ?_);(case s1=>repeat (first | (with_reducible first | exact HI4.out | apply IsS3.alloc | apply IsS3.drewN | apply IsS3.drew | apply IsS3.set_0) | exact HI4.out));(case s2=>repeat (first | (with_reducible first | exact HB.out | apply below_alloc | apply pw_below_drewN | apply below_drew1 | refine below_set ?_ (IsS3.ge HI4.out)) | exact HB.out));(case s3=>exact Kd.C_foot_step HR0.out (z17_ HK.out));(case s4=>exact HC0.out);rintro e w12 ⟨rfl,hi,hb,hk⟩;refine ⟨_,rfl,?_⟩;have n0_:=aM (KeepBut.trans (z17_ HK.out) hk (.inl rfl));have n1_:=aM (hb);have n2_:=aM (hi);clear HK;clear HB;clear HI4;have HK:=n0_;have HB:=n1_;have HI4:=n2_;clear n0_ n1_ n2_;(try clear hb);(try clear hk);(try clear hi)))
 go_ret
 exact ⟨z10_,z22_ HI4.out,z15_ HB.out HI4.out,z17_ HK.out⟩


/-! ### Y5: function 155 -/
def Y5.f (k:Nat) (l0:List (S78)) (a1:Int) (s2_0:Int)  : Option (Int × Int):=(Y6.f k l0 (wrap64 (a1-1)) a1 (wrap64 (a1+1)) s2_0).bind fun bt263=>(some (bt263.1,bt263.2))
theorem Y5.mono:∀ a0 a1 a2 k,LeO (Y5.f k a0 a1 a2) (Y5.f (k+1) a0 a1 a2):=by
 intro a0 a1 a2 k
 have m0:=@Y6.mono
 unfold Y5.f
 exact mO
theorem Y5.calls (k:Nat) (A0:Option Addr) (c0:Nat) (l0:List (S78)) (a1:Int) (g:Nat) (s2_0:Int)  (r1:Int) (r2:Int) (w0 w:World) (hI:IsS3 w0 w g s2_0) (hB:Below w0.heap.size w0 w) (hr0:∀ W_,KeepBut w W_ g none→Kd.C k78 W_ A0 l0.length l0) (hc0:l0.length≤c0) (h:Y5.f k l0 a1 s2_0=some (r1,r2)) :
  Calls Tryz.prog 155 #[.slice A0 l0.length c0,.int .i64 a1,.pointer (some ⟨g,0,none⟩),.func (.func 72) #[] #[]] w fun e w'=>e = .returned (.int .i64 r1)∧IsS3 w0 w' g r2∧Below w0.heap.size w0 w'∧KeepBut w w' g none:=by
 have HR0:=aM hr0
 have HC0:=aM hc0
 clear hr0 hc0
 have HI2:=aM hI
 have HK:=aM (KeepBut.refl w g none)
 have HL:=aM hB.size
 clear hI
 have HW0:=aM hB.size
 have HB:=aM hB
 clear hB
 have H:((Y6.f k l0 (wrap64 (a1-1)) a1 (wrap64 (a1+1)) s2_0).bind fun bt263=>(some (bt263.1,bt263.2)))=some (r1,r2):=h
 clear h
 replace H:=bS H
 obtain ⟨⟨t263,t264⟩,A50,H⟩:=H
 replace H:(some (t263,t264))=some (r1,r2):=H
 have A5:=aM A50
 clear A50
 simp only [Option.some.injEq,Prod.mk.injEq] at H
 obtain ⟨rfl,rfl⟩:=H
 go_enter Tryz.func155,Tryz.ntmps155
 go_wp2_with (first | ((with_reducible refine gc_ 156 ?_);refine gl_ (some 17) Tryz.func156 #[.slice A0 l0.length c0,.int .i64 (wrap64 (a1-1)),.int .i64 a1,.int .i64 (wrap64 (a1+1)),.pointer (some ⟨g,0,none⟩),.func (.func 72) #[] #[]] ?_;(with_reducible refine (Y6.calls k _ _ l0 (wrap64 (a1-1)) a1 (wrap64 (a1+1)) g s2_0  t263 t264 w0 _ ?s1 ?s2 ?s3 ?s4 A5.out).mono ?_);(case s1=>repeat (first | (with_reducible first | exact HI2.out | apply IsS3.alloc | apply IsS3.drewN | apply IsS3.drew | apply IsS3.set_0) | exact HI2.out));(case s2=>repeat (first | (with_reducible first | exact HB.out | apply below_alloc | apply pw_below_drewN | apply below_drew1 | refine below_set ?_ (IsS3.ge HI2.out)) | exact HB.out));(case s3=>exact Kd.C_foot_step HR0.out (z17_ HK.out));(case s4=>exact HC0.out);rintro e w6 ⟨rfl,hi,hb,hk⟩;refine ⟨_,rfl,?_⟩;have n0_:=aM (KeepBut.trans (z17_ HK.out) hk (.inl rfl));have n1_:=aM (hb);have n2_:=aM (hi);clear HK;clear HB;clear HI2;have HK:=n0_;have HB:=n1_;have HI2:=n2_;clear n0_ n1_ n2_;(try clear hb);(try clear hk);(try clear hi)))
 go_ret
 exact ⟨z10_,z22_ HI2.out,z15_ HB.out HI2.out,z17_ HK.out⟩


/-! ### Y3: function 130 -/
def Y3.j0:Nat→Int→Int→Option (Int × Int)
 | 0,_,_=>none
 | k+1,x13,x266000=>if x266000=0 then (some (x13,1)) else (if x266000=12 then (some (x13,2)) else (some (x13,0)))
def Y3.f (k:Nat) (l0:List (S78)) (a1:Int) (a2:Int)  : Option (Int × Int):=if (wrap64 (a2-a1))≥8 then (if (wrap64 (a2-a1))≥50 then ((Y5.f k l0 (wrap64 (a1+(wrap64 ((wrap64 (Int.tdiv (wrap64 (a2-a1)) 4)))))) 0).bind fun bt266=>((Y5.f k l0 (wrap64 (a1+(wrap64 ((wrap64 (Int.tdiv (wrap64 (a2-a1)) 4))*2)))) bt266.2).bind fun bt268=>((Y5.f k l0 (wrap64 (a1+(wrap64 ((wrap64 (Int.tdiv (wrap64 (a2-a1)) 4))*3)))) bt268.2).bind fun bt270=>((Y6.f k l0 bt266.1 bt268.1 bt270.1 bt270.2).bind fun bt272=>(Y3.j0 k bt272.1 bt272.2))))) else ((Y6.f k l0 (wrap64 (a1+(wrap64 ((wrap64 (Int.tdiv (wrap64 (a2-a1)) 4)))))) (wrap64 (a1+(wrap64 ((wrap64 (Int.tdiv (wrap64 (a2-a1)) 4))*2)))) (wrap64 (a1+(wrap64 ((wrap64 (Int.tdiv (wrap64 (a2-a1)) 4))*3)))) 0).bind fun bt274=>(Y3.j0 k bt274.1 bt274.2))) else (Y3.j0 k (wrap64 (a1+(wrap64 ((wrap64 (Int.tdiv (wrap64 (a2-a1)) 4))*2)))) 0)
theorem Y3.mono_l:∀ k,(∀ y0 y1,LeO (Y3.j0 k y0 y1) (Y3.j0 (k+1) y0 y1))
 | 0=>by intros <;> exact LeO.none _
 | k+1=>by
  have ih0:=Y3.mono_l k
  have m0:=@Y5.mono
  have m1:=@Y6.mono
  ·intros
   unfold Y3.j0
   exact mO
theorem Y3.mono:∀ a0 a1 a2 k,LeO (Y3.f k a0 a1 a2) (Y3.f (k+1) a0 a1 a2):=by
 intro a0 a1 a2 k
 have m0:=@Y5.mono
 have m1:=@Y6.mono
 have ih0:=Y3.mono_l k
 unfold Y3.f
 exact mO
theorem Y3.calls (k:Nat) (A0:Option Addr) (c0:Nat) (l0:List (S78)) (a1:Int) (a2:Int)  (r1:Int) (r2:Int) (w:World) (hr0:Kd.C k78 w A0 l0.length l0) (hc0:l0.length≤c0) (h:Y3.f k l0 a1 a2=some (r1,r2)) :
  Calls Tryz.prog 130 #[.slice A0 l0.length c0,.int .i64 a1,.int .i64 a2,.func (.func 72) #[] #[]] w fun e w'=>e = .returned (.tuple #[.int .i64 r1,.int .i64 r2])∧Below w.heap.size w w':=by
 have HR0:=aM hr0
 have HC0:=aM hc0
 clear hr0 hc0
 have HB:=aM (Below.refl w.heap.size w)
 have H:(if (wrap64 (a2-a1))≥8 then (if (wrap64 (a2-a1))≥50 then ((Y5.f k l0 (wrap64 (a1+(wrap64 ((wrap64 (Int.tdiv (wrap64 (a2-a1)) 4)))))) 0).bind fun bt266=>((Y5.f k l0 (wrap64 (a1+(wrap64 ((wrap64 (Int.tdiv (wrap64 (a2-a1)) 4))*2)))) bt266.2).bind fun bt268=>((Y5.f k l0 (wrap64 (a1+(wrap64 ((wrap64 (Int.tdiv (wrap64 (a2-a1)) 4))*3)))) bt268.2).bind fun bt270=>((Y6.f k l0 bt266.1 bt268.1 bt270.1 bt270.2).bind fun bt272=>(Y3.j0 k bt272.1 bt272.2))))) else ((Y6.f k l0 (wrap64 (a1+(wrap64 ((wrap64 (Int.tdiv (wrap64 (a2-a1)) 4)))))) (wrap64 (a1+(wrap64 ((wrap64 (Int.tdiv (wrap64 (a2-a1)) 4))*2)))) (wrap64 (a1+(wrap64 ((wrap64 (Int.tdiv (wrap64 (a2-a1)) 4))*3)))) 0).bind fun bt274=>(Y3.j0 k bt274.1 bt274.2))) else (Y3.j0 k (wrap64 (a1+(wrap64 ((wrap64 (Int.tdiv (wrap64 (a2-a1)) 4))*2)))) 0))=some (r1,r2):=h
 clear h
 have HC5:=aM H
 clear H
 go_enter Tryz.func130,Tryz.ntmps130
 go_upto_if 34 with (first | ((with_reducible refine gd_ 11 ?_);refine be_ 11 #[.int .i64 0] 3 ?_;intro gb265 hg w6 hbox hb;have n0_:=aM (below_step (z3_ HB.out) hb);have n1_:=aM ((show IsS3 w w6 gb265 0 from ⟨hbox,(z9_ HB.out:w.heap.size≤gb265)⟩));have n2_:=aM ((z9_ HB.out:w.heap.size≤gb265));have n3_:=aM ((z9_ HB.out:w.heap.size≤gb265));clear HB;have HB:=n0_;have HI265:=n1_;have GW265:=n2_;have GE265:=n3_;clear n0_ n1_ n2_ n3_;clear hb hbox hg))
 (try simp only [Act.put,sa_,s0_,ss_])
 go_cut [13] (fun v13 wc=>∃ (kq:Nat) (x13_4:Int) (x266000_4:Int),v13 = .int .i64 x13_4∧Aside0 (Y3.j0 kq x13_4 x266000_4=some (r1,r2))∧Aside0 (kq≤k)∧Aside0 (IsS3 w wc gb265 x266000_4)∧Aside0 (Below w.heap.size w wc))
 case first =>
  have H:=HC5.out
  clear HC5
  by_cases c7:(wrap64 (a2-a1))≥8
  ·rw [if_pos c7] at H
   have c7b0:decide (8≤(wrap64 (a2-a1)))=true:=dE c7
   clear c7
   (first | rw [c7b0] | (simp only [i64_w,i32_w];rw [c7b0]) | skip)
   by_cases c8:(wrap64 (a2-a1))≥50
   ·rw [if_pos c8] at H
    have c8b0:decide (50≤(wrap64 (a2-a1)))=true:=dE c8
    clear c8
    replace H:=bS H
    obtain ⟨⟨t266,t267⟩,A90,H⟩:=H
    replace H:((Y5.f k l0 (wrap64 (a1+(wrap64 ((wrap64 (Int.tdiv (wrap64 (a2-a1)) 4))*2)))) t267).bind fun bt268=>((Y5.f k l0 (wrap64 (a1+(wrap64 ((wrap64 (Int.tdiv (wrap64 (a2-a1)) 4))*3)))) bt268.2).bind fun bt270=>((Y6.f k l0 t266 bt268.1 bt270.1 bt270.2).bind fun bt272=>(Y3.j0 k bt272.1 bt272.2))))=some (r1,r2):=H
    have A9:=aM A90
    clear A90
    replace H:=bS H
    obtain ⟨⟨t268,t269⟩,A100,H⟩:=H
    replace H:((Y5.f k l0 (wrap64 (a1+(wrap64 ((wrap64 (Int.tdiv (wrap64 (a2-a1)) 4))*3)))) t269).bind fun bt270=>((Y6.f k l0 t266 t268 bt270.1 bt270.2).bind fun bt272=>(Y3.j0 k bt272.1 bt272.2)))=some (r1,r2):=H
    have A10:=aM A100
    clear A100
    replace H:=bS H
    obtain ⟨⟨t270,t271⟩,A110,H⟩:=H
    replace H:((Y6.f k l0 t266 t268 t270 t271).bind fun bt272=>(Y3.j0 k bt272.1 bt272.2))=some (r1,r2):=H
    have A11:=aM A110
    clear A110
    replace H:=bS H
    obtain ⟨⟨t272,t273⟩,A120,H⟩:=H
    replace H:(Y3.j0 k t272 t273)=some (r1,r2):=H
    have A12:=aM A120
    clear A120
    have H':=aM H
    clear H
    go_wp2_with (first | ((with_reducible refine gc_ 155 ?_);refine gl_ (some 40) Tryz.func155 #[.slice A0 l0.length c0,.int .i64 (wrap64 (a1+(wrap64 ((wrap64 (Int.tdiv (wrap64 (a2-a1)) 4)))))),.pointer (some ⟨gb265,0,none⟩),.func (.func 72) #[] #[]] ?_;(with_reducible refine (Y5.calls k _ _ l0 (wrap64 (a1+(wrap64 ((wrap64 (Int.tdiv (wrap64 (a2-a1)) 4)))))) gb265 0  t266 t267 w _ ?s1 ?s2 ?s3 ?s4 A9.out).mono ?_);(case s1=>repeat (first | (with_reducible first | exact HI265.out | apply IsS3.alloc | apply IsS3.drewN | apply IsS3.drew | apply IsS3.set_0) | exact HI265.out));(case s2=>repeat (first | (with_reducible first | exact HB.out | apply below_alloc | apply pw_below_drewN | apply below_drew1 | refine below_set ?_ (IsS3.ge HI265.out)) | exact HB.out));(case s3=>exact Kd.C_foot_came k78_heap HR0.out (z15_ HB.out HI265.out) (IsS3.ge HI265.out));(case s4=>exact HC0.out);rintro e w13 ⟨rfl,hi,hb,hk⟩;refine ⟨_,rfl,?_⟩;have n0_:=aM (hb);have n1_:=aM (hi);clear HB;clear HI265;have HB:=n0_;have HI265:=n1_;clear n0_ n1_;(try clear hb);(try clear hk);(try clear hi)) | ((with_reducible refine gc_ 155 ?_);refine gl_ (some 44) Tryz.func155 #[.slice A0 l0.length c0,.int .i64 (wrap64 (a1+(wrap64 ((wrap64 (Int.tdiv (wrap64 (a2-a1)) 4))*2)))),.pointer (some ⟨gb265,0,none⟩),.func (.func 72) #[] #[]] ?_;(with_reducible refine (Y5.calls k _ _ l0 (wrap64 (a1+(wrap64 ((wrap64 (Int.tdiv (wrap64 (a2-a1)) 4))*2)))) gb265 t267  t268 t269 w _ ?s1 ?s2 ?s3 ?s4 A10.out).mono ?_);(case s1=>repeat (first | (with_reducible first | exact HI265.out | apply IsS3.alloc | apply IsS3.drewN | apply IsS3.drew | apply IsS3.set_0) | exact HI265.out));(case s2=>repeat (first | (with_reducible first | exact HB.out | apply below_alloc | apply pw_below_drewN | apply below_drew1 | refine below_set ?_ (IsS3.ge HI265.out)) | exact HB.out));(case s3=>exact Kd.C_foot_came k78_heap HR0.out (z15_ HB.out HI265.out) (IsS3.ge HI265.out));(case s4=>exact HC0.out);rintro e w14 ⟨rfl,hi,hb,hk⟩;refine ⟨_,rfl,?_⟩;have n0_:=aM (hb);have n1_:=aM (hi);clear HB;clear HI265;have HB:=n0_;have HI265:=n1_;clear n0_ n1_;(try clear hb);(try clear hk);(try clear hi)) | ((with_reducible refine gc_ 155 ?_);refine gl_ (some 48) Tryz.func155 #[.slice A0 l0.length c0,.int .i64 (wrap64 (a1+(wrap64 ((wrap64 (Int.tdiv (wrap64 (a2-a1)) 4))*3)))),.pointer (some ⟨gb265,0,none⟩),.func (.func 72) #[] #[]] ?_;(with_reducible refine (Y5.calls k _ _ l0 (wrap64 (a1+(wrap64 ((wrap64 (Int.tdiv (wrap64 (a2-a1)) 4))*3)))) gb265 t269  t270 t271 w _ ?s1 ?s2 ?s3 ?s4 A11.out).mono ?_);(case s1=>repeat (first | (with_reducible first | exact HI265.out | apply IsS3.alloc | apply IsS3.drewN | apply IsS3.drew | apply IsS3.set_0) | exact HI265.out));(case s2=>repeat (first | (with_reducible first | exact HB.out | apply below_alloc | apply pw_below_drewN | apply below_drew1 | refine below_set ?_ (IsS3.ge HI265.out)) | exact HB.out));(case s3=>exact Kd.C_foot_came k78_heap HR0.out (z15_ HB.out HI265.out) (IsS3.ge HI265.out));(case s4=>exact HC0.out);rintro e w15 ⟨rfl,hi,hb,hk⟩;refine ⟨_,rfl,?_⟩;have n0_:=aM (hb);have n1_:=aM (hi);clear HB;clear HI265;have HB:=n0_;have HI265:=n1_;clear n0_ n1_;(try clear hb);(try clear hk);(try clear hi)) | ((with_reducible refine gc_ 156 ?_);refine gl_ (some 54) Tryz.func156 #[.slice A0 l0.length c0,.int .i64 t266,.int .i64 t268,.int .i64 t270,.pointer (some ⟨gb265,0,none⟩),.func (.func 72) #[] #[]] ?_;(with_reducible refine (Y6.calls k _ _ l0 t266 t268 t270 gb265 t271  t272 t273 w _ ?s1 ?s2 ?s3 ?s4 A12.out).mono ?_);(case s1=>repeat (first | (with_reducible first | exact HI265.out | apply IsS3.alloc | apply IsS3.drewN | apply IsS3.drew | apply IsS3.set_0) | exact HI265.out));(case s2=>repeat (first | (with_reducible first | exact HB.out | apply below_alloc | apply pw_below_drewN | apply below_drew1 | refine below_set ?_ (IsS3.ge HI265.out)) | exact HB.out));(case s3=>exact Kd.C_foot_came k78_heap HR0.out (z15_ HB.out HI265.out) (IsS3.ge HI265.out));(case s4=>exact HC0.out);rintro e w16 ⟨rfl,hi,hb,hk⟩;refine ⟨_,rfl,?_⟩;have n0_:=aM (hb);have n1_:=aM (hi);clear HB;clear HI265;have HB:=n0_;have HI265:=n1_;clear n0_ n1_;(try clear hb);(try clear hk);(try clear hi)))
    go_meet
    case rel=>exact ⟨_,(t272),(t273),(z1_),H',⟨by first | omega | exact Nat.le_refl _⟩,⟨z22_ HI265.out⟩,⟨z15_ HB.out HI265.out⟩⟩
   ·rw [if_neg c8] at H
    have c8b0:decide (50≤(wrap64 (a2-a1)))=false:=dF c8
    clear c8
    replace H:=bS H
    obtain ⟨⟨t274,t275⟩,A170,H⟩:=H
    replace H:(Y3.j0 k t274 t275)=some (r1,r2):=H
    have A17:=aM A170
    clear A170
    have H':=aM H
    clear H
    go_wp2_with (first | ((with_reducible refine gc_ 156 ?_);refine gl_ (some 54) Tryz.func156 #[.slice A0 l0.length c0,.int .i64 (wrap64 (a1+(wrap64 ((wrap64 (Int.tdiv (wrap64 (a2-a1)) 4)))))),.int .i64 (wrap64 (a1+(wrap64 ((wrap64 (Int.tdiv (wrap64 (a2-a1)) 4))*2)))),.int .i64 (wrap64 (a1+(wrap64 ((wrap64 (Int.tdiv (wrap64 (a2-a1)) 4))*3)))),.pointer (some ⟨gb265,0,none⟩),.func (.func 72) #[] #[]] ?_;(with_reducible refine (Y6.calls k _ _ l0 (wrap64 (a1+(wrap64 ((wrap64 (Int.tdiv (wrap64 (a2-a1)) 4)))))) (wrap64 (a1+(wrap64 ((wrap64 (Int.tdiv (wrap64 (a2-a1)) 4))*2)))) (wrap64 (a1+(wrap64 ((wrap64 (Int.tdiv (wrap64 (a2-a1)) 4))*3)))) gb265 0  t274 t275 w _ ?s1 ?s2 ?s3 ?s4 A17.out).mono ?_);(case s1=>repeat (first | (with_reducible first | exact HI265.out | apply IsS3.alloc | apply IsS3.drewN | apply IsS3.drew | apply IsS3.set_0) | exact HI265.out));(case s2=>repeat (first | (with_reducible first | exact HB.out | apply below_alloc | apply pw_below_drewN | apply below_drew1 | refine below_set ?_ (IsS3.ge HI265.out)) | exact HB.out));(case s3=>exact Kd.C_foot_came k78_heap HR0.out (z15_ HB.out HI265.out) (IsS3.ge HI265.out));(case s4=>exact HC0.out);rintro e w18 ⟨rfl,hi,hb,hk⟩;refine ⟨_,rfl,?_⟩;have n0_:=aM (hb);have n1_:=aM (hi);clear HB;clear HI265;have HB:=n0_;have HI265:=n1_;clear n0_ n1_;(try clear hb);(try clear hk);(try clear hi)))
    go_meet
    case rel=>exact ⟨_,(t274),(t275),(z1_),H',⟨by first | omega | exact Nat.le_refl _⟩,⟨z22_ HI265.out⟩,⟨z15_ HB.out HI265.out⟩⟩
  ·rw [if_neg c7] at H
   have c7b0:decide (8≤(wrap64 (a2-a1)))=false:=dF c7
   clear c7
   (first | rw [c7b0] | (simp only [i64_w,i32_w];rw [c7b0]) | skip)
   have H':=aM H
   clear H
   go_wp2
   go_meet
   case rel=>exact ⟨_,(wrap64 (a1+(wrap64 ((wrap64 (Int.tdiv (wrap64 (a2-a1)) 4))*2)))),(0),(z1_),H',⟨by first | omega | exact Nat.le_refl _⟩,⟨z22_ HI265.out⟩,⟨z15_ HB.out HI265.out⟩⟩
 case rest =>
  clear HC5
  try clear p2
  try clear p6
  try clear c7
  try clear c7b0
  try clear c8
  try clear c8b0
  obtain ⟨kq,x13_4,x266000_4,rfl,HA,HJ4,HI265,HB⟩:=hcut
  cases kq with
  | zero=>exact absurd HA.out (by simp [Y3.j0])
  | succ kj4 =>
   have H:=HA.out
   clear HA
   simp only [Y3.j0] at H
   by_cases c19:x266000_4=0
   ·rw [if_pos c19] at H
    have c19b0:(x266000_4 == 0)=true:=beq_iff_eq.mpr c19
    have c19b1:(x266000_4 != 0)=false:=bne_eq_false_iff_eq.mpr c19
    clear c19
    simp only [Option.some.injEq,Prod.mk.injEq] at H
    obtain ⟨rfl,rfl⟩:=H
    obtain ⟨HGz20,hgz20⟩:=HI265.out
    have hcz20_0:=cellS3_0 HGz20
    have hfz20_0:=blk_frozen HGz20 0
    clear HGz20 hgz20
    go_wp2
    go_ret2
    exact ⟨z10_,z15_ HB.out HI265.out⟩
   ·rw [if_neg c19] at H
    have c19b0:(x266000_4 == 0)=false:=beq_eq_false_iff_ne.mpr c19
    have c19b1:(x266000_4 != 0)=true:=bne_iff_ne.mpr c19
    by_cases c21:x266000_4=12
    ·rw [if_pos c21] at H
     have c21b0:(x266000_4 == 12)=true:=beq_iff_eq.mpr c21
     have c21b1:(x266000_4 != 12)=false:=bne_eq_false_iff_eq.mpr c21
     clear c21
     simp only [Option.some.injEq,Prod.mk.injEq] at H
     obtain ⟨rfl,rfl⟩:=H
     obtain ⟨HGz22,hgz22⟩:=HI265.out
     have hcz22_0:=cellS3_0 HGz22
     have hfz22_0:=blk_frozen HGz22 0
     clear HGz22 hgz22
     go_wp2
     go_ret2
     exact ⟨z10_,z15_ HB.out HI265.out⟩
    ·rw [if_neg c21] at H
     have c21b0:(x266000_4 == 12)=false:=beq_eq_false_iff_ne.mpr c21
     have c21b1:(x266000_4 != 12)=true:=bne_iff_ne.mpr c21
     simp only [Option.some.injEq,Prod.mk.injEq] at H
     obtain ⟨rfl,rfl⟩:=H
     obtain ⟨HGz23,hgz23⟩:=HI265.out
     have hcz23_0:=cellS3_0 HGz23
     have hfz23_0:=blk_frozen HGz23 0
     clear HGz23 hgz23
     go_wp2
     go_ret2
     exact ⟨z10_,z15_ HB.out HI265.out⟩


/-! ### Y44: function 131 -/
def Y44.f (l0:List (S78)) (a1:Int) (a2:Int)  : Option (Unit):=none
theorem Y44.calls (A0:Option Addr) (c0:Nat) (l0:List (S78)) (a1:Int) (a2:Int)  (w:World) (hr0:Kd.C k78 w A0 l0.length l0) (hc0:l0.length≤c0) (h:Y44.f l0 a1 a2=some ()) :
  Calls Tryz.prog 131 #[.slice A0 l0.length c0,.int .i64 a1,.int .i64 a2,.func (.func 72) #[] #[]] w fun e w'=>e = .returned (.tuple #[])∧Drawn0 w w':=by
 have HR0:=aM hr0
 have HC0:=aM hc0
 clear hr0 hc0
 have H:(none)=some ():=h
 clear h
 exact nO H


/-! ### Y25: function 132 -/
def Y25.f (l0:List (S78)) (a1:Int) (a2:Int)  : Option (Bool):=none
theorem Y25.calls (A0:Option Addr) (c0:Nat) (l0:List (S78)) (a1:Int) (a2:Int)  (r:Bool) (w:World) (hr0:Kd.C k78 w A0 l0.length l0) (hc0:l0.length≤c0) (h:Y25.f l0 a1 a2=some r) :
  Calls Tryz.prog 132 #[.slice A0 l0.length c0,.int .i64 a1,.int .i64 a2,.func (.func 72) #[] #[]] w fun e w'=>e = .returned (.bool r)∧Drawn0 w w':=by
 have HR0:=aM hr0
 have HC0:=aM hc0
 clear hr0 hc0
 have H:(none)=some r:=h
 clear h
 exact nO H


/-! ### Y39: function 133 -/
def Y39.f (l0:List (S78)) (a1:Int) (a2:Int) (a3:Int)  : Option (Int):=none
theorem Y39.calls (A0:Option Addr) (c0:Nat) (l0:List (S78)) (a1:Int) (a2:Int) (a3:Int)  (r:Int) (w:World) (hr0:Kd.C k78 w A0 l0.length l0) (hc0:l0.length≤c0) (h:Y39.f l0 a1 a2 a3=some r) :
  Calls Tryz.prog 133 #[.slice A0 l0.length c0,.int .i64 a1,.int .i64 a2,.int .i64 a3,.func (.func 72) #[] #[]] w fun e w'=>e = .returned (.int .i64 r)∧Drawn0 w w':=by
 have HR0:=aM hr0
 have HC0:=aM hc0
 clear hr0 hc0
 have H:(none)=some r:=h
 clear h
 exact nO H


/-! ### Y0: function 134 -/
mutual
def Y0.l0:Nat→List (S78)→Int→Int→Int→Option (Int × Bool × (List (S78)))
 | 0,_,_,_,_=>none
 | k+1,x0,x1,x12,x13=>if x12≤x13 then (if 0≤x12 then (if x12<(x0.length:Int) then (if 0≤x1 then (if x1<(x0.length:Int) then ((Y14.f k ((rd_T78 x0 x12).f0) ((rd_T78 x0 x12).f1) ((rd_T78 x0 x1).f0) ((rd_T78 x0 x1).f1)).bind fun t282=>(Y0.j1 k x0 x1 x12 x13 (decide (t282<0)))) else (none)) else (none)) else (none)) else (none)) else (Y0.j1 k x0 x1 x12 x13 false)
def Y0.j1:Nat→List (S78)→Int→Int→Int→Bool→Option (Int × Bool × (List (S78)))
 | 0,_,_,_,_,_=>none
 | k+1,x0,x1,x12,x13,x47=>if x47=true then (Y0.l0 k x0 x1 (wrap64 (x12+1)) x13) else (Y0.l1 k x0 x1 x12 x13)
def Y0.l1:Nat→List (S78)→Int→Int→Int→Option (Int × Bool × (List (S78)))
 | 0,_,_,_,_=>none
 | k+1,x0,x1,x12,x13=>if x12≤x13 then (if 0≤x13 then (if x13<(x0.length:Int) then (if 0≤x1 then (if x1<(x0.length:Int) then ((Y14.f k ((rd_T78 x0 x13).f0) ((rd_T78 x0 x13).f1) ((rd_T78 x0 x1).f0) ((rd_T78 x0 x1).f1)).bind fun t285=>(Y0.j3 k x0 x1 x12 x13 (!(decide (t285<0))))) else (none)) else (none)) else (none)) else (none)) else (Y0.j3 k x0 x1 x12 x13 false)
def Y0.j3:Nat→List (S78)→Int→Int→Int→Bool→Option (Int × Bool × (List (S78)))
 | 0,_,_,_,_,_=>none
 | k+1,x0,x1,x12,x13,x66=>if x66=true then (Y0.l1 k x0 x1 x12 (wrap64 (x13-1))) else (if x12>x13 then (if 0≤x1 then (if x1<(x0.length:Int) then (if 0≤x13 then (if x13<(x0.length:Int) then (some (x13,true,((x0.set (x13:Int).toNat (⟨(rd_T78 x0 x1).f0,(rd_T78 x0 x1).f1⟩:S78)).set (x1:Int).toNat (⟨(rd_T78 x0 x13).f0,(rd_T78 x0 x13).f1⟩:S78)))) else (none)) else (none)) else (none)) else (none)) else (if 0≤x13 then (if x13<(x0.length:Int) then (if 0≤x12 then (if x12<(x0.length:Int) then (Y0.l2 k ((x0.set (x12:Int).toNat (⟨(rd_T78 x0 x13).f0,(rd_T78 x0 x13).f1⟩:S78)).set (x13:Int).toNat (⟨(rd_T78 x0 x12).f0,(rd_T78 x0 x12).f1⟩:S78)) x1 (wrap64 (x12+1)) (wrap64 (x13-1))) else (none)) else (none)) else (none)) else (none)))
def Y0.l2:Nat→List (S78)→Int→Int→Int→Option (Int × Bool × (List (S78)))
 | 0,_,_,_,_=>none
 | k+1,x0,x1,x12,x13=>Y0.l3 k x0 x1 x12 x13
def Y0.l3:Nat→List (S78)→Int→Int→Int→Option (Int × Bool × (List (S78)))
 | 0,_,_,_,_=>none
 | k+1,x0,x1,x12,x13=>if x12≤x13 then (if 0≤x12 then (if x12<(x0.length:Int) then (if 0≤x1 then (if x1<(x0.length:Int) then ((Y14.f k ((rd_T78 x0 x12).f0) ((rd_T78 x0 x12).f1) ((rd_T78 x0 x1).f0) ((rd_T78 x0 x1).f1)).bind fun t296=>(Y0.j6 k x0 x1 x12 x13 (decide (t296<0)))) else (none)) else (none)) else (none)) else (none)) else (Y0.j6 k x0 x1 x12 x13 false)
def Y0.j6:Nat→List (S78)→Int→Int→Int→Bool→Option (Int × Bool × (List (S78)))
 | 0,_,_,_,_,_=>none
 | k+1,x0,x1,x12,x13,x120=>if x120=true then (Y0.l3 k x0 x1 (wrap64 (x12+1)) x13) else (Y0.l4 k x0 x1 x12 x13)
def Y0.l4:Nat→List (S78)→Int→Int→Int→Option (Int × Bool × (List (S78)))
 | 0,_,_,_,_=>none
 | k+1,x0,x1,x12,x13=>if x12≤x13 then (if 0≤x13 then (if x13<(x0.length:Int) then (if 0≤x1 then (if x1<(x0.length:Int) then ((Y14.f k ((rd_T78 x0 x13).f0) ((rd_T78 x0 x13).f1) ((rd_T78 x0 x1).f0) ((rd_T78 x0 x1).f1)).bind fun t299=>(Y0.j8 k x0 x1 x12 x13 (!(decide (t299<0))))) else (none)) else (none)) else (none)) else (none)) else (Y0.j8 k x0 x1 x12 x13 false)
def Y0.j8:Nat→List (S78)→Int→Int→Int→Bool→Option (Int × Bool × (List (S78)))
 | 0,_,_,_,_,_=>none
 | k+1,x0,x1,x12,x13,x139=>if x139=true then (Y0.l4 k x0 x1 x12 (wrap64 (x13-1))) else (if x12>x13 then (if 0≤x1 then (if x1<(x0.length:Int) then (if 0≤x13 then (if x13<(x0.length:Int) then (some (x13,false,((x0.set (x13:Int).toNat (⟨(rd_T78 x0 x1).f0,(rd_T78 x0 x1).f1⟩:S78)).set (x1:Int).toNat (⟨(rd_T78 x0 x13).f0,(rd_T78 x0 x13).f1⟩:S78)))) else (none)) else (none)) else (none)) else (none)) else (if 0≤x13 then (if x13<(x0.length:Int) then (if 0≤x12 then (if x12<(x0.length:Int) then (Y0.l2 k ((x0.set (x12:Int).toNat (⟨(rd_T78 x0 x13).f0,(rd_T78 x0 x13).f1⟩:S78)).set (x13:Int).toNat (⟨(rd_T78 x0 x12).f0,(rd_T78 x0 x12).f1⟩:S78)) x1 (wrap64 (x12+1)) (wrap64 (x13-1))) else (none)) else (none)) else (none)) else (none)))
end
def Y0.f (k:Nat) (l0:List (S78)) (a1:Int) (a2:Int) (a3:Int)  : Option (Int × Bool × (List (S78))):=if 0≤a3 then (if a3<(l0.length:Int) then (if 0≤a1 then (if a1<(l0.length:Int) then (Y0.l0 k ((l0.set (a1:Int).toNat (⟨(rd_T78 l0 a3).f0,(rd_T78 l0 a3).f1⟩:S78)).set (a3:Int).toNat (⟨(rd_T78 l0 a1).f0,(rd_T78 l0 a1).f1⟩:S78)) a1 (wrap64 (a1+1)) (wrap64 (a2-1))) else (none)) else (none)) else (none)) else (none)
theorem Y0.mono_l:∀ k,(∀ y0 y1 y2 y3,LeO (Y0.l0 k y0 y1 y2 y3) (Y0.l0 (k+1) y0 y1 y2 y3))∧(∀ y0 y1 y2 y3 y4,LeO (Y0.j1 k y0 y1 y2 y3 y4) (Y0.j1 (k+1) y0 y1 y2 y3 y4))∧(∀ y0 y1 y2 y3,LeO (Y0.l1 k y0 y1 y2 y3) (Y0.l1 (k+1) y0 y1 y2 y3))∧(∀ y0 y1 y2 y3 y4,LeO (Y0.j3 k y0 y1 y2 y3 y4) (Y0.j3 (k+1) y0 y1 y2 y3 y4))∧(∀ y0 y1 y2 y3,LeO (Y0.l2 k y0 y1 y2 y3) (Y0.l2 (k+1) y0 y1 y2 y3))∧(∀ y0 y1 y2 y3,LeO (Y0.l3 k y0 y1 y2 y3) (Y0.l3 (k+1) y0 y1 y2 y3))∧(∀ y0 y1 y2 y3 y4,LeO (Y0.j6 k y0 y1 y2 y3 y4) (Y0.j6 (k+1) y0 y1 y2 y3 y4))∧(∀ y0 y1 y2 y3,LeO (Y0.l4 k y0 y1 y2 y3) (Y0.l4 (k+1) y0 y1 y2 y3))∧(∀ y0 y1 y2 y3 y4,LeO (Y0.j8 k y0 y1 y2 y3 y4) (Y0.j8 (k+1) y0 y1 y2 y3 y4))
 | 0=>by refine ⟨?_,?_,?_,?_,?_,?_,?_,?_,?_⟩ <;> intros <;> exact LeO.none _
 | k+1=>by
  obtain ⟨ih0,ih1,ih2,ih3,ih4,ih5,ih6,ih7,ih8⟩:=Y0.mono_l k
  have m0:=@Y14.mono
  refine ⟨?_,?_,?_,?_,?_,?_,?_,?_,?_⟩
  ·intros
   unfold Y0.l0
   exact mO
  ·intros
   unfold Y0.j1
   exact mO
  ·intros
   unfold Y0.l1
   exact mO
  ·intros
   unfold Y0.j3
   exact mO
  ·intros
   unfold Y0.l2
   exact mO
  ·intros
   unfold Y0.l3
   exact mO
  ·intros
   unfold Y0.j6
   exact mO
  ·intros
   unfold Y0.l4
   exact mO
  ·intros
   unfold Y0.j8
   exact mO
theorem Y0.mono:∀ a0 a1 a2 a3 k,LeO (Y0.f k a0 a1 a2 a3) (Y0.f (k+1) a0 a1 a2 a3):=by
 intro a0 a1 a2 a3 k
 have m0:=@Y14.mono
 obtain ⟨ih0,ih1,ih2,ih3,ih4,ih5,ih6,ih7,ih8⟩:=Y0.mono_l k
 unfold Y0.f
 exact mO
def Y0.T1:Bool × List (List Nat × List Nat):=(true,[([],[]),([],[]),([],[]),([],[]),([],[]),([],[]),([4,5],[4,5]),([6],[6]),([],[]),([],[]),([8,9],[8,9]),([10],[10]),([0,1,0,1,4,5,6,7,11],[0,1]),([12,7,0,1,4,5,6,7,11],[7,12]),([2,3,0,1,2,3,4,5,6,7,8,9,10,11,12,13],[2,3]),([14,11,13,0,1,2,3,4,5,6,7,8,9,10,11,12,13],[11,14])])
def Y0.B1:List Nat:=[0,0,0,0,0,0,48,112,0,0,768,1792,4083,8179,16383,32767]
theorem Y0.tab1:rtab .any (opsOf Tryz.f134 1)=Y0.T1:=by kernel_rfl
theorem Y0.bits1:waitsOk Y0.T1.2 Y0.B1=true:=by kernel_rfl
def Y0.T3:Bool × List (List Nat × List Nat):=(true,[([],[]),([],[]),([0,1],[0,1]),([2],[2]),([3],[3]),([3],[3]),([3],[3]),([5,6,3],[3,5,6]),([7,3],[3,7]),([3],[3]),([3],[3]),([9,10,3],[3,9,10]),([11,3],[3,11]),([4,8,12,3,3],[3,4,8,12]),([13,3],[3,13]),([3,14],[3,14])])
def Y0.B3:List Nat:=[0,0,3,7,15,15,15,111,239,15,15,1551,3599,8191,16383,32767]
theorem Y0.tab3:rtab .any (opsOf Tryz.f134 3)=Y0.T3:=by kernel_rfl
theorem Y0.bits3:waitsOk Y0.T3.2 Y0.B3=true:=by kernel_rfl
def Y0.T5:Bool × List (List Nat × List Nat):=(true,[([],[]),([],[]),([0,1],[0,1]),([2],[2]),([3],[3]),([3],[3]),([3],[3]),([5,6,3],[3,5,6]),([7,3],[3,7]),([3],[3]),([3],[3]),([9,10,3],[3,9,10]),([11,3],[3,11]),([4,8,12,3,3],[3,4,8,12]),([13,3],[3,13]),([14,3],[3,14]),([3,15],[3,15])])
def Y0.B5:List Nat:=[0,0,3,7,15,15,15,111,239,15,15,1551,3599,8191,16383,32767,65535]
theorem Y0.tab5:rtab .any (opsOf Tryz.f134 5)=Y0.T5:=by kernel_rfl
theorem Y0.bits5:waitsOk Y0.T5.2 Y0.B5=true:=by kernel_rfl
def Y0.T8:Bool × List (List Nat × List Nat):=(true,[([],[]),([],[]),([],[]),([],[]),([],[]),([],[]),([4,5],[4,5]),([6],[6]),([],[]),([],[]),([8,9],[8,9]),([10],[10]),([0,1,0,1,4,5,6,7,11],[0,1]),([12,7,0,1,4,5,6,7,11],[7,12]),([2,3,0,1,2,3,4,5,6,7,8,9,10,11,12,13],[2,3]),([14,11,13,0,1,2,3,4,5,6,7,8,9,10,11,12,13],[11,14])])
def Y0.B8:List Nat:=[0,0,0,0,0,0,48,112,0,0,768,1792,4083,8179,16383,32767]
theorem Y0.tab8:rtab .any (opsOf Tryz.f134 8)=Y0.T8:=by kernel_rfl
theorem Y0.bits8:waitsOk Y0.T8.2 Y0.B8=true:=by kernel_rfl
def Y0.T10:Bool × List (List Nat × List Nat):=(true,[([],[]),([],[]),([],[]),([],[]),([],[]),([],[]),([4,5],[4,5]),([6],[6]),([],[]),([],[]),([8,9],[8,9]),([10],[10]),([0,1,0,1,4,5,6,7,11],[0,1]),([12,7,0,1,4,5,6,7,11],[7,12]),([2,3,0,1,2,3,4,5,6,7,8,9,10,11,12,13],[2,3]),([14,11,13,0,1,2,3,4,5,6,7,8,9,10,11,12,13],[11,14])])
def Y0.B10:List Nat:=[0,0,0,0,0,0,48,112,0,0,768,1792,4083,8179,16383,32767]
theorem Y0.tab10:rtab .any (opsOf Tryz.f134 10)=Y0.T10:=by kernel_rfl
theorem Y0.bits10:waitsOk Y0.T10.2 Y0.B10=true:=by kernel_rfl
def Y0.T13:Bool × List (List Nat × List Nat):=(true,[([],[]),([],[]),([0,1],[0,1]),([2],[2]),([3],[3]),([3],[3]),([3],[3]),([5,6,3],[3,5,6]),([7,3],[3,7]),([3],[3]),([3],[3]),([9,10,3],[3,9,10]),([11,3],[3,11]),([4,8,12,3,3],[3,4,8,12]),([13,3],[3,13]),([3,14],[3,14])])
def Y0.B13:List Nat:=[0,0,3,7,15,15,15,111,239,15,15,1551,3599,8191,16383,32767]
theorem Y0.tab13:rtab .any (opsOf Tryz.f134 13)=Y0.T13:=by kernel_rfl
theorem Y0.bits13:waitsOk Y0.T13.2 Y0.B13=true:=by kernel_rfl
def Y0.T15:Bool × List (List Nat × List Nat):=(true,[([],[]),([],[]),([0,1],[0,1]),([2],[2]),([3],[3]),([3],[3]),([3],[3]),([5,6,3],[3,5,6]),([7,3],[3,7]),([3],[3]),([3],[3]),([9,10,3],[3,9,10]),([11,3],[3,11]),([4,8,12,3,3],[3,4,8,12]),([13,3],[3,13]),([14,3],[3,14]),([3,15],[3,15])])
def Y0.B15:List Nat:=[0,0,3,7,15,15,15,111,239,15,15,1551,3599,8191,16383,32767,65535]
theorem Y0.tab15:rtab .any (opsOf Tryz.f134 15)=Y0.T15:=by kernel_rfl
theorem Y0.bits15:waitsOk Y0.T15.2 Y0.B15=true:=by kernel_rfl
def Y0.T18:Bool × List (List Nat × List Nat):=(true,[([],[]),([],[]),([],[]),([],[]),([],[]),([],[]),([4,5],[4,5]),([6],[6]),([],[]),([],[]),([8,9],[8,9]),([10],[10]),([0,1,0,1,4,5,6,7,11],[0,1]),([12,7,0,1,4,5,6,7,11],[7,12]),([2,3,0,1,2,3,4,5,6,7,8,9,10,11,12,13],[2,3]),([14,11,13,0,1,2,3,4,5,6,7,8,9,10,11,12,13],[11,14])])
def Y0.B18:List Nat:=[0,0,0,0,0,0,48,112,0,0,768,1792,4083,8179,16383,32767]
theorem Y0.tab18:rtab .any (opsOf Tryz.f134 18)=Y0.T18:=by kernel_rfl
theorem Y0.bits18:waitsOk Y0.T18.2 Y0.B18=true:=by kernel_rfl
def Y0.T21:Bool × List (List Nat × List Nat):=(true,[([],[]),([],[]),([],[]),([],[]),([],[]),([],[]),([4,5],[4,5]),([6],[6]),([],[]),([],[]),([8,9],[8,9]),([10],[10]),([0,1,0,1,4,5,6,7,11],[0,1]),([12,7,0,1,4,5,6,7,11],[7,12]),([2,3,0,1,2,3,4,5,6,7,8,9,10,11,12,13],[2,3]),([14,11,13,0,1,2,3,4,5,6,7,8,9,10,11,12,13],[11,14])])
def Y0.B21:List Nat:=[0,0,0,0,0,0,48,112,0,0,768,1792,4083,8179,16383,32767]
theorem Y0.tab21:rtab .any (opsOf Tryz.f134 21)=Y0.T21:=by kernel_rfl
theorem Y0.bits21:waitsOk Y0.T21.2 Y0.B21=true:=by kernel_rfl
abbrev Y0.q0:Array Bool:=#[O,O,O,O,O,O,O,O,O,O,O,O,O,O,O,O]
abbrev Y0.q1:Array Bool:=#[I,O,O,O,O,O,O,O,O,O,O,O,O,O,O,O]
abbrev Y0.q2:Array Bool:=#[I,I,O,O,O,O,O,O,O,O,O,O,O,O,O,O]
abbrev Y0.q3:Array Bool:=#[I,I,I,O,O,O,O,O,O,O,O,O,O,O,O,O]
abbrev Y0.q4:Array Bool:=#[I,I,I,I,O,O,O,O,O,O,O,O,O,O,O,O]
abbrev Y0.q5:Array Bool:=#[I,I,I,I,I,O,O,O,O,O,O,O,O,O,O,O]
abbrev Y0.q6:Array Bool:=#[I,I,I,I,I,I,O,O,O,O,O,O,O,O,O,O]
abbrev Y0.q7:Array Bool:=#[I,I,I,I,I,I,I,O,O,O,O,O,O,O,O,O]
abbrev Y0.q8:Array Bool:=#[I,I,I,I,I,I,I,O,I,O,O,O,O,O,O,O]
abbrev Y0.q9:Array Bool:=#[I,I,I,I,I,I,I,O,I,I,O,O,O,O,O,O]
abbrev Y0.q10:Array Bool:=#[I,I,I,I,I,I,I,O,I,I,I,O,O,O,O,O]
abbrev Y0.q11:Array Bool:=#[I,I,I,I,I,I,I,I,I,I,I,O,O,O,O,O]
abbrev Y0.q12:Array Bool:=#[I,I,I,I,I,I,I,I,I,I,I,I,O,O,O,O]
abbrev Y0.q13:Array Bool:=#[I,I,I,I,I,I,I,I,I,I,I,I,I,O,O,O]
abbrev Y0.q14:Array Bool:=#[I,I,I,I,I,I,I,I,I,I,I,I,I,I,O,O]
abbrev Y0.q15:Array Bool:=#[I,I,I,I,I,I,I,I,I,I,I,I,I,I,I,O]
abbrev Y0.q16:Array Bool:=#[I,I,I,I,I,I,I,I,I,I,I,I,I,I,I,I]
abbrev Y0.q17:Array Bool:=#[I,I,I,I,I,I,I,I,O,O,O,O,O,O,O,O]
abbrev Y0.q18:Array Bool:=#[I,I,I,I,I,I,I,I,O,I,O,O,O,O,O,O]
abbrev Y0.q19:Array Bool:=#[I,I,I,I,I,I,I,I,O,I,I,O,O,O,O,O]
abbrev Y0.q20:Array Bool:=#[I,I,I,I,I,I,I,I,O,I,I,I,O,O,O,O]
abbrev Y0.q21:Array Bool:=#[I,I,I,I,I,I,I,I,I,O,O,O,O,O,O,O]
abbrev Y0.q22:Array Bool:=#[I,I,I,I,I,I,I,I,I,I,O,O,O,O,O,O]
abbrev Y0.q23:Array Bool:=#[O,O,O,O,O,O,O,O,O,O,O,O,O,O,O,O,O]
abbrev Y0.q24:Array Bool:=#[I,O,O,O,O,O,O,O,O,O,O,O,O,O,O,O,O]
abbrev Y0.q25:Array Bool:=#[I,I,O,O,O,O,O,O,O,O,O,O,O,O,O,O,O]
abbrev Y0.q26:Array Bool:=#[I,I,I,O,O,O,O,O,O,O,O,O,O,O,O,O,O]
abbrev Y0.q27:Array Bool:=#[I,I,I,I,O,O,O,O,O,O,O,O,O,O,O,O,O]
abbrev Y0.q28:Array Bool:=#[I,I,I,I,I,O,O,O,O,O,O,O,O,O,O,O,O]
abbrev Y0.q29:Array Bool:=#[I,I,I,I,I,I,O,O,O,O,O,O,O,O,O,O,O]
abbrev Y0.q30:Array Bool:=#[I,I,I,I,I,I,I,O,O,O,O,O,O,O,O,O,O]
abbrev Y0.q31:Array Bool:=#[I,I,I,I,I,I,I,I,O,O,O,O,O,O,O,O,O]
abbrev Y0.q32:Array Bool:=#[I,I,I,I,I,I,I,I,O,I,O,O,O,O,O,O,O]
abbrev Y0.q33:Array Bool:=#[I,I,I,I,I,I,I,I,O,I,I,O,O,O,O,O,O]
abbrev Y0.q34:Array Bool:=#[I,I,I,I,I,I,I,I,O,I,I,I,O,O,O,O,O]
abbrev Y0.q35:Array Bool:=#[I,I,I,I,I,I,I,I,I,I,I,I,O,O,O,O,O]
abbrev Y0.q36:Array Bool:=#[I,I,I,I,I,I,I,I,I,I,I,I,I,O,O,O,O]
abbrev Y0.q37:Array Bool:=#[I,I,I,I,I,I,I,I,I,I,I,I,I,I,O,O,O]
abbrev Y0.q38:Array Bool:=#[I,I,I,I,I,I,I,I,I,I,I,I,I,I,I,O,O]
abbrev Y0.q39:Array Bool:=#[I,I,I,I,I,I,I,I,I,I,I,I,I,I,I,I,O]
abbrev Y0.q40:Array Bool:=#[I,I,I,I,I,I,I,I,I,I,I,I,I,I,I,I,I]
abbrev Y0.q41:Array Bool:=#[I,I,I,I,I,I,I,I,I,O,O,O,O,O,O,O,O]
abbrev Y0.q42:Array Bool:=#[I,I,I,I,I,I,I,I,I,I,O,O,O,O,O,O,O]
abbrev Y0.q43:Array Bool:=#[I,I,I,I,I,I,I,I,I,I,I,O,O,O,O,O,O]
theorem Y0.calls (k:Nat) (P0_:Nat→Prop) (u9000_:Value) (l0:List (S78)) (a1:Int) (a2:Int) (a3:Int)  (r1:Int) (r2:Bool) (r3:List (S78)) (w0 w:World) (hB:Below w0.heap.size w0 w) (ho0:Kd.R k78 78 w w0.heap.size P0_ u9000_ l0) (h:Y0.f k l0 a1 a2 a3=some (r1,r2,r3)) :
  Calls Tryz.prog 134 #[u9000_,.int .i64 a1,.int .i64 a2,.int .i64 a3,.func (.func 72) #[] #[]] w fun e w'=>e = .returned (.tuple #[.int .i64 r1,.bool r2])∧Kd.R k78 78 w' w0.heap.size (fun k_=>(P0_ k_∨w.heap.size≤k_)) u9000_ r3∧Below w0.heap.size w0 w'∧Kept w w' (fun k_=>P0_ k_):=by
 have hu78:=Tryz.underlying78
 have HO0:=aM (show Kd.R k78 78 w w0.heap.size (fun k_=>(P0_ k_∨w.heap.size≤k_)) u9000_ l0 from Kd.R_mono ho0 (fun k_ hk=>(.inl hk)))
 have HK:=aM (Kept.refl w (fun k_=>P0_ k_))
 have HW0:=aM hB.size
 have HB:=aM hB
 clear hB
 have H:(if 0≤a3 then (if a3<(l0.length:Int) then (if 0≤a1 then (if a1<(l0.length:Int) then (Y0.l0 k ((l0.set (a1:Int).toNat (⟨(rd_T78 l0 a3).f0,(rd_T78 l0 a3).f1⟩:S78)).set (a3:Int).toNat (⟨(rd_T78 l0 a1).f0,(rd_T78 l0 a1).f1⟩:S78)) a1 (wrap64 (a1+1)) (wrap64 (a2-1))) else (none)) else (none)) else (none)) else (none))=some (r1,r2,r3):=h
 clear h
 by_cases c6:0≤a3
 ·rw [if_pos c6] at H
  have c6b0:decide (0≤a3)=true:=dE c6
  clear c6
  by_cases c7:a3<(l0.length:Int)
  ·rw [if_pos c7] at H
   have c7b0:decide (a3<(l0.length:Int))=true:=dE c7
   clear c7
   by_cases c8:0≤a1
   ·rw [if_pos c8] at H
    have c8b0:decide (0≤a1)=true:=dE c8
    clear c8
    by_cases c9:a1<(l0.length:Int)
    ·rw [if_pos c9] at H
     have c9b0:decide (a1<(l0.length:Int))=true:=dE c9
     clear c9
     obtain ⟨y278,hy278⟩:∃ y_:List (S78),y_=(l0.set (a1:Int).toNat (⟨(rd_T78 l0 a3).f0,(rd_T78 l0 a3).f1⟩:S78)):=⟨_,rfl⟩
     replace H:(Y0.l0 k (y278.set (a3:Int).toNat (⟨(rd_T78 l0 a1).f0,(rd_T78 l0 a1).f1⟩:S78)) a1 (wrap64 (a1+1)) (wrap64 (a2-1)))=some (r1,r2,r3):=by first | (rw [hy278];with_reducible exact H) | (have H2_:=(Option.bind_some _ _).symm.trans H;rw [hy278];with_reducible exact H2_) | (have H2_:=(Option.bind_some _ _).symm.trans H;with_reducible exact H2_) | with_reducible exact H | (rw [hy278];exact H) | exact H
     have Ny278:=aM hy278
     clear hy278
     obtain ⟨y279,hy279⟩:∃ y_:List (S78),y_=(y278.set (a3:Int).toNat (⟨(rd_T78 l0 a1).f0,(rd_T78 l0 a1).f1⟩:S78)):=⟨_,rfl⟩
     replace H:(Y0.l0 k y279 a1 (wrap64 (a1+1)) (wrap64 (a2-1)))=some (r1,r2,r3):=by first | (rw [hy279];with_reducible exact H) | (have H2_:=(Option.bind_some _ _).symm.trans H;rw [hy279];with_reducible exact H2_) | (have H2_:=(Option.bind_some _ _).symm.trans H;with_reducible exact H2_) | with_reducible exact H | (rw [hy279];exact H) | exact H
     have Ny279:=aM hy279
     clear hy279
     have H':=aM H
     clear H
     go_enter Tryz.func134,Tryz.ntmps134
     try go_wp2
     have n0_:=aM (Kd.R_drew HO0.out)
     have n1_:=aM (Kept.drew HK.out)
     have n2_:=aM (below_drew1 HB.out)
     clear HO0
     clear HK
     clear HB
     have HO0:=n0_
     have HK:=n1_
     have HB:=n2_
     clear n0_ n1_ n2_
     obtain ⟨Ao13,co13,eo13⟩:=Kd.R_slice HO0.out
     (first | subst eo13 | (injection eo13 with f1_ f2_ f3_;have f4_:=f1_.symm;have f5_:=f3_.symm;clear f1_ f2_ f3_;subst f4_;subst f5_))
     have p276:0≤(a3:Int):=dT (z2_)
     have q276:a3<(l0.length:Int):=dT (z2_)
     obtain ⟨ad276,e276,hx276_0,hx276_1⟩:=at_T78 (Kd.R_reads' HO0.out).2.2 a3 p276 q276
     cases e276
     replace p276:=eq_true p276
     replace q276:=eq_true q276
     have p277:0≤(a1:Int):=dT (z2_)
     have q277:a1<(l0.length:Int):=dT (z2_)
     obtain ⟨ad277,e277,hx277_0,hx277_1⟩:=at_T78 (Kd.R_reads' HO0.out).2.2 a1 p277 q277
     obtain rfl:ad276=ad277:=(by injection e277)
     replace p277:=eq_true p277
     replace q277:=eq_true q277
     have p10:0≤(a1:Int):=dT (z2_)
     have q10:(a1:Int)<((l0.length:Int):Int):=dT (z2_)
     obtain ⟨go10,co10,eo10,gb10,gl10,cl10,HG10⟩:=Kd.R_form HO0.out (by omega)
     (first | cases eo10 | (injection eo10 with ea_ en_ ec_;(first | subst ea_ | (injection ea_ with ea_;subst ea_));subst ec_;clear en_))
     have GB10:=aM gb10
     have GG10:=aM HG10
     clear gb10 gl10 HG10
     have HMgo10:=aM (show (P0_ go10∨w.heap.size≤go10) from (HO0.out.1 _ rfl))
     (first | simp only [add_plain] at hx276_0 | skip)
     (first | simp only [add_plain] at hx276_1 | skip)
     (first | simp only [add_plain] at hx277_0 | skip)
     (first | simp only [add_plain] at hx277_1 | skip)
     obtain ⟨ce10,hcl10,hM10,hcc10,hfr10⟩:=Kd.R_elem HO0.out z78 (a1:Int) p10 q10
     obtain rfl:=k78_openM hM10
     have hx10_0:World.cell? _ ⟨go10,(a1:Int).toNat*2,none⟩=some (.int .i64 ((rd_T78 l0 a1).f0)):=hcc10 0 _ rfl
     have hx10_1:World.cell? _ ⟨go10,(a1:Int).toNat*2+1,none⟩=some (.int .i64 ((rd_T78 l0 a1).f1)):=hcc10 1 _ rfl
     have hf10_0:World.frozen? _ ⟨go10,(a1:Int).toNat*2,none⟩=false:=hfr10 0
     have hf10_1:World.frozen? _ ⟨go10,(a1:Int).toNat*2+1,none⟩=false:=hfr10 1
     clear hcl10 hcc10 hfr10 hM10
     replace p10:=eq_true p10
     replace q10:=eq_true q10
     obtain ⟨ce14,hcl14,hM14,hcc14,hfr14⟩:=Kd.R_elem HO0.out z78 (a1:Int) (dT (z2_)) (by have h_:(a1:Int)<((l0.length:Int):Int):=dT (by first | (with_reducible assumption) | assumption);first | exact h_ | (have e_:=(Kd.R_reads' HO0.out).1;omega) | simpa using h_)
     obtain rfl:=k78_openM hM14
     have HP14:=(Kd.R_seg HO0.out (a1:Int) (dT (z2_)) (by have h_:(a1:Int)<((l0.length:Int):Int):=dT (by first | (with_reducible assumption) | assumption);first | exact h_ | (have e_:=(Kd.R_reads' HO0.out).1;omega) | simpa using h_) (seg:=[.int .i64 ((rd_T78 l0 a3).f0),.int .i64 ((rd_T78 l0 a3).f1)]) (j:=0) hcl14 hcc14 (show 2≤2 from by decide) (x':=(⟨(rd_T78 l0 a3).f0,(rd_T78 l0 a3).f1⟩:S78)) (k78_mkM _ _ _ (⟨(rd_T78 l0 a3).f0,(rd_T78 l0 a3).f1⟩:S78) ) (fun _ hk=>hk)).1
     rw [← Ny278.out] at HP14
     have HQ14:=aM HP14
     clear hcl14 hcc14 hfr14 hM14 HP14
     have p11:0≤(a3:Int):=dT (z2_)
     have q11:(a3:Int)<((l0.length:Int):Int):=dT (z2_)
     obtain ⟨ce11,hcl11,hM11,hcc11,hfr11⟩:=Kd.R_elem HQ14.out z78 (a3:Int) p11 q11
     obtain rfl:=k78_openM hM11
     have hx11_0:World.cell? _ ⟨go10,(a3:Int).toNat*2,none⟩=some (.int .i64 ((rd_T78 y278 a3).f0)):=hcc11 0 _ rfl
     have hx11_1:World.cell? _ ⟨go10,(a3:Int).toNat*2+1,none⟩=some (.int .i64 ((rd_T78 y278 a3).f1)):=hcc11 1 _ rfl
     have hf11_0:World.frozen? _ ⟨go10,(a3:Int).toNat*2,none⟩=false:=hfr11 0
     have hf11_1:World.frozen? _ ⟨go10,(a3:Int).toNat*2+1,none⟩=false:=hfr11 1
     clear hcl11 hcc11 hfr11 hM11
     replace p11:=eq_true p11
     replace q11:=eq_true q11
     obtain ⟨ce15,hcl15,hM15,hcc15,hfr15⟩:=Kd.R_elem HQ14.out z78 (a3:Int) (dT (z2_)) (by have h_:(a3:Int)<((l0.length:Int):Int):=dT (by first | (with_reducible assumption) | assumption);first | exact h_ | (have e_:=(Kd.R_reads' HO0.out).1;omega) | simpa using h_)
     obtain rfl:=k78_openM hM15
     have HP15:=(Kd.R_seg HQ14.out (a3:Int) (dT (z2_)) (by have h_:(a3:Int)<((l0.length:Int):Int):=dT (by first | (with_reducible assumption) | assumption);first | exact h_ | (have e_:=(Kd.R_reads' HO0.out).1;omega) | simpa using h_) (seg:=[.int .i64 ((rd_T78 l0 a1).f0),.int .i64 ((rd_T78 l0 a1).f1)]) (j:=0) hcl15 hcc15 (show 2≤2 from by decide) (x':=(⟨(rd_T78 l0 a1).f0,(rd_T78 l0 a1).f1⟩:S78)) (k78_mkM _ _ _ (⟨(rd_T78 l0 a1).f0,(rd_T78 l0 a1).f1⟩:S78) ) (fun _ hk=>hk)).1
     rw [← Ny279.out] at HP15
     have HQ15:=aM HP15
     clear hcl15 hcc15 hfr15 hM15 HP15
     refine start_ (n:=16) (S:=fun w'=>w'.cell? ⟨go10,((a3).toNat*2),none⟩=some (.int .i64 ((rd_T78 l0 a3).f0))∧w'.cell? ⟨go10,((a3).toNat*2)+1,none⟩=some (.int .i64 ((rd_T78 l0 a3).f1))∧w'.cell? ⟨go10,((a1).toNat*2),none⟩=some (.int .i64 ((rd_T78 l0 a1).f0))∧w'.cell? ⟨go10,((a1).toNat*2)+1,none⟩=some (.int .i64 ((rd_T78 l0 a1).f1))) (ds:=[13,15]) Y0.q0 (by kernel_rfl) rfl rfl ⟨hx276_0,hx276_1,hx277_0,hx277_1⟩ (fun hHeld=>?_);refine with_tabW Y0.tab1 Y0.bits1 (fun HT_ HW_=>?_)
     generalize w.drew=w12 at HO0 HK HB GG10 HQ14 HQ15 hf10_0 hf10_1 hf11_0 hf11_1 hx10_0 hx10_1 hx11_0 hx11_1 hx276_0 hx276_1 hx277_0 hx277_1 hHeld ⊢
     have hz11_0:(w12.setCell ⟨go10,(a1:Int).toNat*2,none⟩ (.int .i64 ((rd_T78 l0 a3).f0))).cell? ⟨go10,(a3:Int).toNat*2,none⟩=some (.int .i64 ((rd_T78 y278 a3).f0)):=by have h_:=hx11_0;exact ((show ((w12.setCell ⟨go10,(a1:Int).toNat*2,none⟩ (.int .i64 ((rd_T78 l0 a3).f0))).setCell ⟨go10,(a1:Int).toNat*2+1,none⟩ (.int .i64 ((rd_T78 l0 a3).f1))).cell? ⟨go10,(a3:Int).toNat*2,none⟩=(w12.setCell ⟨go10,(a1:Int).toNat*2,none⟩ (.int .i64 ((rd_T78 l0 a3).f0))).cell? ⟨go10,(a3:Int).toNat*2,none⟩ from World.cell?_setCell_other _ _ _ _ (by intro e_;injection e_ with e1_ e2_;omega)).symm.trans h_)
     have hy11_0:w12.frozen? ⟨go10,(a3:Int).toNat*2,none⟩=false:=by have h_:=hf11_0;first | exact h_ | simpa only [World.frozen?_setCell] using h_ | simpa [World.setCells] using h_
     have hz11_1:((w12.setCell ⟨go10,(a1:Int).toNat*2,none⟩ (.int .i64 ((rd_T78 l0 a3).f0))).setCell ⟨go10,(a1:Int).toNat*2+1,none⟩ (.int .i64 ((rd_T78 l0 a3).f1))).cell? ⟨go10,(a3:Int).toNat*2+1,none⟩=some (.int .i64 ((rd_T78 y278 a3).f1)):=by have h_:=hx11_1;exact h_
     have hy11_1:w12.frozen? ⟨go10,(a3:Int).toNat*2+1,none⟩=false:=by have h_:=hf11_1;first | exact h_ | simpa only [World.frozen?_setCell] using h_ | simpa [World.setCells] using h_
     refine pu_ 0 14 Y0.q1 HT_.out ?_
     refine pu_ 1 15 Y0.q2 HT_.out ?_
     refine pu_ 2 16 Y0.q3 HT_.out ?_
     refine pu_ 3 17 Y0.q4 HT_.out ?_
     refine pu_ 4 18 Y0.q5 HT_.out ?_
     refine pu_ 5 19 Y0.q6 HT_.out ?_
     refine pu_ 6 20 Y0.q7 HT_.out ?_
     refine pu_ 8 22 Y0.q8 HT_.out ?_
     refine pu_ 9 23 Y0.q9 HT_.out ?_
     refine pu_ 10 24 Y0.q10 HT_.out ?_
     refine tk4_ 7 21 Y0.q11 HT_.out HW_.out hHeld ?_
     refine tk4_ 11 25 Y0.q12 HT_.out HW_.out hHeld ?_
     refine pu_ 12 26 Y0.q13 HT_.out ?_
     refine last_ (i:=13) (N:=none) Y0.q14 rfl rfl (one_of HT_.out (by kernel_rfl)) (by decide) (fun K hK=>?_)
     refine skip_ (w1:=?_) (by rfl) rfl ?_ ?_
     rotate_left
     ·go_simp
      rfl
     refine hK.out _ _ ?_
     clear hK K
     refine pu_ 14 27 Y0.q15 HT_.out ?_
     refine last_ (i:=15) (N:=none) Y0.q16 rfl rfl (one_of HT_.out (by kernel_rfl)) (by decide) (fun K hK=>?_)
     refine skip_ (w1:=?_) (by rfl) rfl ?_ ?_
     rotate_left
     ·go_simp
      rfl
     refine hK.out _ _ ?_
     clear hK K
     refine done_ (done_of HT_.out (by kernel_rfl)) ?_
     try go_wp2
     go_loopg [12] k (fun kq v12 w'=>∃ (x12_1:Int),v12 = .int .i64 x12_1∧Aside0 (Y0.l0 kq y279 a1 x12_1 (wrap64 (a2-1))=some (r1,r2,r3))∧Aside0 (kq≤k)∧Aside0 (Kd.R k78 78 w' w0.heap.size (fun k_=>(P0_ k_∨w.heap.size≤k_)) (.slice (some ⟨go10,0,none⟩) l0.length co13) y279)∧Aside0 (Kept w w' (fun k_=>P0_ k_))∧Aside0 (Below w0.heap.size w0 w'))
     case atStart=>exact ⟨(wrap64 (a1+1)),(z1_),H',⟨Nat.le_refl _⟩,⟨z0_ HQ15.out⟩,⟨z30_ HK.out HMgo10.out⟩,⟨z31_ HB.out GB10.out⟩⟩
     case round=>as_aux_lemma =>
      clear H'
      try clear c1
      try clear p1
      try clear q1
      try clear hx1
      try clear p2
      try clear q2
      try clear hx2
      try clear c6
      try clear c6b0
      try clear p6
      try clear c7
      try clear c7b0
      try clear c8
      try clear c8b0
      try clear c9
      try clear c9b0
      try clear c10
      try clear p10
      try clear q10
      try clear hx10
      try clear hf10
      try clear c11
      try clear p11
      try clear q11
      try clear hx11
      try clear hf11
      try clear c14
      try clear c15
      try clear hx10_0
      try clear hx10_1
      try clear hx11_0
      try clear hx11_1
      try clear hx276_0
      try clear hx276_1
      try clear hx277_0
      try clear hx277_1
      try clear p10
      try clear p11
      try clear p276
      try clear p277
      try clear q10
      try clear q11
      try clear q276
      try clear q277
      obtain ⟨x12_1,rfl,HA,HK1,HO_0,HK,HB⟩:=hrel
      have hl0_1:=(Kd.R_reads' HO_0.out).1
      rw [hl0_1] at HO_0
      (try simp only [hl0_1])
      cases gk with
      | zero=>exact absurd HA.out (by simp [Y0.l0])
      | succ k1 =>
       have H:=HA.out
       clear HA
       simp only [Y0.l0] at H
       have HC16:=aM H
       clear H
       go_upto_region 3 with (fail)
       go_cut [47] (fun v47 wc=>∃ (kq:Nat) (x47_15:Bool),v47 = .bool x47_15∧Aside0 (Y0.j1 kq y279 a1 x12_1 (wrap64 (a2-1)) x47_15=some (r1,r2,r3))∧Aside0 (kq≤k1)∧Aside0 (Kd.R k78 78 wc w0.heap.size (fun k_=>(P0_ k_∨w.heap.size≤k_)) (.slice (some ⟨go10,0,none⟩) y279.length co13) y279)∧Aside0 (Kept w wc (fun k_=>P0_ k_))∧Aside0 (Below w0.heap.size w0 wc))
       case first=>as_aux_lemma =>
        have H:=HC16.out
        clear HC16
        by_cases c17:x12_1≤(wrap64 (a2-1))
        ·rw [if_pos c17] at H
         have c17b0:decide (x12_1≤(wrap64 (a2-1)))=true:=dE c17
         clear c17
         (first | rw [c17b0] | (simp only [i64_w,i32_w];rw [c17b0]) | skip)
         by_cases c18:0≤x12_1
         ·rw [if_pos c18] at H
          have c18b0:decide (0≤x12_1)=true:=dE c18
          clear c18
          by_cases c19:x12_1<(y279.length:Int)
          ·rw [if_pos c19] at H
           have c19b0:decide (x12_1<(y279.length:Int))=true:=dE c19
           clear c19
           by_cases c20:0≤a1
           ·rw [if_pos c20] at H
            have c20b0:decide (0≤a1)=true:=dE c20
            clear c20
            by_cases c21:a1<(y279.length:Int)
            ·rw [if_pos c21] at H
             have c21b0:decide (a1<(y279.length:Int))=true:=dE c21
             clear c21
             replace H:=bS H
             obtain ⟨t282,A220,H⟩:=H
             replace H:(Y0.j1 k1 y279 a1 x12_1 (wrap64 (a2-1)) (decide (t282<0)))=some (r1,r2,r3):=H
             have A22:=aM A220
             clear A220
             have H':=aM H
             clear H
             try go_wp2
             have n0_:=aM (Kd.R_drew HO_0.out)
             have n1_:=aM (Kept.drew HK.out)
             have n2_:=aM (below_drew1 HB.out)
             clear HO_0
             clear HK
             clear HB
             have HO_0:=n0_
             have HK:=n1_
             have HB:=n2_
             clear n0_ n1_ n2_
             have p280:0≤(x12_1:Int):=dT (z2_)
             have q280:x12_1<(y279.length:Int):=dT (z2_)
             obtain ⟨ad280,e280,hx280_0,hx280_1⟩:=at_T78 (Kd.R_reads' HO_0.out).2.2 x12_1 p280 q280
             obtain rfl:(⟨go10,0,none⟩:Addr)=ad280:=(by injection e280)
             (first | simp only [add_plain] at hx280_0 | simp only [add_at] at hx280_0 | simp only [Addr.add,Nat.zero_add] at hx280_0 | skip)
             (first | simp only [add_plain] at hx280_1 | simp only [add_at] at hx280_1 | simp only [Addr.add,Nat.zero_add] at hx280_1 | skip)
             replace p280:=eq_true p280
             replace q280:=eq_true q280
             have p281:0≤(a1:Int):=dT (z2_)
             have q281:a1<(y279.length:Int):=dT (z2_)
             obtain ⟨ad281,e281,hx281_0,hx281_1⟩:=at_T78 (Kd.R_reads' HO_0.out).2.2 a1 p281 q281
             obtain rfl:(⟨go10,0,none⟩:Addr)=ad281:=(by injection e281)
             (first | simp only [add_plain] at hx281_0 | simp only [add_at] at hx281_0 | simp only [Addr.add,Nat.zero_add] at hx281_0 | skip)
             (first | simp only [add_plain] at hx281_1 | simp only [add_at] at hx281_1 | simp only [Addr.add,Nat.zero_add] at hx281_1 | skip)
             replace p281:=eq_true p281
             replace q281:=eq_true q281
             refine start_ (n:=16) (S:=fun w'=>w'.cell? ⟨go10,(x12_1).toNat*2,none⟩=some (.int .i64 ((rd_T78 y279 x12_1).f0))∧w'.cell? ⟨go10,(x12_1).toNat*2+1,none⟩=some (.int .i64 ((rd_T78 y279 x12_1).f1))∧w'.cell? ⟨go10,(a1).toNat*2,none⟩=some (.int .i64 ((rd_T78 y279 a1).f0))∧w'.cell? ⟨go10,(a1).toNat*2+1,none⟩=some (.int .i64 ((rd_T78 y279 a1).f1))) (ds:=[]) Y0.q0 (by kernel_rfl) rfl rfl ⟨hx280_0,hx280_1,hx281_0,hx281_1⟩ (fun hHeld=>?_);refine with_tabW Y0.tab3 Y0.bits3 (fun HT_ HW_=>?_)
             generalize wr.drew=w23 at HO_0 HK HB hx280_0 hx280_1 hx281_0 hx281_1 hHeld ⊢
             refine pu_ 0 32 Y0.q1 HT_.out ?_
             refine pu_ 1 33 Y0.q2 HT_.out ?_
             refine pu_ 2 34 Y0.q3 HT_.out ?_
             refine pu_ 3 35 Y0.q4 HT_.out ?_
             refine pu_ 4 36 Y0.q5 HT_.out ?_
             refine pu_ 5 37 Y0.q6 HT_.out ?_
             refine pu_ 6 38 Y0.q7 HT_.out ?_
             refine pu_ 7 39 Y0.q17 HT_.out ?_
             refine pu_ 9 41 Y0.q18 HT_.out ?_
             refine pu_ 10 42 Y0.q19 HT_.out ?_
             refine pu_ 11 43 Y0.q20 HT_.out ?_
             refine tk4_ 8 40 Y0.q12 HT_.out HW_.out hHeld ?_
             refine tk4_ 12 44 Y0.q13 HT_.out HW_.out hHeld ?_
             refine o1_ 13 45 Y0.q14 HT_.out (fun K hK=>?_)
             refine goesD_ Tryz.func72 (by kernel_rfl) rfl #[.agg #[.int .i64 ((rd_T78 y279 x12_1).f0),.int .i64 ((rd_T78 y279 x12_1).f1)],.agg #[.int .i64 ((rd_T78 y279 a1).f0),.int .i64 ((rd_T78 y279 a1).f1)]] (by rfl) rfl rfl (by rfl) (z32_) ?_
             with_reducible refine (Y14.calls k1 ((rd_T78 y279 x12_1).f0) ((rd_T78 y279 x12_1).f1) ((rd_T78 y279 a1).f0) ((rd_T78 y279 a1).f1) t282 _ A22.out).mono ?_
             rintro e w24 ⟨rfl,hb⟩
             have HS0_:=(hb.cell (World.block_lt_of_cell? _ _ (hHeld.1))).trans (hHeld.1)
             have HS1_:=(hb.cell (World.block_lt_of_cell? _ _ (hHeld.2.1))).trans (hHeld.2.1)
             have HS2_:=(hb.cell (World.block_lt_of_cell? _ _ (hHeld.2.2.1))).trans (hHeld.2.2.1)
             have HS3_:=(hb.cell (World.block_lt_of_cell? _ _ (hHeld.2.2.2))).trans (hHeld.2.2.2)
             refine ⟨_,rfl,?_⟩
             have n0_:=aM (Kd.R_below (z0_ HO_0.out) hb)
             have n1_:=aM (Kept.below (S:=(fun k_=>P0_ k_)) (z6_ HK.out) hb)
             have n2_:=aM (below_step (z3_ HB.out) hb)
             clear HO_0
             clear HK
             clear HB
             have HO_0:=n0_
             have HK:=n1_
             have HB:=n2_
             clear n0_ n1_ n2_
             (try clear hb)
             refine hK.out _ _ ⟨HS0_,HS1_,HS2_,HS3_⟩ (fun hHeld=>?_)
             clear hK K
             refine nm_ 45 ?_
             refine pu_ 14 46 Y0.q15 HT_.out ?_
             refine pu_ 15 47 Y0.q16 HT_.out ?_
             refine done_ (done_of HT_.out (by kernel_rfl)) ?_
             try go_wp2
             go_meet
             case rel=>exact ⟨_,(decide (t282<0)),(z1_),H',⟨by have:=HK1.out;first | omega | exact Nat.le_refl _⟩,⟨z25_ HO_0.out⟩,⟨z6_ HK.out⟩,⟨z3_ HB.out⟩⟩
            ·rw [if_neg c21] at H
             exact nO H
           ·rw [if_neg c20] at H
            exact nO H
          ·rw [if_neg c19] at H
           exact nO H
         ·rw [if_neg c18] at H
          exact nO H
        ·rw [if_neg c17] at H
         have c17b0:decide (x12_1≤(wrap64 (a2-1)))=false:=dF c17
         clear c17
         (first | rw [c17b0] | (simp only [i64_w,i32_w];rw [c17b0]) | skip)
         have H':=aM H
         clear H
         try go_wp2
         have n0_:=aM (Kd.R_drew HO_0.out)
         have n1_:=aM (Kept.drew HK.out)
         have n2_:=aM (below_drew1 HB.out)
         clear HO_0
         clear HK
         clear HB
         have HO_0:=n0_
         have HK:=n1_
         have HB:=n2_
         clear n0_ n1_ n2_
         refine start_ (n:=16) (S:=fun w'=>True) (ds:=[]) Y0.q0 (by kernel_rfl) rfl rfl trivial (fun hHeld=>?_);refine with_tabW Y0.tab3 Y0.bits3 (fun HT_ HW_=>?_)
         generalize wr.drew=w25 at HO_0 HK HB hHeld ⊢
         refine pu_ 0 32 Y0.q1 HT_.out ?_
         refine pu_ 1 33 Y0.q2 HT_.out ?_
         refine pu_ 2 34 Y0.q3 HT_.out ?_
         refine pu_ 3 35 Y0.q4 HT_.out ?_
         refine pn_ 4 36 Y0.q5 HT_.out ?_
         refine pn_ 5 37 Y0.q6 HT_.out ?_
         refine pn_ 6 38 Y0.q7 HT_.out ?_
         refine pn_ 7 39 Y0.q17 HT_.out ?_
         refine pn_ 8 40 Y0.q21 HT_.out ?_
         refine pn_ 9 41 Y0.q22 HT_.out ?_
         refine pn_ 10 42 Y0.q11 HT_.out ?_
         refine pn_ 11 43 Y0.q12 HT_.out ?_
         refine pn_ 12 44 Y0.q13 HT_.out ?_
         refine pn_ 13 45 Y0.q14 HT_.out ?_
         refine pn_ 14 46 Y0.q15 HT_.out ?_
         refine pu_ 15 47 Y0.q16 HT_.out ?_
         refine done_ (done_of HT_.out (by kernel_rfl)) ?_
         try go_wp2
         go_meet
         case rel=>exact ⟨_,(false),(z1_),H',⟨by have:=HK1.out;first | omega | exact Nat.le_refl _⟩,⟨z25_ HO_0.out⟩,⟨z6_ HK.out⟩,⟨z3_ HB.out⟩⟩
       case rest=>as_aux_lemma =>
        clear HC16
        try clear c1
        try clear p1
        try clear q1
        try clear hx1
        try clear c2
        try clear p2
        try clear q2
        try clear hx2
        try clear c6
        try clear c6b0
        try clear p6
        try clear c7
        try clear c7b0
        try clear c8
        try clear c8b0
        try clear c9
        try clear c9b0
        try clear c10
        try clear p10
        try clear q10
        try clear hx10
        try clear hf10
        try clear c11
        try clear p11
        try clear q11
        try clear hx11
        try clear hf11
        try clear c14
        try clear c15
        try clear c17
        try clear c17b0
        try clear c18
        try clear c18b0
        try clear c19
        try clear c19b0
        try clear c20
        try clear c20b0
        try clear c21
        try clear c21b0
        try clear hx10_0
        try clear hx10_1
        try clear hx11_0
        try clear hx11_1
        try clear hx276_0
        try clear hx276_1
        try clear hx277_0
        try clear hx277_1
        try clear hx280_0
        try clear hx280_1
        try clear hx281_0
        try clear hx281_1
        try clear p1
        try clear p10
        try clear p11
        try clear p2
        try clear p276
        try clear p277
        try clear p280
        try clear p281
        try clear p6
        try clear q1
        try clear q10
        try clear q11
        try clear q2
        try clear q276
        try clear q277
        try clear q280
        try clear q281
        obtain ⟨kq,x47_15,rfl,HA,HJ15,HO_0,HK,HB⟩:=hcut
        cases kq with
        | zero=>exact absurd HA.out (by simp [Y0.j1])
        | succ kj15 =>
         have H:=HA.out
         clear HA
         simp only [Y0.j1] at H
         by_cases c26:x47_15=true
         ·subst c26
          have H1:(Y0.l0 kj15 y279 a1 (wrap64 (x12_1+1)) (wrap64 (a2-1)))=some (r1,r2,r3):=by rw [if_pos rfl] at H;exact H
          clear H
          have H:=H1
          clear H1
          have H':=aM H
          clear H
          go_wp2
          (try simp only [← hl0_1])
          go_roundg kj15
          case measure=>have:=HK1.out;have:=HJ15.out;omega
          case rel=>exact ⟨(wrap64 (x12_1+1)),(z1_),H',⟨by have:=HK1.out;have:=HJ15.out;omega⟩,⟨z25_ HO_0.out⟩,⟨z6_ HK.out⟩,⟨z3_ HB.out⟩⟩
         ·replace c26:=Bool.eq_false_iff.mpr c26
          subst c26
          have H1:(Y0.l1 kj15 y279 a1 x12_1 (wrap64 (a2-1)))=some (r1,r2,r3):=by rw [if_neg (show ¬ (false=true) by decide)] at H;exact H
          clear H
          have H:=H1
          clear H1
          have H':=aM H
          clear H
          go_wp2
          go_loopg [13] kj15 (fun kq v13 w'=>∃ (x13_3:Int),v13 = .int .i64 x13_3∧Aside0 (Y0.l1 kq y279 a1 x12_1 x13_3=some (r1,r2,r3))∧Aside0 (kq≤kj15)∧Aside0 (Kd.R k78 78 w' w0.heap.size (fun k_=>(P0_ k_∨w.heap.size≤k_)) (.slice (some ⟨go10,0,none⟩) y279.length co13) y279)∧Aside0 (Kept w w' (fun k_=>P0_ k_))∧Aside0 (Below w0.heap.size w0 w'))
          case atStart=>exact ⟨((wrap64 (a2-1))),(z1_),H',⟨Nat.le_refl _⟩,⟨z25_ HO_0.out⟩,⟨z6_ HK.out⟩,⟨z3_ HB.out⟩⟩
          case round=>as_aux_lemma =>
           clear H'
           try clear c1
           try clear p1
           try clear q1
           try clear hx1
           try clear c2
           try clear p2
           try clear q2
           try clear hx2
           try clear c6
           try clear c6b0
           try clear p6
           try clear c7
           try clear c7b0
           try clear c8
           try clear c8b0
           try clear c9
           try clear c9b0
           try clear c10
           try clear p10
           try clear q10
           try clear hx10
           try clear hf10
           try clear c11
           try clear p11
           try clear q11
           try clear hx11
           try clear hf11
           try clear c14
           try clear c15
           try clear c17
           try clear c17b0
           try clear c18
           try clear c18b0
           try clear c19
           try clear c19b0
           try clear c20
           try clear c20b0
           try clear c21
           try clear c21b0
           try clear c26
           try clear hx10_0
           try clear hx10_1
           try clear hx11_0
           try clear hx11_1
           try clear hx276_0
           try clear hx276_1
           try clear hx277_0
           try clear hx277_1
           try clear hx280_0
           try clear hx280_1
           try clear hx281_0
           try clear hx281_1
           try clear p1
           try clear p10
           try clear p11
           try clear p2
           try clear p276
           try clear p277
           try clear p280
           try clear p281
           try clear p6
           try clear q1
           try clear q10
           try clear q11
           try clear q2
           try clear q276
           try clear q277
           try clear q280
           try clear q281
           obtain ⟨x13_3,rfl,HA,HK3,HO_0,HK,HB⟩:=hrel
           cases gk with
           | zero=>exact absurd HA.out (by simp [Y0.l1])
           | succ k3 =>
            have H:=HA.out
            clear HA
            simp only [Y0.l1] at H
            have HC27:=aM H
            clear H
            go_upto_region 5 with (fail)
            go_cut [66] (fun v66 wc=>∃ (kq:Nat) (x66_26:Bool),v66 = .bool x66_26∧Aside0 (Y0.j3 kq y279 a1 x12_1 x13_3 x66_26=some (r1,r2,r3))∧Aside0 (kq≤k3)∧Aside0 (Kd.R k78 78 wc w0.heap.size (fun k_=>(P0_ k_∨w.heap.size≤k_)) (.slice (some ⟨go10,0,none⟩) y279.length co13) y279)∧Aside0 (Kept w wc (fun k_=>P0_ k_))∧Aside0 (Below w0.heap.size w0 wc))
            case first=>as_aux_lemma =>
             have H:=HC27.out
             clear HC27
             by_cases c28:x12_1≤x13_3
             ·rw [if_pos c28] at H
              have c28b0:decide (x12_1≤x13_3)=true:=dE c28
              clear c28
              (first | rw [c28b0] | (simp only [i64_w,i32_w];rw [c28b0]) | skip)
              by_cases c29:0≤x13_3
              ·rw [if_pos c29] at H
               have c29b0:decide (0≤x13_3)=true:=dE c29
               clear c29
               by_cases c30:x13_3<(y279.length:Int)
               ·rw [if_pos c30] at H
                have c30b0:decide (x13_3<(y279.length:Int))=true:=dE c30
                clear c30
                by_cases c31:0≤a1
                ·rw [if_pos c31] at H
                 have c31b0:decide (0≤a1)=true:=dE c31
                 clear c31
                 by_cases c32:a1<(y279.length:Int)
                 ·rw [if_pos c32] at H
                  have c32b0:decide (a1<(y279.length:Int))=true:=dE c32
                  clear c32
                  replace H:=bS H
                  obtain ⟨t285,A330,H⟩:=H
                  replace H:(Y0.j3 k3 y279 a1 x12_1 x13_3 (!(decide (t285<0))))=some (r1,r2,r3):=H
                  have A33:=aM A330
                  clear A330
                  have H':=aM H
                  clear H
                  try go_wp2
                  have n0_:=aM (Kd.R_drew HO_0.out)
                  have n1_:=aM (Kept.drew HK.out)
                  have n2_:=aM (below_drew1 HB.out)
                  clear HO_0
                  clear HK
                  clear HB
                  have HO_0:=n0_
                  have HK:=n1_
                  have HB:=n2_
                  clear n0_ n1_ n2_
                  have p283:0≤(x13_3:Int):=dT (z2_)
                  have q283:x13_3<(y279.length:Int):=dT (z2_)
                  obtain ⟨ad283,e283,hx283_0,hx283_1⟩:=at_T78 (Kd.R_reads' HO_0.out).2.2 x13_3 p283 q283
                  obtain rfl:(⟨go10,0,none⟩:Addr)=ad283:=(by injection e283)
                  (first | simp only [add_plain] at hx283_0 | simp only [add_at] at hx283_0 | simp only [Addr.add,Nat.zero_add] at hx283_0 | skip)
                  (first | simp only [add_plain] at hx283_1 | simp only [add_at] at hx283_1 | simp only [Addr.add,Nat.zero_add] at hx283_1 | skip)
                  replace p283:=eq_true p283
                  replace q283:=eq_true q283
                  have p284:0≤(a1:Int):=dT (z2_)
                  have q284:a1<(y279.length:Int):=dT (z2_)
                  obtain ⟨ad284,e284,hx284_0,hx284_1⟩:=at_T78 (Kd.R_reads' HO_0.out).2.2 a1 p284 q284
                  obtain rfl:(⟨go10,0,none⟩:Addr)=ad284:=(by injection e284)
                  (first | simp only [add_plain] at hx284_0 | simp only [add_at] at hx284_0 | simp only [Addr.add,Nat.zero_add] at hx284_0 | skip)
                  (first | simp only [add_plain] at hx284_1 | simp only [add_at] at hx284_1 | simp only [Addr.add,Nat.zero_add] at hx284_1 | skip)
                  replace p284:=eq_true p284
                  replace q284:=eq_true q284
                  refine start_ (n:=17) (S:=fun w'=>w'.cell? ⟨go10,(x13_3).toNat*2,none⟩=some (.int .i64 ((rd_T78 y279 x13_3).f0))∧w'.cell? ⟨go10,(x13_3).toNat*2+1,none⟩=some (.int .i64 ((rd_T78 y279 x13_3).f1))∧w'.cell? ⟨go10,(a1).toNat*2,none⟩=some (.int .i64 ((rd_T78 y279 a1).f0))∧w'.cell? ⟨go10,(a1).toNat*2+1,none⟩=some (.int .i64 ((rd_T78 y279 a1).f1))) (ds:=[]) Y0.q23 (by kernel_rfl) rfl rfl ⟨hx283_0,hx283_1,hx284_0,hx284_1⟩ (fun hHeld=>?_);refine with_tabW Y0.tab5 Y0.bits5 (fun HT_ HW_=>?_)
                  generalize wr.drew=w34 at HO_0 HK HB hx283_0 hx283_1 hx284_0 hx284_1 hHeld ⊢
                  refine pu_ 0 50 Y0.q24 HT_.out ?_
                  refine pu_ 1 51 Y0.q25 HT_.out ?_
                  refine pu_ 2 52 Y0.q26 HT_.out ?_
                  refine pu_ 3 53 Y0.q27 HT_.out ?_
                  refine pu_ 4 54 Y0.q28 HT_.out ?_
                  refine pu_ 5 55 Y0.q29 HT_.out ?_
                  refine pu_ 6 56 Y0.q30 HT_.out ?_
                  refine pu_ 7 57 Y0.q31 HT_.out ?_
                  refine pu_ 9 59 Y0.q32 HT_.out ?_
                  refine pu_ 10 60 Y0.q33 HT_.out ?_
                  refine pu_ 11 61 Y0.q34 HT_.out ?_
                  refine tk4_ 8 58 Y0.q35 HT_.out HW_.out hHeld ?_
                  refine tk4_ 12 62 Y0.q36 HT_.out HW_.out hHeld ?_
                  refine o1_ 13 63 Y0.q37 HT_.out (fun K hK=>?_)
                  refine goesD_ Tryz.func72 (by kernel_rfl) rfl #[.agg #[.int .i64 ((rd_T78 y279 x13_3).f0),.int .i64 ((rd_T78 y279 x13_3).f1)],.agg #[.int .i64 ((rd_T78 y279 a1).f0),.int .i64 ((rd_T78 y279 a1).f1)]] (by rfl) rfl rfl (by rfl) (z32_) ?_
                  with_reducible refine (Y14.calls k3 ((rd_T78 y279 x13_3).f0) ((rd_T78 y279 x13_3).f1) ((rd_T78 y279 a1).f0) ((rd_T78 y279 a1).f1) t285 _ A33.out).mono ?_
                  rintro e w35 ⟨rfl,hb⟩
                  have HS0_:=(hb.cell (World.block_lt_of_cell? _ _ (hHeld.1))).trans (hHeld.1)
                  have HS1_:=(hb.cell (World.block_lt_of_cell? _ _ (hHeld.2.1))).trans (hHeld.2.1)
                  have HS2_:=(hb.cell (World.block_lt_of_cell? _ _ (hHeld.2.2.1))).trans (hHeld.2.2.1)
                  have HS3_:=(hb.cell (World.block_lt_of_cell? _ _ (hHeld.2.2.2))).trans (hHeld.2.2.2)
                  refine ⟨_,rfl,?_⟩
                  have n0_:=aM (Kd.R_below (z0_ HO_0.out) hb)
                  have n1_:=aM (Kept.below (S:=(fun k_=>P0_ k_)) (z6_ HK.out) hb)
                  have n2_:=aM (below_step (z3_ HB.out) hb)
                  clear HO_0
                  clear HK
                  clear HB
                  have HO_0:=n0_
                  have HK:=n1_
                  have HB:=n2_
                  clear n0_ n1_ n2_
                  (try clear hb)
                  refine hK.out _ _ ⟨HS0_,HS1_,HS2_,HS3_⟩ (fun hHeld=>?_)
                  clear hK K
                  refine nm_ 63 ?_
                  refine pu_ 14 64 Y0.q38 HT_.out ?_
                  refine pu_ 15 65 Y0.q39 HT_.out ?_
                  refine pu_ 16 66 Y0.q40 HT_.out ?_
                  refine done_ (done_of HT_.out (by kernel_rfl)) ?_
                  try go_wp2
                  go_meet
                  case rel=>exact ⟨_,(!(decide (t285<0))),(z1_),H',⟨z21_ HK1.out HJ15.out HK3.out⟩,⟨z25_ HO_0.out⟩,⟨z6_ HK.out⟩,⟨z3_ HB.out⟩⟩
                 ·rw [if_neg c32] at H
                  exact nO H
                ·rw [if_neg c31] at H
                 exact nO H
               ·rw [if_neg c30] at H
                exact nO H
              ·rw [if_neg c29] at H
               exact nO H
             ·rw [if_neg c28] at H
              have c28b0:decide (x12_1≤x13_3)=false:=dF c28
              clear c28
              (first | rw [c28b0] | (simp only [i64_w,i32_w];rw [c28b0]) | skip)
              have H':=aM H
              clear H
              try go_wp2
              have n0_:=aM (Kd.R_drew HO_0.out)
              have n1_:=aM (Kept.drew HK.out)
              have n2_:=aM (below_drew1 HB.out)
              clear HO_0
              clear HK
              clear HB
              have HO_0:=n0_
              have HK:=n1_
              have HB:=n2_
              clear n0_ n1_ n2_
              refine start_ (n:=17) (S:=fun w'=>True) (ds:=[]) Y0.q23 (by kernel_rfl) rfl rfl trivial (fun hHeld=>?_);refine with_tabW Y0.tab5 Y0.bits5 (fun HT_ HW_=>?_)
              generalize wr.drew=w36 at HO_0 HK HB hHeld ⊢
              refine pu_ 0 50 Y0.q24 HT_.out ?_
              refine pu_ 1 51 Y0.q25 HT_.out ?_
              refine pu_ 2 52 Y0.q26 HT_.out ?_
              refine pu_ 3 53 Y0.q27 HT_.out ?_
              refine pn_ 4 54 Y0.q28 HT_.out ?_
              refine pn_ 5 55 Y0.q29 HT_.out ?_
              refine pn_ 6 56 Y0.q30 HT_.out ?_
              refine pn_ 7 57 Y0.q31 HT_.out ?_
              refine pn_ 8 58 Y0.q41 HT_.out ?_
              refine pn_ 9 59 Y0.q42 HT_.out ?_
              refine pn_ 10 60 Y0.q43 HT_.out ?_
              refine pn_ 11 61 Y0.q35 HT_.out ?_
              refine pn_ 12 62 Y0.q36 HT_.out ?_
              refine pn_ 13 63 Y0.q37 HT_.out ?_
              refine pn_ 14 64 Y0.q38 HT_.out ?_
              refine pn_ 15 65 Y0.q39 HT_.out ?_
              refine pu_ 16 66 Y0.q40 HT_.out ?_
              refine done_ (done_of HT_.out (by kernel_rfl)) ?_
              try go_wp2
              go_meet
              case rel=>exact ⟨_,(false),(z1_),H',⟨z21_ HK1.out HJ15.out HK3.out⟩,⟨z25_ HO_0.out⟩,⟨z6_ HK.out⟩,⟨z3_ HB.out⟩⟩
            case rest=>as_aux_lemma =>
             clear HC27
             try clear c1
             try clear p1
             try clear q1
             try clear hx1
             try clear c2
             try clear p2
             try clear q2
             try clear hx2
             try clear c3
             try clear c6
             try clear c6b0
             try clear p6
             try clear c7
             try clear c7b0
             try clear c8
             try clear c8b0
             try clear c9
             try clear c9b0
             try clear c10
             try clear p10
             try clear q10
             try clear hx10
             try clear hf10
             try clear c11
             try clear p11
             try clear q11
             try clear hx11
             try clear hf11
             try clear c14
             try clear c15
             try clear c17
             try clear c17b0
             try clear c18
             try clear c18b0
             try clear c19
             try clear c19b0
             try clear c20
             try clear c20b0
             try clear c21
             try clear c21b0
             try clear c26
             try clear p27
             try clear q27
             try clear hx27
             try clear c28
             try clear c28b0
             try clear p28
             try clear q28
             try clear hx28
             try clear c29
             try clear c29b0
             try clear c30
             try clear c30b0
             try clear c31
             try clear c31b0
             try clear c32
             try clear c32b0
             try clear hx10_0
             try clear hx10_1
             try clear hx11_0
             try clear hx11_1
             try clear hx276_0
             try clear hx276_1
             try clear hx277_0
             try clear hx277_1
             try clear hx280_0
             try clear hx280_1
             try clear hx281_0
             try clear hx281_1
             try clear hx283_0
             try clear hx283_1
             try clear hx284_0
             try clear hx284_1
             try clear p1
             try clear p10
             try clear p11
             try clear p2
             try clear p276
             try clear p277
             try clear p280
             try clear p281
             try clear p283
             try clear p284
             try clear p6
             try clear q1
             try clear q10
             try clear q11
             try clear q2
             try clear q276
             try clear q277
             try clear q280
             try clear q281
             try clear q283
             try clear q284
             obtain ⟨kq,x66_26,rfl,HA,HJ26,HO_0,HK,HB⟩:=hcut
             cases kq with
             | zero=>exact absurd HA.out (by simp [Y0.j3])
             | succ kj26 =>
              have H:=HA.out
              clear HA
              simp only [Y0.j3] at H
              by_cases c37:x66_26=true
              ·subst c37
               have H1:(Y0.l1 kj26 y279 a1 x12_1 (wrap64 (x13_3-1)))=some (r1,r2,r3):=by rw [if_pos rfl] at H;exact H
               clear H
               have H:=H1
               clear H1
               have H':=aM H
               clear H
               go_wp2
               go_roundg kj26
               case measure=>have:=HK1.out;have:=HJ15.out;have:=HK3.out;have:=HJ26.out;omega
               case rel=>exact ⟨(wrap64 (x13_3-1)),(z1_),H',⟨by have:=HK1.out;have:=HJ15.out;have:=HK3.out;have:=HJ26.out;omega⟩,⟨z25_ HO_0.out⟩,⟨z6_ HK.out⟩,⟨z3_ HB.out⟩⟩
              ·replace c37:=Bool.eq_false_iff.mpr c37
               subst c37
               have H1:(if x12_1>x13_3 then (if 0≤a1 then (if a1<(y279.length:Int) then (if 0≤x13_3 then (if x13_3<(y279.length:Int) then (some (x13_3,true,((y279.set (x13_3:Int).toNat (⟨(rd_T78 y279 a1).f0,(rd_T78 y279 a1).f1⟩:S78)).set (a1:Int).toNat (⟨(rd_T78 y279 x13_3).f0,(rd_T78 y279 x13_3).f1⟩:S78)))) else (none)) else (none)) else (none)) else (none)) else (if 0≤x13_3 then (if x13_3<(y279.length:Int) then (if 0≤x12_1 then (if x12_1<(y279.length:Int) then (Y0.l2 kj26 ((y279.set (x12_1:Int).toNat (⟨(rd_T78 y279 x13_3).f0,(rd_T78 y279 x13_3).f1⟩:S78)).set (x13_3:Int).toNat (⟨(rd_T78 y279 x12_1).f0,(rd_T78 y279 x12_1).f1⟩:S78)) a1 (wrap64 (x12_1+1)) (wrap64 (x13_3-1))) else (none)) else (none)) else (none)) else (none)))=some (r1,r2,r3):=by rw [if_neg (show ¬ (false=true) by decide)] at H;exact H
               clear H
               have H:=H1
               clear H1
               by_cases c38:x12_1>x13_3
               ·rw [if_pos c38] at H
                have c38b0:decide (x13_3<x12_1)=true:=dE c38
                clear c38
                by_cases c39:0≤a1
                ·rw [if_pos c39] at H
                 have c39b0:decide (0≤a1)=true:=dE c39
                 clear c39
                 by_cases c40:a1<(y279.length:Int)
                 ·rw [if_pos c40] at H
                  have c40b0:decide (a1<(y279.length:Int))=true:=dE c40
                  clear c40
                  by_cases c41:0≤x13_3
                  ·rw [if_pos c41] at H
                   have c41b0:decide (0≤x13_3)=true:=dE c41
                   clear c41
                   by_cases c42:x13_3<(y279.length:Int)
                   ·rw [if_pos c42] at H
                    have c42b0:decide (x13_3<(y279.length:Int))=true:=dE c42
                    clear c42
                    obtain ⟨y288,hy288⟩:∃ y_:List (S78),y_=(y279.set (x13_3:Int).toNat (⟨(rd_T78 y279 a1).f0,(rd_T78 y279 a1).f1⟩:S78)):=⟨_,rfl⟩
                    replace H:(some (x13_3,true,(y288.set (a1:Int).toNat (⟨(rd_T78 y279 x13_3).f0,(rd_T78 y279 x13_3).f1⟩:S78))))=some (r1,r2,r3):=by first | (rw [hy288];with_reducible exact H) | (have H2_:=(Option.bind_some _ _).symm.trans H;rw [hy288];with_reducible exact H2_) | (have H2_:=(Option.bind_some _ _).symm.trans H;with_reducible exact H2_) | with_reducible exact H | (rw [hy288];exact H) | exact H
                    have Ny288:=aM hy288
                    clear hy288
                    obtain ⟨y289,hy289⟩:∃ y_:List (S78),y_=(y288.set (a1:Int).toNat (⟨(rd_T78 y279 x13_3).f0,(rd_T78 y279 x13_3).f1⟩:S78)):=⟨_,rfl⟩
                    replace H:(some (x13_3,true,y289))=some (r1,r2,r3):=by first | (rw [hy289];with_reducible exact H) | (have H2_:=(Option.bind_some _ _).symm.trans H;rw [hy289];with_reducible exact H2_) | (have H2_:=(Option.bind_some _ _).symm.trans H;with_reducible exact H2_) | with_reducible exact H | (rw [hy289];exact H) | exact H
                    have Ny289:=aM hy289
                    clear hy289
                    simp only [Option.some.injEq,Prod.mk.injEq] at H
                    obtain ⟨rfl,rfl,rfl⟩:=H
                    try go_wp2
                    have n0_:=aM (Kd.R_drew HO_0.out)
                    have n1_:=aM (Kept.drew HK.out)
                    have n2_:=aM (below_drew1 HB.out)
                    clear HO_0
                    clear HK
                    clear HB
                    have HO_0:=n0_
                    have HK:=n1_
                    have HB:=n2_
                    clear n0_ n1_ n2_
                    have p286:0≤(a1:Int):=dT (z2_)
                    have q286:a1<(y279.length:Int):=dT (z2_)
                    obtain ⟨ad286,e286,hx286_0,hx286_1⟩:=at_T78 (Kd.R_reads' HO_0.out).2.2 a1 p286 q286
                    obtain rfl:(⟨go10,0,none⟩:Addr)=ad286:=(by injection e286)
                    (first | simp only [add_plain] at hx286_0 | simp only [add_at] at hx286_0 | simp only [Addr.add,Nat.zero_add] at hx286_0 | skip)
                    (first | simp only [add_plain] at hx286_1 | simp only [add_at] at hx286_1 | simp only [Addr.add,Nat.zero_add] at hx286_1 | skip)
                    replace p286:=eq_true p286
                    replace q286:=eq_true q286
                    have p287:0≤(x13_3:Int):=dT (z2_)
                    have q287:x13_3<(y279.length:Int):=dT (z2_)
                    obtain ⟨ad287,e287,hx287_0,hx287_1⟩:=at_T78 (Kd.R_reads' HO_0.out).2.2 x13_3 p287 q287
                    obtain rfl:(⟨go10,0,none⟩:Addr)=ad287:=(by injection e287)
                    (first | simp only [add_plain] at hx287_0 | simp only [add_at] at hx287_0 | simp only [Addr.add,Nat.zero_add] at hx287_0 | skip)
                    (first | simp only [add_plain] at hx287_1 | simp only [add_at] at hx287_1 | simp only [Addr.add,Nat.zero_add] at hx287_1 | skip)
                    replace p287:=eq_true p287
                    replace q287:=eq_true q287
                    have p43:0≤(x13_3:Int):=dT (z2_)
                    have q43:(x13_3:Int)<((y279.length:Int):Int):=dT (z2_)
                    obtain ⟨ce43,hcl43,hM43,hcc43,hfr43⟩:=Kd.R_elem HO_0.out z78 (x13_3:Int) p43 q43
                    obtain rfl:=k78_openM hM43
                    have hx43_0:World.cell? _ ⟨go10,(x13_3:Int).toNat*2,none⟩=some (.int .i64 ((rd_T78 y279 x13_3).f0)):=hcc43 0 _ rfl
                    have hx43_1:World.cell? _ ⟨go10,(x13_3:Int).toNat*2+1,none⟩=some (.int .i64 ((rd_T78 y279 x13_3).f1)):=hcc43 1 _ rfl
                    have hf43_0:World.frozen? _ ⟨go10,(x13_3:Int).toNat*2,none⟩=false:=hfr43 0
                    have hf43_1:World.frozen? _ ⟨go10,(x13_3:Int).toNat*2+1,none⟩=false:=hfr43 1
                    clear hcl43 hcc43 hfr43 hM43
                    replace p43:=eq_true p43
                    replace q43:=eq_true q43
                    obtain ⟨ce46,hcl46,hM46,hcc46,hfr46⟩:=Kd.R_elem HO_0.out z78 (x13_3:Int) (dT (z2_)) (z36_ HO_0.out)
                    obtain rfl:=k78_openM hM46
                    have HP46:=(Kd.R_seg HO_0.out (x13_3:Int) (dT (z2_)) (z36_ HO_0.out) (seg:=[.int .i64 ((rd_T78 y279 a1).f0),.int .i64 ((rd_T78 y279 a1).f1)]) (j:=0) hcl46 hcc46 (show 2≤2 from by decide) (x':=(⟨(rd_T78 y279 a1).f0,(rd_T78 y279 a1).f1⟩:S78)) (k78_mkM _ _ _ (⟨(rd_T78 y279 a1).f0,(rd_T78 y279 a1).f1⟩:S78) ) (fun _ hk=>hk)).1
                    rw [← Ny288.out] at HP46
                    have HQ46:=aM HP46
                    clear hcl46 hcc46 hfr46 hM46 HP46
                    have p44:0≤(a1:Int):=dT (z2_)
                    have q44:(a1:Int)<((y279.length:Int):Int):=dT (z2_)
                    obtain ⟨ce44,hcl44,hM44,hcc44,hfr44⟩:=Kd.R_elem HQ46.out z78 (a1:Int) p44 q44
                    obtain rfl:=k78_openM hM44
                    have hx44_0:World.cell? _ ⟨go10,(a1:Int).toNat*2,none⟩=some (.int .i64 ((rd_T78 y288 a1).f0)):=hcc44 0 _ rfl
                    have hx44_1:World.cell? _ ⟨go10,(a1:Int).toNat*2+1,none⟩=some (.int .i64 ((rd_T78 y288 a1).f1)):=hcc44 1 _ rfl
                    have hf44_0:World.frozen? _ ⟨go10,(a1:Int).toNat*2,none⟩=false:=hfr44 0
                    have hf44_1:World.frozen? _ ⟨go10,(a1:Int).toNat*2+1,none⟩=false:=hfr44 1
                    clear hcl44 hcc44 hfr44 hM44
                    replace p44:=eq_true p44
                    replace q44:=eq_true q44
                    obtain ⟨ce47,hcl47,hM47,hcc47,hfr47⟩:=Kd.R_elem HQ46.out z78 (a1:Int) (dT (z2_)) (by have h_:(a1:Int)<((y279.length:Int):Int):=dT (by first | (with_reducible assumption) | assumption);first | exact h_ | (have e_:=(Kd.R_reads' HO_0.out).1;omega) | simpa using h_)
                    obtain rfl:=k78_openM hM47
                    have HP47:=(Kd.R_seg HQ46.out (a1:Int) (dT (z2_)) (by have h_:(a1:Int)<((y279.length:Int):Int):=dT (by first | (with_reducible assumption) | assumption);first | exact h_ | (have e_:=(Kd.R_reads' HO_0.out).1;omega) | simpa using h_) (seg:=[.int .i64 ((rd_T78 y279 x13_3).f0),.int .i64 ((rd_T78 y279 x13_3).f1)]) (j:=0) hcl47 hcc47 (show 2≤2 from by decide) (x':=(⟨(rd_T78 y279 x13_3).f0,(rd_T78 y279 x13_3).f1⟩:S78)) (k78_mkM _ _ _ (⟨(rd_T78 y279 x13_3).f0,(rd_T78 y279 x13_3).f1⟩:S78) ) (fun _ hk=>hk)).1
                    rw [← Ny289.out] at HP47
                    have HQ47:=aM HP47
                    clear hcl47 hcc47 hfr47 hM47 HP47
                    refine start_ (n:=16) (S:=fun w'=>w'.cell? ⟨go10,(a1).toNat*2,none⟩=some (.int .i64 ((rd_T78 y279 a1).f0))∧w'.cell? ⟨go10,(a1).toNat*2+1,none⟩=some (.int .i64 ((rd_T78 y279 a1).f1))∧w'.cell? ⟨go10,(x13_3).toNat*2,none⟩=some (.int .i64 ((rd_T78 y279 x13_3).f0))∧w'.cell? ⟨go10,(x13_3).toNat*2+1,none⟩=some (.int .i64 ((rd_T78 y279 x13_3).f1))) (ds:=[13,15]) Y0.q0 (by kernel_rfl) rfl rfl ⟨hx286_0,hx286_1,hx287_0,hx287_1⟩ (fun hHeld=>?_);refine with_tabW Y0.tab8 Y0.bits8 (fun HT_ HW_=>?_)
                    generalize wc.drew=w45 at HO_0 HK HB HQ46 HQ47 hf43_0 hf43_1 hf44_0 hf44_1 hx286_0 hx286_1 hx287_0 hx287_1 hx43_0 hx43_1 hx44_0 hx44_1 hHeld ⊢
                    have hz44_0:(w45.setCell ⟨go10,(x13_3:Int).toNat*2,none⟩ (.int .i64 ((rd_T78 y279 a1).f0))).cell? ⟨go10,(a1:Int).toNat*2,none⟩=some (.int .i64 ((rd_T78 y288 a1).f0)):=by have h_:=hx44_0;exact ((show ((w45.setCell ⟨go10,(x13_3:Int).toNat*2,none⟩ (.int .i64 ((rd_T78 y279 a1).f0))).setCell ⟨go10,(x13_3:Int).toNat*2+1,none⟩ (.int .i64 ((rd_T78 y279 a1).f1))).cell? ⟨go10,(a1:Int).toNat*2,none⟩=(w45.setCell ⟨go10,(x13_3:Int).toNat*2,none⟩ (.int .i64 ((rd_T78 y279 a1).f0))).cell? ⟨go10,(a1:Int).toNat*2,none⟩ from World.cell?_setCell_other _ _ _ _ (by intro e_;injection e_ with e1_ e2_;omega)).symm.trans h_)
                    have hy44_0:w45.frozen? ⟨go10,(a1:Int).toNat*2,none⟩=false:=by have h_:=hf44_0;first | exact h_ | simpa only [World.frozen?_setCell] using h_ | simpa [World.setCells] using h_
                    have hz44_1:((w45.setCell ⟨go10,(x13_3:Int).toNat*2,none⟩ (.int .i64 ((rd_T78 y279 a1).f0))).setCell ⟨go10,(x13_3:Int).toNat*2+1,none⟩ (.int .i64 ((rd_T78 y279 a1).f1))).cell? ⟨go10,(a1:Int).toNat*2+1,none⟩=some (.int .i64 ((rd_T78 y288 a1).f1)):=by have h_:=hx44_1;exact h_
                    have hy44_1:w45.frozen? ⟨go10,(a1:Int).toNat*2+1,none⟩=false:=by have h_:=hf44_1;first | exact h_ | simpa only [World.frozen?_setCell] using h_ | simpa [World.setCells] using h_
                    refine pu_ 0 72 Y0.q1 HT_.out ?_
                    refine pu_ 1 73 Y0.q2 HT_.out ?_
                    refine pu_ 2 74 Y0.q3 HT_.out ?_
                    refine pu_ 3 75 Y0.q4 HT_.out ?_
                    refine pu_ 4 76 Y0.q5 HT_.out ?_
                    refine pu_ 5 77 Y0.q6 HT_.out ?_
                    refine pu_ 6 78 Y0.q7 HT_.out ?_
                    refine pu_ 8 80 Y0.q8 HT_.out ?_
                    refine pu_ 9 81 Y0.q9 HT_.out ?_
                    refine pu_ 10 82 Y0.q10 HT_.out ?_
                    refine tk4_ 7 79 Y0.q11 HT_.out HW_.out hHeld ?_
                    refine tk4_ 11 83 Y0.q12 HT_.out HW_.out hHeld ?_
                    refine pu_ 12 84 Y0.q13 HT_.out ?_
                    refine last_ (i:=13) (N:=none) Y0.q14 rfl rfl (one_of HT_.out (by kernel_rfl)) (by decide) (fun K hK=>?_)
                    refine skip_ (w1:=?_) (by rfl) rfl ?_ ?_
                    rotate_left
                    ·go_simp
                     rfl
                    refine hK.out _ _ ?_
                    clear hK K
                    refine pu_ 14 85 Y0.q15 HT_.out ?_
                    refine last_ (i:=15) (N:=none) Y0.q16 rfl rfl (one_of HT_.out (by kernel_rfl)) (by decide) (fun K hK=>?_)
                    refine skip_ (w1:=?_) (by rfl) rfl ?_ ?_
                    rotate_left
                    ·go_simp
                     rfl
                    refine hK.out _ _ ?_
                    clear hK K
                    refine done_ (done_of HT_.out (by kernel_rfl)) ?_
                    try go_wp2
                    go_ret2
                    exact ⟨z10_,(by first | exact (by (with_reducible repeat (first | apply Kd.R_alloc | apply Kd.R_drewN | apply Kd.R_drew));exact HQ47.out) | (simp only [hl0_1];exact (by (with_reducible repeat (first | apply Kd.R_alloc | apply Kd.R_drewN | apply Kd.R_drew));exact HQ47.out))),z31_ HB.out GB10.out,z30_ HK.out HMgo10.out⟩
                   ·rw [if_neg c42] at H
                    exact nO H
                  ·rw [if_neg c41] at H
                   exact nO H
                 ·rw [if_neg c40] at H
                  exact nO H
                ·rw [if_neg c39] at H
                 exact nO H
               ·rw [if_neg c38] at H
                have c38b0:decide (x13_3<x12_1)=false:=dF c38
                clear c38
                by_cases c48:0≤x13_3
                ·rw [if_pos c48] at H
                 have c48b0:decide (0≤x13_3)=true:=dE c48
                 clear c48
                 by_cases c49:x13_3<(y279.length:Int)
                 ·rw [if_pos c49] at H
                  have c49b0:decide (x13_3<(y279.length:Int))=true:=dE c49
                  clear c49
                  by_cases c50:0≤x12_1
                  ·rw [if_pos c50] at H
                   have c50b0:decide (0≤x12_1)=true:=dE c50
                   clear c50
                   by_cases c51:x12_1<(y279.length:Int)
                   ·rw [if_pos c51] at H
                    have c51b0:decide (x12_1<(y279.length:Int))=true:=dE c51
                    clear c51
                    obtain ⟨y292,hy292⟩:∃ y_:List (S78),y_=(y279.set (x12_1:Int).toNat (⟨(rd_T78 y279 x13_3).f0,(rd_T78 y279 x13_3).f1⟩:S78)):=⟨_,rfl⟩
                    replace H:(Y0.l2 kj26 (y292.set (x13_3:Int).toNat (⟨(rd_T78 y279 x12_1).f0,(rd_T78 y279 x12_1).f1⟩:S78)) a1 (wrap64 (x12_1+1)) (wrap64 (x13_3-1)))=some (r1,r2,r3):=by first | (rw [hy292];with_reducible exact H) | (have H2_:=(Option.bind_some _ _).symm.trans H;rw [hy292];with_reducible exact H2_) | (have H2_:=(Option.bind_some _ _).symm.trans H;with_reducible exact H2_) | with_reducible exact H | (rw [hy292];exact H) | exact H
                    have Ny292:=aM hy292
                    clear hy292
                    obtain ⟨y293,hy293⟩:∃ y_:List (S78),y_=(y292.set (x13_3:Int).toNat (⟨(rd_T78 y279 x12_1).f0,(rd_T78 y279 x12_1).f1⟩:S78)):=⟨_,rfl⟩
                    replace H:(Y0.l2 kj26 y293 a1 (wrap64 (x12_1+1)) (wrap64 (x13_3-1)))=some (r1,r2,r3):=by first | (rw [hy293];with_reducible exact H) | (have H2_:=(Option.bind_some _ _).symm.trans H;rw [hy293];with_reducible exact H2_) | (have H2_:=(Option.bind_some _ _).symm.trans H;with_reducible exact H2_) | with_reducible exact H | (rw [hy293];exact H) | exact H
                    have Ny293:=aM hy293
                    clear hy293
                    have H':=aM H
                    clear H
                    try go_wp2
                    have n0_:=aM (Kd.R_drew HO_0.out)
                    have n1_:=aM (Kept.drew HK.out)
                    have n2_:=aM (below_drew1 HB.out)
                    clear HO_0
                    clear HK
                    clear HB
                    have HO_0:=n0_
                    have HK:=n1_
                    have HB:=n2_
                    clear n0_ n1_ n2_
                    have p290:0≤(x13_3:Int):=dT (z2_)
                    have q290:x13_3<(y279.length:Int):=dT (z2_)
                    obtain ⟨ad290,e290,hx290_0,hx290_1⟩:=at_T78 (Kd.R_reads' HO_0.out).2.2 x13_3 p290 q290
                    obtain rfl:(⟨go10,0,none⟩:Addr)=ad290:=(by injection e290)
                    (first | simp only [add_plain] at hx290_0 | simp only [add_at] at hx290_0 | simp only [Addr.add,Nat.zero_add] at hx290_0 | skip)
                    (first | simp only [add_plain] at hx290_1 | simp only [add_at] at hx290_1 | simp only [Addr.add,Nat.zero_add] at hx290_1 | skip)
                    replace p290:=eq_true p290
                    replace q290:=eq_true q290
                    have p291:0≤(x12_1:Int):=dT (z2_)
                    have q291:x12_1<(y279.length:Int):=dT (z2_)
                    obtain ⟨ad291,e291,hx291_0,hx291_1⟩:=at_T78 (Kd.R_reads' HO_0.out).2.2 x12_1 p291 q291
                    obtain rfl:(⟨go10,0,none⟩:Addr)=ad291:=(by injection e291)
                    (first | simp only [add_plain] at hx291_0 | simp only [add_at] at hx291_0 | simp only [Addr.add,Nat.zero_add] at hx291_0 | skip)
                    (first | simp only [add_plain] at hx291_1 | simp only [add_at] at hx291_1 | simp only [Addr.add,Nat.zero_add] at hx291_1 | skip)
                    replace p291:=eq_true p291
                    replace q291:=eq_true q291
                    have p52:0≤(x12_1:Int):=dT (z2_)
                    have q52:(x12_1:Int)<((y279.length:Int):Int):=dT (z2_)
                    obtain ⟨ce52,hcl52,hM52,hcc52,hfr52⟩:=Kd.R_elem HO_0.out z78 (x12_1:Int) p52 q52
                    obtain rfl:=k78_openM hM52
                    have hx52_0:World.cell? _ ⟨go10,(x12_1:Int).toNat*2,none⟩=some (.int .i64 ((rd_T78 y279 x12_1).f0)):=hcc52 0 _ rfl
                    have hx52_1:World.cell? _ ⟨go10,(x12_1:Int).toNat*2+1,none⟩=some (.int .i64 ((rd_T78 y279 x12_1).f1)):=hcc52 1 _ rfl
                    have hf52_0:World.frozen? _ ⟨go10,(x12_1:Int).toNat*2,none⟩=false:=hfr52 0
                    have hf52_1:World.frozen? _ ⟨go10,(x12_1:Int).toNat*2+1,none⟩=false:=hfr52 1
                    clear hcl52 hcc52 hfr52 hM52
                    replace p52:=eq_true p52
                    replace q52:=eq_true q52
                    obtain ⟨ce55,hcl55,hM55,hcc55,hfr55⟩:=Kd.R_elem HO_0.out z78 (x12_1:Int) (dT (z2_)) (by have h_:(x12_1:Int)<((y279.length:Int):Int):=dT (by first | (with_reducible assumption) | assumption);first | exact h_ | (have e_:=(Kd.R_reads' HO_0.out).1;omega) | simpa using h_)
                    obtain rfl:=k78_openM hM55
                    have HP55:=(Kd.R_seg HO_0.out (x12_1:Int) (dT (z2_)) (by have h_:(x12_1:Int)<((y279.length:Int):Int):=dT (by first | (with_reducible assumption) | assumption);first | exact h_ | (have e_:=(Kd.R_reads' HO_0.out).1;omega) | simpa using h_) (seg:=[.int .i64 ((rd_T78 y279 x13_3).f0),.int .i64 ((rd_T78 y279 x13_3).f1)]) (j:=0) hcl55 hcc55 (show 2≤2 from by decide) (x':=(⟨(rd_T78 y279 x13_3).f0,(rd_T78 y279 x13_3).f1⟩:S78)) (k78_mkM _ _ _ (⟨(rd_T78 y279 x13_3).f0,(rd_T78 y279 x13_3).f1⟩:S78) ) (fun _ hk=>hk)).1
                    rw [← Ny292.out] at HP55
                    have HQ55:=aM HP55
                    clear hcl55 hcc55 hfr55 hM55 HP55
                    have p53:0≤(x13_3:Int):=dT (z2_)
                    have q53:(x13_3:Int)<((y279.length:Int):Int):=dT (z2_)
                    obtain ⟨ce53,hcl53,hM53,hcc53,hfr53⟩:=Kd.R_elem HQ55.out z78 (x13_3:Int) p53 q53
                    obtain rfl:=k78_openM hM53
                    have hx53_0:World.cell? _ ⟨go10,(x13_3:Int).toNat*2,none⟩=some (.int .i64 ((rd_T78 y292 x13_3).f0)):=hcc53 0 _ rfl
                    have hx53_1:World.cell? _ ⟨go10,(x13_3:Int).toNat*2+1,none⟩=some (.int .i64 ((rd_T78 y292 x13_3).f1)):=hcc53 1 _ rfl
                    have hf53_0:World.frozen? _ ⟨go10,(x13_3:Int).toNat*2,none⟩=false:=hfr53 0
                    have hf53_1:World.frozen? _ ⟨go10,(x13_3:Int).toNat*2+1,none⟩=false:=hfr53 1
                    clear hcl53 hcc53 hfr53 hM53
                    replace p53:=eq_true p53
                    replace q53:=eq_true q53
                    obtain ⟨ce56,hcl56,hM56,hcc56,hfr56⟩:=Kd.R_elem HQ55.out z78 (x13_3:Int) (dT (z2_)) (z36_ HO_0.out)
                    obtain rfl:=k78_openM hM56
                    have HP56:=(Kd.R_seg HQ55.out (x13_3:Int) (dT (z2_)) (z36_ HO_0.out) (seg:=[.int .i64 ((rd_T78 y279 x12_1).f0),.int .i64 ((rd_T78 y279 x12_1).f1)]) (j:=0) hcl56 hcc56 (show 2≤2 from by decide) (x':=(⟨(rd_T78 y279 x12_1).f0,(rd_T78 y279 x12_1).f1⟩:S78)) (k78_mkM _ _ _ (⟨(rd_T78 y279 x12_1).f0,(rd_T78 y279 x12_1).f1⟩:S78) ) (fun _ hk=>hk)).1
                    rw [← Ny293.out] at HP56
                    have HQ56:=aM HP56
                    clear hcl56 hcc56 hfr56 hM56 HP56
                    refine start_ (n:=16) (S:=fun w'=>w'.cell? ⟨go10,(x13_3).toNat*2,none⟩=some (.int .i64 ((rd_T78 y279 x13_3).f0))∧w'.cell? ⟨go10,(x13_3).toNat*2+1,none⟩=some (.int .i64 ((rd_T78 y279 x13_3).f1))∧w'.cell? ⟨go10,(x12_1).toNat*2,none⟩=some (.int .i64 ((rd_T78 y279 x12_1).f0))∧w'.cell? ⟨go10,(x12_1).toNat*2+1,none⟩=some (.int .i64 ((rd_T78 y279 x12_1).f1))) (ds:=[13,15]) Y0.q0 (by kernel_rfl) rfl rfl ⟨hx290_0,hx290_1,hx291_0,hx291_1⟩ (fun hHeld=>?_);refine with_tabW Y0.tab10 Y0.bits10 (fun HT_ HW_=>?_)
                    generalize wc.drew=w54 at HO_0 HK HB HQ55 HQ56 hf52_0 hf52_1 hf53_0 hf53_1 hx290_0 hx290_1 hx291_0 hx291_1 hx52_0 hx52_1 hx53_0 hx53_1 hHeld ⊢
                    have hz53_0:(w54.setCell ⟨go10,(x12_1:Int).toNat*2,none⟩ (.int .i64 ((rd_T78 y279 x13_3).f0))).cell? ⟨go10,(x13_3:Int).toNat*2,none⟩=some (.int .i64 ((rd_T78 y292 x13_3).f0)):=by have h_:=hx53_0;exact ((show ((w54.setCell ⟨go10,(x12_1:Int).toNat*2,none⟩ (.int .i64 ((rd_T78 y279 x13_3).f0))).setCell ⟨go10,(x12_1:Int).toNat*2+1,none⟩ (.int .i64 ((rd_T78 y279 x13_3).f1))).cell? ⟨go10,(x13_3:Int).toNat*2,none⟩=(w54.setCell ⟨go10,(x12_1:Int).toNat*2,none⟩ (.int .i64 ((rd_T78 y279 x13_3).f0))).cell? ⟨go10,(x13_3:Int).toNat*2,none⟩ from World.cell?_setCell_other _ _ _ _ (by intro e_;injection e_ with e1_ e2_;omega)).symm.trans h_)
                    have hy53_0:w54.frozen? ⟨go10,(x13_3:Int).toNat*2,none⟩=false:=by have h_:=hf53_0;first | exact h_ | simpa only [World.frozen?_setCell] using h_ | simpa [World.setCells] using h_
                    have hz53_1:((w54.setCell ⟨go10,(x12_1:Int).toNat*2,none⟩ (.int .i64 ((rd_T78 y279 x13_3).f0))).setCell ⟨go10,(x12_1:Int).toNat*2+1,none⟩ (.int .i64 ((rd_T78 y279 x13_3).f1))).cell? ⟨go10,(x13_3:Int).toNat*2+1,none⟩=some (.int .i64 ((rd_T78 y292 x13_3).f1)):=by have h_:=hx53_1;exact h_
                    have hy53_1:w54.frozen? ⟨go10,(x13_3:Int).toNat*2+1,none⟩=false:=by have h_:=hf53_1;first | exact h_ | simpa only [World.frozen?_setCell] using h_ | simpa [World.setCells] using h_
                    refine pu_ 0 87 Y0.q1 HT_.out ?_
                    refine pu_ 1 88 Y0.q2 HT_.out ?_
                    refine pu_ 2 89 Y0.q3 HT_.out ?_
                    refine pu_ 3 90 Y0.q4 HT_.out ?_
                    refine pu_ 4 91 Y0.q5 HT_.out ?_
                    refine pu_ 5 92 Y0.q6 HT_.out ?_
                    refine pu_ 6 93 Y0.q7 HT_.out ?_
                    refine pu_ 8 95 Y0.q8 HT_.out ?_
                    refine pu_ 9 96 Y0.q9 HT_.out ?_
                    refine pu_ 10 97 Y0.q10 HT_.out ?_
                    refine tk4_ 7 94 Y0.q11 HT_.out HW_.out hHeld ?_
                    refine tk4_ 11 98 Y0.q12 HT_.out HW_.out hHeld ?_
                    refine pu_ 12 99 Y0.q13 HT_.out ?_
                    refine last_ (i:=13) (N:=none) Y0.q14 rfl rfl (one_of HT_.out (by kernel_rfl)) (by decide) (fun K hK=>?_)
                    refine skip_ (w1:=?_) (by rfl) rfl ?_ ?_
                    rotate_left
                    ·go_simp
                     rfl
                    refine hK.out _ _ ?_
                    clear hK K
                    refine pu_ 14 100 Y0.q15 HT_.out ?_
                    refine last_ (i:=15) (N:=none) Y0.q16 rfl rfl (one_of HT_.out (by kernel_rfl)) (by decide) (fun K hK=>?_)
                    refine skip_ (w1:=?_) (by rfl) rfl ?_ ?_
                    rotate_left
                    ·go_simp
                     rfl
                    refine hK.out _ _ ?_
                    clear hK K
                    refine done_ (done_of HT_.out (by kernel_rfl)) ?_
                    try go_wp2
                    go_loopg [12,13] kj26 (fun kq v12 v13 w'=>∃ (x0_5:List (S78)) (x12_5:Int) (x13_5:Int),v12 = .int .i64 x12_5∧v13 = .int .i64 x13_5∧Aside0 (Y0.l2 kq x0_5 a1 x12_5 x13_5=some (r1,r2,r3))∧Aside0 (kq≤kj26)∧Aside0 (Kd.R k78 78 w' w0.heap.size (fun k_=>(P0_ k_∨w.heap.size≤k_)) (.slice (some ⟨go10,0,none⟩) y279.length co13) x0_5)∧Aside0 (Kept w w' (fun k_=>P0_ k_))∧Aside0 (Below w0.heap.size w0 w'))
                    case atStart=>exact ⟨(y293),(wrap64 (x12_1+1)),(wrap64 (x13_3-1)),(z1_),(z1_),H',⟨Nat.le_refl _⟩,⟨z25_ HQ56.out⟩,⟨z30_ HK.out HMgo10.out⟩,⟨z31_ HB.out GB10.out⟩⟩
                    case round=>as_aux_lemma =>
                     clear H'
                     try clear c1
                     try clear p1
                     try clear q1
                     try clear hx1
                     try clear c2
                     try clear p2
                     try clear q2
                     try clear hx2
                     try clear c3
                     try clear c4
                     try clear p4
                     try clear q4
                     try clear hx4
                     try clear c5
                     try clear p5
                     try clear q5
                     try clear hx5
                     try clear hf5
                     try clear c6
                     try clear c6b0
                     try clear p6
                     try clear c7
                     try clear c7b0
                     try clear c8
                     try clear c8b0
                     try clear c9
                     try clear c9b0
                     try clear c10
                     try clear p10
                     try clear q10
                     try clear hx10
                     try clear hf10
                     try clear c11
                     try clear p11
                     try clear q11
                     try clear hx11
                     try clear hf11
                     try clear c14
                     try clear c15
                     try clear c17
                     try clear c17b0
                     try clear c18
                     try clear c18b0
                     try clear c19
                     try clear c19b0
                     try clear c20
                     try clear c20b0
                     try clear c21
                     try clear c21b0
                     try clear c26
                     try clear p27
                     try clear q27
                     try clear hx27
                     try clear c28
                     try clear c28b0
                     try clear p28
                     try clear q28
                     try clear hx28
                     try clear c29
                     try clear c29b0
                     try clear p29
                     try clear q29
                     try clear hx29
                     try clear c30
                     try clear c30b0
                     try clear c31
                     try clear c31b0
                     try clear c32
                     try clear c32b0
                     try clear c37
                     try clear c38
                     try clear c38b0
                     try clear c39
                     try clear c39b0
                     try clear c40
                     try clear c40b0
                     try clear c41
                     try clear c41b0
                     try clear c42
                     try clear c42b0
                     try clear c43
                     try clear p43
                     try clear q43
                     try clear hx43
                     try clear hf43
                     try clear c44
                     try clear p44
                     try clear q44
                     try clear hx44
                     try clear hf44
                     try clear c46
                     try clear c47
                     try clear c48
                     try clear c48b0
                     try clear c49
                     try clear c49b0
                     try clear c50
                     try clear c50b0
                     try clear c51
                     try clear c51b0
                     try clear c52
                     try clear p52
                     try clear q52
                     try clear hx52
                     try clear hf52
                     try clear c53
                     try clear p53
                     try clear q53
                     try clear hx53
                     try clear hf53
                     try clear c55
                     try clear c56
                     try clear hx10_0
                     try clear hx10_1
                     try clear hx11_0
                     try clear hx11_1
                     try clear hx276_0
                     try clear hx276_1
                     try clear hx277_0
                     try clear hx277_1
                     try clear hx280_0
                     try clear hx280_1
                     try clear hx281_0
                     try clear hx281_1
                     try clear hx283_0
                     try clear hx283_1
                     try clear hx284_0
                     try clear hx284_1
                     try clear hx286_0
                     try clear hx286_1
                     try clear hx287_0
                     try clear hx287_1
                     try clear hx290_0
                     try clear hx290_1
                     try clear hx291_0
                     try clear hx291_1
                     try clear hx43_0
                     try clear hx43_1
                     try clear hx44_0
                     try clear hx44_1
                     try clear hx52_0
                     try clear hx52_1
                     try clear hx53_0
                     try clear hx53_1
                     try clear p1
                     try clear p10
                     try clear p11
                     try clear p2
                     try clear p27
                     try clear p276
                     try clear p277
                     try clear p28
                     try clear p280
                     try clear p281
                     try clear p283
                     try clear p284
                     try clear p286
                     try clear p287
                     try clear p290
                     try clear p291
                     try clear p43
                     try clear p44
                     try clear p52
                     try clear p53
                     try clear p6
                     try clear q1
                     try clear q10
                     try clear q11
                     try clear q2
                     try clear q27
                     try clear q276
                     try clear q277
                     try clear q28
                     try clear q280
                     try clear q281
                     try clear q283
                     try clear q284
                     try clear q286
                     try clear q287
                     try clear q290
                     try clear q291
                     try clear q43
                     try clear q44
                     try clear q52
                     try clear q53
                     obtain ⟨x0_5,x12_5,x13_5,rfl,rfl,HA,HK5,HO_0,HK,HB⟩:=hrel
                     have hl0_5:=(Kd.R_reads' HO_0.out).1
                     rw [hl0_5] at HO_0
                     (try simp only [hl0_5])
                     cases gk with
                     | zero=>exact absurd HA.out (by simp [Y0.l2])
                     | succ k5 =>
                      have H:=HA.out
                      clear HA
                      simp only [Y0.l2] at H
                      have H':=aM H
                      clear H
                      go_wp2
                      go_loopg [12] k5 (fun kq v12 w'=>∃ (x12_6:Int),v12 = .int .i64 x12_6∧Aside0 (Y0.l3 kq x0_5 a1 x12_6 x13_5=some (r1,r2,r3))∧Aside0 (kq≤k5)∧Aside0 (Kd.R k78 78 w' w0.heap.size (fun k_=>(P0_ k_∨w.heap.size≤k_)) (.slice (some ⟨go10,0,none⟩) x0_5.length co13) x0_5)∧Aside0 (Kept w w' (fun k_=>P0_ k_))∧Aside0 (Below w0.heap.size w0 w'))
                      case atStart=>exact ⟨(x12_5),(z1_),H',⟨Nat.le_refl _⟩,⟨z23_ HO_0.out⟩,⟨z6_ HK.out⟩,⟨z3_ HB.out⟩⟩
                      case round=>as_aux_lemma =>
                       clear H'
                       try clear c1
                       try clear p1
                       try clear q1
                       try clear hx1
                       try clear c2
                       try clear p2
                       try clear q2
                       try clear hx2
                       try clear c3
                       try clear c4
                       try clear p4
                       try clear q4
                       try clear hx4
                       try clear c5
                       try clear p5
                       try clear q5
                       try clear hx5
                       try clear hf5
                       try clear c6
                       try clear c6b0
                       try clear p6
                       try clear c7
                       try clear c7b0
                       try clear c8
                       try clear c8b0
                       try clear c9
                       try clear c9b0
                       try clear c10
                       try clear p10
                       try clear q10
                       try clear hx10
                       try clear hf10
                       try clear c11
                       try clear p11
                       try clear q11
                       try clear hx11
                       try clear hf11
                       try clear c14
                       try clear c15
                       try clear c17
                       try clear c17b0
                       try clear c18
                       try clear c18b0
                       try clear c19
                       try clear c19b0
                       try clear c20
                       try clear c20b0
                       try clear c21
                       try clear c21b0
                       try clear c26
                       try clear p27
                       try clear q27
                       try clear hx27
                       try clear c28
                       try clear c28b0
                       try clear p28
                       try clear q28
                       try clear hx28
                       try clear c29
                       try clear c29b0
                       try clear p29
                       try clear q29
                       try clear hx29
                       try clear c30
                       try clear c30b0
                       try clear c31
                       try clear c31b0
                       try clear c32
                       try clear c32b0
                       try clear c37
                       try clear c38
                       try clear c38b0
                       try clear c39
                       try clear c39b0
                       try clear c40
                       try clear c40b0
                       try clear c41
                       try clear c41b0
                       try clear c42
                       try clear c42b0
                       try clear c43
                       try clear p43
                       try clear q43
                       try clear hx43
                       try clear hf43
                       try clear c44
                       try clear p44
                       try clear q44
                       try clear hx44
                       try clear hf44
                       try clear c46
                       try clear c47
                       try clear c48
                       try clear c48b0
                       try clear c49
                       try clear c49b0
                       try clear c50
                       try clear c50b0
                       try clear c51
                       try clear c51b0
                       try clear c52
                       try clear p52
                       try clear q52
                       try clear hx52
                       try clear hf52
                       try clear c53
                       try clear p53
                       try clear q53
                       try clear hx53
                       try clear hf53
                       try clear c55
                       try clear c56
                       try clear hx10_0
                       try clear hx10_1
                       try clear hx11_0
                       try clear hx11_1
                       try clear hx276_0
                       try clear hx276_1
                       try clear hx277_0
                       try clear hx277_1
                       try clear hx280_0
                       try clear hx280_1
                       try clear hx281_0
                       try clear hx281_1
                       try clear hx283_0
                       try clear hx283_1
                       try clear hx284_0
                       try clear hx284_1
                       try clear hx286_0
                       try clear hx286_1
                       try clear hx287_0
                       try clear hx287_1
                       try clear hx290_0
                       try clear hx290_1
                       try clear hx291_0
                       try clear hx291_1
                       try clear hx43_0
                       try clear hx43_1
                       try clear hx44_0
                       try clear hx44_1
                       try clear hx52_0
                       try clear hx52_1
                       try clear hx53_0
                       try clear hx53_1
                       try clear p1
                       try clear p10
                       try clear p11
                       try clear p2
                       try clear p27
                       try clear p276
                       try clear p277
                       try clear p28
                       try clear p280
                       try clear p281
                       try clear p283
                       try clear p284
                       try clear p286
                       try clear p287
                       try clear p29
                       try clear p290
                       try clear p291
                       try clear p4
                       try clear p43
                       try clear p44
                       try clear p5
                       try clear p52
                       try clear p53
                       try clear p6
                       try clear q1
                       try clear q10
                       try clear q11
                       try clear q2
                       try clear q27
                       try clear q276
                       try clear q277
                       try clear q28
                       try clear q280
                       try clear q281
                       try clear q283
                       try clear q284
                       try clear q286
                       try clear q287
                       try clear q29
                       try clear q290
                       try clear q291
                       try clear q4
                       try clear q43
                       try clear q44
                       try clear q5
                       try clear q52
                       try clear q53
                       obtain ⟨x12_6,rfl,HA,HK6,HO_0,HK,HB⟩:=hrel
                       cases gk with
                       | zero=>exact absurd HA.out (by simp [Y0.l3])
                       | succ k6 =>
                        have H:=HA.out
                        clear HA
                        simp only [Y0.l3] at H
                        have HC57:=aM H
                        clear H
                        go_upto_region 13 with (fail)
                        go_cut [120] (fun v120 wc=>∃ (kq:Nat) (x120_56:Bool),v120 = .bool x120_56∧Aside0 (Y0.j6 kq x0_5 a1 x12_6 x13_5 x120_56=some (r1,r2,r3))∧Aside0 (kq≤k6)∧Aside0 (Kd.R k78 78 wc w0.heap.size (fun k_=>(P0_ k_∨w.heap.size≤k_)) (.slice (some ⟨go10,0,none⟩) x0_5.length co13) x0_5)∧Aside0 (Kept w wc (fun k_=>P0_ k_))∧Aside0 (Below w0.heap.size w0 wc))
                        case first=>as_aux_lemma =>
                         have H:=HC57.out
                         clear HC57
                         by_cases c58:x12_6≤x13_5
                         ·rw [if_pos c58] at H
                          have c58b0:decide (x12_6≤x13_5)=true:=dE c58
                          clear c58
                          (first | rw [c58b0] | (simp only [i64_w,i32_w];rw [c58b0]) | skip)
                          by_cases c59:0≤x12_6
                          ·rw [if_pos c59] at H
                           have c59b0:decide (0≤x12_6)=true:=dE c59
                           clear c59
                           by_cases c60:x12_6<(x0_5.length:Int)
                           ·rw [if_pos c60] at H
                            have c60b0:decide (x12_6<(x0_5.length:Int))=true:=dE c60
                            clear c60
                            by_cases c61:0≤a1
                            ·rw [if_pos c61] at H
                             have c61b0:decide (0≤a1)=true:=dE c61
                             clear c61
                             by_cases c62:a1<(x0_5.length:Int)
                             ·rw [if_pos c62] at H
                              have c62b0:decide (a1<(x0_5.length:Int))=true:=dE c62
                              clear c62
                              replace H:=bS H
                              obtain ⟨t296,A630,H⟩:=H
                              replace H:(Y0.j6 k6 x0_5 a1 x12_6 x13_5 (decide (t296<0)))=some (r1,r2,r3):=H
                              have A63:=aM A630
                              clear A630
                              have H':=aM H
                              clear H
                              try go_wp2
                              have n0_:=aM (Kd.R_drew HO_0.out)
                              have n1_:=aM (Kept.drew HK.out)
                              have n2_:=aM (below_drew1 HB.out)
                              clear HO_0
                              clear HK
                              clear HB
                              have HO_0:=n0_
                              have HK:=n1_
                              have HB:=n2_
                              clear n0_ n1_ n2_
                              have p294:0≤(x12_6:Int):=dT (z2_)
                              have q294:x12_6<(x0_5.length:Int):=dT (z2_)
                              obtain ⟨ad294,e294,hx294_0,hx294_1⟩:=at_T78 (Kd.R_reads' HO_0.out).2.2 x12_6 p294 q294
                              obtain rfl:(⟨go10,0,none⟩:Addr)=ad294:=(by injection e294)
                              (first | simp only [add_plain] at hx294_0 | simp only [add_at] at hx294_0 | simp only [Addr.add,Nat.zero_add] at hx294_0 | skip)
                              (first | simp only [add_plain] at hx294_1 | simp only [add_at] at hx294_1 | simp only [Addr.add,Nat.zero_add] at hx294_1 | skip)
                              replace p294:=eq_true p294
                              replace q294:=eq_true q294
                              have p295:0≤(a1:Int):=dT (z2_)
                              have q295:a1<(x0_5.length:Int):=dT (z2_)
                              obtain ⟨ad295,e295,hx295_0,hx295_1⟩:=at_T78 (Kd.R_reads' HO_0.out).2.2 a1 p295 q295
                              obtain rfl:(⟨go10,0,none⟩:Addr)=ad295:=(by injection e295)
                              (first | simp only [add_plain] at hx295_0 | simp only [add_at] at hx295_0 | simp only [Addr.add,Nat.zero_add] at hx295_0 | skip)
                              (first | simp only [add_plain] at hx295_1 | simp only [add_at] at hx295_1 | simp only [Addr.add,Nat.zero_add] at hx295_1 | skip)
                              replace p295:=eq_true p295
                              replace q295:=eq_true q295
                              refine start_ (n:=16) (S:=fun w'=>w'.cell? ⟨go10,(x12_6).toNat*2,none⟩=some (.int .i64 ((rd_T78 x0_5 x12_6).f0))∧w'.cell? ⟨go10,(x12_6).toNat*2+1,none⟩=some (.int .i64 ((rd_T78 x0_5 x12_6).f1))∧w'.cell? ⟨go10,(a1).toNat*2,none⟩=some (.int .i64 ((rd_T78 x0_5 a1).f0))∧w'.cell? ⟨go10,(a1).toNat*2+1,none⟩=some (.int .i64 ((rd_T78 x0_5 a1).f1))) (ds:=[]) Y0.q0 (by kernel_rfl) rfl rfl ⟨hx294_0,hx294_1,hx295_0,hx295_1⟩ (fun hHeld=>?_);refine with_tabW Y0.tab13 Y0.bits13 (fun HT_ HW_=>?_)
                              generalize wr.drew=w64 at HO_0 HK HB hx294_0 hx294_1 hx295_0 hx295_1 hHeld ⊢
                              refine pu_ 0 105 Y0.q1 HT_.out ?_
                              refine pu_ 1 106 Y0.q2 HT_.out ?_
                              refine pu_ 2 107 Y0.q3 HT_.out ?_
                              refine pu_ 3 108 Y0.q4 HT_.out ?_
                              refine pu_ 4 109 Y0.q5 HT_.out ?_
                              refine pu_ 5 110 Y0.q6 HT_.out ?_
                              refine pu_ 6 111 Y0.q7 HT_.out ?_
                              refine pu_ 7 112 Y0.q17 HT_.out ?_
                              refine pu_ 9 114 Y0.q18 HT_.out ?_
                              refine pu_ 10 115 Y0.q19 HT_.out ?_
                              refine pu_ 11 116 Y0.q20 HT_.out ?_
                              refine tk4_ 8 113 Y0.q12 HT_.out HW_.out hHeld ?_
                              refine tk4_ 12 117 Y0.q13 HT_.out HW_.out hHeld ?_
                              refine o1_ 13 118 Y0.q14 HT_.out (fun K hK=>?_)
                              refine goesD_ Tryz.func72 (by kernel_rfl) rfl #[.agg #[.int .i64 ((rd_T78 x0_5 x12_6).f0),.int .i64 ((rd_T78 x0_5 x12_6).f1)],.agg #[.int .i64 ((rd_T78 x0_5 a1).f0),.int .i64 ((rd_T78 x0_5 a1).f1)]] (by rfl) rfl rfl (by rfl) (z32_) ?_
                              with_reducible refine (Y14.calls k6 ((rd_T78 x0_5 x12_6).f0) ((rd_T78 x0_5 x12_6).f1) ((rd_T78 x0_5 a1).f0) ((rd_T78 x0_5 a1).f1) t296 _ A63.out).mono ?_
                              rintro e w65 ⟨rfl,hb⟩
                              have HS0_:=(hb.cell (World.block_lt_of_cell? _ _ (hHeld.1))).trans (hHeld.1)
                              have HS1_:=(hb.cell (World.block_lt_of_cell? _ _ (hHeld.2.1))).trans (hHeld.2.1)
                              have HS2_:=(hb.cell (World.block_lt_of_cell? _ _ (hHeld.2.2.1))).trans (hHeld.2.2.1)
                              have HS3_:=(hb.cell (World.block_lt_of_cell? _ _ (hHeld.2.2.2))).trans (hHeld.2.2.2)
                              refine ⟨_,rfl,?_⟩
                              have n0_:=aM (Kd.R_below (z0_ HO_0.out) hb)
                              have n1_:=aM (Kept.below (S:=(fun k_=>P0_ k_)) (z6_ HK.out) hb)
                              have n2_:=aM (below_step (z3_ HB.out) hb)
                              clear HO_0
                              clear HK
                              clear HB
                              have HO_0:=n0_
                              have HK:=n1_
                              have HB:=n2_
                              clear n0_ n1_ n2_
                              (try clear hb)
                              refine hK.out _ _ ⟨HS0_,HS1_,HS2_,HS3_⟩ (fun hHeld=>?_)
                              clear hK K
                              refine nm_ 118 ?_
                              refine pu_ 14 119 Y0.q15 HT_.out ?_
                              refine pu_ 15 120 Y0.q16 HT_.out ?_
                              refine done_ (done_of HT_.out (by kernel_rfl)) ?_
                              try go_wp2
                              go_meet
                              case rel=>exact ⟨_,(decide (t296<0)),(z1_),H',⟨by have:=HK1.out;have:=HJ15.out;have:=HK3.out;have:=HJ26.out;have:=HK5.out;have:=HK6.out;first | omega | exact Nat.le_refl _⟩,⟨z23_ HO_0.out⟩,⟨z6_ HK.out⟩,⟨z3_ HB.out⟩⟩
                             ·rw [if_neg c62] at H
                              exact nO H
                            ·rw [if_neg c61] at H
                             exact nO H
                           ·rw [if_neg c60] at H
                            exact nO H
                          ·rw [if_neg c59] at H
                           exact nO H
                         ·rw [if_neg c58] at H
                          have c58b0:decide (x12_6≤x13_5)=false:=dF c58
                          clear c58
                          (first | rw [c58b0] | (simp only [i64_w,i32_w];rw [c58b0]) | skip)
                          have H':=aM H
                          clear H
                          try go_wp2
                          have n0_:=aM (Kd.R_drew HO_0.out)
                          have n1_:=aM (Kept.drew HK.out)
                          have n2_:=aM (below_drew1 HB.out)
                          clear HO_0
                          clear HK
                          clear HB
                          have HO_0:=n0_
                          have HK:=n1_
                          have HB:=n2_
                          clear n0_ n1_ n2_
                          refine start_ (n:=16) (S:=fun w'=>True) (ds:=[]) Y0.q0 (by kernel_rfl) rfl rfl trivial (fun hHeld=>?_);refine with_tabW Y0.tab13 Y0.bits13 (fun HT_ HW_=>?_)
                          generalize wr.drew=w66 at HO_0 HK HB hHeld ⊢
                          refine pu_ 0 105 Y0.q1 HT_.out ?_
                          refine pu_ 1 106 Y0.q2 HT_.out ?_
                          refine pu_ 2 107 Y0.q3 HT_.out ?_
                          refine pu_ 3 108 Y0.q4 HT_.out ?_
                          refine pn_ 4 109 Y0.q5 HT_.out ?_
                          refine pn_ 5 110 Y0.q6 HT_.out ?_
                          refine pn_ 6 111 Y0.q7 HT_.out ?_
                          refine pn_ 7 112 Y0.q17 HT_.out ?_
                          refine pn_ 8 113 Y0.q21 HT_.out ?_
                          refine pn_ 9 114 Y0.q22 HT_.out ?_
                          refine pn_ 10 115 Y0.q11 HT_.out ?_
                          refine pn_ 11 116 Y0.q12 HT_.out ?_
                          refine pn_ 12 117 Y0.q13 HT_.out ?_
                          refine pn_ 13 118 Y0.q14 HT_.out ?_
                          refine pn_ 14 119 Y0.q15 HT_.out ?_
                          refine pu_ 15 120 Y0.q16 HT_.out ?_
                          refine done_ (done_of HT_.out (by kernel_rfl)) ?_
                          try go_wp2
                          go_meet
                          case rel=>exact ⟨_,(false),(z1_),H',⟨by have:=HK1.out;have:=HJ15.out;have:=HK3.out;have:=HJ26.out;have:=HK5.out;have:=HK6.out;first | omega | exact Nat.le_refl _⟩,⟨z23_ HO_0.out⟩,⟨z6_ HK.out⟩,⟨z3_ HB.out⟩⟩
                        case rest=>as_aux_lemma =>
                         clear HC57
                         try clear c1
                         try clear p1
                         try clear q1
                         try clear hx1
                         try clear c2
                         try clear p2
                         try clear q2
                         try clear hx2
                         try clear c3
                         try clear c4
                         try clear p4
                         try clear q4
                         try clear hx4
                         try clear c5
                         try clear p5
                         try clear q5
                         try clear hx5
                         try clear hf5
                         try clear c6
                         try clear c6b0
                         try clear p6
                         try clear c7
                         try clear c7b0
                         try clear c8
                         try clear c8b0
                         try clear c9
                         try clear c9b0
                         try clear c10
                         try clear p10
                         try clear q10
                         try clear hx10
                         try clear hf10
                         try clear c11
                         try clear p11
                         try clear q11
                         try clear hx11
                         try clear hf11
                         try clear c14
                         try clear c15
                         try clear c17
                         try clear c17b0
                         try clear c18
                         try clear c18b0
                         try clear c19
                         try clear c19b0
                         try clear c20
                         try clear c20b0
                         try clear c21
                         try clear c21b0
                         try clear c26
                         try clear p27
                         try clear q27
                         try clear hx27
                         try clear c28
                         try clear c28b0
                         try clear p28
                         try clear q28
                         try clear hx28
                         try clear c29
                         try clear c29b0
                         try clear p29
                         try clear q29
                         try clear hx29
                         try clear c30
                         try clear c30b0
                         try clear c31
                         try clear c31b0
                         try clear c32
                         try clear c32b0
                         try clear c37
                         try clear c38
                         try clear c38b0
                         try clear c39
                         try clear c39b0
                         try clear c40
                         try clear c40b0
                         try clear c41
                         try clear c41b0
                         try clear c42
                         try clear c42b0
                         try clear c43
                         try clear p43
                         try clear q43
                         try clear hx43
                         try clear hf43
                         try clear c44
                         try clear p44
                         try clear q44
                         try clear hx44
                         try clear hf44
                         try clear c46
                         try clear c47
                         try clear c48
                         try clear c48b0
                         try clear c49
                         try clear c49b0
                         try clear c50
                         try clear c50b0
                         try clear c51
                         try clear c51b0
                         try clear c52
                         try clear p52
                         try clear q52
                         try clear hx52
                         try clear hf52
                         try clear c53
                         try clear p53
                         try clear q53
                         try clear hx53
                         try clear hf53
                         try clear c55
                         try clear c56
                         try clear c58
                         try clear c58b0
                         try clear c59
                         try clear c59b0
                         try clear c60
                         try clear c60b0
                         try clear c61
                         try clear c61b0
                         try clear c62
                         try clear c62b0
                         try clear hx10_0
                         try clear hx10_1
                         try clear hx11_0
                         try clear hx11_1
                         try clear hx276_0
                         try clear hx276_1
                         try clear hx277_0
                         try clear hx277_1
                         try clear hx280_0
                         try clear hx280_1
                         try clear hx281_0
                         try clear hx281_1
                         try clear hx283_0
                         try clear hx283_1
                         try clear hx284_0
                         try clear hx284_1
                         try clear hx286_0
                         try clear hx286_1
                         try clear hx287_0
                         try clear hx287_1
                         try clear hx290_0
                         try clear hx290_1
                         try clear hx291_0
                         try clear hx291_1
                         try clear hx294_0
                         try clear hx294_1
                         try clear hx295_0
                         try clear hx295_1
                         try clear hx43_0
                         try clear hx43_1
                         try clear hx44_0
                         try clear hx44_1
                         try clear hx52_0
                         try clear hx52_1
                         try clear hx53_0
                         try clear hx53_1
                         try clear p1
                         try clear p10
                         try clear p11
                         try clear p2
                         try clear p27
                         try clear p276
                         try clear p277
                         try clear p28
                         try clear p280
                         try clear p281
                         try clear p283
                         try clear p284
                         try clear p286
                         try clear p287
                         try clear p29
                         try clear p290
                         try clear p291
                         try clear p294
                         try clear p295
                         try clear p4
                         try clear p43
                         try clear p44
                         try clear p5
                         try clear p52
                         try clear p53
                         try clear p6
                         try clear q1
                         try clear q10
                         try clear q11
                         try clear q2
                         try clear q27
                         try clear q276
                         try clear q277
                         try clear q28
                         try clear q280
                         try clear q281
                         try clear q283
                         try clear q284
                         try clear q286
                         try clear q287
                         try clear q29
                         try clear q290
                         try clear q291
                         try clear q294
                         try clear q295
                         try clear q4
                         try clear q43
                         try clear q44
                         try clear q5
                         try clear q52
                         try clear q53
                         obtain ⟨kq,x120_56,rfl,HA,HJ56,HO_0,HK,HB⟩:=hcut
                         cases kq with
                         | zero=>exact absurd HA.out (by simp [Y0.j6])
                         | succ kj56 =>
                          have H:=HA.out
                          clear HA
                          simp only [Y0.j6] at H
                          by_cases c67:x120_56=true
                          ·subst c67
                           have H1:(Y0.l3 kj56 x0_5 a1 (wrap64 (x12_6+1)) x13_5)=some (r1,r2,r3):=by rw [if_pos rfl] at H;exact H
                           clear H
                           have H:=H1
                           clear H1
                           have H':=aM H
                           clear H
                           go_wp2
                           go_roundg kj56
                           case measure=>have:=HK1.out;have:=HJ15.out;have:=HK3.out;have:=HJ26.out;have:=HK5.out;have:=HK6.out;have:=HJ56.out;omega
                           case rel=>exact ⟨(wrap64 (x12_6+1)),(z1_),H',⟨by have:=HK1.out;have:=HJ15.out;have:=HK3.out;have:=HJ26.out;have:=HK5.out;have:=HK6.out;have:=HJ56.out;omega⟩,⟨z23_ HO_0.out⟩,⟨z6_ HK.out⟩,⟨z3_ HB.out⟩⟩
                          ·replace c67:=Bool.eq_false_iff.mpr c67
                           subst c67
                           have H1:(Y0.l4 kj56 x0_5 a1 x12_6 x13_5)=some (r1,r2,r3):=by rw [if_neg (show ¬ (false=true) by decide)] at H;exact H
                           clear H
                           have H:=H1
                           clear H1
                           have H':=aM H
                           clear H
                           go_wp2
                           go_loopg [13] kj56 (fun kq v13 w'=>∃ (x13_8:Int),v13 = .int .i64 x13_8∧Aside0 (Y0.l4 kq x0_5 a1 x12_6 x13_8=some (r1,r2,r3))∧Aside0 (kq≤kj56)∧Aside0 (Kd.R k78 78 w' w0.heap.size (fun k_=>(P0_ k_∨w.heap.size≤k_)) (.slice (some ⟨go10,0,none⟩) x0_5.length co13) x0_5)∧Aside0 (Kept w w' (fun k_=>P0_ k_))∧Aside0 (Below w0.heap.size w0 w'))
                           case atStart=>exact ⟨(x13_5),(z1_),H',⟨Nat.le_refl _⟩,⟨z23_ HO_0.out⟩,⟨z6_ HK.out⟩,⟨z3_ HB.out⟩⟩
                           case round=>as_aux_lemma =>
                            clear H'
                            try clear c1
                            try clear p1
                            try clear q1
                            try clear hx1
                            try clear c2
                            try clear p2
                            try clear q2
                            try clear hx2
                            try clear c3
                            try clear c4
                            try clear p4
                            try clear q4
                            try clear hx4
                            try clear c5
                            try clear p5
                            try clear q5
                            try clear hx5
                            try clear hf5
                            try clear c6
                            try clear c6b0
                            try clear p6
                            try clear c7
                            try clear c7b0
                            try clear c8
                            try clear c8b0
                            try clear c9
                            try clear c9b0
                            try clear c10
                            try clear p10
                            try clear q10
                            try clear hx10
                            try clear hf10
                            try clear c11
                            try clear p11
                            try clear q11
                            try clear hx11
                            try clear hf11
                            try clear c14
                            try clear c15
                            try clear c17
                            try clear c17b0
                            try clear c18
                            try clear c18b0
                            try clear c19
                            try clear c19b0
                            try clear c20
                            try clear c20b0
                            try clear c21
                            try clear c21b0
                            try clear c26
                            try clear p27
                            try clear q27
                            try clear hx27
                            try clear c28
                            try clear c28b0
                            try clear p28
                            try clear q28
                            try clear hx28
                            try clear c29
                            try clear c29b0
                            try clear p29
                            try clear q29
                            try clear hx29
                            try clear c30
                            try clear c30b0
                            try clear c31
                            try clear c31b0
                            try clear c32
                            try clear c32b0
                            try clear c37
                            try clear c38
                            try clear c38b0
                            try clear c39
                            try clear c39b0
                            try clear c40
                            try clear c40b0
                            try clear c41
                            try clear c41b0
                            try clear c42
                            try clear c42b0
                            try clear c43
                            try clear p43
                            try clear q43
                            try clear hx43
                            try clear hf43
                            try clear c44
                            try clear p44
                            try clear q44
                            try clear hx44
                            try clear hf44
                            try clear c46
                            try clear c47
                            try clear c48
                            try clear c48b0
                            try clear c49
                            try clear c49b0
                            try clear c50
                            try clear c50b0
                            try clear c51
                            try clear c51b0
                            try clear c52
                            try clear p52
                            try clear q52
                            try clear hx52
                            try clear hf52
                            try clear c53
                            try clear p53
                            try clear q53
                            try clear hx53
                            try clear hf53
                            try clear c55
                            try clear c56
                            try clear c58
                            try clear c58b0
                            try clear c59
                            try clear c59b0
                            try clear c60
                            try clear c60b0
                            try clear c61
                            try clear c61b0
                            try clear c62
                            try clear c62b0
                            try clear p64
                            try clear c67
                            try clear hx10_0
                            try clear hx10_1
                            try clear hx11_0
                            try clear hx11_1
                            try clear hx276_0
                            try clear hx276_1
                            try clear hx277_0
                            try clear hx277_1
                            try clear hx280_0
                            try clear hx280_1
                            try clear hx281_0
                            try clear hx281_1
                            try clear hx283_0
                            try clear hx283_1
                            try clear hx284_0
                            try clear hx284_1
                            try clear hx286_0
                            try clear hx286_1
                            try clear hx287_0
                            try clear hx287_1
                            try clear hx290_0
                            try clear hx290_1
                            try clear hx291_0
                            try clear hx291_1
                            try clear hx294_0
                            try clear hx294_1
                            try clear hx295_0
                            try clear hx295_1
                            try clear hx43_0
                            try clear hx43_1
                            try clear hx44_0
                            try clear hx44_1
                            try clear hx52_0
                            try clear hx52_1
                            try clear hx53_0
                            try clear hx53_1
                            try clear p1
                            try clear p10
                            try clear p11
                            try clear p2
                            try clear p27
                            try clear p276
                            try clear p277
                            try clear p28
                            try clear p280
                            try clear p281
                            try clear p283
                            try clear p284
                            try clear p286
                            try clear p287
                            try clear p29
                            try clear p290
                            try clear p291
                            try clear p294
                            try clear p295
                            try clear p4
                            try clear p43
                            try clear p44
                            try clear p5
                            try clear p52
                            try clear p53
                            try clear p6
                            try clear q1
                            try clear q10
                            try clear q11
                            try clear q2
                            try clear q27
                            try clear q276
                            try clear q277
                            try clear q28
                            try clear q280
                            try clear q281
                            try clear q283
                            try clear q284
                            try clear q286
                            try clear q287
                            try clear q29
                            try clear q290
                            try clear q291
                            try clear q294
                            try clear q295
                            try clear q4
                            try clear q43
                            try clear q44
                            try clear q5
                            try clear q52
                            try clear q53
                            obtain ⟨x13_8,rfl,HA,HK8,HO_0,HK,HB⟩:=hrel
                            cases gk with
                            | zero=>exact absurd HA.out (by simp [Y0.l4])
                            | succ k8 =>
                             have H:=HA.out
                             clear HA
                             simp only [Y0.l4] at H
                             have HC68:=aM H
                             clear H
                             go_upto_region 15 with (fail)
                             go_cut [139] (fun v139 wc=>∃ (kq:Nat) (x139_67:Bool),v139 = .bool x139_67∧Aside0 (Y0.j8 kq x0_5 a1 x12_6 x13_8 x139_67=some (r1,r2,r3))∧Aside0 (kq≤k8)∧Aside0 (Kd.R k78 78 wc w0.heap.size (fun k_=>(P0_ k_∨w.heap.size≤k_)) (.slice (some ⟨go10,0,none⟩) x0_5.length co13) x0_5)∧Aside0 (Kept w wc (fun k_=>P0_ k_))∧Aside0 (Below w0.heap.size w0 wc))
                             case first=>as_aux_lemma =>
                              have H:=HC68.out
                              clear HC68
                              by_cases c69:x12_6≤x13_8
                              ·rw [if_pos c69] at H
                               have c69b0:decide (x12_6≤x13_8)=true:=dE c69
                               clear c69
                               (first | rw [c69b0] | (simp only [i64_w,i32_w];rw [c69b0]) | skip)
                               by_cases c70:0≤x13_8
                               ·rw [if_pos c70] at H
                                have c70b0:decide (0≤x13_8)=true:=dE c70
                                clear c70
                                by_cases c71:x13_8<(x0_5.length:Int)
                                ·rw [if_pos c71] at H
                                 have c71b0:decide (x13_8<(x0_5.length:Int))=true:=dE c71
                                 clear c71
                                 by_cases c72:0≤a1
                                 ·rw [if_pos c72] at H
                                  have c72b0:decide (0≤a1)=true:=dE c72
                                  clear c72
                                  by_cases c73:a1<(x0_5.length:Int)
                                  ·rw [if_pos c73] at H
                                   have c73b0:decide (a1<(x0_5.length:Int))=true:=dE c73
                                   clear c73
                                   replace H:=bS H
                                   obtain ⟨t299,A740,H⟩:=H
                                   replace H:(Y0.j8 k8 x0_5 a1 x12_6 x13_8 (!(decide (t299<0))))=some (r1,r2,r3):=H
                                   have A74:=aM A740
                                   clear A740
                                   have H':=aM H
                                   clear H
                                   try go_wp2
                                   have n0_:=aM (Kd.R_drew HO_0.out)
                                   have n1_:=aM (Kept.drew HK.out)
                                   have n2_:=aM (below_drew1 HB.out)
                                   clear HO_0
                                   clear HK
                                   clear HB
                                   have HO_0:=n0_
                                   have HK:=n1_
                                   have HB:=n2_
                                   clear n0_ n1_ n2_
                                   have p297:0≤(x13_8:Int):=dT (z2_)
                                   have q297:x13_8<(x0_5.length:Int):=dT (z2_)
                                   obtain ⟨ad297,e297,hx297_0,hx297_1⟩:=at_T78 (Kd.R_reads' HO_0.out).2.2 x13_8 p297 q297
                                   obtain rfl:(⟨go10,0,none⟩:Addr)=ad297:=(by injection e297)
                                   (first | simp only [add_plain] at hx297_0 | simp only [add_at] at hx297_0 | simp only [Addr.add,Nat.zero_add] at hx297_0 | skip)
                                   (first | simp only [add_plain] at hx297_1 | simp only [add_at] at hx297_1 | simp only [Addr.add,Nat.zero_add] at hx297_1 | skip)
                                   replace p297:=eq_true p297
                                   replace q297:=eq_true q297
                                   have p298:0≤(a1:Int):=dT (z2_)
                                   have q298:a1<(x0_5.length:Int):=dT (z2_)
                                   obtain ⟨ad298,e298,hx298_0,hx298_1⟩:=at_T78 (Kd.R_reads' HO_0.out).2.2 a1 p298 q298
                                   obtain rfl:(⟨go10,0,none⟩:Addr)=ad298:=(by injection e298)
                                   (first | simp only [add_plain] at hx298_0 | simp only [add_at] at hx298_0 | simp only [Addr.add,Nat.zero_add] at hx298_0 | skip)
                                   (first | simp only [add_plain] at hx298_1 | simp only [add_at] at hx298_1 | simp only [Addr.add,Nat.zero_add] at hx298_1 | skip)
                                   replace p298:=eq_true p298
                                   replace q298:=eq_true q298
                                   refine start_ (n:=17) (S:=fun w'=>w'.cell? ⟨go10,(x13_8).toNat*2,none⟩=some (.int .i64 ((rd_T78 x0_5 x13_8).f0))∧w'.cell? ⟨go10,(x13_8).toNat*2+1,none⟩=some (.int .i64 ((rd_T78 x0_5 x13_8).f1))∧w'.cell? ⟨go10,(a1).toNat*2,none⟩=some (.int .i64 ((rd_T78 x0_5 a1).f0))∧w'.cell? ⟨go10,(a1).toNat*2+1,none⟩=some (.int .i64 ((rd_T78 x0_5 a1).f1))) (ds:=[]) Y0.q23 (by kernel_rfl) rfl rfl ⟨hx297_0,hx297_1,hx298_0,hx298_1⟩ (fun hHeld=>?_);refine with_tabW Y0.tab15 Y0.bits15 (fun HT_ HW_=>?_)
                                   generalize wr.drew=w75 at HO_0 HK HB hx297_0 hx297_1 hx298_0 hx298_1 hHeld ⊢
                                   refine pu_ 0 123 Y0.q24 HT_.out ?_
                                   refine pu_ 1 124 Y0.q25 HT_.out ?_
                                   refine pu_ 2 125 Y0.q26 HT_.out ?_
                                   refine pu_ 3 126 Y0.q27 HT_.out ?_
                                   refine pu_ 4 127 Y0.q28 HT_.out ?_
                                   refine pu_ 5 128 Y0.q29 HT_.out ?_
                                   refine pu_ 6 129 Y0.q30 HT_.out ?_
                                   refine pu_ 7 130 Y0.q31 HT_.out ?_
                                   refine pu_ 9 132 Y0.q32 HT_.out ?_
                                   refine pu_ 10 133 Y0.q33 HT_.out ?_
                                   refine pu_ 11 134 Y0.q34 HT_.out ?_
                                   refine tk4_ 8 131 Y0.q35 HT_.out HW_.out hHeld ?_
                                   refine tk4_ 12 135 Y0.q36 HT_.out HW_.out hHeld ?_
                                   refine o1_ 13 136 Y0.q37 HT_.out (fun K hK=>?_)
                                   refine goesD_ Tryz.func72 (by kernel_rfl) rfl #[.agg #[.int .i64 ((rd_T78 x0_5 x13_8).f0),.int .i64 ((rd_T78 x0_5 x13_8).f1)],.agg #[.int .i64 ((rd_T78 x0_5 a1).f0),.int .i64 ((rd_T78 x0_5 a1).f1)]] (by rfl) rfl rfl (by rfl) (z32_) ?_
                                   with_reducible refine (Y14.calls k8 ((rd_T78 x0_5 x13_8).f0) ((rd_T78 x0_5 x13_8).f1) ((rd_T78 x0_5 a1).f0) ((rd_T78 x0_5 a1).f1) t299 _ A74.out).mono ?_
                                   rintro e w76 ⟨rfl,hb⟩
                                   have HS0_:=(hb.cell (World.block_lt_of_cell? _ _ (hHeld.1))).trans (hHeld.1)
                                   have HS1_:=(hb.cell (World.block_lt_of_cell? _ _ (hHeld.2.1))).trans (hHeld.2.1)
                                   have HS2_:=(hb.cell (World.block_lt_of_cell? _ _ (hHeld.2.2.1))).trans (hHeld.2.2.1)
                                   have HS3_:=(hb.cell (World.block_lt_of_cell? _ _ (hHeld.2.2.2))).trans (hHeld.2.2.2)
                                   refine ⟨_,rfl,?_⟩
                                   have n0_:=aM (Kd.R_below (z0_ HO_0.out) hb)
                                   have n1_:=aM (Kept.below (S:=(fun k_=>P0_ k_)) (z6_ HK.out) hb)
                                   have n2_:=aM (below_step (z3_ HB.out) hb)
                                   clear HO_0
                                   clear HK
                                   clear HB
                                   have HO_0:=n0_
                                   have HK:=n1_
                                   have HB:=n2_
                                   clear n0_ n1_ n2_
                                   (try clear hb)
                                   refine hK.out _ _ ⟨HS0_,HS1_,HS2_,HS3_⟩ (fun hHeld=>?_)
                                   clear hK K
                                   refine nm_ 136 ?_
                                   refine pu_ 14 137 Y0.q38 HT_.out ?_
                                   refine pu_ 15 138 Y0.q39 HT_.out ?_
                                   refine pu_ 16 139 Y0.q40 HT_.out ?_
                                   refine done_ (done_of HT_.out (by kernel_rfl)) ?_
                                   try go_wp2
                                   go_meet
                                   case rel=>exact ⟨_,(!(decide (t299<0))),(z1_),H',⟨by have:=HK1.out;have:=HJ15.out;have:=HK3.out;have:=HJ26.out;have:=HK5.out;have:=HK6.out;have:=HJ56.out;have:=HK8.out;first | omega | exact Nat.le_refl _⟩,⟨z23_ HO_0.out⟩,⟨z6_ HK.out⟩,⟨z3_ HB.out⟩⟩
                                  ·rw [if_neg c73] at H
                                   exact nO H
                                 ·rw [if_neg c72] at H
                                  exact nO H
                                ·rw [if_neg c71] at H
                                 exact nO H
                               ·rw [if_neg c70] at H
                                exact nO H
                              ·rw [if_neg c69] at H
                               have c69b0:decide (x12_6≤x13_8)=false:=dF c69
                               clear c69
                               (first | rw [c69b0] | (simp only [i64_w,i32_w];rw [c69b0]) | skip)
                               have H':=aM H
                               clear H
                               try go_wp2
                               have n0_:=aM (Kd.R_drew HO_0.out)
                               have n1_:=aM (Kept.drew HK.out)
                               have n2_:=aM (below_drew1 HB.out)
                               clear HO_0
                               clear HK
                               clear HB
                               have HO_0:=n0_
                               have HK:=n1_
                               have HB:=n2_
                               clear n0_ n1_ n2_
                               refine start_ (n:=17) (S:=fun w'=>True) (ds:=[]) Y0.q23 (by kernel_rfl) rfl rfl trivial (fun hHeld=>?_);refine with_tabW Y0.tab15 Y0.bits15 (fun HT_ HW_=>?_)
                               generalize wr.drew=w77 at HO_0 HK HB hHeld ⊢
                               refine pu_ 0 123 Y0.q24 HT_.out ?_
                               refine pu_ 1 124 Y0.q25 HT_.out ?_
                               refine pu_ 2 125 Y0.q26 HT_.out ?_
                               refine pu_ 3 126 Y0.q27 HT_.out ?_
                               refine pn_ 4 127 Y0.q28 HT_.out ?_
                               refine pn_ 5 128 Y0.q29 HT_.out ?_
                               refine pn_ 6 129 Y0.q30 HT_.out ?_
                               refine pn_ 7 130 Y0.q31 HT_.out ?_
                               refine pn_ 8 131 Y0.q41 HT_.out ?_
                               refine pn_ 9 132 Y0.q42 HT_.out ?_
                               refine pn_ 10 133 Y0.q43 HT_.out ?_
                               refine pn_ 11 134 Y0.q35 HT_.out ?_
                               refine pn_ 12 135 Y0.q36 HT_.out ?_
                               refine pn_ 13 136 Y0.q37 HT_.out ?_
                               refine pn_ 14 137 Y0.q38 HT_.out ?_
                               refine pn_ 15 138 Y0.q39 HT_.out ?_
                               refine pu_ 16 139 Y0.q40 HT_.out ?_
                               refine done_ (done_of HT_.out (by kernel_rfl)) ?_
                               try go_wp2
                               go_meet
                               case rel=>exact ⟨_,(false),(z1_),H',⟨by have:=HK1.out;have:=HJ15.out;have:=HK3.out;have:=HJ26.out;have:=HK5.out;have:=HK6.out;have:=HJ56.out;have:=HK8.out;first | omega | exact Nat.le_refl _⟩,⟨z23_ HO_0.out⟩,⟨z6_ HK.out⟩,⟨z3_ HB.out⟩⟩
                             case rest=>as_aux_lemma =>
                              clear HC68
                              try clear c1
                              try clear p1
                              try clear q1
                              try clear hx1
                              try clear c2
                              try clear p2
                              try clear q2
                              try clear hx2
                              try clear c3
                              try clear c4
                              try clear p4
                              try clear q4
                              try clear hx4
                              try clear c5
                              try clear p5
                              try clear q5
                              try clear hx5
                              try clear hf5
                              try clear c6
                              try clear c6b0
                              try clear p6
                              try clear c7
                              try clear c7b0
                              try clear c8
                              try clear c8b0
                              try clear c9
                              try clear c9b0
                              try clear c10
                              try clear p10
                              try clear q10
                              try clear hx10
                              try clear hf10
                              try clear c11
                              try clear p11
                              try clear q11
                              try clear hx11
                              try clear hf11
                              try clear c14
                              try clear c15
                              try clear c17
                              try clear c17b0
                              try clear c18
                              try clear c18b0
                              try clear c19
                              try clear c19b0
                              try clear c20
                              try clear c20b0
                              try clear c21
                              try clear c21b0
                              try clear c26
                              try clear p27
                              try clear q27
                              try clear hx27
                              try clear c28
                              try clear c28b0
                              try clear p28
                              try clear q28
                              try clear hx28
                              try clear c29
                              try clear c29b0
                              try clear p29
                              try clear q29
                              try clear hx29
                              try clear c30
                              try clear c30b0
                              try clear c31
                              try clear c31b0
                              try clear c32
                              try clear c32b0
                              try clear c37
                              try clear c38
                              try clear c38b0
                              try clear c39
                              try clear c39b0
                              try clear c40
                              try clear c40b0
                              try clear c41
                              try clear c41b0
                              try clear c42
                              try clear c42b0
                              try clear c43
                              try clear p43
                              try clear q43
                              try clear hx43
                              try clear hf43
                              try clear c44
                              try clear p44
                              try clear q44
                              try clear hx44
                              try clear hf44
                              try clear c46
                              try clear c47
                              try clear c48
                              try clear c48b0
                              try clear c49
                              try clear c49b0
                              try clear c50
                              try clear c50b0
                              try clear c51
                              try clear c51b0
                              try clear c52
                              try clear p52
                              try clear q52
                              try clear hx52
                              try clear hf52
                              try clear c53
                              try clear p53
                              try clear q53
                              try clear hx53
                              try clear hf53
                              try clear c55
                              try clear c56
                              try clear c58
                              try clear c58b0
                              try clear c59
                              try clear c59b0
                              try clear c60
                              try clear c60b0
                              try clear c61
                              try clear c61b0
                              try clear c62
                              try clear c62b0
                              try clear p64
                              try clear c67
                              try clear c69
                              try clear c69b0
                              try clear c70
                              try clear c70b0
                              try clear c71
                              try clear c71b0
                              try clear c72
                              try clear c72b0
                              try clear c73
                              try clear c73b0
                              try clear hx10_0
                              try clear hx10_1
                              try clear hx11_0
                              try clear hx11_1
                              try clear hx276_0
                              try clear hx276_1
                              try clear hx277_0
                              try clear hx277_1
                              try clear hx280_0
                              try clear hx280_1
                              try clear hx281_0
                              try clear hx281_1
                              try clear hx283_0
                              try clear hx283_1
                              try clear hx284_0
                              try clear hx284_1
                              try clear hx286_0
                              try clear hx286_1
                              try clear hx287_0
                              try clear hx287_1
                              try clear hx290_0
                              try clear hx290_1
                              try clear hx291_0
                              try clear hx291_1
                              try clear hx294_0
                              try clear hx294_1
                              try clear hx295_0
                              try clear hx295_1
                              try clear hx297_0
                              try clear hx297_1
                              try clear hx298_0
                              try clear hx298_1
                              try clear hx43_0
                              try clear hx43_1
                              try clear hx44_0
                              try clear hx44_1
                              try clear hx52_0
                              try clear hx52_1
                              try clear hx53_0
                              try clear hx53_1
                              try clear p1
                              try clear p10
                              try clear p11
                              try clear p2
                              try clear p27
                              try clear p276
                              try clear p277
                              try clear p28
                              try clear p280
                              try clear p281
                              try clear p283
                              try clear p284
                              try clear p286
                              try clear p287
                              try clear p29
                              try clear p290
                              try clear p291
                              try clear p294
                              try clear p295
                              try clear p297
                              try clear p298
                              try clear p4
                              try clear p43
                              try clear p44
                              try clear p5
                              try clear p52
                              try clear p53
                              try clear p6
                              try clear p64
                              try clear q1
                              try clear q10
                              try clear q11
                              try clear q2
                              try clear q27
                              try clear q276
                              try clear q277
                              try clear q28
                              try clear q280
                              try clear q281
                              try clear q283
                              try clear q284
                              try clear q286
                              try clear q287
                              try clear q29
                              try clear q290
                              try clear q291
                              try clear q294
                              try clear q295
                              try clear q297
                              try clear q298
                              try clear q4
                              try clear q43
                              try clear q44
                              try clear q5
                              try clear q52
                              try clear q53
                              obtain ⟨kq,x139_67,rfl,HA,HJ67,HO_0,HK,HB⟩:=hcut
                              cases kq with
                              | zero=>exact absurd HA.out (by simp [Y0.j8])
                              | succ kj67 =>
                               have H:=HA.out
                               clear HA
                               simp only [Y0.j8] at H
                               by_cases c78:x139_67=true
                               ·subst c78
                                have H1:(Y0.l4 kj67 x0_5 a1 x12_6 (wrap64 (x13_8-1)))=some (r1,r2,r3):=by rw [if_pos rfl] at H;exact H
                                clear H
                                have H:=H1
                                clear H1
                                have H':=aM H
                                clear H
                                go_wp2
                                go_roundg kj67
                                case measure=>have:=HK1.out;have:=HJ15.out;have:=HK3.out;have:=HJ26.out;have:=HK5.out;have:=HK6.out;have:=HJ56.out;have:=HK8.out;have:=HJ67.out;omega
                                case rel=>exact ⟨(wrap64 (x13_8-1)),(z1_),H',⟨by have:=HK1.out;have:=HJ15.out;have:=HK3.out;have:=HJ26.out;have:=HK5.out;have:=HK6.out;have:=HJ56.out;have:=HK8.out;have:=HJ67.out;omega⟩,⟨z23_ HO_0.out⟩,⟨z6_ HK.out⟩,⟨z3_ HB.out⟩⟩
                               ·replace c78:=Bool.eq_false_iff.mpr c78
                                subst c78
                                have H1:(if x12_6>x13_8 then (if 0≤a1 then (if a1<(x0_5.length:Int) then (if 0≤x13_8 then (if x13_8<(x0_5.length:Int) then (some (x13_8,false,((x0_5.set (x13_8:Int).toNat (⟨(rd_T78 x0_5 a1).f0,(rd_T78 x0_5 a1).f1⟩:S78)).set (a1:Int).toNat (⟨(rd_T78 x0_5 x13_8).f0,(rd_T78 x0_5 x13_8).f1⟩:S78)))) else (none)) else (none)) else (none)) else (none)) else (if 0≤x13_8 then (if x13_8<(x0_5.length:Int) then (if 0≤x12_6 then (if x12_6<(x0_5.length:Int) then (Y0.l2 kj67 ((x0_5.set (x12_6:Int).toNat (⟨(rd_T78 x0_5 x13_8).f0,(rd_T78 x0_5 x13_8).f1⟩:S78)).set (x13_8:Int).toNat (⟨(rd_T78 x0_5 x12_6).f0,(rd_T78 x0_5 x12_6).f1⟩:S78)) a1 (wrap64 (x12_6+1)) (wrap64 (x13_8-1))) else (none)) else (none)) else (none)) else (none)))=some (r1,r2,r3):=by rw [if_neg (show ¬ (false=true) by decide)] at H;exact H
                                clear H
                                have H:=H1
                                clear H1
                                by_cases c79:x12_6>x13_8
                                ·rw [if_pos c79] at H
                                 have c79b0:decide (x13_8<x12_6)=true:=dE c79
                                 clear c79
                                 by_cases c80:0≤a1
                                 ·rw [if_pos c80] at H
                                  have c80b0:decide (0≤a1)=true:=dE c80
                                  clear c80
                                  by_cases c81:a1<(x0_5.length:Int)
                                  ·rw [if_pos c81] at H
                                   have c81b0:decide (a1<(x0_5.length:Int))=true:=dE c81
                                   clear c81
                                   by_cases c82:0≤x13_8
                                   ·rw [if_pos c82] at H
                                    have c82b0:decide (0≤x13_8)=true:=dE c82
                                    clear c82
                                    by_cases c83:x13_8<(x0_5.length:Int)
                                    ·rw [if_pos c83] at H
                                     have c83b0:decide (x13_8<(x0_5.length:Int))=true:=dE c83
                                     clear c83
                                     obtain ⟨y302,hy302⟩:∃ y_:List (S78),y_=(x0_5.set (x13_8:Int).toNat (⟨(rd_T78 x0_5 a1).f0,(rd_T78 x0_5 a1).f1⟩:S78)):=⟨_,rfl⟩
                                     replace H:(some (x13_8,false,(y302.set (a1:Int).toNat (⟨(rd_T78 x0_5 x13_8).f0,(rd_T78 x0_5 x13_8).f1⟩:S78))))=some (r1,r2,r3):=by first | (rw [hy302];with_reducible exact H) | (have H2_:=(Option.bind_some _ _).symm.trans H;rw [hy302];with_reducible exact H2_) | (have H2_:=(Option.bind_some _ _).symm.trans H;with_reducible exact H2_) | with_reducible exact H | (rw [hy302];exact H) | exact H
                                     have Ny302:=aM hy302
                                     clear hy302
                                     obtain ⟨y303,hy303⟩:∃ y_:List (S78),y_=(y302.set (a1:Int).toNat (⟨(rd_T78 x0_5 x13_8).f0,(rd_T78 x0_5 x13_8).f1⟩:S78)):=⟨_,rfl⟩
                                     replace H:(some (x13_8,false,y303))=some (r1,r2,r3):=by first | (rw [hy303];with_reducible exact H) | (have H2_:=(Option.bind_some _ _).symm.trans H;rw [hy303];with_reducible exact H2_) | (have H2_:=(Option.bind_some _ _).symm.trans H;with_reducible exact H2_) | with_reducible exact H | (rw [hy303];exact H) | exact H
                                     have Ny303:=aM hy303
                                     clear hy303
                                     simp only [Option.some.injEq,Prod.mk.injEq] at H
                                     obtain ⟨rfl,rfl,rfl⟩:=H
                                     try go_wp2
                                     have n0_:=aM (Kd.R_drew HO_0.out)
                                     have n1_:=aM (Kept.drew HK.out)
                                     have n2_:=aM (below_drew1 HB.out)
                                     clear HO_0
                                     clear HK
                                     clear HB
                                     have HO_0:=n0_
                                     have HK:=n1_
                                     have HB:=n2_
                                     clear n0_ n1_ n2_
                                     have p300:0≤(a1:Int):=dT (z2_)
                                     have q300:a1<(x0_5.length:Int):=dT (z2_)
                                     obtain ⟨ad300,e300,hx300_0,hx300_1⟩:=at_T78 (Kd.R_reads' HO_0.out).2.2 a1 p300 q300
                                     obtain rfl:(⟨go10,0,none⟩:Addr)=ad300:=(by injection e300)
                                     (first | simp only [add_plain] at hx300_0 | simp only [add_at] at hx300_0 | simp only [Addr.add,Nat.zero_add] at hx300_0 | skip)
                                     (first | simp only [add_plain] at hx300_1 | simp only [add_at] at hx300_1 | simp only [Addr.add,Nat.zero_add] at hx300_1 | skip)
                                     replace p300:=eq_true p300
                                     replace q300:=eq_true q300
                                     have p301:0≤(x13_8:Int):=dT (z2_)
                                     have q301:x13_8<(x0_5.length:Int):=dT (z2_)
                                     obtain ⟨ad301,e301,hx301_0,hx301_1⟩:=at_T78 (Kd.R_reads' HO_0.out).2.2 x13_8 p301 q301
                                     obtain rfl:(⟨go10,0,none⟩:Addr)=ad301:=(by injection e301)
                                     (first | simp only [add_plain] at hx301_0 | simp only [add_at] at hx301_0 | simp only [Addr.add,Nat.zero_add] at hx301_0 | skip)
                                     (first | simp only [add_plain] at hx301_1 | simp only [add_at] at hx301_1 | simp only [Addr.add,Nat.zero_add] at hx301_1 | skip)
                                     replace p301:=eq_true p301
                                     replace q301:=eq_true q301
                                     have p84:0≤(x13_8:Int):=dT (z2_)
                                     have q84:(x13_8:Int)<((x0_5.length:Int):Int):=dT (z2_)
                                     obtain ⟨ce84,hcl84,hM84,hcc84,hfr84⟩:=Kd.R_elem HO_0.out z78 (x13_8:Int) p84 q84
                                     obtain rfl:=k78_openM hM84
                                     have hx84_0:World.cell? _ ⟨go10,(x13_8:Int).toNat*2,none⟩=some (.int .i64 ((rd_T78 x0_5 x13_8).f0)):=hcc84 0 _ rfl
                                     have hx84_1:World.cell? _ ⟨go10,(x13_8:Int).toNat*2+1,none⟩=some (.int .i64 ((rd_T78 x0_5 x13_8).f1)):=hcc84 1 _ rfl
                                     have hf84_0:World.frozen? _ ⟨go10,(x13_8:Int).toNat*2,none⟩=false:=hfr84 0
                                     have hf84_1:World.frozen? _ ⟨go10,(x13_8:Int).toNat*2+1,none⟩=false:=hfr84 1
                                     clear hcl84 hcc84 hfr84 hM84
                                     replace p84:=eq_true p84
                                     replace q84:=eq_true q84
                                     obtain ⟨ce87,hcl87,hM87,hcc87,hfr87⟩:=Kd.R_elem HO_0.out z78 (x13_8:Int) (dT (z2_)) (z37_ HO_0.out)
                                     obtain rfl:=k78_openM hM87
                                     have HP87:=(Kd.R_seg HO_0.out (x13_8:Int) (dT (z2_)) (z37_ HO_0.out) (seg:=[.int .i64 ((rd_T78 x0_5 a1).f0),.int .i64 ((rd_T78 x0_5 a1).f1)]) (j:=0) hcl87 hcc87 (show 2≤2 from by decide) (x':=(⟨(rd_T78 x0_5 a1).f0,(rd_T78 x0_5 a1).f1⟩:S78)) (k78_mkM _ _ _ (⟨(rd_T78 x0_5 a1).f0,(rd_T78 x0_5 a1).f1⟩:S78) ) (fun _ hk=>hk)).1
                                     rw [← Ny302.out] at HP87
                                     have HQ87:=aM HP87
                                     clear hcl87 hcc87 hfr87 hM87 HP87
                                     have p85:0≤(a1:Int):=dT (z2_)
                                     have q85:(a1:Int)<((x0_5.length:Int):Int):=dT (z2_)
                                     obtain ⟨ce85,hcl85,hM85,hcc85,hfr85⟩:=Kd.R_elem HQ87.out z78 (a1:Int) p85 q85
                                     obtain rfl:=k78_openM hM85
                                     have hx85_0:World.cell? _ ⟨go10,(a1:Int).toNat*2,none⟩=some (.int .i64 ((rd_T78 y302 a1).f0)):=hcc85 0 _ rfl
                                     have hx85_1:World.cell? _ ⟨go10,(a1:Int).toNat*2+1,none⟩=some (.int .i64 ((rd_T78 y302 a1).f1)):=hcc85 1 _ rfl
                                     have hf85_0:World.frozen? _ ⟨go10,(a1:Int).toNat*2,none⟩=false:=hfr85 0
                                     have hf85_1:World.frozen? _ ⟨go10,(a1:Int).toNat*2+1,none⟩=false:=hfr85 1
                                     clear hcl85 hcc85 hfr85 hM85
                                     replace p85:=eq_true p85
                                     replace q85:=eq_true q85
                                     obtain ⟨ce88,hcl88,hM88,hcc88,hfr88⟩:=Kd.R_elem HQ87.out z78 (a1:Int) (dT (z2_)) (by have h_:(a1:Int)<((x0_5.length:Int):Int):=dT (by first | (with_reducible assumption) | assumption);first | exact h_ | (have e_:=(Kd.R_reads' HO_0.out).1;omega) | simpa using h_)
                                     obtain rfl:=k78_openM hM88
                                     have HP88:=(Kd.R_seg HQ87.out (a1:Int) (dT (z2_)) (by have h_:(a1:Int)<((x0_5.length:Int):Int):=dT (by first | (with_reducible assumption) | assumption);first | exact h_ | (have e_:=(Kd.R_reads' HO_0.out).1;omega) | simpa using h_) (seg:=[.int .i64 ((rd_T78 x0_5 x13_8).f0),.int .i64 ((rd_T78 x0_5 x13_8).f1)]) (j:=0) hcl88 hcc88 (show 2≤2 from by decide) (x':=(⟨(rd_T78 x0_5 x13_8).f0,(rd_T78 x0_5 x13_8).f1⟩:S78)) (k78_mkM _ _ _ (⟨(rd_T78 x0_5 x13_8).f0,(rd_T78 x0_5 x13_8).f1⟩:S78) ) (fun _ hk=>hk)).1
                                     rw [← Ny303.out] at HP88
                                     have HQ88:=aM HP88
                                     clear hcl88 hcc88 hfr88 hM88 HP88
                                     refine start_ (n:=16) (S:=fun w'=>w'.cell? ⟨go10,(a1).toNat*2,none⟩=some (.int .i64 ((rd_T78 x0_5 a1).f0))∧w'.cell? ⟨go10,(a1).toNat*2+1,none⟩=some (.int .i64 ((rd_T78 x0_5 a1).f1))∧w'.cell? ⟨go10,(x13_8).toNat*2,none⟩=some (.int .i64 ((rd_T78 x0_5 x13_8).f0))∧w'.cell? ⟨go10,(x13_8).toNat*2+1,none⟩=some (.int .i64 ((rd_T78 x0_5 x13_8).f1))) (ds:=[13,15]) Y0.q0 (by kernel_rfl) rfl rfl ⟨hx300_0,hx300_1,hx301_0,hx301_1⟩ (fun hHeld=>?_);refine with_tabW Y0.tab21 Y0.bits21 (fun HT_ HW_=>?_)
                                     generalize wc.drew=w86 at HO_0 HK HB HQ87 HQ88 hf84_0 hf84_1 hf85_0 hf85_1 hx300_0 hx300_1 hx301_0 hx301_1 hx84_0 hx84_1 hx85_0 hx85_1 hHeld ⊢
                                     have hz85_0:(w86.setCell ⟨go10,(x13_8:Int).toNat*2,none⟩ (.int .i64 ((rd_T78 x0_5 a1).f0))).cell? ⟨go10,(a1:Int).toNat*2,none⟩=some (.int .i64 ((rd_T78 y302 a1).f0)):=by have h_:=hx85_0;exact ((show ((w86.setCell ⟨go10,(x13_8:Int).toNat*2,none⟩ (.int .i64 ((rd_T78 x0_5 a1).f0))).setCell ⟨go10,(x13_8:Int).toNat*2+1,none⟩ (.int .i64 ((rd_T78 x0_5 a1).f1))).cell? ⟨go10,(a1:Int).toNat*2,none⟩=(w86.setCell ⟨go10,(x13_8:Int).toNat*2,none⟩ (.int .i64 ((rd_T78 x0_5 a1).f0))).cell? ⟨go10,(a1:Int).toNat*2,none⟩ from World.cell?_setCell_other _ _ _ _ (by intro e_;injection e_ with e1_ e2_;omega)).symm.trans h_)
                                     have hy85_0:w86.frozen? ⟨go10,(a1:Int).toNat*2,none⟩=false:=by have h_:=hf85_0;first | exact h_ | simpa only [World.frozen?_setCell] using h_ | simpa [World.setCells] using h_
                                     have hz85_1:((w86.setCell ⟨go10,(x13_8:Int).toNat*2,none⟩ (.int .i64 ((rd_T78 x0_5 a1).f0))).setCell ⟨go10,(x13_8:Int).toNat*2+1,none⟩ (.int .i64 ((rd_T78 x0_5 a1).f1))).cell? ⟨go10,(a1:Int).toNat*2+1,none⟩=some (.int .i64 ((rd_T78 y302 a1).f1)):=by have h_:=hx85_1;exact h_
                                     have hy85_1:w86.frozen? ⟨go10,(a1:Int).toNat*2+1,none⟩=false:=by have h_:=hf85_1;first | exact h_ | simpa only [World.frozen?_setCell] using h_ | simpa [World.setCells] using h_
                                     refine pu_ 0 163 Y0.q1 HT_.out ?_
                                     refine pu_ 1 164 Y0.q2 HT_.out ?_
                                     refine pu_ 2 165 Y0.q3 HT_.out ?_
                                     refine pu_ 3 166 Y0.q4 HT_.out ?_
                                     refine pu_ 4 167 Y0.q5 HT_.out ?_
                                     refine pu_ 5 168 Y0.q6 HT_.out ?_
                                     refine pu_ 6 169 Y0.q7 HT_.out ?_
                                     refine pu_ 8 171 Y0.q8 HT_.out ?_
                                     refine pu_ 9 172 Y0.q9 HT_.out ?_
                                     refine pu_ 10 173 Y0.q10 HT_.out ?_
                                     refine tk4_ 7 170 Y0.q11 HT_.out HW_.out hHeld ?_
                                     refine tk4_ 11 174 Y0.q12 HT_.out HW_.out hHeld ?_
                                     refine pu_ 12 175 Y0.q13 HT_.out ?_
                                     refine last_ (i:=13) (N:=none) Y0.q14 rfl rfl (one_of HT_.out (by kernel_rfl)) (by decide) (fun K hK=>?_)
                                     refine skip_ (w1:=?_) (by rfl) rfl ?_ ?_
                                     rotate_left
                                     ·go_simp
                                      rfl
                                     refine hK.out _ _ ?_
                                     clear hK K
                                     refine pu_ 14 176 Y0.q15 HT_.out ?_
                                     refine last_ (i:=15) (N:=none) Y0.q16 rfl rfl (one_of HT_.out (by kernel_rfl)) (by decide) (fun K hK=>?_)
                                     refine skip_ (w1:=?_) (by rfl) rfl ?_ ?_
                                     rotate_left
                                     ·go_simp
                                      rfl
                                     refine hK.out _ _ ?_
                                     clear hK K
                                     refine done_ (done_of HT_.out (by kernel_rfl)) ?_
                                     try go_wp2
                                     go_ret2
                                     exact ⟨z10_,(by first | exact (by (with_reducible repeat (first | apply Kd.R_alloc | apply Kd.R_drewN | apply Kd.R_drew));exact HQ88.out) | (simp only [hl0_1,hl0_5];exact (by (with_reducible repeat (first | apply Kd.R_alloc | apply Kd.R_drewN | apply Kd.R_drew));exact HQ88.out))),z31_ HB.out GB10.out,z30_ HK.out HMgo10.out⟩
                                    ·rw [if_neg c83] at H
                                     exact nO H
                                   ·rw [if_neg c82] at H
                                    exact nO H
                                  ·rw [if_neg c81] at H
                                   exact nO H
                                 ·rw [if_neg c80] at H
                                  exact nO H
                                ·rw [if_neg c79] at H
                                 have c79b0:decide (x13_8<x12_6)=false:=dF c79
                                 clear c79
                                 by_cases c89:0≤x13_8
                                 ·rw [if_pos c89] at H
                                  have c89b0:decide (0≤x13_8)=true:=dE c89
                                  clear c89
                                  by_cases c90:x13_8<(x0_5.length:Int)
                                  ·rw [if_pos c90] at H
                                   have c90b0:decide (x13_8<(x0_5.length:Int))=true:=dE c90
                                   clear c90
                                   by_cases c91:0≤x12_6
                                   ·rw [if_pos c91] at H
                                    have c91b0:decide (0≤x12_6)=true:=dE c91
                                    clear c91
                                    by_cases c92:x12_6<(x0_5.length:Int)
                                    ·rw [if_pos c92] at H
                                     have c92b0:decide (x12_6<(x0_5.length:Int))=true:=dE c92
                                     clear c92
                                     obtain ⟨y306,hy306⟩:∃ y_:List (S78),y_=(x0_5.set (x12_6:Int).toNat (⟨(rd_T78 x0_5 x13_8).f0,(rd_T78 x0_5 x13_8).f1⟩:S78)):=⟨_,rfl⟩
                                     replace H:(Y0.l2 kj67 (y306.set (x13_8:Int).toNat (⟨(rd_T78 x0_5 x12_6).f0,(rd_T78 x0_5 x12_6).f1⟩:S78)) a1 (wrap64 (x12_6+1)) (wrap64 (x13_8-1)))=some (r1,r2,r3):=by first | (rw [hy306];with_reducible exact H) | (have H2_:=(Option.bind_some _ _).symm.trans H;rw [hy306];with_reducible exact H2_) | (have H2_:=(Option.bind_some _ _).symm.trans H;with_reducible exact H2_) | with_reducible exact H | (rw [hy306];exact H) | exact H
                                     have Ny306:=aM hy306
                                     clear hy306
                                     obtain ⟨y307,hy307⟩:∃ y_:List (S78),y_=(y306.set (x13_8:Int).toNat (⟨(rd_T78 x0_5 x12_6).f0,(rd_T78 x0_5 x12_6).f1⟩:S78)):=⟨_,rfl⟩
                                     replace H:(Y0.l2 kj67 y307 a1 (wrap64 (x12_6+1)) (wrap64 (x13_8-1)))=some (r1,r2,r3):=by first | (rw [hy307];with_reducible exact H) | (have H2_:=(Option.bind_some _ _).symm.trans H;rw [hy307];with_reducible exact H2_) | (have H2_:=(Option.bind_some _ _).symm.trans H;with_reducible exact H2_) | with_reducible exact H | (rw [hy307];exact H) | exact H
                                     have Ny307:=aM hy307
                                     clear hy307
                                     have H':=aM H
                                     clear H
                                     try go_wp2
                                     have n0_:=aM (Kd.R_drew HO_0.out)
                                     have n1_:=aM (Kept.drew HK.out)
                                     have n2_:=aM (below_drew1 HB.out)
                                     clear HO_0
                                     clear HK
                                     clear HB
                                     have HO_0:=n0_
                                     have HK:=n1_
                                     have HB:=n2_
                                     clear n0_ n1_ n2_
                                     have p304:0≤(x13_8:Int):=dT (z2_)
                                     have q304:x13_8<(x0_5.length:Int):=dT (z2_)
                                     obtain ⟨ad304,e304,hx304_0,hx304_1⟩:=at_T78 (Kd.R_reads' HO_0.out).2.2 x13_8 p304 q304
                                     obtain rfl:(⟨go10,0,none⟩:Addr)=ad304:=(by injection e304)
                                     (first | simp only [add_plain] at hx304_0 | simp only [add_at] at hx304_0 | simp only [Addr.add,Nat.zero_add] at hx304_0 | skip)
                                     (first | simp only [add_plain] at hx304_1 | simp only [add_at] at hx304_1 | simp only [Addr.add,Nat.zero_add] at hx304_1 | skip)
                                     replace p304:=eq_true p304
                                     replace q304:=eq_true q304
                                     have p305:0≤(x12_6:Int):=dT (z2_)
                                     have q305:x12_6<(x0_5.length:Int):=dT (z2_)
                                     obtain ⟨ad305,e305,hx305_0,hx305_1⟩:=at_T78 (Kd.R_reads' HO_0.out).2.2 x12_6 p305 q305
                                     obtain rfl:(⟨go10,0,none⟩:Addr)=ad305:=(by injection e305)
                                     (first | simp only [add_plain] at hx305_0 | simp only [add_at] at hx305_0 | simp only [Addr.add,Nat.zero_add] at hx305_0 | skip)
                                     (first | simp only [add_plain] at hx305_1 | simp only [add_at] at hx305_1 | simp only [Addr.add,Nat.zero_add] at hx305_1 | skip)
                                     replace p305:=eq_true p305
                                     replace q305:=eq_true q305
                                     have p93:0≤(x12_6:Int):=dT (z2_)
                                     have q93:(x12_6:Int)<((x0_5.length:Int):Int):=dT (z2_)
                                     obtain ⟨ce93,hcl93,hM93,hcc93,hfr93⟩:=Kd.R_elem HO_0.out z78 (x12_6:Int) p93 q93
                                     obtain rfl:=k78_openM hM93
                                     have hx93_0:World.cell? _ ⟨go10,(x12_6:Int).toNat*2,none⟩=some (.int .i64 ((rd_T78 x0_5 x12_6).f0)):=hcc93 0 _ rfl
                                     have hx93_1:World.cell? _ ⟨go10,(x12_6:Int).toNat*2+1,none⟩=some (.int .i64 ((rd_T78 x0_5 x12_6).f1)):=hcc93 1 _ rfl
                                     have hf93_0:World.frozen? _ ⟨go10,(x12_6:Int).toNat*2,none⟩=false:=hfr93 0
                                     have hf93_1:World.frozen? _ ⟨go10,(x12_6:Int).toNat*2+1,none⟩=false:=hfr93 1
                                     clear hcl93 hcc93 hfr93 hM93
                                     replace p93:=eq_true p93
                                     replace q93:=eq_true q93
                                     obtain ⟨ce96,hcl96,hM96,hcc96,hfr96⟩:=Kd.R_elem HO_0.out z78 (x12_6:Int) (dT (z2_)) (by have h_:(x12_6:Int)<((x0_5.length:Int):Int):=dT (by first | (with_reducible assumption) | assumption);first | exact h_ | (have e_:=(Kd.R_reads' HO_0.out).1;omega) | simpa using h_)
                                     obtain rfl:=k78_openM hM96
                                     have HP96:=(Kd.R_seg HO_0.out (x12_6:Int) (dT (z2_)) (by have h_:(x12_6:Int)<((x0_5.length:Int):Int):=dT (by first | (with_reducible assumption) | assumption);first | exact h_ | (have e_:=(Kd.R_reads' HO_0.out).1;omega) | simpa using h_) (seg:=[.int .i64 ((rd_T78 x0_5 x13_8).f0),.int .i64 ((rd_T78 x0_5 x13_8).f1)]) (j:=0) hcl96 hcc96 (show 2≤2 from by decide) (x':=(⟨(rd_T78 x0_5 x13_8).f0,(rd_T78 x0_5 x13_8).f1⟩:S78)) (k78_mkM _ _ _ (⟨(rd_T78 x0_5 x13_8).f0,(rd_T78 x0_5 x13_8).f1⟩:S78) ) (fun _ hk=>hk)).1
                                     rw [← Ny306.out] at HP96
                                     have HQ96:=aM HP96
                                     clear hcl96 hcc96 hfr96 hM96 HP96
                                     have p94:0≤(x13_8:Int):=dT (z2_)
                                     have q94:(x13_8:Int)<((x0_5.length:Int):Int):=dT (z2_)
                                     obtain ⟨ce94,hcl94,hM94,hcc94,hfr94⟩:=Kd.R_elem HQ96.out z78 (x13_8:Int) p94 q94
                                     obtain rfl:=k78_openM hM94
                                     have hx94_0:World.cell? _ ⟨go10,(x13_8:Int).toNat*2,none⟩=some (.int .i64 ((rd_T78 y306 x13_8).f0)):=hcc94 0 _ rfl
                                     have hx94_1:World.cell? _ ⟨go10,(x13_8:Int).toNat*2+1,none⟩=some (.int .i64 ((rd_T78 y306 x13_8).f1)):=hcc94 1 _ rfl
                                     have hf94_0:World.frozen? _ ⟨go10,(x13_8:Int).toNat*2,none⟩=false:=hfr94 0
                                     have hf94_1:World.frozen? _ ⟨go10,(x13_8:Int).toNat*2+1,none⟩=false:=hfr94 1
                                     clear hcl94 hcc94 hfr94 hM94
                                     replace p94:=eq_true p94
                                     replace q94:=eq_true q94
                                     obtain ⟨ce97,hcl97,hM97,hcc97,hfr97⟩:=Kd.R_elem HQ96.out z78 (x13_8:Int) (dT (z2_)) (z37_ HO_0.out)
                                     obtain rfl:=k78_openM hM97
                                     have HP97:=(Kd.R_seg HQ96.out (x13_8:Int) (dT (z2_)) (z37_ HO_0.out) (seg:=[.int .i64 ((rd_T78 x0_5 x12_6).f0),.int .i64 ((rd_T78 x0_5 x12_6).f1)]) (j:=0) hcl97 hcc97 (show 2≤2 from by decide) (x':=(⟨(rd_T78 x0_5 x12_6).f0,(rd_T78 x0_5 x12_6).f1⟩:S78)) (k78_mkM _ _ _ (⟨(rd_T78 x0_5 x12_6).f0,(rd_T78 x0_5 x12_6).f1⟩:S78) ) (fun _ hk=>hk)).1
                                     rw [← Ny307.out] at HP97
                                     have HQ97:=aM HP97
                                     clear hcl97 hcc97 hfr97 hM97 HP97
                                     refine start_ (n:=16) (S:=fun w'=>w'.cell? ⟨go10,(x13_8).toNat*2,none⟩=some (.int .i64 ((rd_T78 x0_5 x13_8).f0))∧w'.cell? ⟨go10,(x13_8).toNat*2+1,none⟩=some (.int .i64 ((rd_T78 x0_5 x13_8).f1))∧w'.cell? ⟨go10,(x12_6).toNat*2,none⟩=some (.int .i64 ((rd_T78 x0_5 x12_6).f0))∧w'.cell? ⟨go10,(x12_6).toNat*2+1,none⟩=some (.int .i64 ((rd_T78 x0_5 x12_6).f1))) (ds:=[13,15]) Y0.q0 (by kernel_rfl) rfl rfl ⟨hx304_0,hx304_1,hx305_0,hx305_1⟩ (fun hHeld=>?_);refine with_tabW Y0.tab18 Y0.bits18 (fun HT_ HW_=>?_)
                                     generalize wc.drew=w95 at HO_0 HK HB HQ96 HQ97 hf93_0 hf93_1 hf94_0 hf94_1 hx304_0 hx304_1 hx305_0 hx305_1 hx93_0 hx93_1 hx94_0 hx94_1 hHeld ⊢
                                     have hz94_0:(w95.setCell ⟨go10,(x12_6:Int).toNat*2,none⟩ (.int .i64 ((rd_T78 x0_5 x13_8).f0))).cell? ⟨go10,(x13_8:Int).toNat*2,none⟩=some (.int .i64 ((rd_T78 y306 x13_8).f0)):=by have h_:=hx94_0;exact ((show ((w95.setCell ⟨go10,(x12_6:Int).toNat*2,none⟩ (.int .i64 ((rd_T78 x0_5 x13_8).f0))).setCell ⟨go10,(x12_6:Int).toNat*2+1,none⟩ (.int .i64 ((rd_T78 x0_5 x13_8).f1))).cell? ⟨go10,(x13_8:Int).toNat*2,none⟩=(w95.setCell ⟨go10,(x12_6:Int).toNat*2,none⟩ (.int .i64 ((rd_T78 x0_5 x13_8).f0))).cell? ⟨go10,(x13_8:Int).toNat*2,none⟩ from World.cell?_setCell_other _ _ _ _ (by intro e_;injection e_ with e1_ e2_;omega)).symm.trans h_)
                                     have hy94_0:w95.frozen? ⟨go10,(x13_8:Int).toNat*2,none⟩=false:=by have h_:=hf94_0;first | exact h_ | simpa only [World.frozen?_setCell] using h_ | simpa [World.setCells] using h_
                                     have hz94_1:((w95.setCell ⟨go10,(x12_6:Int).toNat*2,none⟩ (.int .i64 ((rd_T78 x0_5 x13_8).f0))).setCell ⟨go10,(x12_6:Int).toNat*2+1,none⟩ (.int .i64 ((rd_T78 x0_5 x13_8).f1))).cell? ⟨go10,(x13_8:Int).toNat*2+1,none⟩=some (.int .i64 ((rd_T78 y306 x13_8).f1)):=by have h_:=hx94_1;exact h_
                                     have hy94_1:w95.frozen? ⟨go10,(x13_8:Int).toNat*2+1,none⟩=false:=by have h_:=hf94_1;first | exact h_ | simpa only [World.frozen?_setCell] using h_ | simpa [World.setCells] using h_
                                     refine pu_ 0 145 Y0.q1 HT_.out ?_
                                     refine pu_ 1 146 Y0.q2 HT_.out ?_
                                     refine pu_ 2 147 Y0.q3 HT_.out ?_
                                     refine pu_ 3 148 Y0.q4 HT_.out ?_
                                     refine pu_ 4 149 Y0.q5 HT_.out ?_
                                     refine pu_ 5 150 Y0.q6 HT_.out ?_
                                     refine pu_ 6 151 Y0.q7 HT_.out ?_
                                     refine pu_ 8 153 Y0.q8 HT_.out ?_
                                     refine pu_ 9 154 Y0.q9 HT_.out ?_
                                     refine pu_ 10 155 Y0.q10 HT_.out ?_
                                     refine tk4_ 7 152 Y0.q11 HT_.out HW_.out hHeld ?_
                                     refine tk4_ 11 156 Y0.q12 HT_.out HW_.out hHeld ?_
                                     refine pu_ 12 157 Y0.q13 HT_.out ?_
                                     refine last_ (i:=13) (N:=none) Y0.q14 rfl rfl (one_of HT_.out (by kernel_rfl)) (by decide) (fun K hK=>?_)
                                     refine skip_ (w1:=?_) (by rfl) rfl ?_ ?_
                                     rotate_left
                                     ·go_simp
                                      rfl
                                     refine hK.out _ _ ?_
                                     clear hK K
                                     refine pu_ 14 158 Y0.q15 HT_.out ?_
                                     refine last_ (i:=15) (N:=none) Y0.q16 rfl rfl (one_of HT_.out (by kernel_rfl)) (by decide) (fun K hK=>?_)
                                     refine skip_ (w1:=?_) (by rfl) rfl ?_ ?_
                                     rotate_left
                                     ·go_simp
                                      rfl
                                     refine hK.out _ _ ?_
                                     clear hK K
                                     refine done_ (done_of HT_.out (by kernel_rfl)) ?_
                                     try go_wp2
                                     (try simp only [← hl0_5])
                                     go_roundg kj67
                                     case measure=>have:=HK1.out;have:=HJ15.out;have:=HK3.out;have:=HJ26.out;have:=HK5.out;have:=HK6.out;have:=HJ56.out;have:=HK8.out;have:=HJ67.out;omega
                                     case rel=>exact ⟨(y307),(wrap64 (x12_6+1)),(wrap64 (x13_8-1)),(z1_),(z1_),H',⟨by have:=HK1.out;have:=HJ15.out;have:=HK3.out;have:=HJ26.out;have:=HK5.out;have:=HK6.out;have:=HJ56.out;have:=HK8.out;have:=HJ67.out;omega⟩,⟨z23_ HQ97.out⟩,⟨z30_ HK.out HMgo10.out⟩,⟨z31_ HB.out GB10.out⟩⟩
                                    ·rw [if_neg c92] at H
                                     exact nO H
                                   ·rw [if_neg c91] at H
                                    exact nO H
                                  ·rw [if_neg c90] at H
                                   exact nO H
                                 ·rw [if_neg c89] at H
                                  exact nO H
                   ·rw [if_neg c51] at H
                    exact nO H
                  ·rw [if_neg c50] at H
                   exact nO H
                 ·rw [if_neg c49] at H
                  exact nO H
                ·rw [if_neg c48] at H
                 exact nO H
    ·rw [if_neg c9] at H
     exact nO H
   ·rw [if_neg c8] at H
    exact nO H
  ·rw [if_neg c7] at H
   exact nO H
 ·rw [if_neg c6] at H
  exact nO H


/-! ### Y1: function 103 -/
mutual
def Y1.l0:Nat→List (S78)→Int→Int→Int→Bool→Bool→Option ((List (S78)))
 | 0,_,_,_,_,_,_=>none
 | k+1,x0,x1,x2,x3,x10,x11=>if (wrap64 (x2-x1))≤12 then ((Y2.f k x0 x1 x2).bind fun t308=>(some t308)) else (if x3=0 then ((Y55.f x0 x1 x2).bind fun _=>(some x0)) else (if x10=true then (Y1.j1 k x0 x1 x2 x3 x10 x11 (wrap64 (x2-x1))) else ((Y43.f x0 x1 x2).bind fun _=>(Y1.j1 k x0 x1 x2 (wrap64 (x3-1)) x10 x11 (wrap64 (x2-x1))))))
def Y1.j1:Nat→List (S78)→Int→Int→Int→Bool→Bool→Int→Option ((List (S78)))
 | 0,_,_,_,_,_,_,_=>none
 | k+1,x0,x1,x2,x3,x10,x11,x12=>(Y3.f k x0 x1 x2).bind fun bt309=>(if bt309.2=2 then ((Y44.f x0 x1 x2).bind fun _=>(Y1.j2 k x0 x1 x2 x3 x10 x11 x12 (wrap64 ((wrap64 (x2-1))-(wrap64 (bt309.1-x1)))) 1)) else (Y1.j2 k x0 x1 x2 x3 x10 x11 x12 bt309.1 bt309.2))
def Y1.j2:Nat→List (S78)→Int→Int→Int→Bool→Bool→Int→Int→Int→Option ((List (S78)))
 | 0,_,_,_,_,_,_,_,_,_=>none
 | k+1,x0,x1,x2,x3,x10,x11,x12,x13,x14=>if x10=true then (if x11=true then (Y1.j3 k x0 x1 x2 x3 x10 x11 x12 x13 (x14 == 1)) else (Y1.j3 k x0 x1 x2 x3 x10 x11 x12 x13 false)) else (Y1.j3 k x0 x1 x2 x3 x10 x11 x12 x13 false)
def Y1.j3:Nat→List (S78)→Int→Int→Int→Bool→Bool→Int→Int→Bool→Option ((List (S78)))
 | 0,_,_,_,_,_,_,_,_,_=>none
 | k+1,x0,x1,x2,x3,x10,x11,x12,x13,x75=>if x75=true then ((Y25.f x0 x1 x2).bind fun t311=>(if t311=true then (some x0) else (Y1.j4 k x0 x1 x2 x3 x10 x11 x12 x13))) else (Y1.j4 k x0 x1 x2 x3 x10 x11 x12 x13)
def Y1.j4:Nat→List (S78)→Int→Int→Int→Bool→Bool→Int→Int→Option ((List (S78)))
 | 0,_,_,_,_,_,_,_,_=>none
 | k+1,x0,x1,x2,x3,x10,x11,x12,x13=>if x1>0 then (if 0≤(wrap64 (x1-1)) then (if (wrap64 (x1-1))<(x0.length:Int) then (if 0≤x13 then (if x13<(x0.length:Int) then ((Y14.f k ((rd_T78 x0 (wrap64 (x1-1))).f0) ((rd_T78 x0 (wrap64 (x1-1))).f1) ((rd_T78 x0 x13).f0) ((rd_T78 x0 x13).f1)).bind fun t314=>(Y1.j5 k x0 x1 x2 x3 x10 x11 x12 x13 (!(decide (t314<0))))) else (none)) else (none)) else (none)) else (none)) else (Y1.j5 k x0 x1 x2 x3 x10 x11 x12 x13 false)
def Y1.j5:Nat→List (S78)→Int→Int→Int→Bool→Bool→Int→Int→Bool→Option ((List (S78)))
 | 0,_,_,_,_,_,_,_,_,_=>none
 | k+1,x0,x1,x2,x3,x10,x11,x12,x13,x97=>if x97=true then ((Y39.f x0 x1 x2 x13).bind fun t315=>(Y1.l0 k x0 t315 x2 x3 x10 x11)) else ((Y0.f k x0 x1 x2 x13).bind fun bt316=>(if (wrap64 (bt316.1-x1))<(wrap64 (x2-bt316.1)) then ((Y1.f k bt316.2.2 x1 bt316.1 x3).bind fun t319=>(Y1.l0 k t319 (wrap64 (bt316.1+1)) x2 x3 (decide ((wrap64 (bt316.1-x1))≥(wrap64 (Int.tdiv x12 8)))) bt316.2.1)) else ((Y1.f k bt316.2.2 (wrap64 (bt316.1+1)) x2 x3).bind fun t320=>(Y1.l0 k t320 x1 bt316.1 x3 (decide ((wrap64 (x2-bt316.1))≥(wrap64 (Int.tdiv x12 8)))) bt316.2.1))))
def Y1.f:Nat→List (S78)→Int→Int→Int→Option ((List (S78)))
 | 0,_,_,_,_=>none
 | k+1,l0,a1,a2,a3=>Y1.l0 k l0 a1 a2 a3 true true
end
theorem Y1.mono_l:∀ k,(∀ y0 y1 y2 y3,LeO (Y1.f k y0 y1 y2 y3) (Y1.f (k+1) y0 y1 y2 y3))∧(∀ y0 y1 y2 y3 y4 y5,LeO (Y1.l0 k y0 y1 y2 y3 y4 y5) (Y1.l0 (k+1) y0 y1 y2 y3 y4 y5))∧(∀ y0 y1 y2 y3 y4 y5 y6,LeO (Y1.j1 k y0 y1 y2 y3 y4 y5 y6) (Y1.j1 (k+1) y0 y1 y2 y3 y4 y5 y6))∧(∀ y0 y1 y2 y3 y4 y5 y6 y7 y8,LeO (Y1.j2 k y0 y1 y2 y3 y4 y5 y6 y7 y8) (Y1.j2 (k+1) y0 y1 y2 y3 y4 y5 y6 y7 y8))∧(∀ y0 y1 y2 y3 y4 y5 y6 y7 y8,LeO (Y1.j3 k y0 y1 y2 y3 y4 y5 y6 y7 y8) (Y1.j3 (k+1) y0 y1 y2 y3 y4 y5 y6 y7 y8))∧(∀ y0 y1 y2 y3 y4 y5 y6 y7,LeO (Y1.j4 k y0 y1 y2 y3 y4 y5 y6 y7) (Y1.j4 (k+1) y0 y1 y2 y3 y4 y5 y6 y7))∧(∀ y0 y1 y2 y3 y4 y5 y6 y7 y8,LeO (Y1.j5 k y0 y1 y2 y3 y4 y5 y6 y7 y8) (Y1.j5 (k+1) y0 y1 y2 y3 y4 y5 y6 y7 y8))
 | 0=>by refine ⟨?_,?_,?_,?_,?_,?_,?_⟩ <;> intros <;> exact LeO.none _
 | k+1=>by
  obtain ⟨ih0,ih1,ih2,ih3,ih4,ih5,ih6⟩:=Y1.mono_l k
  have m0:=@Y14.mono
  have m1:=@Y3.mono
  have m2:=@Y2.mono
  have m3:=@Y0.mono
  refine ⟨?_,?_,?_,?_,?_,?_,?_⟩
  ·intros
   unfold Y1.f
   exact mO
  ·intros
   unfold Y1.l0
   exact mO
  ·intros
   unfold Y1.j1
   exact mO
  ·intros
   unfold Y1.j2
   exact mO
  ·intros
   unfold Y1.j3
   exact mO
  ·intros
   unfold Y1.j4
   exact mO
  ·intros
   unfold Y1.j5
   exact mO
theorem Y1.mono:∀ a0 a1 a2 a3 k,LeO (Y1.f k a0 a1 a2 a3) (Y1.f (k+1) a0 a1 a2 a3):=by
 intro a0 a1 a2 a3 k
 obtain ⟨ih0,ih1,ih2,ih3,ih4,ih5,ih6⟩:=Y1.mono_l k
 exact ih0 a0 a1 a2 a3
def Y1.T17:Bool × List (List Nat × List Nat):=(true,[([],[]),([0],[0]),([1],[1]),([2],[2]),([2],[2]),([2],[2]),([5,2],[2,5]),([4,6,2],[2,4,6]),([7,2],[2,7]),([2],[2]),([2],[2]),([9,10,2],[2,9,10]),([11,2],[2,11]),([3,8,12,2,2],[2,3,8,12]),([13,2],[2,13]),([14,2],[2,14]),([2,15],[2,15])])
def Y1.B17:List Nat:=[0,1,3,7,7,7,39,119,247,7,7,1543,3591,8191,16383,32767,65535]
theorem Y1.tab17:rtab .any (opsOf Tryz.f103 17)=Y1.T17:=by kernel_rfl
theorem Y1.bits17:waitsOk Y1.T17.2 Y1.B17=true:=by kernel_rfl
abbrev Y1.q0:Array Bool:=#[O,O,O,O,O,O,O,O,O,O,O,O,O,O,O,O,O]
abbrev Y1.q1:Array Bool:=#[I,O,O,O,O,O,O,O,O,O,O,O,O,O,O,O,O]
abbrev Y1.q2:Array Bool:=#[I,I,O,O,O,O,O,O,O,O,O,O,O,O,O,O,O]
abbrev Y1.q3:Array Bool:=#[I,I,I,O,O,O,O,O,O,O,O,O,O,O,O,O,O]
abbrev Y1.q4:Array Bool:=#[I,I,I,I,O,O,O,O,O,O,O,O,O,O,O,O,O]
abbrev Y1.q5:Array Bool:=#[I,I,I,I,I,O,O,O,O,O,O,O,O,O,O,O,O]
abbrev Y1.q6:Array Bool:=#[I,I,I,I,I,I,O,O,O,O,O,O,O,O,O,O,O]
abbrev Y1.q7:Array Bool:=#[I,I,I,I,I,I,I,O,O,O,O,O,O,O,O,O,O]
abbrev Y1.q8:Array Bool:=#[I,I,I,I,I,I,I,I,O,O,O,O,O,O,O,O,O]
abbrev Y1.q9:Array Bool:=#[I,I,I,I,I,I,I,I,I,I,I,I,O,O,O,O,O]
abbrev Y1.q10:Array Bool:=#[I,I,I,I,I,I,I,I,I,I,I,I,I,O,O,O,O]
abbrev Y1.q11:Array Bool:=#[I,I,I,I,I,I,I,I,I,I,I,I,I,I,O,O,O]
abbrev Y1.q12:Array Bool:=#[I,I,I,I,I,I,I,I,I,I,I,I,I,I,I,O,O]
abbrev Y1.q13:Array Bool:=#[I,I,I,I,I,I,I,I,I,I,I,I,I,I,I,I,O]
abbrev Y1.q14:Array Bool:=#[I,I,I,I,I,I,I,I,I,I,I,I,I,I,I,I,I]
theorem Y1.calls (k:Nat):∀ (P0_:Nat→Prop) (u9000_:Value) (l0:List (S78)) (a1:Int) (a2:Int) (a3:Int)  (r:List (S78)) (w0 w:World) (hB:Below w0.heap.size w0 w) (ho0:Kd.R k78 78 w w0.heap.size P0_ u9000_ l0) (h:Y1.f k l0 a1 a2 a3=some r),
  Calls Tryz.prog 103 #[u9000_,.int .i64 a1,.int .i64 a2,.int .i64 a3,.func (.func 72) #[] #[]] w fun e w'=>e = .returned (.tuple #[])∧Kd.R k78 78 w' w0.heap.size (fun k_=>(P0_ k_∨w.heap.size≤k_)) u9000_ r∧Below w0.heap.size w0 w'∧Kept w w' (fun k_=>P0_ k_):=by
 induction k using Nat.strongRecOn with
 | _ k ih =>
 intro P0_ u9000_ l0 a1 a2 a3 r w0 w hB ho0 h
 cases k with
 | zero=>exact absurd h (by simp [Y1.f])
 | succ k =>
 simp only [Y1.f] at h
 have hu78:=Tryz.underlying78
 have HO0:=aM (show Kd.R k78 78 w w0.heap.size (fun k_=>(P0_ k_∨w.heap.size≤k_)) u9000_ l0 from Kd.R_mono ho0 (fun k_ hk=>(.inl hk)))
 have HK:=aM (Kept.refl w (fun k_=>P0_ k_))
 have HW0:=aM hB.size
 have HB:=aM hB
 clear hB
 have H:(Y1.l0 k l0 a1 a2 a3 true true)=some r:=h
 clear h
 have H':=aM H
 clear H
 go_enter Tryz.func103,Tryz.ntmps103
 go_wp2
 go_loopg [1,2,3,10,11] k (fun kq v1 v2 v3 v10 v11 w'=>∃ (x0_1:List (S78)) (x1_1:Int) (x2_1:Int) (x3_1:Int) (x10_1:Bool) (x11_1:Bool),v1 = .int .i64 x1_1∧v2 = .int .i64 x2_1∧v3 = .int .i64 x3_1∧v10 = .bool x10_1∧v11 = .bool x11_1∧Aside0 (Y1.l0 kq x0_1 x1_1 x2_1 x3_1 x10_1 x11_1=some r)∧Aside0 (kq≤k)∧Aside0 (Kd.R k78 78 w' w0.heap.size (fun k_=>(P0_ k_∨w.heap.size≤k_)) u9000_ x0_1)∧Aside0 (Kept w w' (fun k_=>P0_ k_))∧Aside0 (Below w0.heap.size w0 w'))
 case atStart=>exact ⟨(l0),(a1),(a2),(a3),(true),(true),(z1_),(z1_),(z1_),(z1_),(z1_),H',⟨Nat.le_refl _⟩,⟨z0_ HO0.out⟩,⟨z6_ HK.out⟩,⟨z3_ HB.out⟩⟩
 case round =>
  clear H'
  try clear p2
  obtain ⟨x0_1,x1_1,x2_1,x3_1,x10_1,x11_1,rfl,rfl,rfl,rfl,rfl,HA,HK1,HO_0,HK,HB⟩:=hrel
  cases gk with
  | zero=>exact absurd HA.out (by simp [Y1.l0])
  | succ k1 =>
   have H:=HA.out
   clear HA
   simp only [Y1.l0] at H
   by_cases c6:(wrap64 (x2_1-x1_1))≤12
   ·rw [if_pos c6] at H
    have c6b0:decide ((wrap64 (x2_1-x1_1))≤12)=true:=dE c6
    clear c6
    replace H:=bS H
    obtain ⟨t308,A70,H⟩:=H
    replace H:(some t308)=some r:=H
    have A7:=aM A70
    clear A70
    obtain rfl:=sI H
    obtain ⟨Ao8,co8,eo8⟩:=Kd.R_slice HO_0.out
    subst eo8
    go_wp2_with (first | ((with_reducible refine gc_ 127 ?_);refine gl_ (some 30) Tryz.func127 #[.slice Ao8 x0_1.length co8,.int .i64 x1_1,.int .i64 x2_1,.func (.func 72) #[] #[]] ?_;(with_reducible refine (Y2.calls k1 (fun k_=>some k_=(.slice Ao8 x0_1.length co8:Value).ownBlock) (.slice Ao8 x0_1.length co8) x0_1 x1_1 x2_1  t308 w0 _ ?s1 ?s2 A7.out).mono ?_);(case s1=>repeat (first | (with_reducible first | exact HB.out | apply below_alloc | apply pw_below_drewN | apply below_drew1) | exact HB.out));(case s2=>exact Kd.R_tight rfl HO_0.out);rintro e w9 ⟨rfl,hy0,hb,hkp⟩;refine ⟨_,rfl,?_⟩;have n0_:=aM (Kd.R_reok rfl hy0 (fun k_ e_=>HO_0.out.1 k_ e_));have n1_:=aM (Kept.then_ (S:=(fun k_=>P0_ k_)) (z6_ HK.out) hkp (fun k_ hs_=>(fun e_=>(HO_0.out.1 k_ e_.symm)) hs_));have n2_:=aM (hb);clear HO_0;clear HK;clear HB;have HO_0:=n0_;have HK:=n1_;have HB:=n2_;clear n0_ n1_ n2_;(try clear hb);(try clear hkp);(try clear hy0)))
    first | go_end0 | ((try simp only [Exit.inBlock,Exit.then]);refine bodyPost_ret (results_none rfl _ _ _) rfl ?_)
    exact ⟨z10_,z0_ HO_0.out,z3_ HB.out,z6_ HK.out⟩
   ·rw [if_neg c6] at H
    have c6b0:decide ((wrap64 (x2_1-x1_1))≤12)=false:=dF c6
    clear c6
    by_cases c10:x3_1=0
    ·rw [if_pos c10] at H
     have c10b0:(x3_1 == 0)=true:=beq_iff_eq.mpr c10
     have c10b1:(x3_1 != 0)=false:=bne_eq_false_iff_eq.mpr c10
     clear c10
     replace H:=bS H
     obtain ⟨_,A110,H⟩:=H
     replace H:(some x0_1)=some r:=H
     have A11:=aM A110
     clear A110
     obtain rfl:=sI H
     obtain ⟨Ao12,co12,eo12⟩:=Kd.R_slice HO_0.out
     subst eo12
     go_wp2_with (first | ((with_reducible refine gc_ 128 ?_);refine gl_ (some 37) Tryz.func128 #[.slice Ao12 x0_1.length co12,.int .i64 x1_1,.int .i64 x2_1,.func (.func 72) #[] #[]] ?_;(with_reducible refine (Y55.calls _ _ x0_1 x1_1 x2_1   _ ?s1 ?s2 A11.out).mono ?_);(case s1=>repeat (first | exact (Kd.R_reads' HO_0.out).2.2 | (with_reducible refine Kd.C_alloc ?_ _) | (with_reducible refine Kd.C_drewN ?_ _) | (with_reducible refine Kd.C_drew ?_)));(case s2=>exact (Kd.R_reads' HO_0.out).2.1);rintro e w' ⟨rfl,⟨nd,rfl⟩⟩;refine ⟨_,rfl,?_⟩))
     first | go_end0 | ((try simp only [Exit.inBlock,Exit.then]);refine bodyPost_ret (results_none rfl _ _ _) rfl ?_)
     exact ⟨z10_,z0_ HO_0.out,z3_ HB.out,z6_ HK.out⟩
    ·rw [if_neg c10] at H
     have c10b0:(x3_1 == 0)=false:=beq_eq_false_iff_ne.mpr c10
     have c10b1:(x3_1 != 0)=true:=bne_iff_ne.mpr c10
     have HC13:=aM H
     clear H
     go_upto_if 39 with (fail)
     go_cut [3] (fun v3 wc=>∃ (kq:Nat) (x3_12:Int),v3 = .int .i64 x3_12∧Aside0 (Y1.j1 kq x0_1 x1_1 x2_1 x3_12 x10_1 x11_1 (wrap64 (x2_1-x1_1))=some r)∧Aside0 (kq≤k1)∧Aside0 (Kd.R k78 78 wc w0.heap.size (fun k_=>(P0_ k_∨w.heap.size≤k_)) u9000_ x0_1)∧Aside0 (Kept w wc (fun k_=>P0_ k_))∧Aside0 (Below w0.heap.size w0 wc))
     case first =>
      have H:=HC13.out
      clear HC13
      by_cases c14:x10_1=true
      ·subst c14
       have H1:(Y1.j1 k1 x0_1 x1_1 x2_1 x3_1 true x11_1 (wrap64 (x2_1-x1_1)))=some r:=by rw [if_pos rfl] at H;exact H
       clear H
       have H:=H1
       clear H1
       have H':=aM H
       clear H
       go_wp2
       go_meet
       case rel=>exact ⟨_,(x3_1),(z1_),H',⟨by have:=HK1.out;first | omega | exact Nat.le_refl _⟩,⟨z0_ HO_0.out⟩,⟨z6_ HK.out⟩,⟨z3_ HB.out⟩⟩
      ·replace c14:=Bool.eq_false_iff.mpr c14
       subst c14
       have H1:((Y43.f x0_1 x1_1 x2_1).bind fun _=>(Y1.j1 k1 x0_1 x1_1 x2_1 (wrap64 (x3_1-1)) false x11_1 (wrap64 (x2_1-x1_1))))=some r:=by rw [if_neg (show ¬ (false=true) by decide)] at H;exact H
       clear H
       have H:=H1
       clear H1
       replace H:=bS H
       obtain ⟨_,A150,H⟩:=H
       replace H:(Y1.j1 k1 x0_1 x1_1 x2_1 (wrap64 (x3_1-1)) false x11_1 (wrap64 (x2_1-x1_1)))=some r:=H
       have A15:=aM A150
       clear A150
       have H':=aM H
       clear H
       obtain ⟨Ao16,co16,eo16⟩:=Kd.R_slice HO_0.out
       subst eo16
       go_wp2_with (first | ((with_reducible refine gc_ 129 ?_);refine gl_ (some 44) Tryz.func129 #[.slice Ao16 x0_1.length co16,.int .i64 x1_1,.int .i64 x2_1,.func (.func 72) #[] #[]] ?_;(with_reducible refine (Y43.calls _ _ x0_1 x1_1 x2_1   _ ?s1 ?s2 A15.out).mono ?_);(case s1=>repeat (first | exact (Kd.R_reads' HO_0.out).2.2 | (with_reducible refine Kd.C_alloc ?_ _) | (with_reducible refine Kd.C_drewN ?_ _) | (with_reducible refine Kd.C_drew ?_)));(case s2=>exact (Kd.R_reads' HO_0.out).2.1);rintro e w' ⟨rfl,⟨nd,rfl⟩⟩;refine ⟨_,rfl,?_⟩))
       go_meet
       case rel=>exact ⟨_,(wrap64 (x3_1-1)),(z1_),H',⟨by have:=HK1.out;first | omega | exact Nat.le_refl _⟩,⟨z0_ HO_0.out⟩,⟨z6_ HK.out⟩,⟨z3_ HB.out⟩⟩
     case rest =>
      clear HC13
      try clear c1
      try clear p2
      try clear c6
      try clear c6b0
      try clear p6
      try clear c7
      try clear c10
      try clear c10b0
      try clear c10b1
      try clear c14
      try clear p2
      obtain ⟨kq,x3_12,rfl,HA,HJ12,HO_0,HK,HB⟩:=hcut
      cases kq with
      | zero=>exact absurd HA.out (by simp [Y1.j1])
      | succ kj12 =>
       have H:=HA.out
       clear HA
       simp only [Y1.j1] at H
       replace H:=bS H
       obtain ⟨⟨t309,t310⟩,A170,H⟩:=H
       replace H:(if t310=2 then ((Y44.f x0_1 x1_1 x2_1).bind fun _=>(Y1.j2 kj12 x0_1 x1_1 x2_1 x3_12 x10_1 x11_1 (wrap64 (x2_1-x1_1)) (wrap64 ((wrap64 (x2_1-1))-(wrap64 (t309-x1_1)))) 1)) else (Y1.j2 kj12 x0_1 x1_1 x2_1 x3_12 x10_1 x11_1 (wrap64 (x2_1-x1_1)) t309 t310))=some r:=H
       have A17:=aM A170
       clear A170
       have HC18:=aM H
       clear H
       obtain ⟨Ao19,co19,eo19⟩:=Kd.R_slice HO_0.out
       subst eo19
       go_upto_if 56 with (first | ((with_reducible refine gc_ 130 ?_);refine gl_ (some 52) Tryz.func130 #[.slice Ao19 x0_1.length co19,.int .i64 x1_1,.int .i64 x2_1,.func (.func 72) #[] #[]] ?_;(with_reducible refine (Y3.calls kj12 _ _ x0_1 x1_1 x2_1  t309 t310 _ ?s1 ?s2 A17.out).mono ?_);(case s1=>repeat (first | exact (Kd.R_reads' HO_0.out).2.2 | (with_reducible refine Kd.C_alloc ?_ _) | (with_reducible refine Kd.C_drewN ?_ _) | (with_reducible refine Kd.C_drew ?_)));(case s2=>exact (Kd.R_reads' HO_0.out).2.1);rintro e w20 ⟨rfl,hb⟩;refine ⟨_,rfl,?_⟩;have n0_:=aM (Kd.R_below (z0_ HO_0.out) hb);have n1_:=aM (Kept.below (S:=(fun k_=>P0_ k_)) (z6_ HK.out) hb);have n2_:=aM (below_step (z3_ HB.out) hb);clear HO_0;clear HK;clear HB;have HO_0:=n0_;have HK:=n1_;have HB:=n2_;clear n0_ n1_ n2_;(try clear hb)))
       (try simp only [Act.put,sa_,s0_,ss_])
       go_cut [13,14] (fun v13 v14 wc=>∃ (kq:Nat) (x13_17:Int) (x14_17:Int),v13 = .int .i64 x13_17∧v14 = .int .i64 x14_17∧Aside0 (Y1.j2 kq x0_1 x1_1 x2_1 x3_12 x10_1 x11_1 (wrap64 (x2_1-x1_1)) x13_17 x14_17=some r)∧Aside0 (kq≤kj12)∧Aside0 (Kd.R k78 78 wc w0.heap.size (fun k_=>(P0_ k_∨w.heap.size≤k_)) (.slice Ao19 x0_1.length co19) x0_1)∧Aside0 (Kept w wc (fun k_=>P0_ k_))∧Aside0 (Below w0.heap.size w0 wc))
       case first =>
        have H:=HC18.out
        clear HC18
        by_cases c21:t310=2
        ·rw [if_pos c21] at H
         have c21b0:(t310 == 2)=true:=beq_iff_eq.mpr c21
         have c21b1:(t310 != 2)=false:=bne_eq_false_iff_eq.mpr c21
         clear c21
         (first | rw [c21b0] | (simp only [i64_w,i32_w];rw [c21b0]) | skip)
         replace H:=bS H
         obtain ⟨_,A220,H⟩:=H
         replace H:(Y1.j2 kj12 x0_1 x1_1 x2_1 x3_12 x10_1 x11_1 (wrap64 (x2_1-x1_1)) (wrap64 ((wrap64 (x2_1-1))-(wrap64 (t309-x1_1)))) 1)=some r:=H
         have A22:=aM A220
         clear A220
         have H':=aM H
         clear H
         go_wp2_with (first | ((with_reducible refine gc_ 131 ?_);refine gl_ (some 61) Tryz.func131 #[.slice Ao19 x0_1.length co19,.int .i64 x1_1,.int .i64 x2_1,.func (.func 72) #[] #[]] ?_;(with_reducible refine (Y44.calls _ _ x0_1 x1_1 x2_1   _ ?s1 ?s2 A22.out).mono ?_);(case s1=>repeat (first | exact (Kd.R_reads' HO_0.out).2.2 | (with_reducible refine Kd.C_alloc ?_ _) | (with_reducible refine Kd.C_drewN ?_ _) | (with_reducible refine Kd.C_drew ?_)));(case s2=>exact (Kd.R_reads' HO_0.out).2.1);rintro e w' ⟨rfl,⟨nd,rfl⟩⟩;refine ⟨_,rfl,?_⟩))
         go_meet
         case rel=>exact ⟨_,(wrap64 ((wrap64 (x2_1-1))-(wrap64 (t309-x1_1)))),(1),(z1_),(z1_),H',⟨by have:=HK1.out;have:=HJ12.out;first | omega | exact Nat.le_refl _⟩,⟨z0_ HO_0.out⟩,⟨z6_ HK.out⟩,⟨z3_ HB.out⟩⟩
        ·rw [if_neg c21] at H
         have c21b0:(t310 == 2)=false:=beq_eq_false_iff_ne.mpr c21
         have c21b1:(t310 != 2)=true:=bne_iff_ne.mpr c21
         (first | rw [c21b0] | (simp only [i64_w,i32_w];rw [c21b0]) | skip)
         have H':=aM H
         clear H
         go_wp2
         go_meet
         case rel=>exact ⟨_,(t309),(t310),(z1_),(z1_),H',⟨by have:=HK1.out;have:=HJ12.out;first | omega | exact Nat.le_refl _⟩,⟨z0_ HO_0.out⟩,⟨z6_ HK.out⟩,⟨z3_ HB.out⟩⟩
       case rest =>
        clear HC18
        try clear c1
        try clear c2
        try clear p2
        try clear c6
        try clear c6b0
        try clear p6
        try clear c7
        try clear c10
        try clear c10b0
        try clear c10b1
        try clear c14
        try clear c21
        try clear c21b0
        try clear c21b1
        try clear p2
        try clear p6
        obtain ⟨kq,x13_17,x14_17,rfl,rfl,HA,HJ17,HO_0,HK,HB⟩:=hcut
        cases kq with
        | zero=>exact absurd HA.out (by simp [Y1.j2])
        | succ kj17 =>
         have H:=HA.out
         clear HA
         simp only [Y1.j2] at H
         have HC23:=aM H
         clear H
         go_upto_region 15 with (fail)
         go_cut [75] (fun v75 wc=>∃ (kq:Nat) (x75_22:Bool),v75 = .bool x75_22∧Aside0 (Y1.j3 kq x0_1 x1_1 x2_1 x3_12 x10_1 x11_1 (wrap64 (x2_1-x1_1)) x13_17 x75_22=some r)∧Aside0 (kq≤kj17)∧Aside0 (Kd.R k78 78 wc w0.heap.size (fun k_=>(P0_ k_∨w.heap.size≤k_)) (.slice Ao19 x0_1.length co19) x0_1)∧Aside0 (Kept w wc (fun k_=>P0_ k_))∧Aside0 (Below w0.heap.size w0 wc))
         case first =>
          have H:=HC23.out
          clear HC23
          by_cases c24:x10_1=true
          ·subst c24
           have H1:(if x11_1=true then (Y1.j3 kj17 x0_1 x1_1 x2_1 x3_12 true x11_1 (wrap64 (x2_1-x1_1)) x13_17 (x14_17 == 1)) else (Y1.j3 kj17 x0_1 x1_1 x2_1 x3_12 true x11_1 (wrap64 (x2_1-x1_1)) x13_17 false))=some r:=by rw [if_pos rfl] at H;exact H
           clear H
           have H:=H1
           clear H1
           by_cases c25:x11_1=true
           ·subst c25
            have H1:(Y1.j3 kj17 x0_1 x1_1 x2_1 x3_12 true true (wrap64 (x2_1-x1_1)) x13_17 (x14_17 == 1))=some r:=by rw [if_pos rfl] at H;exact H
            clear H
            have H:=H1
            clear H1
            have H':=aM H
            clear H
            go_wp2
            go_meet
            case rel=>exact ⟨_,((x14_17 == 1)),(z1_),H',⟨z21_ HK1.out HJ12.out HJ17.out⟩,⟨z0_ HO_0.out⟩,⟨z6_ HK.out⟩,⟨z3_ HB.out⟩⟩
           ·replace c25:=Bool.eq_false_iff.mpr c25
            subst c25
            have H1:(Y1.j3 kj17 x0_1 x1_1 x2_1 x3_12 true false (wrap64 (x2_1-x1_1)) x13_17 false)=some r:=by rw [if_neg (show ¬ (false=true) by decide)] at H;exact H
            clear H
            have H:=H1
            clear H1
            have H':=aM H
            clear H
            go_wp2
            go_meet
            case rel=>exact ⟨_,(false),(z1_),H',⟨z21_ HK1.out HJ12.out HJ17.out⟩,⟨z0_ HO_0.out⟩,⟨z6_ HK.out⟩,⟨z3_ HB.out⟩⟩
          ·replace c24:=Bool.eq_false_iff.mpr c24
           subst c24
           have H1:(Y1.j3 kj17 x0_1 x1_1 x2_1 x3_12 false x11_1 (wrap64 (x2_1-x1_1)) x13_17 false)=some r:=by rw [if_neg (show ¬ (false=true) by decide)] at H;exact H
           clear H
           have H:=H1
           clear H1
           have H':=aM H
           clear H
           go_wp2
           go_meet
           case rel=>exact ⟨_,(false),(z1_),H',⟨z21_ HK1.out HJ12.out HJ17.out⟩,⟨z0_ HO_0.out⟩,⟨z6_ HK.out⟩,⟨z3_ HB.out⟩⟩
         case rest =>
          clear HC23
          try clear c1
          try clear c2
          try clear p2
          try clear c6
          try clear c6b0
          try clear p6
          try clear c7
          try clear c10
          try clear c10b0
          try clear c10b1
          try clear c14
          try clear c21
          try clear c21b0
          try clear c21b1
          try clear c24
          try clear c25
          try clear p2
          try clear p6
          obtain ⟨kq,x75_22,rfl,HA,HJ22,HO_0,HK,HB⟩:=hcut
          cases kq with
          | zero=>exact absurd HA.out (by simp [Y1.j3])
          | succ kj22 =>
           have H:=HA.out
           clear HA
           simp only [Y1.j3] at H
           have HC26:=aM H
           clear H
           go_upto_if 75 with (fail)
           go_cut [] (fun wc=>∃ (kq:Nat),Aside0 (Y1.j4 kq x0_1 x1_1 x2_1 x3_12 x10_1 x11_1 (wrap64 (x2_1-x1_1)) x13_17=some r)∧Aside0 (kq≤kj22)∧Aside0 (Kd.R k78 78 wc w0.heap.size (fun k_=>(P0_ k_∨w.heap.size≤k_)) (.slice Ao19 x0_1.length co19) x0_1)∧Aside0 (Kept w wc (fun k_=>P0_ k_))∧Aside0 (Below w0.heap.size w0 wc))
           case first =>
            have H:=HC26.out
            clear HC26
            by_cases c27:x75_22=true
            ·subst c27
             have H1:((Y25.f x0_1 x1_1 x2_1).bind fun t311=>(if t311=true then (some x0_1) else (Y1.j4 kj22 x0_1 x1_1 x2_1 x3_12 x10_1 x11_1 (wrap64 (x2_1-x1_1)) x13_17)))=some r:=by rw [if_pos rfl] at H;exact H
             clear H
             have H:=H1
             clear H1
             replace H:=bS H
             obtain ⟨t311,A280,H⟩:=H
             replace H:(if t311=true then (some x0_1) else (Y1.j4 kj22 x0_1 x1_1 x2_1 x3_12 x10_1 x11_1 (wrap64 (x2_1-x1_1)) x13_17))=some r:=H
             have A28:=aM A280
             clear A280
             by_cases c29:t311=true
             ·subst c29
              have H1:(some x0_1)=some r:=by rw [if_pos rfl] at H;exact H
              clear H
              have H:=H1
              clear H1
              obtain rfl:=sI H
              go_wp2_with (first | ((with_reducible refine gc_ 132 ?_);refine gl_ (some 80) Tryz.func132 #[.slice Ao19 x0_1.length co19,.int .i64 x1_1,.int .i64 x2_1,.func (.func 72) #[] #[]] ?_;(with_reducible refine (Y25.calls _ _ x0_1 x1_1 x2_1  true _ ?s1 ?s2 A28.out).mono ?_);(case s1=>repeat (first | exact (Kd.R_reads' HO_0.out).2.2 | (with_reducible refine Kd.C_alloc ?_ _) | (with_reducible refine Kd.C_drewN ?_ _) | (with_reducible refine Kd.C_drew ?_)));(case s2=>exact (Kd.R_reads' HO_0.out).2.1);rintro e w' ⟨rfl,⟨nd,rfl⟩⟩;refine ⟨_,rfl,?_⟩))
              first | go_end0 | ((try simp only [Exit.inBlock,Exit.then]);refine bodyPost_ret (results_none rfl _ _ _) rfl ?_)
              exact ⟨z10_,z0_ HO_0.out,z3_ HB.out,z6_ HK.out⟩
             ·replace c29:=Bool.eq_false_iff.mpr c29
              subst c29
              have H1:(Y1.j4 kj22 x0_1 x1_1 x2_1 x3_12 x10_1 x11_1 (wrap64 (x2_1-x1_1)) x13_17)=some r:=by rw [if_neg (show ¬ (false=true) by decide)] at H;exact H
              clear H
              have H:=H1
              clear H1
              have H':=aM H
              clear H
              go_wp2_with (first | ((with_reducible refine gc_ 132 ?_);refine gl_ (some 80) Tryz.func132 #[.slice Ao19 x0_1.length co19,.int .i64 x1_1,.int .i64 x2_1,.func (.func 72) #[] #[]] ?_;(with_reducible refine (Y25.calls _ _ x0_1 x1_1 x2_1  false _ ?s1 ?s2 A28.out).mono ?_);(case s1=>repeat (first | exact (Kd.R_reads' HO_0.out).2.2 | (with_reducible refine Kd.C_alloc ?_ _) | (with_reducible refine Kd.C_drewN ?_ _) | (with_reducible refine Kd.C_drew ?_)));(case s2=>exact (Kd.R_reads' HO_0.out).2.1);rintro e w' ⟨rfl,⟨nd,rfl⟩⟩;refine ⟨_,rfl,?_⟩))
              go_meet
              case rel=>exact ⟨_,H',⟨by have:=HK1.out;have:=HJ12.out;have:=HJ17.out;have:=HJ22.out;first | omega | exact Nat.le_refl _⟩,⟨z0_ HO_0.out⟩,⟨z6_ HK.out⟩,⟨z3_ HB.out⟩⟩
            ·replace c27:=Bool.eq_false_iff.mpr c27
             subst c27
             have H1:(Y1.j4 kj22 x0_1 x1_1 x2_1 x3_12 x10_1 x11_1 (wrap64 (x2_1-x1_1)) x13_17)=some r:=by rw [if_neg (show ¬ (false=true) by decide)] at H;exact H
             clear H
             have H:=H1
             clear H1
             have H':=aM H
             clear H
             go_wp2
             go_meet
             case rel=>exact ⟨_,H',⟨by have:=HK1.out;have:=HJ12.out;have:=HJ17.out;have:=HJ22.out;first | omega | exact Nat.le_refl _⟩,⟨z0_ HO_0.out⟩,⟨z6_ HK.out⟩,⟨z3_ HB.out⟩⟩
           case rest =>
            clear HC26
            try clear c1
            try clear c2
            try clear p2
            try clear c6
            try clear c6b0
            try clear p6
            try clear c7
            try clear c10
            try clear c10b0
            try clear c10b1
            try clear c14
            try clear c21
            try clear c21b0
            try clear c21b1
            try clear c24
            try clear c25
            try clear c27
            try clear c29
            try clear p2
            try clear p6
            obtain ⟨kq,HA,HJ25,HO_0,HK,HB⟩:=hcut
            cases kq with
            | zero=>exact absurd HA.out (by simp [Y1.j4])
            | succ kj25 =>
             have H:=HA.out
             clear HA
             simp only [Y1.j4] at H
             have HC30:=aM H
             clear H
             go_upto_region 17 with (fail)
             go_cut [97] (fun v97 wc=>∃ (kq:Nat) (x97_29:Bool),v97 = .bool x97_29∧Aside0 (Y1.j5 kq x0_1 x1_1 x2_1 x3_12 x10_1 x11_1 (wrap64 (x2_1-x1_1)) x13_17 x97_29=some r)∧Aside0 (kq≤kj25)∧Aside0 (Kd.R k78 78 wc w0.heap.size (fun k_=>(P0_ k_∨w.heap.size≤k_)) (.slice Ao19 x0_1.length co19) x0_1)∧Aside0 (Kept w wc (fun k_=>P0_ k_))∧Aside0 (Below w0.heap.size w0 wc))
             case first =>
              have H:=HC30.out
              clear HC30
              by_cases c31:x1_1>0
              ·rw [if_pos c31] at H
               have c31b0:decide (0<x1_1)=true:=dE c31
               clear c31
               (first | rw [c31b0] | (simp only [i64_w,i32_w];rw [c31b0]) | skip)
               obtain ⟨ji32,hji32⟩:∃ j_:Int,(wrap64 (x1_1-1))=j_:=⟨_,rfl⟩
               replace H:(if 0≤(ji32) then (if (ji32)<(x0_1.length:Int) then (if 0≤x13_17 then (if x13_17<(x0_1.length:Int) then ((Y14.f kj25 ((rd_T78 x0_1 (ji32)).f0) ((rd_T78 x0_1 (ji32)).f1) ((rd_T78 x0_1 x13_17).f0) ((rd_T78 x0_1 x13_17).f1)).bind fun t314=>(Y1.j5 kj25 x0_1 x1_1 x2_1 x3_12 x10_1 x11_1 (wrap64 (x2_1-x1_1)) x13_17 (!(decide (t314<0))))) else (none)) else (none)) else (none)) else (none))=some r:=by first | (rw [hji32] at H;exact H) | (simp only [hji32] at H ⊢;exact H)
               have hji32w:(IntKind.i64.wrap (x1_1-1))=ji32:=(i64_w _).trans hji32
               by_cases c33:0≤(ji32)
               ·rw [if_pos c33] at H
                have c33b0:decide (0≤(ji32))=true:=dE c33
                clear c33
                by_cases c34:(ji32)<(x0_1.length:Int)
                ·rw [if_pos c34] at H
                 have c34b0:decide ((ji32)<(x0_1.length:Int))=true:=dE c34
                 clear c34
                 by_cases c35:0≤x13_17
                 ·rw [if_pos c35] at H
                  have c35b0:decide (0≤x13_17)=true:=dE c35
                  clear c35
                  by_cases c36:x13_17<(x0_1.length:Int)
                  ·rw [if_pos c36] at H
                   have c36b0:decide (x13_17<(x0_1.length:Int))=true:=dE c36
                   clear c36
                   replace H:=bS H
                   obtain ⟨t314,A370,H⟩:=H
                   replace H:(Y1.j5 kj25 x0_1 x1_1 x2_1 x3_12 x10_1 x11_1 (wrap64 (x2_1-x1_1)) x13_17 (!(decide (t314<0))))=some r:=H
                   have A37:=aM A370
                   clear A370
                   have H':=aM H
                   clear H
                   try go_wp2
                   have n0_:=aM (Kd.R_drew HO_0.out)
                   have n1_:=aM (Kept.drew HK.out)
                   have n2_:=aM (below_drew1 HB.out)
                   clear HO_0
                   clear HK
                   clear HB
                   have HO_0:=n0_
                   have HK:=n1_
                   have HB:=n2_
                   clear n0_ n1_ n2_
                   have p312:0≤((ji32):Int):=dT (z2_)
                   have q312:(ji32)<(x0_1.length:Int):=dT (z2_)
                   obtain ⟨ad312,e312,hx312_0,hx312_1⟩:=at_T78 (Kd.R_reads' HO_0.out).2.2 (ji32) p312 q312
                   cases e312
                   replace p312:=eq_true p312
                   replace q312:=eq_true q312
                   have p313:0≤(x13_17:Int):=dT (z2_)
                   have q313:x13_17<(x0_1.length:Int):=dT (z2_)
                   obtain ⟨ad313,e313,hx313_0,hx313_1⟩:=at_T78 (Kd.R_reads' HO_0.out).2.2 x13_17 p313 q313
                   obtain rfl:ad312=ad313:=(by injection e313)
                   replace p313:=eq_true p313
                   replace q313:=eq_true q313
                   refine start_ (n:=17) (S:=fun w'=>w'.cell? (ad312.add (((ji32)).toNat*2))=some (.int .i64 ((rd_T78 x0_1 (ji32)).f0))∧w'.cell? ⟨(ad312.add (((ji32)).toNat*2)).block,(ad312.add (((ji32)).toNat*2)).off+1,none⟩=some (.int .i64 ((rd_T78 x0_1 (ji32)).f1))∧w'.cell? (ad312.add ((x13_17).toNat*2))=some (.int .i64 ((rd_T78 x0_1 x13_17).f0))∧w'.cell? ⟨(ad312.add ((x13_17).toNat*2)).block,(ad312.add ((x13_17).toNat*2)).off+1,none⟩=some (.int .i64 ((rd_T78 x0_1 x13_17).f1))) (ds:=[]) Y1.q0 (by kernel_rfl) rfl rfl ⟨hx312_0,hx312_1,hx313_0,hx313_1⟩ (fun hHeld=>?_);refine with_tabW Y1.tab17 Y1.bits17 (fun HT_ HW_=>?_)
                   generalize wc.drew=w38 at HO_0 HK HB hx312_0 hx312_1 hx313_0 hx313_1 hHeld ⊢
                   refine pu_ 0 81 Y1.q1 HT_.out ?_
                   refine pu_ 1 82 Y1.q2 HT_.out ?_
                   refine pu_ 2 83 Y1.q3 HT_.out ?_
                   refine pu_ 3 84 Y1.q4 HT_.out ?_
                   refine pu_ 4 85 Y1.q5 HT_.out ?_
                   refine pu_ 5 86 Y1.q6 HT_.out ?_
                   refine pu_ 6 87 Y1.q7 HT_.out ?_
                   refine pu_ 7 88 Y1.q8 HT_.out ?_
                   refine pu_ 9 90 #[I,I,I,I,I,I,I,I,O,I,O,O,O,O,O,O,O] HT_.out ?_
                   refine pu_ 10 91 #[I,I,I,I,I,I,I,I,O,I,I,O,O,O,O,O,O] HT_.out ?_
                   refine pu_ 11 92 #[I,I,I,I,I,I,I,I,O,I,I,I,O,O,O,O,O] HT_.out ?_
                   refine tk4_ 8 89 Y1.q9 HT_.out HW_.out hHeld ?_
                   refine tk4_ 12 93 Y1.q10 HT_.out HW_.out hHeld ?_
                   refine o1_ 13 94 Y1.q11 HT_.out (fun K hK=>?_)
                   refine goesD_ Tryz.func72 (by kernel_rfl) rfl #[.agg #[.int .i64 ((rd_T78 x0_1 (ji32)).f0),.int .i64 ((rd_T78 x0_1 (ji32)).f1)],.agg #[.int .i64 ((rd_T78 x0_1 x13_17).f0),.int .i64 ((rd_T78 x0_1 x13_17).f1)]] (by rfl) rfl rfl (by rfl) (by (try simp only [List.map_toArray,List.map_cons,List.map_nil]);first | done | (simp only [hji32];rfl) | rfl | (simp only [List.length_drop,List.length_take];rfl)) ?_
                   with_reducible refine (Y14.calls kj25 ((rd_T78 x0_1 (ji32)).f0) ((rd_T78 x0_1 (ji32)).f1) ((rd_T78 x0_1 x13_17).f0) ((rd_T78 x0_1 x13_17).f1) t314 _ A37.out).mono ?_
                   rintro e w39 ⟨rfl,hb⟩
                   have HS0_:=(hb.cell (World.block_lt_of_cell? _ _ (hHeld.1))).trans (hHeld.1)
                   have HS1_:=(hb.cell (World.block_lt_of_cell? _ _ (hHeld.2.1))).trans (hHeld.2.1)
                   have HS2_:=(hb.cell (World.block_lt_of_cell? _ _ (hHeld.2.2.1))).trans (hHeld.2.2.1)
                   have HS3_:=(hb.cell (World.block_lt_of_cell? _ _ (hHeld.2.2.2))).trans (hHeld.2.2.2)
                   refine ⟨_,rfl,?_⟩
                   have n0_:=aM (Kd.R_below (z0_ HO_0.out) hb)
                   have n1_:=aM (Kept.below (S:=(fun k_=>P0_ k_)) (z6_ HK.out) hb)
                   have n2_:=aM (below_step (z3_ HB.out) hb)
                   clear HO_0
                   clear HK
                   clear HB
                   have HO_0:=n0_
                   have HK:=n1_
                   have HB:=n2_
                   clear n0_ n1_ n2_
                   (try clear hb)
                   refine hK.out _ _ ⟨HS0_,HS1_,HS2_,HS3_⟩ (fun hHeld=>?_)
                   clear hK K
                   refine nm_ 94 ?_
                   refine pu_ 14 95 Y1.q12 HT_.out ?_
                   refine pu_ 15 96 Y1.q13 HT_.out ?_
                   refine pu_ 16 97 Y1.q14 HT_.out ?_
                   refine done_ (done_of HT_.out (by kernel_rfl)) ?_
                   try go_wp2
                   go_meet
                   case rel=>exact ⟨_,(!(decide (t314<0))),(z1_),H',⟨by have:=HK1.out;have:=HJ12.out;have:=HJ17.out;have:=HJ22.out;have:=HJ25.out;first | omega | exact Nat.le_refl _⟩,⟨z0_ HO_0.out⟩,⟨z6_ HK.out⟩,⟨z3_ HB.out⟩⟩
                  ·rw [if_neg c36] at H
                   exact nO H
                 ·rw [if_neg c35] at H
                  exact nO H
                ·rw [if_neg c34] at H
                 exact nO H
               ·rw [if_neg c33] at H
                exact nO H
              ·rw [if_neg c31] at H
               have c31b0:decide (0<x1_1)=false:=dF c31
               clear c31
               (first | rw [c31b0] | (simp only [i64_w,i32_w];rw [c31b0]) | skip)
               have H':=aM H
               clear H
               try go_wp2
               have n0_:=aM (Kd.R_drew HO_0.out)
               have n1_:=aM (Kept.drew HK.out)
               have n2_:=aM (below_drew1 HB.out)
               clear HO_0
               clear HK
               clear HB
               have HO_0:=n0_
               have HK:=n1_
               have HB:=n2_
               clear n0_ n1_ n2_
               refine start_ (n:=17) (S:=fun w'=>True) (ds:=[]) Y1.q0 (by kernel_rfl) rfl rfl trivial (fun hHeld=>?_);refine with_tabW Y1.tab17 Y1.bits17 (fun HT_ HW_=>?_)
               generalize wc.drew=w40 at HO_0 HK HB hHeld ⊢
               refine pu_ 0 81 Y1.q1 HT_.out ?_
               refine pu_ 1 82 Y1.q2 HT_.out ?_
               refine pu_ 2 83 Y1.q3 HT_.out ?_
               refine pn_ 3 84 Y1.q4 HT_.out ?_
               refine pn_ 4 85 Y1.q5 HT_.out ?_
               refine pn_ 5 86 Y1.q6 HT_.out ?_
               refine pn_ 6 87 Y1.q7 HT_.out ?_
               refine pn_ 7 88 Y1.q8 HT_.out ?_
               refine pn_ 8 89 #[I,I,I,I,I,I,I,I,I,O,O,O,O,O,O,O,O] HT_.out ?_
               refine pn_ 9 90 #[I,I,I,I,I,I,I,I,I,I,O,O,O,O,O,O,O] HT_.out ?_
               refine pn_ 10 91 #[I,I,I,I,I,I,I,I,I,I,I,O,O,O,O,O,O] HT_.out ?_
               refine pn_ 11 92 Y1.q9 HT_.out ?_
               refine pn_ 12 93 Y1.q10 HT_.out ?_
               refine pn_ 13 94 Y1.q11 HT_.out ?_
               refine pn_ 14 95 Y1.q12 HT_.out ?_
               refine pn_ 15 96 Y1.q13 HT_.out ?_
               refine pu_ 16 97 Y1.q14 HT_.out ?_
               refine done_ (done_of HT_.out (by kernel_rfl)) ?_
               try go_wp2
               go_meet
               case rel=>exact ⟨_,(false),(z1_),H',⟨by have:=HK1.out;have:=HJ12.out;have:=HJ17.out;have:=HJ22.out;have:=HJ25.out;first | omega | exact Nat.le_refl _⟩,⟨z0_ HO_0.out⟩,⟨z6_ HK.out⟩,⟨z3_ HB.out⟩⟩
             case rest =>
              clear HC30
              try clear c1
              try clear c2
              try clear p2
              try clear c3
              try clear p3
              try clear q3
              try clear hx3
              try clear c6
              try clear c6b0
              try clear p6
              try clear c7
              try clear c10
              try clear c10b0
              try clear c10b1
              try clear c14
              try clear c21
              try clear c21b0
              try clear c21b1
              try clear c24
              try clear c25
              try clear c27
              try clear c29
              try clear c31
              try clear c31b0
              try clear p31
              try clear q31
              try clear hx31
              try clear c33
              try clear c33b0
              try clear c34
              try clear c34b0
              try clear c35
              try clear c35b0
              try clear c36
              try clear c36b0
              try clear hx312_0
              try clear hx312_1
              try clear hx313_0
              try clear hx313_1
              try clear p2
              try clear p312
              try clear p313
              try clear p6
              try clear q312
              try clear q313
              obtain ⟨kq,x97_29,rfl,HA,HJ29,HO_0,HK,HB⟩:=hcut
              cases kq with
              | zero=>exact absurd HA.out (by simp [Y1.j5])
              | succ kj29 =>
               have H:=HA.out
               clear HA
               simp only [Y1.j5] at H
               by_cases c41:x97_29=true
               ·subst c41
                have H1:((Y39.f x0_1 x1_1 x2_1 x13_17).bind fun t315=>(Y1.l0 kj29 x0_1 t315 x2_1 x3_12 x10_1 x11_1))=some r:=by rw [if_pos rfl] at H;exact H
                clear H
                have H:=H1
                clear H1
                replace H:=bS H
                obtain ⟨t315,A420,H⟩:=H
                replace H:(Y1.l0 kj29 x0_1 t315 x2_1 x3_12 x10_1 x11_1)=some r:=H
                have A42:=aM A420
                clear A420
                have H':=aM H
                clear H
                go_wp2_with (first | ((with_reducible refine gc_ 133 ?_);refine gl_ (some 103) Tryz.func133 #[.slice Ao19 x0_1.length co19,.int .i64 x1_1,.int .i64 x2_1,.int .i64 x13_17,.func (.func 72) #[] #[]] ?_;(with_reducible refine (Y39.calls _ _ x0_1 x1_1 x2_1 x13_17  t315 _ ?s1 ?s2 A42.out).mono ?_);(case s1=>repeat (first | exact (Kd.R_reads' HO_0.out).2.2 | (with_reducible refine Kd.C_alloc ?_ _) | (with_reducible refine Kd.C_drewN ?_ _) | (with_reducible refine Kd.C_drew ?_)));(case s2=>exact (Kd.R_reads' HO_0.out).2.1);rintro e w' ⟨rfl,⟨nd,rfl⟩⟩;refine ⟨_,rfl,?_⟩))
                go_roundg kj29
                case measure=>have:=HK1.out;have:=HJ12.out;have:=HJ17.out;have:=HJ22.out;have:=HJ25.out;have:=HJ29.out;omega
                case rel=>exact ⟨(x0_1),(t315),(x2_1),(x3_12),(x10_1),(x11_1),(z1_),(z1_),(z1_),(z1_),(z1_),H',⟨by have:=HK1.out;have:=HJ12.out;have:=HJ17.out;have:=HJ22.out;have:=HJ25.out;have:=HJ29.out;omega⟩,⟨z0_ HO_0.out⟩,⟨z6_ HK.out⟩,⟨z3_ HB.out⟩⟩
               ·replace c41:=Bool.eq_false_iff.mpr c41
                subst c41
                have H1:((Y0.f kj29 x0_1 x1_1 x2_1 x13_17).bind fun bt316=>(if (wrap64 (bt316.1-x1_1))<(wrap64 (x2_1-bt316.1)) then ((Y1.f kj29 bt316.2.2 x1_1 bt316.1 x3_12).bind fun t319=>(Y1.l0 kj29 t319 (wrap64 (bt316.1+1)) x2_1 x3_12 (decide ((wrap64 (bt316.1-x1_1))≥(wrap64 (Int.tdiv (wrap64 (x2_1-x1_1)) 8)))) bt316.2.1)) else ((Y1.f kj29 bt316.2.2 (wrap64 (bt316.1+1)) x2_1 x3_12).bind fun t320=>(Y1.l0 kj29 t320 x1_1 bt316.1 x3_12 (decide ((wrap64 (x2_1-bt316.1))≥(wrap64 (Int.tdiv (wrap64 (x2_1-x1_1)) 8)))) bt316.2.1))))=some r:=by rw [if_neg (show ¬ (false=true) by decide)] at H;exact H
                clear H
                have H:=H1
                clear H1
                replace H:=bS H
                obtain ⟨⟨t316,t317,t318⟩,A430,H⟩:=H
                replace H:(if (wrap64 (t316-x1_1))<(wrap64 (x2_1-t316)) then ((Y1.f kj29 t318 x1_1 t316 x3_12).bind fun t319=>(Y1.l0 kj29 t319 (wrap64 (t316+1)) x2_1 x3_12 (decide ((wrap64 (t316-x1_1))≥(wrap64 (Int.tdiv (wrap64 (x2_1-x1_1)) 8)))) t317)) else ((Y1.f kj29 t318 (wrap64 (t316+1)) x2_1 x3_12).bind fun t320=>(Y1.l0 kj29 t320 x1_1 t316 x3_12 (decide ((wrap64 (x2_1-t316))≥(wrap64 (Int.tdiv (wrap64 (x2_1-x1_1)) 8)))) t317)))=some r:=H
                have A43:=aM A430
                clear A430
                by_cases c44:(wrap64 (t316-x1_1))<(wrap64 (x2_1-t316))
                ·rw [if_pos c44] at H
                 have c44b0:decide ((wrap64 (t316-x1_1))<(wrap64 (x2_1-t316)))=true:=dE c44
                 clear c44
                 replace H:=bS H
                 obtain ⟨t319,A450,H⟩:=H
                 replace H:(Y1.l0 kj29 t319 (wrap64 (t316+1)) x2_1 x3_12 (decide ((wrap64 (t316-x1_1))≥(wrap64 (Int.tdiv (wrap64 (x2_1-x1_1)) 8)))) t317)=some r:=H
                 have A45:=aM A450
                 clear A450
                 have H':=aM H
                 clear H
                 go_wp2_with (first | ((with_reducible refine gc_ 134 ?_);refine gl_ (some 111) Tryz.func134 #[.slice Ao19 x0_1.length co19,.int .i64 x1_1,.int .i64 x2_1,.int .i64 x13_17,.func (.func 72) #[] #[]] ?_;(with_reducible refine (Y0.calls kj29 (fun k_=>some k_=(.slice Ao19 x0_1.length co19:Value).ownBlock) (.slice Ao19 x0_1.length co19) x0_1 x1_1 x2_1 x13_17  t316 t317 t318 w0 _ ?s1 ?s2 A43.out).mono ?_);(case s1=>repeat (first | (with_reducible first | exact HB.out | apply below_alloc | apply pw_below_drewN | apply below_drew1) | exact HB.out));(case s2=>exact Kd.R_tight rfl HO_0.out);rintro e w46 ⟨rfl,hy0,hb,hkp⟩;refine ⟨_,rfl,?_⟩;have n0_:=aM (Kd.R_reok rfl hy0 (fun k_ e_=>HO_0.out.1 k_ e_));have n1_:=aM (Kept.then_ (S:=(fun k_=>P0_ k_)) (z6_ HK.out) hkp (fun k_ hs_=>(fun e_=>(HO_0.out.1 k_ e_.symm)) hs_));have n2_:=aM (hb);clear HO_0;clear HK;clear HB;have HO_0:=n0_;have HK:=n1_;have HB:=n2_;clear n0_ n1_ n2_;(try clear hb);(try clear hkp);(try clear hy0)) | ((with_reducible refine gc_ 103 ?_);refine gl_ (some 134) Tryz.func103 #[.slice Ao19 x0_1.length co19,.int .i64 x1_1,.int .i64 t316,.int .i64 x3_12,.func (.func 72) #[] #[]] ?_;(with_reducible refine (ih kj29 (by have:=HK1.out;have:=HJ12.out;have:=HJ17.out;have:=HJ22.out;have:=HJ25.out;have:=HJ29.out;omega) (fun k_=>some k_=(.slice Ao19 x0_1.length co19:Value).ownBlock) (.slice Ao19 x0_1.length co19) t318 x1_1 t316 x3_12  t319 w0 _ ?s1 ?s2 A45.out).mono ?_);(case s1=>repeat (first | (with_reducible first | exact HB.out | apply below_alloc | apply pw_below_drewN | apply below_drew1) | exact HB.out));(case s2=>exact Kd.R_tight rfl HO_0.out);rintro e w47 ⟨rfl,hy0,hb,hkp⟩;refine ⟨_,rfl,?_⟩;have n0_:=aM (Kd.R_reok rfl hy0 (fun k_ e_=>HO_0.out.1 k_ e_));have n1_:=aM (Kept.then_ (S:=(fun k_=>P0_ k_)) (z6_ HK.out) hkp (fun k_ hs_=>(fun e_=>(HO_0.out.1 k_ e_.symm)) hs_));have n2_:=aM (hb);clear HO_0;clear HK;clear HB;have HO_0:=n0_;have HK:=n1_;have HB:=n2_;clear n0_ n1_ n2_;(try clear hb);(try clear hkp);(try clear hy0)))
                 go_roundg kj29
                 case measure=>have:=HK1.out;have:=HJ12.out;have:=HJ17.out;have:=HJ22.out;have:=HJ25.out;have:=HJ29.out;omega
                 case rel=>exact ⟨(t319),(wrap64 (t316+1)),(x2_1),(x3_12),(decide ((wrap64 (t316-x1_1))≥(wrap64 (Int.tdiv (wrap64 (x2_1-x1_1)) 8)))),(t317),(z1_),(z1_),(z1_),(z1_),(z1_),H',⟨by have:=HK1.out;have:=HJ12.out;have:=HJ17.out;have:=HJ22.out;have:=HJ25.out;have:=HJ29.out;omega⟩,⟨z0_ HO_0.out⟩,⟨z6_ HK.out⟩,⟨z3_ HB.out⟩⟩
                ·rw [if_neg c44] at H
                 have c44b0:decide ((wrap64 (t316-x1_1))<(wrap64 (x2_1-t316)))=false:=dF c44
                 clear c44
                 replace H:=bS H
                 obtain ⟨t320,A480,H⟩:=H
                 replace H:(Y1.l0 kj29 t320 x1_1 t316 x3_12 (decide ((wrap64 (x2_1-t316))≥(wrap64 (Int.tdiv (wrap64 (x2_1-x1_1)) 8)))) t317)=some r:=H
                 have A48:=aM A480
                 clear A480
                 have H':=aM H
                 clear H
                 go_wp2_with (first | ((with_reducible refine gc_ 134 ?_);refine gl_ (some 111) Tryz.func134 #[.slice Ao19 x0_1.length co19,.int .i64 x1_1,.int .i64 x2_1,.int .i64 x13_17,.func (.func 72) #[] #[]] ?_;(with_reducible refine (Y0.calls kj29 (fun k_=>some k_=(.slice Ao19 x0_1.length co19:Value).ownBlock) (.slice Ao19 x0_1.length co19) x0_1 x1_1 x2_1 x13_17  t316 t317 t318 w0 _ ?s1 ?s2 A43.out).mono ?_);(case s1=>repeat (first | (with_reducible first | exact HB.out | apply below_alloc | apply pw_below_drewN | apply below_drew1) | exact HB.out));(case s2=>exact Kd.R_tight rfl HO_0.out);rintro e w49 ⟨rfl,hy0,hb,hkp⟩;refine ⟨_,rfl,?_⟩;have n0_:=aM (Kd.R_reok rfl hy0 (fun k_ e_=>HO_0.out.1 k_ e_));have n1_:=aM (Kept.then_ (S:=(fun k_=>P0_ k_)) (z6_ HK.out) hkp (fun k_ hs_=>(fun e_=>(HO_0.out.1 k_ e_.symm)) hs_));have n2_:=aM (hb);clear HO_0;clear HK;clear HB;have HO_0:=n0_;have HK:=n1_;have HB:=n2_;clear n0_ n1_ n2_;(try clear hb);(try clear hkp);(try clear hy0)) | ((with_reducible refine gc_ 103 ?_);refine gl_ (some 146) Tryz.func103 #[.slice Ao19 x0_1.length co19,.int .i64 (wrap64 (t316+1)),.int .i64 x2_1,.int .i64 x3_12,.func (.func 72) #[] #[]] ?_;(with_reducible refine (ih kj29 (by have:=HK1.out;have:=HJ12.out;have:=HJ17.out;have:=HJ22.out;have:=HJ25.out;have:=HJ29.out;omega) (fun k_=>some k_=(.slice Ao19 x0_1.length co19:Value).ownBlock) (.slice Ao19 x0_1.length co19) t318 (wrap64 (t316+1)) x2_1 x3_12  t320 w0 _ ?s1 ?s2 A48.out).mono ?_);(case s1=>repeat (first | (with_reducible first | exact HB.out | apply below_alloc | apply pw_below_drewN | apply below_drew1) | exact HB.out));(case s2=>exact Kd.R_tight rfl HO_0.out);rintro e w50 ⟨rfl,hy0,hb,hkp⟩;refine ⟨_,rfl,?_⟩;have n0_:=aM (Kd.R_reok rfl hy0 (fun k_ e_=>HO_0.out.1 k_ e_));have n1_:=aM (Kept.then_ (S:=(fun k_=>P0_ k_)) (z6_ HK.out) hkp (fun k_ hs_=>(fun e_=>(HO_0.out.1 k_ e_.symm)) hs_));have n2_:=aM (hb);clear HO_0;clear HK;clear HB;have HO_0:=n0_;have HK:=n1_;have HB:=n2_;clear n0_ n1_ n2_;(try clear hb);(try clear hkp);(try clear hy0)))
                 go_roundg kj29
                 case measure=>have:=HK1.out;have:=HJ12.out;have:=HJ17.out;have:=HJ22.out;have:=HJ25.out;have:=HJ29.out;omega
                 case rel=>exact ⟨(t320),(x1_1),(t316),(x3_12),(decide ((wrap64 (x2_1-t316))≥(wrap64 (Int.tdiv (wrap64 (x2_1-x1_1)) 8)))),(t317),(z1_),(z1_),(z1_),(z1_),(z1_),H',⟨by have:=HK1.out;have:=HJ12.out;have:=HJ17.out;have:=HJ22.out;have:=HJ25.out;have:=HJ29.out;omega⟩,⟨z0_ HO_0.out⟩,⟨z6_ HK.out⟩,⟨z3_ HB.out⟩⟩


/-! ### Y12: function 71 -/
def Y12.f (k:Nat) (l0:List (S78))  : Option ((List (S78))):=(Y78.f k (IntKind.u64.wrap ((l0.length:Int)))).bind fun t321=>((Y1.f k l0 0 (l0.length:Int) t321).bind fun t322=>(some t322))
theorem Y12.mono:∀ a0 k,LeO (Y12.f k a0) (Y12.f (k+1) a0):=by
 intro a0 k
 have m0:=@Y78.mono
 have m1:=@Y1.mono
 unfold Y12.f
 exact mO
theorem Y12.calls (k:Nat) (P0_:Nat→Prop) (u9000_:Value) (l0:List (S78))  (r:List (S78)) (w0 w:World) (hB:Below w0.heap.size w0 w) (ho0:Kd.R k78 78 w w0.heap.size P0_ u9000_ l0) (h:Y12.f k l0=some r) :
  Calls Tryz.prog 71 #[u9000_,.func (.func 72) #[] #[]] w fun e w'=>e = .returned (.tuple #[])∧Kd.R k78 78 w' w0.heap.size (fun k_=>(P0_ k_∨w.heap.size≤k_)) u9000_ r∧Below w0.heap.size w0 w'∧Kept w w' (fun k_=>P0_ k_):=by
 have HO0:=aM (show Kd.R k78 78 w w0.heap.size (fun k_=>(P0_ k_∨w.heap.size≤k_)) u9000_ l0 from Kd.R_mono ho0 (fun k_ hk=>(.inl hk)))
 have HK:=aM (Kept.refl w (fun k_=>P0_ k_))
 have HW0:=aM hB.size
 have HB:=aM hB
 clear hB
 have H:((Y78.f k (IntKind.u64.wrap ((l0.length:Int)))).bind fun t321=>((Y1.f k l0 0 (l0.length:Int) t321).bind fun t322=>(some t322)))=some r:=h
 clear h
 replace H:=bS H
 obtain ⟨t321,A30,H⟩:=H
 replace H:((Y1.f k l0 0 (l0.length:Int) t321).bind fun t322=>(some t322))=some r:=H
 have A3:=aM A30
 clear A30
 replace H:=bS H
 obtain ⟨t322,A40,H⟩:=H
 replace H:(some t322)=some r:=H
 have A4:=aM A40
 clear A40
 obtain rfl:=sI H
 obtain ⟨Ao5,co5,eo5⟩:=Kd.R_slice HO0.out
 subst eo5
 go_enter Tryz.func71,Tryz.ntmps71
 go_wp2_with (first | ((with_reducible refine gc_ 104 ?_);refine gl_ (some 11) Tryz.func104 #[.int .u64 (IntKind.u64.wrap ((l0.length:Int)))] ?_;(with_reducible refine (Y78.calls k (IntKind.u64.wrap ((l0.length:Int))) t321 _ A3.out).mono ?_);rintro e w' ⟨rfl,⟨nd,rfl⟩⟩;refine ⟨_,rfl,?_⟩) | ((with_reducible refine gc_ 103 ?_);refine gl_ (some 13) Tryz.func103 #[.slice Ao5 l0.length co5,.int .i64 0,.int .i64 (l0.length:Int),.int .i64 t321,.func (.func 72) #[] #[]] ?_;(with_reducible refine (Y1.calls k (fun k_=>some k_=(.slice Ao5 l0.length co5:Value).ownBlock) (.slice Ao5 l0.length co5) l0 0 (l0.length:Int) t321  t322 w0 _ ?s1 ?s2 A4.out).mono ?_);(case s1=>repeat (first | (with_reducible first | exact HB.out | apply below_alloc | apply pw_below_drewN | apply below_drew1) | exact HB.out));(case s2=>exact Kd.R_tight rfl HO0.out);rintro e w6 ⟨rfl,hy0,hb,hkp⟩;refine ⟨_,rfl,?_⟩;have n0_:=aM (Kd.R_reok rfl hy0 (fun k_ e_=>HO0.out.1 k_ e_));have n1_:=aM (Kept.then_ (S:=(fun k_=>P0_ k_)) (z6_ HK.out) hkp (fun k_ hs_=>(fun e_=>(HO0.out.1 k_ e_.symm)) hs_));have n2_:=aM (hb);clear HO0;clear HK;clear HB;have HO0:=n0_;have HK:=n1_;have HB:=n2_;clear n0_ n1_ n2_;(try clear hb);(try clear hkp);(try clear hy0)))
 first | go_end0 | ((try simp only [Exit.inBlock,Exit.then]);refine bodyPost_ret (results_none rfl _ _ _) rfl ?_)
 exact ⟨z10_,z0_ HO0.out,z3_ HB.out,z6_ HK.out⟩

end Go.Proofs.YtelecnmflodkkaaGreatDoor.P
