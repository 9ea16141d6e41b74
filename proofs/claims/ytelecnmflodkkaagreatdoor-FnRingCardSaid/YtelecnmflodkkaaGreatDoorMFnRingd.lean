/- A drawn key's order holds each node once; its first owner is the first of these; drawn stand-ins are not down and all different; and the program's rings, orders, owners, stand-ins and hashes are the reference's. No condition. (Part 4 of 5: written by programs of this workplace and by hand, merged.) -/
import Derived.Test.YtelecnmflodkkaaGreatDoorMFnRinga
import Derived.Test.YtelecnmflodkkaaGreatDoorMFnRingc
set_option linter.unusedVariables false
set_option linter.unusedSimpArgs false
set_option maxHeartbeats 8000000
set_option maxRecDepth 100000

namespace Go.Proofs.YtelecnmflodkkaaGreatDoor.P
open Go.RowKit Go.Proofs.YtelecnmflodkkaaGreatDoorW.PrintWords Go.Proofs.YtelecnmflodkkaaGreatDoorW.PrintLast Go.Proofs.YtelecnmflodkkaaGreatDoorW.PrintMore
attribute [local go_sem] max2_int min2_int max_two min_two max_three min_three max_four min_four   -- for this text's walks alone
set_option linter.unusedVariables false
set_option linter.unusedSimpArgs false

/-! ### Y42: function 40 -/
def Y42.l0:Nat→List Int→List (S75)→List Int→Int→Int→List Int→Option ((List (S75)))
 | 0,_,_,_,_,_,_=>none
 | k+1,x11,x12,x31,x32,x33,Ag4=>if x33<x32 then (if 0≤x33 then (if x33<(x31.length:Int) then ((Y26.f k Ag4 (rd x31 x33)).bind fun By3=>(if By3=true then (if (x11.length:Int)>0 then (if 0<(x11.length:Int) then (if x12.length<8796093022208 then (if 1≤(x11.length:Int) then (Y42.l0 k (x11.drop (1:Int).toNat) (x12 ++ [(⟨rd x11 0,rd x31 x33⟩:S75)]) x31 x32 (wrap64 (x33+1)) Ag4) else (none)) else (none)) else (none)) else (Y42.l0 k x11 x12 x31 x32 (wrap64 (x33+1)) Ag4)) else (if x12.length<8796093022208 then (Y42.l0 k x11 (x12 ++ [(⟨rd x31 x33,rd x31 x33⟩:S75)]) x31 x32 (wrap64 (x33+1)) Ag4) else (none)))) else (none)) else (none)) else (some x12)
def Y42.f (k:Nat) (B2:Int) (B0:List (S78)) (a1:ByteArray) (a2:Int) (l3:List Int):Option ((List (S75))):=(Y31.f k B2 B0 a1).bind fun N4=>(if 0≤(mn a2 (N4.length:Int)) then (if (mn a2 (N4.length:Int))≤(N4.length:Int) then ((some (N4.take ((mn a2 (N4.length:Int)):Int).toNat:List Int)).bind fun G0=>(if 0≤(G0.length:Int) then (if (G0.length:Int)≤(N4.length:Int) then ((Y49.f (N4.drop ((G0.length:Int):Int).toNat)).bind fun AK2=>((Y5.f k AK2 l3).bind fun AL9=>(Y42.l0 k AL9 ([]:List (S75)) G0 (G0.length:Int) 0 l3))) else (none)) else (none))) else (none)) else (none))
theorem Y42.mono_l:∀ k,(∀ y0 y1 y2 y3 y4 y5,LeO (Y42.l0 k y0 y1 y2 y3 y4 y5) (Y42.l0 (k+1) y0 y1 y2 y3 y4 y5))
 | 0=>by intros <;> exact LeO.none _
 | k+1=>by
  have ih0:=Y42.mono_l k
  have m0:=@Y31.mono
  have m1:=@Y26.mono
  have m2:=@Y5.mono
  ·intros
   unfold Y42.l0
   exact mO
theorem Y42.mono:∀ a0 a1 a2 a3 a4 k,LeO (Y42.f k a0 a1 a2 a3 a4) (Y42.f (k+1) a0 a1 a2 a3 a4):=by
 intro a0 a1 a2 a3 a4 k
 have m0:=@Y31.mono
 have m1:=@Y26.mono
 have m2:=@Y5.mono
 have ih0:=Y42.mono_l k
 unfold Y42.f
 exact mO
theorem Y42.calls (k:Nat) (B2:Int) (E7:Option Addr) (E4:Nat) (B0:List (S78)) (a1:ByteArray) (a2:Int) (A3:Option Addr) (c3:Nat) (l3:List Int) (r:List (S75)) (w:World) (J9:Kd.C k78 w E7 B0.length B0) (K0:B0.length≤E4) (hr3:Kd.C (Kd.int .i64) w A3 l3.length l3) (hc3:l3.length≤c3) (h:Y42.f k B2 B0 a1 a2 l3=some r) :
  Calls Tryz.prog 40 #[.agg #[.int .i64 B2,.slice E7 B0.length E4],.string a1,.int .i64 a2,.slice A3 l3.length c3] w fun e w'=>∃ v0_:Value,e = .returned (v0_)∧Kd.R k75 75 w' w.heap.size (fun _=>True) v0_ r∧Below w.heap.size w w':=by
 have AD7:=Tryz.underlying27
 have C49:=Tryz.underlying75
 have I2:=aM J9
 have J7:=aM K0
 clear J9 K0
 have HR3:=aM hr3
 have HC3:=aM hc3
 clear hr3 hc3
 have HB:=aM (Below.refl w.heap.size w)
 have H:((Y31.f k B2 B0 a1).bind fun N4=>(if 0≤(mn a2 (N4.length:Int)) then (if (mn a2 (N4.length:Int))≤(N4.length:Int) then ((some (N4.take ((mn a2 (N4.length:Int)):Int).toNat:List Int)).bind fun G0=>(if 0≤(G0.length:Int) then (if (G0.length:Int)≤(N4.length:Int) then ((Y49.f (N4.drop ((G0.length:Int):Int).toNat)).bind fun AK2=>((Y5.f k AK2 l3).bind fun AL9=>(Y42.l0 k AL9 ([]:List (S75)) G0 (G0.length:Int) 0 l3))) else (none)) else (none))) else (none)) else (none)))=some r:=h
 clear h
 replace H:=bS H
 obtain ⟨N4,A50,H⟩:=H
 replace H:(if 0≤(mn a2 (N4.length:Int)) then (if (mn a2 (N4.length:Int))≤(N4.length:Int) then ((some (N4.take ((mn a2 (N4.length:Int)):Int).toNat:List Int)).bind fun G0=>(if 0≤(G0.length:Int) then (if (G0.length:Int)≤(N4.length:Int) then ((Y49.f (N4.drop ((G0.length:Int):Int).toNat)).bind fun AK2=>((Y5.f k AK2 l3).bind fun AL9=>(Y42.l0 k AL9 ([]:List (S75)) G0 (G0.length:Int) 0 l3))) else (none)) else (none))) else (none)) else (none))=some r:=H
 have A5:=aM A50
 clear A50
 obtain ⟨ji6,Am8⟩:∃ j_:Int,(mn a2 (N4.length:Int))=j_:=⟨_,rfl⟩
 replace H:(if 0≤(ji6) then (if (ji6)≤(N4.length:Int) then ((some (N4.take ((ji6):Int).toNat:List Int)).bind fun G0=>(if 0≤(G0.length:Int) then (if (G0.length:Int)≤(N4.length:Int) then ((Y49.f (N4.drop ((G0.length:Int):Int).toNat)).bind fun AK2=>((Y5.f k AK2 l3).bind fun AL9=>(Y42.l0 k AL9 ([]:List (S75)) G0 (G0.length:Int) 0 l3))) else (none)) else (none))) else (none)) else (none))=some r:=by first | (rw [Am8] at H;exact H) | (simp only [Am8] at H ⊢;exact H)
 (try rw [Am8] at A5)
 have hji6_:(if (N4.length:Int)<a2 then (N4.length:Int) else a2)=ji6:=Am8
 by_cases c7:0≤(ji6)
 ·rw [if_pos c7] at H
  have c7b0:=eq_true c7
  have c7b1:decide (0≤(ji6))=true:=dE c7
  clear c7
  by_cases c8:(ji6)≤(N4.length:Int)
  ·rw [if_pos c8] at H
   have c8b0:=eq_true c8
   have c8b1:decide ((ji6)≤(N4.length:Int))=true:=dE c8
   clear c8
   obtain ⟨G0,A59⟩:∃ y_:List Int,y_=(N4.take ((ji6):Int).toNat):=⟨_,rfl⟩
   replace H:(if 0≤(G0.length:Int) then (if (G0.length:Int)≤(N4.length:Int) then ((Y49.f (N4.drop ((G0.length:Int):Int).toNat)).bind fun AK2=>((Y5.f k AK2 l3).bind fun AL9=>(Y42.l0 k AL9 ([]:List (S75)) G0 (G0.length:Int) 0 l3))) else (none)) else (none))=some r:=by first | (rw [A59];with_reducible exact H) | (have H2_:=(Option.bind_some _ _).symm.trans H;rw [A59];with_reducible exact H2_) | (have H2_:=(Option.bind_some _ _).symm.trans H;with_reducible exact H2_) | with_reducible exact H | (rw [A59];exact H) | exact H
   have Bj1:=aM A59
   clear A59
   by_cases c9:0≤(G0.length:Int)
   ·rw [if_pos c9] at H
    have c9b0:=eq_true c9
    have c9b1:decide (0≤(G0.length:Int))=true:=dE c9
    clear c9
    by_cases c10:(G0.length:Int)≤(N4.length:Int)
    ·rw [if_pos c10] at H
     have c10b0:=eq_true c10
     have c10b1:decide ((G0.length:Int)≤(N4.length:Int))=true:=dE c10
     clear c10
     obtain ⟨A61,A62⟩:∃ y_:List Int,y_=(N4.drop ((G0.length:Int):Int).toNat):=⟨_,rfl⟩
     replace H:((Y49.f A61).bind fun AK2=>((Y5.f k AK2 l3).bind fun AL9=>(Y42.l0 k AL9 ([]:List (S75)) G0 (G0.length:Int) 0 l3)))=some r:=by first | (rw [A62];with_reducible exact H) | (have H2_:=(Option.bind_some _ _).symm.trans H;rw [A62];with_reducible exact H2_) | (have H2_:=(Option.bind_some _ _).symm.trans H;with_reducible exact H2_) | with_reducible exact H | (rw [A62];exact H) | exact H
     have CA9:=aM A62
     clear A62
     replace H:=bS H
     obtain ⟨AK2,f7,H⟩:=H
     replace H:((Y5.f k AK2 l3).bind fun AL9=>(Y42.l0 k AL9 ([]:List (S75)) G0 (G0.length:Int) 0 l3))=some r:=H
     have A11:=aM f7
     clear f7
     replace H:=bS H
     obtain ⟨AL9,Ay5,H⟩:=H
     replace H:(Y42.l0 k AL9 ([]:List (S75)) G0 (G0.length:Int) 0 l3)=some r:=H
     have A12:=aM Ay5
     clear Ay5
     have H':=aM H
     clear H
     go_enter Tryz.func40,Tryz.ntmps40
     go_wp2_with (first | ((with_reducible refine gd_ 4 ?_);refine be_ 4 #[.int .i64 B2,.slice E7 B0.length E4] 27 ?_;intro A64 hg w13 hbox hb;have n0_:=aM (below_step (z6_ HB.out) hb);have n1_:=aM (hbox);have n2_:=aM ((z7_ HB.out:w.heap.size≤A64));have n3_:=aM ((z7_ HB.out:w.heap.size≤A64));clear HB;have HB:=n0_;have R6:=n1_;have GW462:=n2_;have n2:=n3_;clear n0_ n1_ n2_ n3_;clear hb hbox hg) | ((with_reducible refine gd_ 7 ?_);refine be_ 7 #[.slice A3 l3.length c3] 30 ?_;intro Ak1 hg w14 hbox hb;have n0_:=aM (blkB_ R6.out hb);have n1_:=aM (below_step (z4_ HB.out n2.out) hb);have n2_:=aM (hbox);have n3_:=aM ((z13_ HB.out n2.out:w.heap.size≤Ak1));have n4_:=aM ((z13_ HB.out n2.out:w.heap.size≤Ak1));have n5_:=aM (neL_ R6.out hg);have n6_:=aM (neG_ R6.out hg);clear R6;clear HB;have R6:=n0_;have HB:=n1_;have T0:=n2_;have GW463:=n3_;have AB4:=n4_;have AO7:=n5_;have AO8:=n6_;clear n0_ n1_ n2_ n3_ n4_ n5_ n6_;clear hb hbox hg;have B62:=AO7.out;have B63:=AO8.out;have ⟨r8,r9,s8,s9⟩:=cz2_ R6.out) | ((with_reducible refine gc_ 35 ?_);refine gl_ (some 17) Tryz.func35 #[.agg #[.int .i64 B2,.slice E7 B0.length E4],.string a1] ?_;(with_reducible refine (Y31.calls k B2 _ _ B0 a1 N4 _ ?s1 ?s2 A5.out).mono ?_);(case s1=>repeat (first | exact (Kd.C_below I2.out HB.out) | (with_reducible refine Kd.C_alloc ?_ _) | (with_reducible refine Kd.C_drewN ?_ _) | (with_reducible refine Kd.C_drew ?_)));(case s2=>exact J7.out);rintro e w17 ⟨v465,rfl,ho0,hb⟩;refine ⟨_,rfl,?_⟩;have n0_:=aM (Kd.R_lower ho0 (below_size (z9_ HB.out n2.out AB4.out)));have n1_:=aM (blkB_ R6.out hb);have n2_:=aM (blkB_ T0.out hb);have n3_:=aM (below_step (z9_ HB.out n2.out AB4.out) hb);clear R6;clear T0;clear HB;have AB5:=n0_;have R6:=n1_;have T0:=n2_;have HB:=n3_;clear n0_ n1_ n2_ n3_;(try clear hb);(try clear ho0);obtain ⟨AP1,AJ7,BZ4⟩:=Kd.R_slice AB5.out;subst BZ4;have q19:((ji6):Int)≤((N4.length:Int):Int):=dT (z1_);obtain ⟨i019,CB0,_,Cq4,_⟩:=info_parts info2;have BO1:N4.length≤AJ7:=(Kd.R_reads' AB5.out).2.1;have Cq5:Kd.C (Kd.int .i64) _ AP1 N4.length N4:=(Kd.R_reads' AB5.out).2.2;have CO7:=cut_to (P:=Tryz.prog) 30 2 .i64 Tryz.underlying30 CB0 AP1 N4.length AJ7 (ji6) (dT (z1_)) q19 BO1;have CO8:=Kd.C_take (m:=((ji6):Int).toNat) Cq5 (by omega);have CO9:G0.length=((ji6):Int).toNat:=(z34_ Bj1.out);rw [← Bj1.out] at CO8;rw [← CO9] at CO7;have Bj2:=aM CO8;have HC470:=aM (show G0.length≤AJ7 from by omega);clear CO8 Cq5 BO1 CB0 Cq4;have C50:=aM CO9;clear CO9;have KL19:=aM (show ((ji6):Int).toNat≤N4.length from by omega);replace q19:=eq_true q19;have q20:((G0.length:Int):Int)≤((N4.length:Int):Int):=dT (z1_);obtain ⟨i020,CB1,_,CB2,_⟩:=info_parts info2;have Au0:N4.length≤AJ7:=(Kd.R_reads' AB5.out).2.1;have Cq6:Kd.C (Kd.int .i64) _ AP1 N4.length N4:=(Kd.R_reads' AB5.out).2.2;have Cq7:(0:Int)≤((G0.length:Int):Int):=dT (z1_);have CP0:=cut_from (P:=Tryz.prog) 30 2 .i64 Tryz.underlying30 CB1 1 CB2 AP1 N4.length AJ7 (G0.length:Int) Cq7 q20;have Bj3:=Kd.C_drop (m:=((G0.length:Int):Int).toNat) (c:=AJ7) Cq6 (by omega) Au0;obtain ⟨A20,By4⟩:∃ A1,A1=(if AJ7=((G0.length:Int):Int).toNat then AP1 else (AP1:Option Addr).map (·.add (((G0.length:Int):Int).toNat*1))):=⟨_,rfl⟩;obtain ⟨c20,CP1⟩:∃ c1,c1=AJ7-((G0.length:Int):Int).toNat:=⟨_,rfl⟩;have By5:A61.length=N4.length-((G0.length:Int):Int).toNat:=(by rw [CA9.out,List.length_drop] <;> omega);rw [show (N4).drop ((G0.length:Int):Int).toNat=A61 from CA9.out.symm] at Bj3;replace Bj3:Kd.C (Kd.int .i64) _ A20 A61.length A61:=(by rw [By4];exact Bj3);rw [← By5,← By4,← CP1] at CP0;have BO2:=aM Bj3;have Cq8:=aM (show A61.length≤c20 from by rw [By5,CP1];exact Nat.sub_le_sub_right Au0 _);clear Bj3 Cq6 Au0 CB1 CB2 CP1;have KY20:=aM By5;have KA20:=aM By4;clear By5 By4;have KL20:=aM (show ((G0.length:Int):Int).toNat≤N4.length from by omega);replace q20:=eq_true q20) | ((with_reducible refine gc_ 48 ?_);refine gl_ (some 28) Tryz.func48 #[.slice A20 A61.length c20] ?_;(with_reducible refine (Y49.calls _ _ A61 AK2 _ ?s1 ?s2 A11.out).mono ?_);(case s1=>repeat (first | exact (z28_ BO2.out) | (with_reducible refine Kd.C_alloc ?_ _) | (with_reducible refine Kd.C_drewN ?_ _) | (with_reducible refine Kd.C_drew ?_)));(case s2=>exact Cq8.out);rintro e w21 ⟨v476,rfl,ho0,hb⟩;refine ⟨_,rfl,?_⟩;have n0_:=aM (Kd.R_elder' (z0_ AB5.out) (Kd.R_base ho0) hb);have n1_:=aM (Kd.R_lower (Kd.R_new' ho0 (Kd.R_lt (z0_ AB5.out))) (below_size (z9_ HB.out n2.out AB4.out)));have n2_:=aM (blkB_ R6.out hb);have n3_:=aM (blkB_ T0.out hb);have n4_:=aM (Kd.C_below (z28_ Bj2.out) hb);have n5_:=aM (Kd.C_below (z28_ BO2.out) hb);have n6_:=aM (below_step (z9_ HB.out n2.out AB4.out) hb);clear AB5;clear R6;clear T0;clear Bj2;clear BO2;clear HB;have AB5:=n0_;have Ao9:=n1_;have R6:=n2_;have T0:=n3_;have Bj2:=n4_;have BO2:=n5_;have HB:=n6_;clear n0_ n1_ n2_ n3_ n4_ n5_ n6_;(try clear hb);(try clear ho0);obtain ⟨At4,At5,Bh4⟩:=Kd.R_slice Ao9.out;subst Bh4) | ((with_reducible refine gc_ 68 ?_);refine gl_ (some 30) Tryz.func68 #[.slice At4 AK2.length At5,.func (.func 69) #[] #[.pointer (some ⟨Ak1,0,none⟩)]] ?_;(with_reducible refine (Y5.calls k (fun k_=>some k_=(.slice At4 AK2.length At5:Value).ownBlock) (.slice At4 AK2.length At5) AK2 Ak1 A3 c3 l3 AL9 w _ ?s1 ?s2 ?s3 ?s4 ?s5 A12.out).mono ?_);(case s1=>repeat (first | (with_reducible first | exact HB.out | apply below_alloc | apply pw_below_drewN | apply below_drew1 | refine below_set ?_ n2.out | refine below_set ?_ AB4.out) | exact HB.out));(case s2=>exact Kd.R_tight rfl Ao9.out);(case s3=>exact Kd.C_kept_came (Kd.heap_int .i64) HR3.out (z9_ HB.out n2.out AB4.out) (fun k_ hs_=>(fun e_=>Kd.R_base Ao9.out k_ e_.symm) hs_));(case s4=>exact HC3.out);(case s5=>(with_reducible repeat (first | refine blk_drewN ?_ _ | refine blk_drew ?_ | refine blk_alloc ?_ _));exact T0.out);rintro e w23 ⟨C51,rfl,ho0,hb,hkp⟩;refine ⟨_,rfl,?_⟩;have Cq9:=aM (Kd.R_keptB AB5.out hkp (fun k_ hk_ hs_=>hk_.2 hs_));have HZ:=aM (Kd.Q_of_R (Kd.R_mono (show Kd.R (Kd.int .i64) 2 _ w.heap.size _ (.slice AP1 G0.length AJ7) G0 from by have h_:=Kd.R_take (m:=((ji6):Int).toNat) Cq9.out (by omega);rw [← Bj1.out,← C50.out] at h_;exact h_) (fun _ _=>trivial)));clear Cq9;have n0_:=aM (blk_kept (z3_ R6.out) hkp (fun hs_=>(fun e_=>(Kd.R_ne Ao9.out R6.out (by decide)) e_) hs_));have n1_:=aM (blk_kept (z3_ T0.out) hkp (fun hs_=>(fun e_=>(Kd.R_ne Ao9.out T0.out (by decide)) e_) hs_));have n2_:=aM (Kd.R_mono (ok':=fun k_=>some k_≠(C51:Value).ownBlock) (Kd.R_keptB (AB5.out) hkp (fun k_ hk_ hs_=>(hk_.2) hs_)) (fun k_ hk_=>fun e_=>Or.elim (ho0.1 k_ e_.symm) (fun hs_=>hk_.2.1 hs_) (fun hn_=>Nat.not_le.2 hk_.2.2 hn_)));have n3_:=aM (Kd.R_mono (ok':=fun k_=>some k_≠(.slice AP1 N4.length AJ7:Value).ownBlock) ho0 (fun k_ hk_=>Or.elim hk_ (fun hs_=>fun e_=>(((AB5.out).1 k_ e_.symm).2) hs_) (fun hn_=>(Kd.fresh' (Kd.R_lt (z0_ AB5.out)) k_ hn_))));have n4_:=aM (hb);clear R6;clear T0;clear AB5;clear HB;clear Ao9;have R6:=n0_;have T0:=n1_;have AB5:=n2_;have Cr0:=n3_;have HB:=n4_;clear n0_ n1_ n2_ n3_ n4_;(try clear hb);(try clear hkp);(try clear ho0)))
     go_loopg [11,12,33] k (fun kq v11 v12 v33 w'=>∃ (F7:List Int) (D3:List (S75)) (I4:Int),v33 = .int .i64 I4∧Aside0 (Y42.l0 kq F7 D3 G0 (G0.length:Int) I4 l3=some r)∧Aside0 (kq≤k)∧Aside0 (Kd.Q (Kd.int .i64) 2 w' w.heap.size (fun _=>True) v11 F7)∧Aside0 (Kd.R k75 75 w' w.heap.size (fun _=>True) v12 D3)∧Aside0 (w'.heap[A64]? = some (.cells #[.int .i64 B2,(.slice E7 B0.length E4)] 27 (0,0)))∧Aside0 (w'.heap[Ak1]? = some (.cells #[(.slice A3 l3.length c3)] 30 (0,0)))∧Aside0 (Kd.Q (Kd.int .i64) 2 w' w.heap.size (fun _=>True) (.slice AP1 G0.length AJ7) G0)∧Aside0 (Below w.heap.size w w'))
     case atStart=>exact ⟨(AL9),(([]:List (S75))),(0),(z2_),H',⟨Nat.le_refl _⟩,⟨Kd.Q_of_R (z47_ Cr0.out)⟩,⟨z27_⟩,⟨z3_ R6.out⟩,⟨z3_ T0.out⟩,⟨z26_ HZ.out⟩,⟨z9_ HB.out n2.out AB4.out⟩⟩
     case round =>
      clear H'
      try clear c1
      try clear q1
      try clear c2
      try clear p2
      try clear q2
      try clear c3
      try clear c4
      try clear c7
      try clear c7b0
      try clear c7b1
      try clear c8
      try clear c8b0
      try clear c8b1
      try clear c9
      try clear c9b0
      try clear c9b1
      try clear c10
      try clear c10b0
      try clear c10b1
      try clear c15
      try clear q19
      try clear c20
      try clear q20
      try clear r8
      try clear r9
      try clear s8
      try clear s9
      try clear Cq7
      try clear q19
      try clear q20
      obtain ⟨F7,D3,I4,rfl,HA,HK1,P0,AD1,R6,T0,HZ,HB⟩:=hrel
      cases gk with
      | zero=>exact absurd HA.out (by simp [Y42.l0])
      | succ k1 =>
       have H:=HA.out
       clear HA
       simp only [Y42.l0] at H
       by_cases c24:I4<(G0.length:Int)
       ·rw [if_pos c24] at H
        have c24b0:decide (I4<(G0.length:Int))=true:=dE c24
        clear c24
        by_cases c25:0≤I4
        ·rw [if_pos c25] at H
         have c25b0:decide (0≤I4)=true:=dE c25
         clear c25
         by_cases c26:I4<(G0.length:Int)
         ·rw [if_pos c26] at H
          have c26b0:decide (I4<(G0.length:Int))=true:=dE c26
          clear c26
          replace H:=bS H
          obtain ⟨By3,A54,H⟩:=H
          replace H:(if By3=true then (if (F7.length:Int)>0 then (if 0<(F7.length:Int) then (if D3.length<8796093022208 then (if 1≤(F7.length:Int) then (Y42.l0 k1 (F7.drop (1:Int).toNat) (D3 ++ [(⟨rd F7 0,rd G0 I4⟩:S75)]) G0 (G0.length:Int) (wrap64 (I4+1)) l3) else (none)) else (none)) else (none)) else (Y42.l0 k1 F7 D3 G0 (G0.length:Int) (wrap64 (I4+1)) l3)) else (if D3.length<8796093022208 then (Y42.l0 k1 F7 (D3 ++ [(⟨rd G0 I4,rd G0 I4⟩:S75)]) G0 (G0.length:Int) (wrap64 (I4+1)) l3) else (none)))=some r:=H
          have A27:=aM A54
          clear A54
          by_cases c28:By3=true
          ·subst c28
           have H1:(if (F7.length:Int)>0 then (if 0<(F7.length:Int) then (if D3.length<8796093022208 then (if 1≤(F7.length:Int) then (Y42.l0 k1 (F7.drop (1:Int).toNat) (D3 ++ [(⟨rd F7 0,rd G0 I4⟩:S75)]) G0 (G0.length:Int) (wrap64 (I4+1)) l3) else (none)) else (none)) else (none)) else (Y42.l0 k1 F7 D3 G0 (G0.length:Int) (wrap64 (I4+1)) l3))=some r:=by rw [if_pos rfl] at H;exact H
           clear H
           have H:=H1
           clear H1
           by_cases c29:(F7.length:Int)>0
           ·rw [if_pos c29] at H
            have c29b0:decide (0<(F7.length:Int))=true:=dE c29
            have c29b1:decide (0<F7.length)=true:=dE (by omega)
            clear c29
            by_cases c30:0<(F7.length:Int)
            ·rw [if_pos c30] at H
             have c30b0:decide (0<(F7.length:Int))=true:=dE c30
             have c30b1:decide (0<F7.length)=true:=dE (by omega)
             clear c30
             by_cases c31:D3.length<8796093022208
             ·rw [if_pos c31] at H
              have Cr1:=aM c31
              clear c31
              obtain ⟨CP2,A65⟩:∃ y_:List (S75),y_=(D3 ++ [(⟨rd F7 0,rd G0 I4⟩:S75)]):=⟨_,rfl⟩
              replace H:(if 1≤(F7.length:Int) then (Y42.l0 k1 (F7.drop (1:Int).toNat) CP2 G0 (G0.length:Int) (wrap64 (I4+1)) l3) else (none))=some r:=by first | (rw [A65];with_reducible exact H) | (have H2_:=(Option.bind_some _ _).symm.trans H;rw [A65];with_reducible exact H2_) | (have H2_:=(Option.bind_some _ _).symm.trans H;with_reducible exact H2_) | with_reducible exact H | (rw [A65];exact H) | exact H
              have Cr2:=aM A65
              clear A65
              by_cases c32:1≤(F7.length:Int)
              ·rw [if_pos c32] at H
               have c32b0:=eq_true c32
               have c32b1:decide (1≤(F7.length:Int))=true:=dE c32
               clear c32
               obtain ⟨BU8,A66⟩:∃ y_:List Int,y_=(F7.drop (1:Int).toNat):=⟨_,rfl⟩
               replace H:(Y42.l0 k1 BU8 CP2 G0 (G0.length:Int) (wrap64 (I4+1)) l3)=some r:=by first | (rw [A66];with_reducible exact H) | (have H2_:=(Option.bind_some _ _).symm.trans H;rw [A66];with_reducible exact H2_) | (have H2_:=(Option.bind_some _ _).symm.trans H;with_reducible exact H2_) | with_reducible exact H | (rw [A66];exact H) | exact H
               have CB3:=aM A66
               clear A66
               have H':=aM H
               clear H
               have Ak2:0≤(I4:Int):=dT (z1_)
               have Ak3:I4<(G0.length:Int):=dT (z1_)
               obtain ⟨CB4,Bj4,BO3⟩:=Kd.at_int (Kd.Q_reads' HZ.out).2.2 I4 Ak2 Ak3
               cases Bj4
               replace Ak2:=eq_true Ak2
               replace Ak3:=eq_true Ak3
               have B64:=AO8.out
               have B65:=AO7.out
               have ⟨By6,By7⟩:=cz1_ T0.out
               go_wp2_with (first | ((with_reducible refine gc_ 67 ?_);refine gl_ (some 40) Tryz.func67 #[.slice A3 l3.length c3,.int .i64 (rd G0 I4)] ?_;(with_reducible refine (Y26.calls k1 _ _ l3 (rd G0 I4) true _ ?s1 ?s2 A27.out).mono ?_);(case s1=>repeat (first | exact (Kd.C_below HR3.out HB.out) | (with_reducible refine Kd.C_alloc ?_ _) | (with_reducible refine Kd.C_drewN ?_ _) | (with_reducible refine Kd.C_drew ?_)));(case s2=>exact HC3.out);rintro e w' ⟨rfl,⟨nd,rfl⟩⟩;refine ⟨_,rfl,?_⟩;obtain ⟨Ao35,By8,C52,_⟩:=Kd.Q_slice P0.out;subst C52;have CP3:0≤(0:Int):=(by omega);have CP4:0<(F7.length:Int):=dT (z1_);obtain ⟨A68,C53,BO4⟩:=Kd.at_int (Kd.Q_reads' P0.out).2.2 0 CP3 CP4;cases C53;have qi483:(0<F7.length)=True:=eq_true (by omega);(try rw [show ((0:Int)).toNat=0 from rfl] at BO4);(try rw [Addr.add_zero'] at BO4);replace CP3:=eq_true CP3;replace CP4:=eq_true CP4) | ((with_reducible refine gate_builtin (b:=.append) (xs:=#[.tmp 52,.tmp 58]) rfl ?_);at_builtin;refine Kd.R_append k75 (w0:=w) w.heap.size rfl (.tmp 52) (.tmp 58) 72 75 (.agg #[(.int .i64 0),(.int .i64 0)]) 16 rfl Tryz.underlying72 info75 rfl (by decide) (by omega) u12 D3 (⟨rd F7 0,rd G0 I4⟩:S75) [.int .i64 (rd F7 0),.int .i64 (rd G0 I4)] (fun _=>True) (fun _=>False) rfl rfl ?aP (fun _ hk=>hk.elim) ?aF ?aO ?aB ?aS ?aL ?_;(case aP=>exact k75_mkM _ _ _ (⟨rd F7 0,rd G0 I4⟩:S75));(case aB=>exact (z9_ HB.out n2.out AB4.out));(case aF=>exact (fun _ _=>trivial));(case aO=>exact (z0_ AD1.out));(case aS=>exact (below_size (z9_ HB.out n2.out AB4.out)));(case aL=>have:=Cr1.out;omega);intro v485 w36 ho hb hg hat;rw [← Cr2.out] at ho;have HZ:=aM (Kd.Q_over' (z26_ HZ.out) (Kd.R_typed (z0_ AD1.out)) (by decide) hg);have n0_:=aM (Kd.Q_over' (z26_ P0.out) (Kd.R_typed (z0_ AD1.out)) (by decide) hg);have n1_:=aM (blk_grown (g:=A64) (o:=.cells #[.int .i64 B2,.slice E7 B0.length E4] 27 (0,0)) (z3_ R6.out) hg (Kd.R_ne AD1.out R6.out (by decide)));have n2_:=aM (blk_grown (g:=Ak1) (o:=.cells #[.slice A3 l3.length c3] 30 (0,0)) (z3_ T0.out) hg (Kd.R_ne AD1.out T0.out (by decide)));have n3_:=aM (hb);have n4_:=aM (ho);clear P0;clear R6;clear T0;clear HB;clear AD1;have P0:=n0_;have R6:=n1_;have T0:=n2_;have HB:=n3_;have Cr3:=n4_;clear n0_ n1_ n2_ n3_ n4_;clear ho hb hg hat;have q37:(1:Int)≤((F7.length:Int):Int):=dT (z1_);obtain ⟨i037,CB5,_,CB6,_⟩:=info_parts info2;have CP5:=cut_from (P:=Tryz.prog) 30 2 .i64 Tryz.underlying30 CB5 1 CB6 (some A68) F7.length By8 1 (by omega) q37;have Bj5:=Kd.Q_drop (k:=(1:Int).toNat) P0.out (by omega);obtain ⟨A37,By9⟩:∃ A1,A1=(if By8=(1:Int).toNat then (some A68) else ((some A68):Option Addr).map (·.add ((1:Int).toNat*1))):=⟨_,rfl⟩;obtain ⟨c37,CP6⟩:∃ c1,c1=By8-(1:Int).toNat:=⟨_,rfl⟩;have CP7:BU8.length=F7.length-(1:Int).toNat:=(by rw [CB3.out,List.length_drop]);rw [← CB3.out] at Bj5;rw [← CP7,← By9,← CP6] at CP5;replace Bj5:Kd.Q (Kd.int .i64) 2 w36 w.heap.size (fun _=>True) (.slice A37 BU8.length c37) BU8:=(by rw [By9,CP6,CP7];exact Bj5);have HE37:Aside0 ((Value.slice A37 BU8.length c37).ownBlock=(.slice (some A68) F7.length By8:Value).ownBlock):=⟨by rw [By9];split <;> (cases ((some A68):Option Addr) <;> rfl)⟩;clear CP7 CB5 CB6 P0 By9 CP6;have Cr4:=aM Bj5;clear Bj5;replace q37:=eq_true q37))
               go_roundg k1
               case measure=>have:=HK1.out;omega
               case rel=>exact ⟨(BU8),(CP2),(wrap64 (I4+1)),(z2_),H',⟨by have:=HK1.out;omega⟩,⟨z26_ Cr4.out⟩,⟨z0_ Cr3.out⟩,⟨z3_ R6.out⟩,⟨z3_ T0.out⟩,⟨z26_ HZ.out⟩,⟨z9_ HB.out n2.out AB4.out⟩⟩
              ·rw [if_neg c32] at H
               exact nO H
             ·rw [if_neg c31] at H
              exact nO H
            ·rw [if_neg c30] at H
             exact nO H
           ·rw [if_neg c29] at H
            have c29b0:decide (0<(F7.length:Int))=false:=dF c29
            have c29b1:decide (0<F7.length)=false:=dF (by omega)
            clear c29
            have H':=aM H
            clear H
            have Ak2:0≤(I4:Int):=dT (z1_)
            have Ak3:I4<(G0.length:Int):=dT (z1_)
            obtain ⟨CB4,Bj4,BO3⟩:=Kd.at_int (Kd.Q_reads' HZ.out).2.2 I4 Ak2 Ak3
            cases Bj4
            replace Ak2:=eq_true Ak2
            replace Ak3:=eq_true Ak3
            have CW5:=AO8.out
            have CW6:=AO7.out
            have ⟨BJ2,BJ3⟩:=cz1_ T0.out
            go_wp2_with (first | ((with_reducible refine gc_ 67 ?_);refine gl_ (some 40) Tryz.func67 #[.slice A3 l3.length c3,.int .i64 (rd G0 I4)] ?_;(with_reducible refine (Y26.calls k1 _ _ l3 (rd G0 I4) true _ ?s1 ?s2 A27.out).mono ?_);(case s1=>repeat (first | exact (Kd.C_below HR3.out HB.out) | (with_reducible refine Kd.C_alloc ?_ _) | (with_reducible refine Kd.C_drewN ?_ _) | (with_reducible refine Kd.C_drew ?_)));(case s2=>exact HC3.out);rintro e w' ⟨rfl,⟨nd,rfl⟩⟩;refine ⟨_,rfl,?_⟩;obtain ⟨Cz4,Cz5,CF7,_⟩:=Kd.Q_slice P0.out;subst CF7))
            go_roundg k1
            case measure=>have:=HK1.out;omega
            case rel=>exact ⟨(F7),(D3),(wrap64 (I4+1)),(z2_),H',⟨by have:=HK1.out;omega⟩,⟨z26_ P0.out⟩,⟨z0_ AD1.out⟩,⟨z3_ R6.out⟩,⟨z3_ T0.out⟩,⟨z26_ HZ.out⟩,⟨z9_ HB.out n2.out AB4.out⟩⟩
          ·replace c28:=Bool.eq_false_iff.mpr c28
           subst c28
           have H1:(if D3.length<8796093022208 then (Y42.l0 k1 F7 (D3 ++ [(⟨rd G0 I4,rd G0 I4⟩:S75)]) G0 (G0.length:Int) (wrap64 (I4+1)) l3) else (none))=some r:=by rw [if_neg (show ¬ (false=true) by decide)] at H;exact H
           clear H
           have H:=H1
           clear H1
           by_cases c41:D3.length<8796093022208
           ·rw [if_pos c41] at H
            have Cr5:=aM c41
            clear c41
            obtain ⟨Cr6,A69⟩:∃ y_:List (S75),y_=(D3 ++ [(⟨rd G0 I4,rd G0 I4⟩:S75)]):=⟨_,rfl⟩
            replace H:(Y42.l0 k1 F7 Cr6 G0 (G0.length:Int) (wrap64 (I4+1)) l3)=some r:=by first | (rw [A69];with_reducible exact H) | (have H2_:=(Option.bind_some _ _).symm.trans H;rw [A69];with_reducible exact H2_) | (have H2_:=(Option.bind_some _ _).symm.trans H;with_reducible exact H2_) | with_reducible exact H | (rw [A69];exact H) | exact H
            have Cr7:=aM A69
            clear A69
            have H':=aM H
            clear H
            have Ak2:0≤(I4:Int):=dT (z1_)
            have Ak3:I4<(G0.length:Int):=dT (z1_)
            obtain ⟨CB4,Bj4,BO3⟩:=Kd.at_int (Kd.Q_reads' HZ.out).2.2 I4 Ak2 Ak3
            cases Bj4
            replace Ak2:=eq_true Ak2
            replace Ak3:=eq_true Ak3
            have hnb42:=AO8.out
            have hnc42:=AO7.out
            have ⟨Bq9,Br0⟩:=cz1_ T0.out
            go_wp2_with (first | ((with_reducible refine gc_ 67 ?_);refine gl_ (some 40) Tryz.func67 #[.slice A3 l3.length c3,.int .i64 (rd G0 I4)] ?_;(with_reducible refine (Y26.calls k1 _ _ l3 (rd G0 I4) false _ ?s1 ?s2 A27.out).mono ?_);(case s1=>repeat (first | exact (Kd.C_below HR3.out HB.out) | (with_reducible refine Kd.C_alloc ?_ _) | (with_reducible refine Kd.C_drewN ?_ _) | (with_reducible refine Kd.C_drew ?_)));(case s2=>exact HC3.out);rintro e w' ⟨rfl,⟨nd,rfl⟩⟩;refine ⟨_,rfl,?_⟩) | ((with_reducible refine gate_builtin (b:=.append) (xs:=#[.tmp 42,.tmp 46]) rfl ?_);at_builtin;refine Kd.R_append k75 (w0:=w) w.heap.size rfl (.tmp 42) (.tmp 46) 72 75 (.agg #[(.int .i64 0),(.int .i64 0)]) 16 rfl Tryz.underlying72 info75 rfl (by decide) (by omega) u12 D3 (⟨rd G0 I4,rd G0 I4⟩:S75) [.int .i64 (rd G0 I4),.int .i64 (rd G0 I4)] (fun _=>True) (fun _=>False) rfl rfl ?aP (fun _ hk=>hk.elim) ?aF ?aO ?aB ?aS ?aL ?_;(case aP=>exact k75_mkM _ _ _ (⟨rd G0 I4,rd G0 I4⟩:S75));(case aB=>exact (z9_ HB.out n2.out AB4.out));(case aF=>exact (fun _ _=>trivial));(case aO=>exact (z0_ AD1.out));(case aS=>exact (below_size (z9_ HB.out n2.out AB4.out)));(case aL=>have:=Cr5.out;omega);intro v491 w44 ho hb hg hat;rw [← Cr7.out] at ho;have HZ:=aM (Kd.Q_over' (z26_ HZ.out) (Kd.R_typed (z0_ AD1.out)) (by decide) hg);have n0_:=aM (Kd.Q_over' (z26_ P0.out) (Kd.R_typed (z0_ AD1.out)) (by decide) hg);have n1_:=aM (blk_grown (g:=A64) (o:=.cells #[.int .i64 B2,.slice E7 B0.length E4] 27 (0,0)) (z3_ R6.out) hg (Kd.R_ne AD1.out R6.out (by decide)));have n2_:=aM (blk_grown (g:=Ak1) (o:=.cells #[.slice A3 l3.length c3] 30 (0,0)) (z3_ T0.out) hg (Kd.R_ne AD1.out T0.out (by decide)));have n3_:=aM (hb);have n4_:=aM (ho);clear P0;clear R6;clear T0;clear HB;clear AD1;have P0:=n0_;have R6:=n1_;have T0:=n2_;have HB:=n3_;have Cr8:=n4_;clear n0_ n1_ n2_ n3_ n4_;clear ho hb hg hat))
            go_roundg k1
            case measure=>have:=HK1.out;omega
            case rel=>exact ⟨(F7),(Cr6),(wrap64 (I4+1)),(z2_),H',⟨by have:=HK1.out;omega⟩,⟨z26_ P0.out⟩,⟨z0_ Cr8.out⟩,⟨z3_ R6.out⟩,⟨z3_ T0.out⟩,⟨z26_ HZ.out⟩,⟨z9_ HB.out n2.out AB4.out⟩⟩
           ·rw [if_neg c41] at H
            exact nO H
         ·rw [if_neg c26] at H
          exact nO H
        ·rw [if_neg c25] at H
         exact nO H
       ·rw [if_neg c24] at H
        have c24b0:decide (I4<(G0.length:Int))=false:=dF c24
        clear c24
        obtain rfl:=sI H
        go_wp2
        go_ret
        exact ⟨_,by first | rfl | (simp [errW_none,errW_some] <;> rfl) | (simp only [← Am8];first | rfl | (simp [errW_none,errW_some] <;> rfl)) | (simp [*,errW_none,errW_some] <;> rfl),z0_ AD1.out,z9_ HB.out n2.out AB4.out⟩
    ·rw [if_neg c10] at H
     exact nO H
   ·rw [if_neg c9] at H
    exact nO H
  ·rw [if_neg c8] at H
   exact nO H
 ·rw [if_neg c7] at H
  exact nO H


/-! ### Y21: function 10 -/
mutual
def Y21.j0:Nat→ByteArray→Int→List Int→Bool→Int→List (S78)→Option (List Int)
 | 0,_,_,_,_,_,_=>none
 | k+1,x1,x2,x3,x29,Bz0,Bz1=>if x29=true then (some ([]:List Int)) else ((Y42.f k Bz0 Bz1 x1 x2 x3).bind fun u2=>(Y21.l0 k ([]:List Int) u2 (u2.length:Int) 0))
def Y21.l0:Nat→List Int→List (S75)→Int→Int→Option (List Int)
 | 0,_,_,_,_=>none
 | k+1,x9,x34,x35,x36=>if x36<x35 then (if 0≤x36 then (if x36<(x34.length:Int) then (if x9.length<17592186044416 then (Y21.l0 k (x9 ++ [(rd_T75 x34 x36).f0]) x34 x35 (wrap64 (x36+1))) else (none)) else (none)) else (none)) else (some x9)
end
def Y21.f (k:Nat) (B2:Int) (B0:List (S78)) (a1:ByteArray) (a2:Int) (l3:List Int):Option (List Int):=(Y84.f l3).bind fun BU9=>(if BU9=true then (Y21.j0 k a1 a2 l3 true B2 B0) else ((Y57.f k B2 B0 a1).bind fun An4=>(if An4=true then ((Y62.f a2).bind fun AX1=>(if AX1=true then ((Y27.f k l3 5).bind fun AI4=>(Y21.j0 k a1 a2 l3 (!AI4) B2 B0)) else (Y21.j0 k a1 a2 l3 true B2 B0))) else (Y21.j0 k a1 a2 l3 true B2 B0))))
theorem Y21.mono_l:∀ k,(∀ y0 y1 y2 y3 y4 y5,LeO (Y21.j0 k y0 y1 y2 y3 y4 y5) (Y21.j0 (k+1) y0 y1 y2 y3 y4 y5))∧(∀ y0 y1 y2 y3,LeO (Y21.l0 k y0 y1 y2 y3) (Y21.l0 (k+1) y0 y1 y2 y3))
 | 0=>by refine ⟨?_,?_⟩ <;> intros <;> exact LeO.none _
 | k+1=>by
  obtain ⟨ih0,ih1⟩:=Y21.mono_l k
  have m0:=@Y57.mono
  have m1:=@Y27.mono
  have m2:=@Y42.mono
  refine ⟨?_,?_⟩
  ·intros
   unfold Y21.j0
   exact mO
  ·intros
   unfold Y21.l0
   exact mO
theorem Y21.mono:∀ a0 a1 a2 a3 a4 k,LeO (Y21.f k a0 a1 a2 a3 a4) (Y21.f (k+1) a0 a1 a2 a3 a4):=by
 intro a0 a1 a2 a3 a4 k
 have m0:=@Y57.mono
 have m1:=@Y27.mono
 have m2:=@Y42.mono
 obtain ⟨ih0,ih1⟩:=Y21.mono_l k
 unfold Y21.f
 exact mO
theorem Y21.calls (k:Nat) (B2:Int) (E7:Option Addr) (E4:Nat) (B0:List (S78)) (a1:ByteArray) (a2:Int) (A3:Option Addr) (c3:Nat) (l3:List Int) (r:List Int) (w:World) (J9:Kd.C k78 w E7 B0.length B0) (K0:B0.length≤E4) (hr3:Kd.C (Kd.int .i64) w A3 l3.length l3) (hc3:l3.length≤c3) (h:Y21.f k B2 B0 a1 a2 l3=some r) :
  Calls Tryz.prog 10 #[.agg #[.int .i64 B2,.slice E7 B0.length E4],.string a1,.int .i64 a2,.slice A3 l3.length c3] w fun e w'=>∃ v0_:Value,e = .returned (v0_)∧Kd.R (Kd.int .i64) 2 w' w.heap.size (fun _=>True) v0_ r∧Below w.heap.size w w':=by
 have AD7:=Tryz.underlying27
 have C49:=Tryz.underlying75
 have I2:=aM J9
 have J7:=aM K0
 clear J9 K0
 have HR3:=aM hr3
 have HC3:=aM hc3
 clear hr3 hc3
 have HB:=aM (Below.refl w.heap.size w)
 have H:((Y84.f l3).bind fun BU9=>(if BU9=true then (Y21.j0 k a1 a2 l3 true B2 B0) else ((Y57.f k B2 B0 a1).bind fun An4=>(if An4=true then ((Y62.f a2).bind fun AX1=>(if AX1=true then ((Y27.f k l3 5).bind fun AI4=>(Y21.j0 k a1 a2 l3 (!AI4) B2 B0)) else (Y21.j0 k a1 a2 l3 true B2 B0))) else (Y21.j0 k a1 a2 l3 true B2 B0)))))=some r:=h
 clear h
 have HC5:=aM H
 clear H
 go_enter Tryz.func10,Tryz.ntmps10
 go_upto_region 1 with (first | ((with_reducible refine gd_ 4 ?_);refine be_ 4 #[.int .i64 B2,.slice E7 B0.length E4] 27 ?_;intro A71 hg w6 hbox hb;have n0_:=aM (below_step (z6_ HB.out) hb);have n1_:=aM (hbox);have n2_:=aM ((z7_ HB.out:w.heap.size≤A71));have n3_:=aM ((z7_ HB.out:w.heap.size≤A71));clear HB;have HB:=n0_;have P1:=n1_;have GW493:=n2_;have Z9:=n3_;clear n0_ n1_ n2_ n3_;clear hb hbox hg))
 (try simp only [Act.put,sa_,s0_,ss_])
 go_cut [29] (fun v29 wc=>∃ (kq:Nat) (BO5:Bool),v29 = .bool BO5∧Aside0 (Y21.j0 kq a1 a2 l3 BO5 B2 B0=some r)∧Aside0 (kq≤k)∧Aside0 (wc.heap[A71]? = some (.cells #[.int .i64 B2,(.slice E7 B0.length E4)] 27 (0,0)))∧Aside0 (Below w.heap.size w wc))
 case first =>
  have H:=HC5.out
  clear HC5
  replace H:=bS H
  obtain ⟨BU9,A70,H⟩:=H
  replace H:(if BU9=true then (Y21.j0 k a1 a2 l3 true B2 B0) else ((Y57.f k B2 B0 a1).bind fun An4=>(if An4=true then ((Y62.f a2).bind fun AX1=>(if AX1=true then ((Y27.f k l3 5).bind fun AI4=>(Y21.j0 k a1 a2 l3 (!AI4) B2 B0)) else (Y21.j0 k a1 a2 l3 true B2 B0))) else (Y21.j0 k a1 a2 l3 true B2 B0))))=some r:=H
  have A7:=aM A70
  clear A70
  by_cases c8:BU9=true
  ·subst c8
   have H1:(Y21.j0 k a1 a2 l3 true B2 B0)=some r:=by rw [if_pos rfl] at H;exact H
   clear H
   have H:=H1
   clear H1
   have H':=aM H
   clear H
   go_wp2_with (first | ((with_reducible refine gc_ 37 ?_);refine gl_ (some 13) Tryz.func37 #[.slice A3 l3.length c3] ?_;(with_reducible refine (Y84.calls _ _ l3 true _ ?s1 ?s2 A7.out).mono ?_);(case s1=>repeat (first | exact (Kd.C_below HR3.out HB.out) | (with_reducible refine Kd.C_alloc ?_ _) | (with_reducible refine Kd.C_drewN ?_ _) | (with_reducible refine Kd.C_drew ?_)));(case s2=>exact HC3.out);rintro e w' ⟨rfl,⟨nd,rfl⟩⟩;refine ⟨_,rfl,?_⟩))
   go_meet
   case rel=>exact ⟨_,(true),(z2_),H',⟨by first | omega | exact Nat.le_refl _⟩,⟨z3_ P1.out⟩,⟨z4_ HB.out Z9.out⟩⟩
  ·replace c8:=Bool.eq_false_iff.mpr c8
   subst c8
   have H1:((Y57.f k B2 B0 a1).bind fun An4=>(if An4=true then ((Y62.f a2).bind fun AX1=>(if AX1=true then ((Y27.f k l3 5).bind fun AI4=>(Y21.j0 k a1 a2 l3 (!AI4) B2 B0)) else (Y21.j0 k a1 a2 l3 true B2 B0))) else (Y21.j0 k a1 a2 l3 true B2 B0)))=some r:=by rw [if_neg (show ¬ (false=true) by decide)] at H;exact H
   clear H
   have H:=H1
   clear H1
   replace H:=bS H
   obtain ⟨An4,A90,H⟩:=H
   replace H:(if An4=true then ((Y62.f a2).bind fun AX1=>(if AX1=true then ((Y27.f k l3 5).bind fun AI4=>(Y21.j0 k a1 a2 l3 (!AI4) B2 B0)) else (Y21.j0 k a1 a2 l3 true B2 B0))) else (Y21.j0 k a1 a2 l3 true B2 B0))=some r:=H
   have A9:=aM A90
   clear A90
   by_cases c10:An4=true
   ·subst c10
    have H1:((Y62.f a2).bind fun AX1=>(if AX1=true then ((Y27.f k l3 5).bind fun AI4=>(Y21.j0 k a1 a2 l3 (!AI4) B2 B0)) else (Y21.j0 k a1 a2 l3 true B2 B0)))=some r:=by rw [if_pos rfl] at H;exact H
    clear H
    have H:=H1
    clear H1
    replace H:=bS H
    obtain ⟨AX1,f7,H⟩:=H
    replace H:(if AX1=true then ((Y27.f k l3 5).bind fun AI4=>(Y21.j0 k a1 a2 l3 (!AI4) B2 B0)) else (Y21.j0 k a1 a2 l3 true B2 B0))=some r:=H
    have A11:=aM f7
    clear f7
    by_cases c12:AX1=true
    ·subst c12
     have H1:((Y27.f k l3 5).bind fun AI4=>(Y21.j0 k a1 a2 l3 (!AI4) B2 B0))=some r:=by rw [if_pos rfl] at H;exact H
     clear H
     have H:=H1
     clear H1
     replace H:=bS H
     obtain ⟨AI4,AK7,H⟩:=H
     replace H:(Y21.j0 k a1 a2 l3 (!AI4) B2 B0)=some r:=H
     have A13:=aM AK7
     clear AK7
     have H':=aM H
     clear H
     go_wp2_with (first | ((with_reducible refine gc_ 37 ?_);refine gl_ (some 13) Tryz.func37 #[.slice A3 l3.length c3] ?_;(with_reducible refine (Y84.calls _ _ l3 false _ ?s1 ?s2 A7.out).mono ?_);(case s1=>repeat (first | exact (Kd.C_below HR3.out HB.out) | (with_reducible refine Kd.C_alloc ?_ _) | (with_reducible refine Kd.C_drewN ?_ _) | (with_reducible refine Kd.C_drew ?_)));(case s2=>exact HC3.out);rintro e w' ⟨rfl,⟨nd,rfl⟩⟩;refine ⟨_,rfl,?_⟩;have ⟨AH4,AO4,AH5,AO5⟩:=cz2_ P1.out) | (go_at_call 34;(with_reducible refine (Y57.calls k B2 _ _ B0 a1 true _ ?s1 ?s2 A9.out).mono ?_);(case s1=>repeat (first | exact (Kd.C_below I2.out (z4_ HB.out Z9.out)) | (with_reducible refine Kd.C_alloc ?_ _) | (with_reducible refine Kd.C_drewN ?_ _) | (with_reducible refine Kd.C_drew ?_)));(case s2=>exact J7.out);rintro e w15 ⟨rfl,hb⟩;have n0_:=aM (blkB_ P1.out hb);have n1_:=aM (below_step (z4_ HB.out Z9.out) hb);clear P1;clear HB;have P1:=n0_;have HB:=n1_;clear n0_ n1_;(try clear hb)) | (go_at_call 38;(with_reducible refine (Y62.calls a2 true _ A11.out).mono ?_);rintro e w' ⟨rfl,⟨nd,rfl⟩⟩) | (go_at_call 39;(with_reducible refine (Y27.calls k _ _ l3 5 AI4 _ ?s1 ?s2 A13.out).mono ?_);(case s1=>repeat (first | exact (Kd.C_below HR3.out (z4_ HB.out Z9.out)) | (with_reducible refine Kd.C_alloc ?_ _) | (with_reducible refine Kd.C_drewN ?_ _) | (with_reducible refine Kd.C_drew ?_)));(case s2=>exact HC3.out);rintro e w' ⟨rfl,⟨nd,rfl⟩⟩))
     go_meet
     case rel=>exact ⟨_,(!AI4),(z2_),H',⟨by first | omega | exact Nat.le_refl _⟩,⟨z3_ P1.out⟩,⟨z4_ HB.out Z9.out⟩⟩
    ·replace c12:=Bool.eq_false_iff.mpr c12
     subst c12
     have H1:(Y21.j0 k a1 a2 l3 true B2 B0)=some r:=by rw [if_neg (show ¬ (false=true) by decide)] at H;exact H
     clear H
     have H:=H1
     clear H1
     have H':=aM H
     clear H
     go_wp2_with (first | ((with_reducible refine gc_ 37 ?_);refine gl_ (some 13) Tryz.func37 #[.slice A3 l3.length c3] ?_;(with_reducible refine (Y84.calls _ _ l3 false _ ?s1 ?s2 A7.out).mono ?_);(case s1=>repeat (first | exact (Kd.C_below HR3.out HB.out) | (with_reducible refine Kd.C_alloc ?_ _) | (with_reducible refine Kd.C_drewN ?_ _) | (with_reducible refine Kd.C_drew ?_)));(case s2=>exact HC3.out);rintro e w' ⟨rfl,⟨nd,rfl⟩⟩;refine ⟨_,rfl,?_⟩;have ⟨r8,r9,s8,s9⟩:=cz2_ P1.out) | (go_at_call 34;(with_reducible refine (Y57.calls k B2 _ _ B0 a1 true _ ?s1 ?s2 A9.out).mono ?_);(case s1=>repeat (first | exact (Kd.C_below I2.out (z4_ HB.out Z9.out)) | (with_reducible refine Kd.C_alloc ?_ _) | (with_reducible refine Kd.C_drewN ?_ _) | (with_reducible refine Kd.C_drew ?_)));(case s2=>exact J7.out);rintro e w17 ⟨rfl,hb⟩;have n0_:=aM (blkB_ P1.out hb);have n1_:=aM (below_step (z4_ HB.out Z9.out) hb);clear P1;clear HB;have P1:=n0_;have HB:=n1_;clear n0_ n1_;(try clear hb)) | (go_at_call 38;(with_reducible refine (Y62.calls a2 false _ A11.out).mono ?_);rintro e w' ⟨rfl,⟨nd,rfl⟩⟩))
     go_meet
     case rel=>exact ⟨_,(true),(z2_),H',⟨by first | omega | exact Nat.le_refl _⟩,⟨z3_ P1.out⟩,⟨z4_ HB.out Z9.out⟩⟩
   ·replace c10:=Bool.eq_false_iff.mpr c10
    subst c10
    have H1:(Y21.j0 k a1 a2 l3 true B2 B0)=some r:=by rw [if_neg (show ¬ (false=true) by decide)] at H;exact H
    clear H
    have H:=H1
    clear H1
    have H':=aM H
    clear H
    go_wp2_with (first | ((with_reducible refine gc_ 37 ?_);refine gl_ (some 13) Tryz.func37 #[.slice A3 l3.length c3] ?_;(with_reducible refine (Y84.calls _ _ l3 false _ ?s1 ?s2 A7.out).mono ?_);(case s1=>repeat (first | exact (Kd.C_below HR3.out HB.out) | (with_reducible refine Kd.C_alloc ?_ _) | (with_reducible refine Kd.C_drewN ?_ _) | (with_reducible refine Kd.C_drew ?_)));(case s2=>exact HC3.out);rintro e w' ⟨rfl,⟨nd,rfl⟩⟩;refine ⟨_,rfl,?_⟩;have ⟨AV9,AW0,AW1,AW2⟩:=cz2_ P1.out) | (go_at_call 34;(with_reducible refine (Y57.calls k B2 _ _ B0 a1 false _ ?s1 ?s2 A9.out).mono ?_);(case s1=>repeat (first | exact (Kd.C_below I2.out (z4_ HB.out Z9.out)) | (with_reducible refine Kd.C_alloc ?_ _) | (with_reducible refine Kd.C_drewN ?_ _) | (with_reducible refine Kd.C_drew ?_)));(case s2=>exact J7.out);rintro e w19 ⟨rfl,hb⟩;have n0_:=aM (blkB_ P1.out hb);have n1_:=aM (below_step (z4_ HB.out Z9.out) hb);clear P1;clear HB;have P1:=n0_;have HB:=n1_;clear n0_ n1_;(try clear hb)))
    go_meet
    case rel=>exact ⟨_,(true),(z2_),H',⟨by first | omega | exact Nat.le_refl _⟩,⟨z3_ P1.out⟩,⟨z4_ HB.out Z9.out⟩⟩
 case rest =>
  clear HC5
  try clear c1
  try clear p2
  try clear c3
  try clear c8
  try clear c10
  try clear c12
  try clear AH4
  try clear AO4
  try clear r8
  try clear r9
  try clear AV9
  try clear AW0
  try clear AH5
  try clear AO5
  try clear s8
  try clear s9
  try clear AW1
  try clear AW2
  obtain ⟨kq,BO5,rfl,HA,HJ4,P1,HB⟩:=hcut
  cases kq with
  | zero=>exact absurd HA.out (by simp [Y21.j0])
  | succ kj4 =>
   have H:=HA.out
   clear HA
   simp only [Y21.j0] at H
   by_cases c20:BO5=true
   ·subst c20
    have H1:(some ([]:List Int))=some r:=by rw [if_pos rfl] at H;exact H
    clear H
    have H:=H1
    clear H1
    obtain rfl:=sI H
    go_wp2
    go_ret
    exact ⟨_,z8_,z27_,z4_ HB.out Z9.out⟩
   ·replace c20:=Bool.eq_false_iff.mpr c20
    subst c20
    have H1:((Y42.f kj4 B2 B0 a1 a2 l3).bind fun u2=>(Y21.l0 kj4 ([]:List Int) u2 (u2.length:Int) 0))=some r:=by rw [if_neg (show ¬ (false=true) by decide)] at H;exact H
    clear H
    have H:=H1
    clear H1
    replace H:=bS H
    obtain ⟨u2,Bj6,H⟩:=H
    replace H:(Y21.l0 kj4 ([]:List Int) u2 (u2.length:Int) 0)=some r:=H
    have A21:=aM Bj6
    clear Bj6
    have H':=aM H
    clear H
    have ⟨Af5,Aq7,Af6,Aq8⟩:=cz2_ P1.out
    go_wp2_with (first | ((with_reducible refine gc_ 40 ?_);refine gl_ (some 34) Tryz.func40 #[.agg #[.int .i64 B2,.slice E7 B0.length E4],.string a1,.int .i64 a2,.slice A3 l3.length c3] ?_;(with_reducible refine (Y42.calls kj4 B2 _ _ B0 a1 a2 _ _ l3 u2 _ ?s1 ?s2 ?s3 ?s4 A21.out).mono ?_);(case s1=>repeat (first | exact (Kd.C_below I2.out HB.out) | (with_reducible refine Kd.C_alloc ?_ _) | (with_reducible refine Kd.C_drewN ?_ _) | (with_reducible refine Kd.C_drew ?_)));(case s2=>exact J7.out);(case s3=>repeat (first | exact (Kd.C_below HR3.out HB.out) | (with_reducible refine Kd.C_alloc ?_ _) | (with_reducible refine Kd.C_drewN ?_ _) | (with_reducible refine Kd.C_drew ?_)));(case s4=>exact HC3.out);rintro e w23 ⟨v499,rfl,ho0,hb⟩;refine ⟨_,rfl,?_⟩;have n0_:=aM (Kd.R_lower ho0 (below_size (z4_ HB.out Z9.out)));have n1_:=aM (blkB_ P1.out hb);have n2_:=aM (below_step (z4_ HB.out Z9.out) hb);clear P1;clear HB;have CB7:=n0_;have P1:=n1_;have HB:=n2_;clear n0_ n1_ n2_;(try clear hb);(try clear ho0);obtain ⟨BT5,BC6,Ay1⟩:=Kd.R_slice CB7.out;subst Ay1))
    go_loopg [9,36] kj4 (fun kq v9 v36 w'=>∃ (H5:List Int) (d9:Int),v36 = .int .i64 d9∧Aside0 (Y21.l0 kq H5 u2 (u2.length:Int) d9=some r)∧Aside0 (kq≤kj4)∧Aside0 (Kd.R (Kd.int .i64) 2 w' w.heap.size (fun _=>True) v9 H5)∧Aside0 (Kd.R k75 75 w' w.heap.size (fun _=>True) (.slice BT5 u2.length BC6) u2)∧Aside0 (w'.heap[A71]? = some (.cells #[.int .i64 B2,(.slice E7 B0.length E4)] 27 (0,0)))∧Aside0 (Below w.heap.size w w'))
    case atStart=>exact ⟨(([]:List Int)),(0),(z2_),H',⟨Nat.le_refl _⟩,⟨z27_⟩,⟨z0_ CB7.out⟩,⟨z3_ P1.out⟩,⟨z4_ HB.out Z9.out⟩⟩
    case round =>
     clear H'
     try clear c1
     try clear c2
     try clear p2
     try clear c3
     try clear c4
     try clear c8
     try clear c10
     try clear c12
     try clear c20
     try clear AH4
     try clear AO4
     try clear r8
     try clear r9
     try clear AV9
     try clear AW0
     try clear Af5
     try clear Aq7
     try clear AH5
     try clear AO5
     try clear s8
     try clear s9
     try clear AW1
     try clear AW2
     try clear Af6
     try clear Aq8
     try clear p2
     obtain ⟨H5,d9,rfl,HA,HK2,H6,Ab7,P1,HB⟩:=hrel
     cases gk with
     | zero=>exact absurd HA.out (by simp [Y21.l0])
     | succ k2 =>
      have H:=HA.out
      clear HA
      simp only [Y21.l0] at H
      by_cases c25:d9<(u2.length:Int)
      ·rw [if_pos c25] at H
       have c25b0:decide (d9<(u2.length:Int))=true:=dE c25
       clear c25
       by_cases c26:0≤d9
       ·rw [if_pos c26] at H
        have c26b0:decide (0≤d9)=true:=dE c26
        clear c26
        by_cases c27:d9<(u2.length:Int)
        ·rw [if_pos c27] at H
         have c27b0:decide (d9<(u2.length:Int))=true:=dE c27
         clear c27
         by_cases c28:H5.length<17592186044416
         ·rw [if_pos c28] at H
          have Cr9:=aM c28
          clear c28
          obtain ⟨Cs0,A72⟩:∃ y_:List Int,y_=(H5 ++ [(rd_T75 u2 d9).f0]):=⟨_,rfl⟩
          replace H:(Y21.l0 k2 Cs0 u2 (u2.length:Int) (wrap64 (d9+1)))=some r:=by first | (rw [A72];with_reducible exact H) | (have H2_:=(Option.bind_some _ _).symm.trans H;rw [A72];with_reducible exact H2_) | (have H2_:=(Option.bind_some _ _).symm.trans H;with_reducible exact H2_) | with_reducible exact H | (rw [A72];exact H) | exact H
          have Cs1:=aM A72
          clear A72
          have H':=aM H
          clear H
          have CP8:0≤(d9:Int):=dT (z1_)
          have CP9:d9<(u2.length:Int):=dT (z1_)
          obtain ⟨ad501,C54,hx501_0,hx501_1⟩:=at_T75 (Kd.R_reads' Ab7.out).2.2 d9 CP8 CP9
          cases C54
          replace CP8:=eq_true CP8
          replace CP9:=eq_true CP9
          go_wp2_with (first | ((with_reducible refine gd_ 11 ?_);refine be_ 11 #[.int .i64 0,.int .i64 0] 75 ?_;intro A73 hg w29 hbox hb;have n0_:=aM (Kd.R_below (z0_ H6.out) hb);have n1_:=aM (Kd.R_below (Kd.R_elderB (z0_ Ab7.out) A73 (Nat.le_of_eq hg.symm)) hb);have n2_:=aM (blkB_ P1.out hb);have n3_:=aM (below_step (z4_ HB.out Z9.out) hb);have n4_:=aM (hbox);have n5_:=aM ((z13_ HB.out Z9.out:w.heap.size≤A73));have n6_:=aM ((z13_ HB.out Z9.out:w.heap.size≤A73));have n7_:=aM (neL_ P1.out hg);have n8_:=aM (neG_ P1.out hg);clear H6;clear Ab7;clear P1;clear HB;have H6:=n0_;have Ab7:=n1_;have P1:=n2_;have HB:=n3_;have Ak4:=n4_;have GW502:=n5_;have Bj7:=n6_;have Ap0:=n7_;have BV0:=n8_;clear n0_ n1_ n2_ n3_ n4_ n5_ n6_ n7_ n8_;clear hb hbox hg;have Cs2:=BV0.out;have Cs3:=Ap0.out;have ⟨Bz2,Bz3,Bz4,Bz5⟩:=cz2_ Ak4.out) | ((with_reducible refine gate_builtin (b:=.append) (xs:=#[.tmp 40,.tmp 43]) rfl ?_);at_builtin;refine Kd.R_append (Kd.int .i64) (w0:=w) w.heap.size rfl (.tmp 40) (.tmp 43) 30 2 (.int .i64 0) 8 rfl Tryz.underlying30 info2 rfl (by decide) (by omega) u9 H5 ((rd_T75 u2 d9).f0) [.int .i64 ((rd_T75 u2 d9).f0)] (fun _=>True) (fun _=>False) rfl (by first | (go_simp;done) | (go_simp;rfl)) ?aP (fun _ hk=>hk.elim) ?aF ?aO ?aB ?aS ?aL ?_;(case aP=>exact rfl);(case aB=>exact (z9_ HB.out Z9.out Bj7.out));(case aF=>exact (fun _ _=>trivial));(case aO=>exact (z24_ H6.out Ak4.out));(case aS=>exact (below_size (z9_ HB.out Z9.out Bj7.out)));(case aL=>have:=Cr9.out;omega);intro v504 w32 ho hb hg hat;rw [← Cs1.out] at ho;have n0_:=aM (Kd.R_over' (by (with_reducible repeat (first | apply Kd.R_alloc | apply Kd.R_drewN | apply Kd.R_drew));exact (Kd.R_mono (rf2_ (Kd.R_mono Ab7.out (fun k_ hk=>(⟨hk,hk.2⟩:_∧k_≠A73))) (fun _ hk=>hk.2)) (fun _ h_=>h_.1))) (Kd.R_typed (z16_ H6.out Ak4.out)) (by decide) hg);have n1_:=aM (blk_grown (g:=A71) (o:=.cells #[.int .i64 B2,.slice E7 B0.length E4] 27 (0,0)) (z22_ Ap0.out P1.out) hg (Kd.R_ne H6.out P1.out (by decide)));have n2_:=aM (blk_grown (g:=A73) (o:=.cells #[.int .i64 ((rd_T75 u2 d9).f0),.int .i64 ((rd_T75 u2 d9).f1)] 75 (0,0)) (z18_ Ak4.out) hg (Kd.R_ne H6.out Ak4.out (by decide)));have n3_:=aM (hb);have n4_:=aM (ho);clear Ab7;clear P1;clear Ak4;clear HB;clear H6;have Ab7:=n0_;have P1:=n1_;have Ak4:=n2_;have HB:=n3_;have Cs4:=n4_;clear n0_ n1_ n2_ n3_ n4_;clear ho hb hg hat))
          go_roundg k2
          case measure=>have:=HJ4.out;have:=HK2.out;omega
          case rel=>exact ⟨(Cs0),(wrap64 (d9+1)),(z2_),H',⟨z14_ HJ4.out HK2.out⟩,⟨z0_ Cs4.out⟩,⟨z47_ Ab7.out⟩,⟨z3_ P1.out⟩,⟨z9_ HB.out Z9.out Bj7.out⟩⟩
         ·rw [if_neg c28] at H
          exact nO H
        ·rw [if_neg c27] at H
         exact nO H
       ·rw [if_neg c26] at H
        exact nO H
      ·rw [if_neg c25] at H
       have c25b0:decide (d9<(u2.length:Int))=false:=dF c25
       clear c25
       obtain rfl:=sI H
       go_wp2
       go_ret
       exact ⟨_,z8_,z0_ H6.out,z4_ HB.out Z9.out⟩


/-! ### Y37: function 41 -/
def Y37.l0:Nat→Int→List Int→Int→List Int→Int→Int→Int→Option (ByteArray × Int × Int × Int)
 | 0,_,_,_,_,_,_,_=>none
 | k+1,x1,x5,x6,x1000,CB8,CB9,CC0=>if x6<x1 then ((Y4.f x1000 CB8 CB9 CC0 256).bind fun BO6=>(if x5.length<140737488355328 then (Y37.l0 k x1 (x5 ++ [(BO6.1) % 256]) (wrap64 (x6+1)) x1000 BO6.2.1 BO6.2.2.1 BO6.2.2.2) else (none))) else (some (strOfNums x5,CB8,CB9,CC0))
def Y37.f (k:Nat) (E2:List Int) (H8:Int) (C7:Int) (K2:Int) (a1:Int):Option (ByteArray × Int × Int × Int):=Y37.l0 k a1 (([]:List Int)) 0 E2 H8 C7 K2
theorem Y37.mono_l:∀ k,(∀ y0 y1 y2 y3 y4 y5 y6,LeO (Y37.l0 k y0 y1 y2 y3 y4 y5 y6) (Y37.l0 (k+1) y0 y1 y2 y3 y4 y5 y6))
 | 0=>by intros <;> exact LeO.none _
 | k+1=>by
  have ih0:=Y37.mono_l k
  ·intros
   unfold Y37.l0
   exact mO
theorem Y37.mono:∀ a0 a1 a2 a3 a4 k,LeO (Y37.f k a0 a1 a2 a3 a4) (Y37.f (k+1) a0 a1 a2 a3 a4):=by
 intro a0 a1 a2 a3 a4 k
 have ih0:=Y37.mono_l k
 unfold Y37.f
 exact mO
theorem Y37.calls (k:Nat) (g:Nat) (E2:List Int) (H8:Int) (C7:Int) (K2:Int) (a1:Int) (r1:ByteArray) (r2:Int) (r3:Int) (r4:Int) (w0 w:World) (hI:IsS98 w0 w g E2 H8 C7 K2) (hB:Below w0.heap.size w0 w) (h:Y37.f k E2 H8 C7 K2 a1=some (r1,r2,r3,r4)) :
  Calls Tryz.prog 41 #[.pointer (some ⟨g,0,none⟩),.int .i64 a1] w fun e w'=>e = .returned (.string r1)∧IsS98 w0 w' g E2 r2 r3 r4∧Below w0.heap.size w0 w'∧KeepBut w w' g none:=by
 have HI0:=aM hI
 have HK:=aM (KeepBut.refl w g none)
 have HL:=aM hB.size
 clear hI
 have HW0:=aM hB.size
 have HB:=aM hB
 clear hB
 have H:(Y37.l0 k a1 (([]:List Int)) 0 E2 H8 C7 K2)=some (r1,r2,r3,r4):=h
 clear h
 obtain ⟨Cs5,A75⟩:∃ y_:List Int,y_=(([]:List Int)):=⟨_,rfl⟩
 replace H:(Y37.l0 k a1 Cs5 0 E2 H8 C7 K2)=some (r1,r2,r3,r4):=by first | (rw [A75];with_reducible exact H) | (have H2_:=(Option.bind_some _ _).symm.trans H;rw [A75];with_reducible exact H2_) | (have H2_:=(Option.bind_some _ _).symm.trans H;with_reducible exact H2_) | with_reducible exact H | (rw [A75];exact H) | exact H
 have CC1:=aM A75
 clear A75
 have H':=aM H
 clear H
 go_enter Tryz.func41,Tryz.ntmps41
 go_wp2_with (first | ((with_reducible refine gd_ 7 ?_);refine Kd.R_lit (Kd.int .u8) _ 5 ?hg (N:=7) ?hd (xs:=([]:List Int)) (inner:=[]) (ok:=fun _=>True) (okp:=fun _=>True) ?hr ?hp (fun _ hk=>hk) trivial (Below.refl _ _) (Nat.le_refl _) (by simp) ?_;(case hd=>rfl);(case hg=>rfl);(case hr=>first | (go_simp;done) | (go_simp;rfl));(case hp=>exact (Reps.none _ _));intro v507 w3 ho4 hb hg_ hnew_;clear hg_ hnew_;(first | rw [← CC1.out] at ho4 | (simp only [Int.reduceToNat] at ho4;rw [← CC1.out] at ho4));have n0_:=aM (Kd.R_lower ho4 (keep_size (w:=w) (g:=g) (row:=none) (z12_ HK.out)));have n1_:=aM (IsS98.below (z17_ HI0.out) hb);have n2_:=aM (KeepBut.trans (z12_ HK.out) (KeepBut.of_below hb g none) (.inl rfl));have n3_:=aM (below_step (z15_ HB.out HI0.out) hb);clear HI0;clear HK;clear HB;have Cs6:=n0_;have HI0:=n1_;have HK:=n2_;have HB:=n3_;clear n0_ n1_ n2_ n3_;clear hb ho4))
 go_loopg [5,6] k (fun kq v5 v6 w'=>∃ (F2:List Int) (D9:Int) (AX2:Int) (AX3:Int) (AX4:Int),v6 = .int .i64 D9∧Aside0 (Y37.l0 kq a1 F2 D9 E2 AX2 AX3 AX4=some (r1,r2,r3,r4))∧Aside0 (kq≤k)∧Aside0 (Kd.R (Kd.int .u8) 5 w' w.heap.size (fun _=>True) v5 F2)∧Aside0 (IsS98 w0 w' g E2 AX2 AX3 AX4)∧Aside0 (KeepBut w w' g none)∧Aside0 (Below w0.heap.size w0 w'))
 case atStart=>exact ⟨(Cs5),(0),(H8),(C7),(K2),(z2_),H',⟨Nat.le_refl _⟩,⟨z0_ Cs6.out⟩,⟨z17_ HI0.out⟩,⟨z12_ HK.out⟩,⟨z15_ HB.out HI0.out⟩⟩
 case round =>
  clear H'
  try clear p2
  try clear c4
  obtain ⟨F2,D9,AX2,AX3,AX4,rfl,HA,HK1,A76,HI0,HK,HB⟩:=hrel
  cases gk with
  | zero=>exact absurd HA.out (by simp [Y37.l0])
  | succ k1 =>
   have H:=HA.out
   clear HA
   simp only [Y37.l0] at H
   by_cases c5:D9<a1
   ·rw [if_pos c5] at H
    have c5b0:decide (D9<a1)=true:=dE c5
    clear c5
    replace H:=bS H
    obtain ⟨⟨Bj8,Bz6,Bz7,Bz8⟩,A60,H⟩:=H
    replace H:(if F2.length<140737488355328 then (Y37.l0 k1 a1 (F2 ++ [(Bj8) % 256]) (wrap64 (D9+1)) E2 Bz6 Bz7 Bz8) else (none))=some (r1,r2,r3,r4):=H
    have A6:=aM A60
    clear A60
    by_cases c7:F2.length<140737488355328
    ·rw [if_pos c7] at H
     have C55:=aM c7
     clear c7
     obtain ⟨Cs7,A77⟩:∃ y_:List Int,y_=(F2 ++ [(Bj8) % 256]):=⟨_,rfl⟩
     replace H:(Y37.l0 k1 a1 Cs7 (wrap64 (D9+1)) E2 Bz6 Bz7 Bz8)=some (r1,r2,r3,r4):=by first | (rw [A77];with_reducible exact H) | (have H2_:=(Option.bind_some _ _).symm.trans H;rw [A77];with_reducible exact H2_) | (have H2_:=(Option.bind_some _ _).symm.trans H;with_reducible exact H2_) | with_reducible exact H | (rw [A77];exact H) | exact H
     have Cs8:=aM A77
     clear A77
     have H':=aM H
     clear H
     go_wp2_with (first | ((with_reducible refine gc_ 31 ?_);refine gl_ (some 15) Tryz.func31 #[.pointer (some ⟨g,0,none⟩),.int .i64 256] ?_;(with_reducible refine (Y4.calls g E2 AX2 AX3 AX4 256 Bj8 Bz6 Bz7 Bz8 w0 _ ?s1 ?s2 A6.out).mono ?_);(case s1=>repeat (first | (with_reducible first | exact HI0.out | apply IsS98.alloc | apply IsS98.drewN | apply IsS98.drew | apply IsS98.set_1 | apply IsS98.set_2 | apply IsS98.set_3) | exact HI0.out));(case s2=>repeat (first | (with_reducible first | exact HB.out | apply below_alloc | apply pw_below_drewN | apply below_drew1 | refine below_set ?_ (IsS98.ge HI0.out)) | exact HB.out));rintro e w8 ⟨rfl,hi,hb,hk⟩;refine ⟨_,rfl,?_⟩;have n0_:=aM (Kd.R_mono (Kd.R_keep (IsS98.apart (show IsS98 w0 _ g E2 AX2 AX3 AX4 from by repeat (first | (with_reducible first | exact HI0.out | apply IsS98.alloc | apply IsS98.drewN | apply IsS98.drew | apply IsS98.set_1 | apply IsS98.set_2 | apply IsS98.set_3) | exact HI0.out)) (z0_ A76.out) (by decide)) hk (fun _ h=>h.2)) (fun _ h=>h.1));have n1_:=aM (KeepBut.trans (z12_ HK.out) hk (.inl rfl));have n2_:=aM (hb);have n3_:=aM (hi);clear A76;clear HK;clear HB;clear HI0;have A76:=n0_;have HK:=n1_;have HB:=n2_;have HI0:=n3_;clear n0_ n1_ n2_ n3_;(try clear hb);(try clear hk);(try clear hi)) | ((with_reducible refine gate_builtin (b:=.append) (xs:=#[.tmp 13,.tmp 17]) rfl ?_);at_builtin;refine Kd.R_append (Kd.int .u8) w.heap.size rfl (.tmp 13) (.tmp 17) 22 5 (.int .u8 0) 1 rfl Tryz.underlying22 info5 rfl (by decide) (by omega) u5 F2 ((Bj8) % 256) [.int .u8 ((Bj8) % 256)] (fun _=>True) (fun _=>False) rfl rfl ?aP (fun _ hk=>hk.elim) ?aF ?aO (Below.refl _ _) ?aS ?aL ?_;(case aP=>exact rfl);(case aF=>exact (fun _ _=>trivial));(case aO=>exact (z0_ A76.out));(case aS=>exact (keep_size (w:=w) (g:=g) (row:=none) (z12_ HK.out)));(case aL=>have:=C55.out;omega);intro v514 w9 ho hb hg hat;rw [← Cs8.out] at ho;have n0_:=aM (IsS98.grown (z17_ HI0.out) hg (IsS98.own_ne HI0.out A76.out (by decide)));have n1_:=aM (below_weaken (z15_ HB.out HI0.out) HL.out hb);have n2_:=aM (KeepBut.trans (z12_ HK.out) (KeepBut.of_grown hg g) (Kd.R_base2 A76.out));have n3_:=aM (ho);clear HI0;clear HB;clear HK;clear A76;have HI0:=n0_;have HB:=n1_;have HK:=n2_;have Cs9:=n3_;clear n0_ n1_ n2_ n3_;clear ho hb hg hat))
     go_roundg k1
     case measure=>have:=HK1.out;omega
     case rel=>exact ⟨(Cs7),(wrap64 (D9+1)),(Bz6),(Bz7),(Bz8),(z2_),H',⟨by have:=HK1.out;omega⟩,⟨z0_ Cs9.out⟩,⟨z17_ HI0.out⟩,⟨z12_ HK.out⟩,⟨z15_ HB.out HI0.out⟩⟩
    ·rw [if_neg c7] at H
     exact nO H
   ·rw [if_neg c5] at H
    have c5b0:decide (D9<a1)=false:=dF c5
    clear c5
    simp only [Option.some.injEq,Prod.mk.injEq] at H
    obtain ⟨rfl,rfl,rfl,rfl⟩:=H
    have CW2:=own_string (P:=Tryz.prog) Tryz.underlying22 Tryz.underlying5 Tryz.underlying9 (Kd.own_of_R A76.out)
    go_wp2
    go_ret
    exact ⟨z8_,z17_ HI0.out,z15_ HB.out HI0.out,z12_ HK.out⟩


/-! ### Y74: function 11 -/
def Y74.f (k:Nat) (l0:List Int):Option (ByteArray):=(Y20.f k l0).bind fun AM0=>((Y4.f AM0.1 AM0.2.1 AM0.2.2.1 AM0.2.2.2 9).bind fun AD2=>((Y37.f k AM0.1 AD2.2.1 AD2.2.2.1 AD2.2.2.2 AD2.1).bind fun Ak5=>(some Ak5.1)))
theorem Y74.mono:∀ a0 k,LeO (Y74.f k a0) (Y74.f (k+1) a0):=by
 intro a0 k
 have m0:=@Y20.mono
 have m1:=@Y37.mono
 unfold Y74.f
 exact mO
theorem Y74.calls (k:Nat) (A0:Option Addr) (c0:Nat) (l0:List Int) (r:ByteArray) (w:World) (hr0:Kd.C (Kd.int .u8) w A0 l0.length l0) (hc0:l0.length≤c0) (h:Y74.f k l0=some r) :
  Calls Tryz.prog 11 #[.slice A0 l0.length c0] w fun e w'=>e = .returned (.string r)∧Below w.heap.size w w':=by
 have HR0:=aM hr0
 have HC0:=aM hc0
 clear hr0 hc0
 have HB:=aM (Below.refl w.heap.size w)
 have H:((Y20.f k l0).bind fun AM0=>((Y4.f AM0.1 AM0.2.1 AM0.2.2.1 AM0.2.2.2 9).bind fun AD2=>((Y37.f k AM0.1 AD2.2.1 AD2.2.2.1 AD2.2.2.2 AD2.1).bind fun Ak5=>(some Ak5.1))))=some r:=h
 clear h
 replace H:=bS H
 obtain ⟨⟨BV1,CQ0,CQ1,CQ2⟩,A20,H⟩:=H
 replace H:((Y4.f BV1 CQ0 CQ1 CQ2 9).bind fun AD2=>((Y37.f k BV1 AD2.2.1 AD2.2.2.1 AD2.2.2.2 AD2.1).bind fun Ak5=>(some Ak5.1)))=some r:=H
 have A2:=aM A20
 clear A20
 replace H:=bS H
 obtain ⟨⟨Bz9,CQ3,CQ4,CQ5⟩,A30,H⟩:=H
 replace H:((Y37.f k BV1 CQ3 CQ4 CQ5 Bz9).bind fun Ak5=>(some Ak5.1))=some r:=H
 have A3:=aM A30
 clear A30
 replace H:=bS H
 obtain ⟨⟨Ct0,C56,C57,C58⟩,A40,H⟩:=H
 replace H:(some Ct0)=some r:=H
 have A4:=aM A40
 clear A40
 obtain rfl:=sI H
 go_enter Tryz.func11,Tryz.ntmps11
 go_wp2_with (first | ((with_reducible refine gc_ 30 ?_);refine gl_ (some 5) Tryz.func30 #[.slice A0 l0.length c0] ?_;(with_reducible refine (Y20.calls k _ _ l0 BV1 CQ0 CQ1 CQ2 w _ ?s1 ?s2 ?s3 A2.out).mono ?_);(case s1=>repeat (first | (with_reducible first | exact HB.out | apply below_alloc | apply pw_below_drewN | apply below_drew1) | exact HB.out));(case s2=>exact HR0.out);(case s3=>exact HC0.out);rintro e w5 ⟨B00,rfl,hi,hb,hb2⟩;refine ⟨_,rfl,?_⟩;have n0_:=aM (hb);have n1_:=aM (hi);clear HB;have HB:=n0_;have AM1:=n1_;clear n0_ n1_;(try clear hb);(try clear hb2);(try clear hi)) | ((with_reducible refine gc_ 31 ?_);refine gl_ (some 8) Tryz.func31 #[.pointer (some ⟨B00,0,none⟩),.int .i64 9] ?_;(with_reducible refine (Y4.calls B00 BV1 CQ0 CQ1 CQ2 9 Bz9 CQ3 CQ4 CQ5 w _ ?s1 ?s2 A3.out).mono ?_);(case s1=>repeat (first | (with_reducible first | exact AM1.out | apply IsS98.alloc | apply IsS98.drewN | apply IsS98.drew | apply IsS98.set_1 | apply IsS98.set_2 | apply IsS98.set_3) | exact AM1.out));(case s2=>repeat (first | (with_reducible first | exact HB.out | apply below_alloc | apply pw_below_drewN | apply below_drew1 | refine below_set ?_ (IsS98.ge AM1.out)) | exact HB.out));rintro e w6 ⟨rfl,hi,hb,hk⟩;refine ⟨_,rfl,?_⟩;have n0_:=aM (hb);have n1_:=aM (hi);clear HB;clear AM1;have HB:=n0_;have AM1:=n1_;clear n0_ n1_;(try clear hb);(try clear hk);(try clear hi)) | ((with_reducible refine gc_ 41 ?_);refine gl_ (some 9) Tryz.func41 #[.pointer (some ⟨B00,0,none⟩),.int .i64 Bz9] ?_;(with_reducible refine (Y37.calls k B00 BV1 CQ3 CQ4 CQ5 Bz9 Ct0 C56 C57 C58 w _ ?s1 ?s2 A4.out).mono ?_);(case s1=>repeat (first | (with_reducible first | exact AM1.out | apply IsS98.alloc | apply IsS98.drewN | apply IsS98.drew | apply IsS98.set_1 | apply IsS98.set_2 | apply IsS98.set_3) | exact AM1.out));(case s2=>repeat (first | (with_reducible first | exact HB.out | apply below_alloc | apply pw_below_drewN | apply below_drew1 | refine below_set ?_ (IsS98.ge AM1.out)) | exact HB.out));rintro e w7 ⟨rfl,hi,hb,hk⟩;refine ⟨_,rfl,?_⟩;have n0_:=aM (hb);have n1_:=aM (hi);clear HB;clear AM1;have HB:=n0_;have AM1:=n1_;clear n0_ n1_;(try clear hb);(try clear hk);(try clear hi)))
 go_ret
 exact ⟨z8_,z15_ HB.out AM1.out⟩


attribute [local go_sem high] eqA78
/-! ### Y48: function 12 -/
def Y48.l0:Nat→Int→Int→List (S78)→Int→Int→List (S78)→Int→Option (Bool)
 | 0,_,_,_,_,_,_,_=>none
 | k+1,x5,B01,Ag5,B02,B03,Ag6,B04=>if x5<(Ag5.length:Int) then (if 0≤x5 then (if x5<(Ag6.length:Int) then (if (!(((rd_T78 Ag5 x5).f0) == ((rd_T78 Ag6 x5).f0)) || (!(((rd_T78 Ag5 x5).f1) == ((rd_T78 Ag6 x5).f1))))=true then (none) else (Y48.l0 k (wrap64 (x5+1)) B01 Ag5 B02 B03 Ag6 B04)) else (none)) else (none)) else (some true)
def Y48.f (k:Nat) (B2:Int) (B0:List (S78)) (AR8:Int) (Q4:Int) (k9:List (S78)) (AR9:Int):Option (Bool):=if AR8=AR9 then (if B2=Q4 then (if (B0.length:Int)=(k9.length:Int) then (Y48.l0 k 0 B2 B0 AR8 Q4 k9 AR9) else (none)) else (none)) else (none)
theorem Y48.mono_l:∀ k,(∀ y0 y1 y2 y3 y4 y5 y6,LeO (Y48.l0 k y0 y1 y2 y3 y4 y5 y6) (Y48.l0 (k+1) y0 y1 y2 y3 y4 y5 y6))
 | 0=>by intros <;> exact LeO.none _
 | k+1=>by
  have ih0:=Y48.mono_l k
  ·intros
   unfold Y48.l0
   exact mO
theorem Y48.mono:∀ a0 a1 a2 a3 a4 a5 k,LeO (Y48.f k a0 a1 a2 a3 a4 a5) (Y48.f (k+1) a0 a1 a2 a3 a4 a5):=by
 intro a0 a1 a2 a3 a4 a5 k
 have ih0:=Y48.mono_l k
 unfold Y48.f
 exact mO
theorem Y48.calls (k:Nat) (B2:Int) (E7:Option Addr) (E4:Nat) (B0:List (S78)) (AR8:Int) (Q4:Int) (BV2:Option Addr) (BV3:Nat) (k9:List (S78)) (AR9:Int) (r:Bool) (w:World) (J9:Kd.C k78 w E7 B0.length B0) (K0:B0.length≤E4) (CC2:Kd.C k78 w BV2 k9.length k9) (CC3:k9.length≤BV3) (h:Y48.f k B2 B0 AR8 Q4 k9 AR9=some r) :
  Calls Tryz.prog 12 #[.agg #[.int .i64 B2,.slice E7 B0.length E4,.int .i64 AR8],.agg #[.int .i64 Q4,.slice BV2 k9.length BV3,.int .i64 AR9]] w fun e w'=>e = .returned (.bool r)∧Below w.heap.size w w':=by
 have Ct1:=Tryz.underlying40
 have Ah1:=Tryz.underlying78
 have I2:=aM J9
 have J7:=aM K0
 clear J9 K0
 have Ct2:=aM CC2
 have HC1_1:=aM CC3
 clear CC2 CC3
 have HB:=aM (Below.refl w.heap.size w)
 have H:(if AR8=AR9 then (if B2=Q4 then (if (B0.length:Int)=(k9.length:Int) then (Y48.l0 k 0 B2 B0 AR8 Q4 k9 AR9) else (none)) else (none)) else (none))=some r:=h
 clear h
 by_cases c3:AR8=AR9
 ·rw [if_pos c3] at H
  have c3b0:(AR8 == AR9)=true:=beq_iff_eq.mpr c3
  have c3b1:(AR8 != AR9)=false:=bne_eq_false_iff_eq.mpr c3
  clear c3
  by_cases c4:B2=Q4
  ·rw [if_pos c4] at H
   have c4b0:(B2 == Q4)=true:=beq_iff_eq.mpr c4
   have c4b1:(B2 != Q4)=false:=bne_eq_false_iff_eq.mpr c4
   clear c4
   by_cases c5:(B0.length:Int)=(k9.length:Int)
   ·rw [if_pos c5] at H
    have c5b0:((B0.length:Int) == (k9.length:Int))=true:=beq_iff_eq.mpr c5
    have c5b1:((B0.length:Int) != (k9.length:Int))=false:=bne_eq_false_iff_eq.mpr c5
    have c5b2:(B0.length == k9.length)=true:=by first | simpa using c5 | (simp at c5 ⊢;omega)
    clear c5
    have H':=aM H
    clear H
    go_enter Tryz.func12,Tryz.ntmps12
    go_wp2_with (first | ((with_reducible refine gd_ 2 ?_);(try (refine gate_guard (by rfl) ?_;dsimp only));refine be_ 2 #[.int .i64 B2,.slice E7 B0.length E4,.int .i64 AR8] 40 ?_;intro AX5 hg w6 hbox hb;have n0_:=aM (below_step (z6_ HB.out) hb);have n1_:=aM (hbox);have n2_:=aM ((z7_ HB.out:w.heap.size≤AX5));have n3_:=aM ((z7_ HB.out:w.heap.size≤AX5));clear HB;have HB:=n0_;have V6:=n1_;have CC4:=n2_;have AD3:=n3_;clear n0_ n1_ n2_ n3_;clear hb hbox hg) | ((with_reducible refine gd_ 3 ?_);(try (refine gate_guard (by rfl) ?_;dsimp only));refine be_ 3 #[.int .i64 Q4,.slice BV2 k9.length BV3,.int .i64 AR9] 40 ?_;intro AX6 hg w7 hbox hb;have n0_:=aM (blkB_ V6.out hb);have n1_:=aM (below_step (z4_ HB.out AD3.out) hb);have n2_:=aM (hbox);have n3_:=aM ((z13_ HB.out AD3.out:w.heap.size≤AX6));have n4_:=aM ((z13_ HB.out AD3.out:w.heap.size≤AX6));have n5_:=aM (neL_ V6.out hg);have n6_:=aM (neG_ V6.out hg);clear V6;clear HB;have V6:=n0_;have HB:=n1_;have AX7:=n2_;have CC5:=n3_;have A78:=n4_;have n8:=n5_;have n9:=n6_;clear n0_ n1_ n2_ n3_ n4_ n5_ n6_;clear hb hbox hg;have Bi0:=n8.out;have Bi1:=n9.out;have ⟨R9,a7,Ak6,S0,a8,Ak7⟩:=cz3_ V6.out;have ⟨U5,U6,Au1,U7,U8,Au2⟩:=cz3_ AX7.out))
    repeat (go_quiet (first | ((with_reducible refine gd_ 2 ?_);(try (refine gate_guard (by rfl) ?_;dsimp only));refine be_ 2 #[.int .i64 B2,.slice E7 B0.length E4,.int .i64 AR8] 40 ?_;intro AX5 hg w6 hbox hb;have n0_:=aM (below_step (z6_ HB.out) hb);have n1_:=aM (hbox);have n2_:=aM ((z7_ HB.out:w.heap.size≤AX5));have n3_:=aM ((z7_ HB.out:w.heap.size≤AX5));clear HB;have HB:=n0_;have V6:=n1_;have CC4:=n2_;have AD3:=n3_;clear n0_ n1_ n2_ n3_;clear hb hbox hg) | ((with_reducible refine gd_ 3 ?_);(try (refine gate_guard (by rfl) ?_;dsimp only));refine be_ 3 #[.int .i64 Q4,.slice BV2 k9.length BV3,.int .i64 AR9] 40 ?_;intro AX6 hg w7 hbox hb;have n0_:=aM (blkB_ V6.out hb);have n1_:=aM (below_step (z4_ HB.out AD3.out) hb);have n2_:=aM (hbox);have n3_:=aM ((z13_ HB.out AD3.out:w.heap.size≤AX6));have n4_:=aM ((z13_ HB.out AD3.out:w.heap.size≤AX6));have n5_:=aM (neL_ V6.out hg);have n6_:=aM (neG_ V6.out hg);clear V6;clear HB;have V6:=n0_;have HB:=n1_;have AX7:=n2_;have CC5:=n3_;have A78:=n4_;have n8:=n5_;have n9:=n6_;clear n0_ n1_ n2_ n3_ n4_ n5_ n6_;clear hb hbox hg;have Bi0:=n8.out;have Bi1:=n9.out;have ⟨R9,a7,Ak6,S0,a8,Ak7⟩:=cz3_ V6.out;have ⟨U5,U6,Au1,U7,U8,Au2⟩:=cz3_ AX7.out));try go_wp2_with (first | ((with_reducible refine gd_ 2 ?_);(try (refine gate_guard (by rfl) ?_;dsimp only));refine be_ 2 #[.int .i64 B2,.slice E7 B0.length E4,.int .i64 AR8] 40 ?_;intro AX5 hg w6 hbox hb;have n0_:=aM (below_step (z6_ HB.out) hb);have n1_:=aM (hbox);have n2_:=aM ((z7_ HB.out:w.heap.size≤AX5));have n3_:=aM ((z7_ HB.out:w.heap.size≤AX5));clear HB;have HB:=n0_;have V6:=n1_;have CC4:=n2_;have AD3:=n3_;clear n0_ n1_ n2_ n3_;clear hb hbox hg) | ((with_reducible refine gd_ 3 ?_);(try (refine gate_guard (by rfl) ?_;dsimp only));refine be_ 3 #[.int .i64 Q4,.slice BV2 k9.length BV3,.int .i64 AR9] 40 ?_;intro AX6 hg w7 hbox hb;have n0_:=aM (blkB_ V6.out hb);have n1_:=aM (below_step (z4_ HB.out AD3.out) hb);have n2_:=aM (hbox);have n3_:=aM ((z13_ HB.out AD3.out:w.heap.size≤AX6));have n4_:=aM ((z13_ HB.out AD3.out:w.heap.size≤AX6));have n5_:=aM (neL_ V6.out hg);have n6_:=aM (neG_ V6.out hg);clear V6;clear HB;have V6:=n0_;have HB:=n1_;have AX7:=n2_;have CC5:=n3_;have A78:=n4_;have n8:=n5_;have n9:=n6_;clear n0_ n1_ n2_ n3_ n4_ n5_ n6_;clear hb hbox hg;have Bi0:=n8.out;have Bi1:=n9.out;have ⟨R9,a7,Ak6,S0,a8,Ak7⟩:=cz3_ V6.out;have ⟨U5,U6,Au1,U7,U8,Au2⟩:=cz3_ AX7.out)))
    go_loopg [5] k (fun kq v5 w'=>∃ (F2:Int),v5 = .int .i64 F2∧Aside0 (Y48.l0 kq F2 B2 B0 AR8 Q4 k9 AR9=some r)∧Aside0 (kq≤k)∧Aside0 (w'.heap[AX5]? = some (.cells #[.int .i64 B2,(.slice E7 B0.length E4),.int .i64 AR8] 40 (0,0)))∧Aside0 (w'.heap[AX6]? = some (.cells #[.int .i64 Q4,(.slice BV2 k9.length BV3),.int .i64 AR9] 40 (0,0)))∧Aside0 (Below w.heap.size w w'))
    case atStart=>exact ⟨(0),(z2_),H',⟨Nat.le_refl _⟩,⟨z3_ V6.out⟩,⟨z3_ AX7.out⟩,⟨z9_ HB.out AD3.out A78.out⟩⟩
    case round =>
     clear H'
     try clear c1
     try clear p2
     try clear c3
     try clear c3b0
     try clear c3b1
     try clear c4
     try clear c4b0
     try clear c4b1
     try clear c5
     try clear c5b0
     try clear c5b1
     try clear c5b2
     try clear c8
     try clear U5
     try clear U6
     try clear Au1
     try clear R9
     try clear a7
     try clear Ak6
     try clear U7
     try clear U8
     try clear Au2
     try clear S0
     try clear a8
     try clear Ak7
     obtain ⟨F2,rfl,HA,HK1,V6,AX7,HB⟩:=hrel
     cases gk with
     | zero=>exact absurd HA.out (by simp [Y48.l0])
     | succ k1 =>
      have H:=HA.out
      clear HA
      simp only [Y48.l0] at H
      by_cases c11:F2<(B0.length:Int)
      ·rw [if_pos c11] at H
       have c11b0:decide (F2<(B0.length:Int))=true:=dE c11
       clear c11
       by_cases c12:0≤F2
       ·rw [if_pos c12] at H
        have c12b0:decide (0≤F2)=true:=dE c12
        clear c12
        by_cases c13:F2<(k9.length:Int)
        ·rw [if_pos c13] at H
         have c13b0:decide (F2<(k9.length:Int))=true:=dE c13
         clear c13
         by_cases c14:(!(((rd_T78 B0 F2).f0) == ((rd_T78 k9 F2).f0)) || (!(((rd_T78 B0 F2).f1) == ((rd_T78 k9 F2).f1))))=true
         ·rw [if_pos c14] at H
          exact nO H
         ·rw [if_neg c14] at H
          have c14b0:(!(((rd_T78 B0 F2).f0) == ((rd_T78 k9 F2).f0)) || (!(((rd_T78 B0 F2).f1) == ((rd_T78 k9 F2).f1))))=false:=by simpa using c14
          clear c14
          have H':=aM H
          clear H
          have B62:=n8.out
          have B63:=n9.out
          have ⟨r8,r9,hcz16_2,s8,s9,hfz16_2⟩:=cz3_ V6.out
          have CQ6:0≤(F2:Int):=dT (z1_)
          have CQ7:F2<(B0.length:Int):=dT (z1_)
          obtain ⟨ad531,C59,Au3,Au4⟩:=at_T78 I2.out F2 CQ6 CQ7
          cases C59
          replace Au3:=(HB.out.cell (World.block_lt_of_cell? w _ Au3)).trans Au3
          replace Au4:=(HB.out.cell (World.block_lt_of_cell? w _ Au4)).trans Au4
          replace CQ6:=eq_true CQ6
          replace CQ7:=eq_true CQ7
          have ⟨Bq2,Bq3,hcz17_2,Bq4,Bq5,hfz17_2⟩:=cz3_ AX7.out
          have CQ8:0≤(F2:Int):=dT (z1_)
          have CQ9:F2<(k9.length:Int):=dT (z1_)
          obtain ⟨ad532,C60,Au5,Au6⟩:=at_T78 Ct2.out F2 CQ8 CQ9
          cases C60
          replace Au5:=(HB.out.cell (World.block_lt_of_cell? w _ Au5)).trans Au5
          replace Au6:=(HB.out.cell (World.block_lt_of_cell? w _ Au6)).trans Au6
          replace CQ8:=eq_true CQ8
          replace CQ9:=eq_true CQ9
          go_wp2
          repeat (go_quiet (fail);try go_wp2)
          go_roundg k1
          case measure=>have:=HK1.out;omega
          case rel=>exact ⟨(wrap64 (F2+1)),(z2_),H',⟨by have:=HK1.out;omega⟩,⟨z3_ V6.out⟩,⟨z3_ AX7.out⟩,⟨z9_ HB.out AD3.out A78.out⟩⟩
        ·rw [if_neg c13] at H
         exact nO H
       ·rw [if_neg c12] at H
        exact nO H
      ·rw [if_neg c11] at H
       have c11b0:decide (F2<(B0.length:Int))=false:=dF c11
       clear c11
       obtain rfl:=sI H
       have BX4:=n8.out
       have BX5:=n9.out
       have ⟨AT7,AT8,hcz19_2,AT9,AU0,hfz19_2⟩:=cz3_ V6.out
       go_wp2
       repeat (go_quiet (fail);try go_wp2)
       go_ret
       exact ⟨z8_,z9_ HB.out AD3.out A78.out⟩
   ·rw [if_neg c5] at H
    exact nO H
  ·rw [if_neg c4] at H
   exact nO H
 ·rw [if_neg c3] at H
  exact nO H


/-! ### Y41: function 13 -/
def Y41.j0:Nat→Int→Int→Bool→Option (Int × (List (S78)) × Int)
 | 0,_,_,_=>none
 | k+1,x0,x1,x12=>if x12=true then (some (0,([]:List (S78)),1)) else ((Y28.f k x0 x1).bind fun A79=>(some (A79.1,A79.2,0)))
def Y41.f (k:Nat) (a0:Int) (a1:Int):Option (Int × (List (S78)) × Int):=(Y62.f a0).bind fun BV4=>(if BV4=true then ((Y59.f a1 1 8).bind fun Ak8=>(Y41.j0 k a0 a1 (!Ak8))) else (Y41.j0 k a0 a1 true))
theorem Y41.mono_l:∀ k,(∀ y0 y1 y2,LeO (Y41.j0 k y0 y1 y2) (Y41.j0 (k+1) y0 y1 y2))
 | 0=>by intros <;> exact LeO.none _
 | k+1=>by
  have ih0:=Y41.mono_l k
  have m0:=@Y28.mono
  ·intros
   unfold Y41.j0
   exact mO
theorem Y41.mono:∀ a0 a1 k,LeO (Y41.f k a0 a1) (Y41.f (k+1) a0 a1):=by
 intro a0 a1 k
 have m0:=@Y28.mono
 have ih0:=Y41.mono_l k
 unfold Y41.f
 exact mO
theorem Y41.calls (k:Nat) (a0:Int) (a1:Int) (r1:Int) (r2:List (S78)) (r3:Int) (w:World) (h:Y41.f k a0 a1=some (r1,r2,r3)) :
  Calls Tryz.prog 13 #[.int .i64 a0,.int .i64 a1] w fun e w'=>∃ v1_:Value,e = .returned (.agg #[.int .i64 r1,v1_,.int .i64 r3])∧Kd.R k78 78 w' w.heap.size (fun _=>True) v1_ r2∧Below w.heap.size w w':=by
 have Ct1:=Tryz.underlying40
 have HB:=aM (Below.refl w.heap.size w)
 have H:((Y62.f a0).bind fun BV4=>(if BV4=true then ((Y59.f a1 1 8).bind fun Ak8=>(Y41.j0 k a0 a1 (!Ak8))) else (Y41.j0 k a0 a1 true)))=some (r1,r2,r3):=h
 clear h
 have HC3:=aM H
 clear H
 go_enter Tryz.func13,Tryz.ntmps13
 go_upto_region 1 with (first | ((with_reducible refine gd_ 4 ?_);refine be_ 4 #[.int .i64 0,.slice none 0 0,.int .i64 0] 40 ?_;intro A82 hg w4 hbox hb;have n0_:=aM (below_step (z6_ HB.out) hb);have n1_:=aM (hbox);have n2_:=aM ((z7_ HB.out:w.heap.size≤A82));have n3_:=aM ((z7_ HB.out:w.heap.size≤A82));clear HB;have HB:=n0_;have AM2:=n1_;have GW533:=n2_;have Ap1:=n3_;clear n0_ n1_ n2_ n3_;clear hb hbox hg))
 (try simp only [Act.put,sa_,s0_,ss_])
 go_cut [12] (fun v12 wc=>∃ (kq:Nat) (J1:Bool),v12 = .bool J1∧Aside0 (Y41.j0 kq a0 a1 J1=some (r1,r2,r3))∧Aside0 (kq≤k)∧Aside0 (wc.heap[A82]? = some (.cells #[.int .i64 0,(.slice none 0 0),.int .i64 0] 40 (0,0)))∧Aside0 (Below w.heap.size w wc))
 case first =>
  have H:=HC3.out
  clear HC3
  replace H:=bS H
  obtain ⟨BV4,A50,H⟩:=H
  replace H:(if BV4=true then ((Y59.f a1 1 8).bind fun Ak8=>(Y41.j0 k a0 a1 (!Ak8))) else (Y41.j0 k a0 a1 true))=some (r1,r2,r3):=H
  have A5:=aM A50
  clear A50
  by_cases c6:BV4=true
  ·subst c6
   have H1:((Y59.f a1 1 8).bind fun Ak8=>(Y41.j0 k a0 a1 (!Ak8)))=some (r1,r2,r3):=by rw [if_pos rfl] at H;exact H
   clear H
   have H:=H1
   clear H1
   replace H:=bS H
   obtain ⟨Ak8,A70,H⟩:=H
   replace H:(Y41.j0 k a0 a1 (!Ak8))=some (r1,r2,r3):=H
   have A7:=aM A70
   clear A70
   have H':=aM H
   clear H
   go_wp2_with (first | ((with_reducible refine gc_ 38 ?_);refine gl_ (some 6) Tryz.func38 #[.int .i64 a0] ?_;(with_reducible refine (Y62.calls a0 true _ A5.out).mono ?_);rintro e w' ⟨rfl,⟨nd,rfl⟩⟩;refine ⟨_,rfl,?_⟩) | (go_at_call 42;(with_reducible refine (Y59.calls a1 1 8 Ak8 _ A7.out).mono ?_);rintro e w' ⟨rfl,⟨nd,rfl⟩⟩))
   go_meet
   case rel=>exact ⟨_,(!Ak8),(z2_),H',⟨by first | omega | exact Nat.le_refl _⟩,⟨z3_ AM2.out⟩,⟨z4_ HB.out Ap1.out⟩⟩
  ·replace c6:=Bool.eq_false_iff.mpr c6
   subst c6
   have H1:(Y41.j0 k a0 a1 true)=some (r1,r2,r3):=by rw [if_neg (show ¬ (false=true) by decide)] at H;exact H
   clear H
   have H:=H1
   clear H1
   have H':=aM H
   clear H
   go_wp2_with (first | ((with_reducible refine gc_ 38 ?_);refine gl_ (some 6) Tryz.func38 #[.int .i64 a0] ?_;(with_reducible refine (Y62.calls a0 false _ A5.out).mono ?_);rintro e w' ⟨rfl,⟨nd,rfl⟩⟩;refine ⟨_,rfl,?_⟩))
   go_meet
   case rel=>exact ⟨_,(true),(z2_),H',⟨by first | omega | exact Nat.le_refl _⟩,⟨z3_ AM2.out⟩,⟨z4_ HB.out Ap1.out⟩⟩
 case rest =>
  clear HC3
  try clear c1
  try clear p2
  try clear c3
  try clear c6
  obtain ⟨kq,J1,rfl,HA,HJ2,AM2,HB⟩:=hcut
  cases kq with
  | zero=>exact absurd HA.out (by simp [Y41.j0])
  | succ kj2 =>
   have H:=HA.out
   clear HA
   simp only [Y41.j0] at H
   by_cases c8:J1=true
   ·subst c8
    have H1:(some (0,([]:List (S78)),1))=some (r1,r2,r3):=by rw [if_pos rfl] at H;exact H
    clear H
    have H:=H1
    clear H1
    simp only [Option.some.injEq,Prod.mk.injEq] at H
    obtain ⟨rfl,rfl,rfl⟩:=H
    have ⟨R9,a7,Ak6,S0,a8,Ak7⟩:=cz3_ AM2.out
    go_wp2
    refine bodyPost_ret (results_cell_row rfl _ _ A82 40 #[.int .i64 0,.slice none 0 0,.int .i64 1] (0,0) _ rfl (z50_ AM2.out) Tryz.underlying40 rfl (by kernel_rfl)) rfl ?_
    exact ⟨_,z8_,z27_,z4_ HB.out Ap1.out⟩
   ·replace c8:=Bool.eq_false_iff.mpr c8
    subst c8
    have H1:((Y28.f kj2 a0 a1).bind fun A79=>(some (A79.1,A79.2,0)))=some (r1,r2,r3):=by rw [if_neg (show ¬ (false=true) by decide)] at H;exact H
    clear H
    have H:=H1
    clear H1
    replace H:=bS H
    obtain ⟨⟨CR0,CR1⟩,AF2,H⟩:=H
    replace H:(some (CR0,CR1,0))=some (r1,r2,r3):=H
    have A10:=aM AF2
    clear AF2
    simp only [Option.some.injEq,Prod.mk.injEq] at H
    obtain ⟨rfl,rfl,rfl⟩:=H
    go_wp2_with (first | ((with_reducible refine gc_ 43 ?_);refine gl_ (some 16) Tryz.func43 #[.int .i64 a0,.int .i64 a1] ?_;(with_reducible refine (Y28.calls kj2 a0 a1 CR0 CR1 _ A10.out).mono ?_);rintro e w11 ⟨v538,rfl,ho0,hb⟩;refine ⟨_,rfl,?_⟩;have n0_:=aM (Kd.R_lower ho0 (below_size (z4_ HB.out Ap1.out)));have n1_:=aM (blkB_ AM2.out hb);have n2_:=aM (below_step (z4_ HB.out Ap1.out) hb);clear AM2;clear HB;have CC6:=n0_;have AM2:=n1_;have HB:=n2_;clear n0_ n1_ n2_;(try clear hb);(try clear ho0);obtain ⟨U4,N5,Ai5⟩:=Kd.R_slice CC6.out;subst Ai5;have ⟨Ae9,Af0,BH2,Au7,Af1,BH3⟩:=cz3_ AM2.out))
    refine bodyPost_ret (results_cell_row rfl _ _ A82 40 #[.int .i64 CR0,.slice U4 CR1.length N5,.int .i64 0] (0,0) _ rfl (z50_ AM2.out) Tryz.underlying40 rfl (by kernel_rfl)) rfl ?_
    exact ⟨_,z8_,by (with_reducible repeat (first | apply Kd.R_alloc | apply Kd.R_drewN | apply Kd.R_drew));exact Kd.R_mono (rf3_ (Kd.R_types CC6.out AM2.out (by decide)) (fun _ hk=>hk.2)) (fun _ hk=>trivial),z4_ HB.out Ap1.out⟩


/-! ### Y87: function 45 -/
def Y87.f (a0:Int) (a1:Int) (a2:Int):Option (Bool):=if a0≥a1 then (some (decide (a0≤a2))) else (some false)
theorem Y87.calls (a0:Int) (a1:Int) (a2:Int) (r:Bool) (w:World) (h:Y87.f a0 a1 a2=some r) :
  Calls Tryz.prog 45 #[.int .i64 a0,.int .i64 a1,.int .i64 a2] w fun e w'=>e = .returned (.bool r)∧Drawn0 w w':=by
 have H:(if a0≥a1 then (some (decide (a0≤a2))) else (some false))=some r:=h
 clear h
 by_cases c4:a0≥a1
 ·rw [if_pos c4] at H
  have c4b0:decide (a1≤a0)=true:=dE c4
  clear c4
  obtain rfl:=sI H
  go_enter Tryz.func45,Tryz.ntmps45
  go_wp2
  go_ret
  exact ⟨z2_,z5_⟩
 ·rw [if_neg c4] at H
  have c4b0:decide (a1≤a0)=false:=dF c4
  clear c4
  obtain rfl:=sI H
  go_enter Tryz.func45,Tryz.ntmps45
  go_wp2
  go_ret
  exact ⟨z2_,z5_⟩


/-! ### Y43: function 44 -/
def Y43.f (a0:Int):Option (Bool):=(Y87.f a0 1 5).bind fun BV5=>(some BV5)
theorem Y43.calls (a0:Int) (r:Bool) (w:World) (h:Y43.f a0=some r) :
  Calls Tryz.prog 44 #[.int .i64 a0] w fun e w'=>e = .returned (.bool r)∧Drawn0 w w':=by
 have H:((Y87.f a0 1 5).bind fun BV5=>(some BV5))=some r:=h
 clear h
 replace H:=bS H
 obtain ⟨BV5,A20,H⟩:=H
 replace H:(some BV5)=some r:=H
 have A2:=aM A20
 clear A20
 obtain rfl:=sI H
 go_enter Tryz.func44,Tryz.ntmps44
 go_wp2_with (first | ((with_reducible refine gc_ 45 ?_);refine gl_ (some 4) Tryz.func45 #[.int .i64 a0,.int .i64 1,.int .i64 5] ?_;(with_reducible refine (Y87.calls a0 1 5 BV5 _ A2.out).mono ?_);rintro e w' ⟨rfl,⟨nd,rfl⟩⟩;refine ⟨_,rfl,?_⟩))
 go_ret
 exact ⟨z2_,z5_⟩


/-! ### Y40: function 14 -/
def Y40.j0:Nat→Int→Int→Bool→Option (Int × (List (S78)) × Int)
 | 0,_,_,_=>none
 | k+1,x0,x1,x12=>if x12=true then (some (0,([]:List (S78)),1)) else ((Y25.f k x0 x1).bind fun A84=>(some (A84.1,A84.2,0)))
def Y40.f (k:Nat) (a0:Int) (a1:Int):Option (Int × (List (S78)) × Int):=(Y43.f a0).bind fun BV6=>(if BV6=true then ((Y87.f a1 1 8).bind fun Ak9=>(Y40.j0 k a0 a1 (!Ak9))) else (Y40.j0 k a0 a1 true))
theorem Y40.mono_l:∀ k,(∀ y0 y1 y2,LeO (Y40.j0 k y0 y1 y2) (Y40.j0 (k+1) y0 y1 y2))
 | 0=>by intros <;> exact LeO.none _
 | k+1=>by
  have ih0:=Y40.mono_l k
  have m0:=@Y25.mono
  ·intros
   unfold Y40.j0
   exact mO
theorem Y40.mono:∀ a0 a1 k,LeO (Y40.f k a0 a1) (Y40.f (k+1) a0 a1):=by
 intro a0 a1 k
 have m0:=@Y25.mono
 have ih0:=Y40.mono_l k
 unfold Y40.f
 exact mO
theorem Y40.calls (k:Nat) (a0:Int) (a1:Int) (r1:Int) (r2:List (S78)) (r3:Int) (w:World) (h:Y40.f k a0 a1=some (r1,r2,r3)) :
  Calls Tryz.prog 14 #[.int .i64 a0,.int .i64 a1] w fun e w'=>∃ v1_:Value,e = .returned (.agg #[.int .i64 r1,v1_,.int .i64 r3])∧Kd.R k78 78 w' w.heap.size (fun _=>True) v1_ r2∧Below w.heap.size w w':=by
 have Ct1:=Tryz.underlying40
 have HB:=aM (Below.refl w.heap.size w)
 have H:((Y43.f a0).bind fun BV6=>(if BV6=true then ((Y87.f a1 1 8).bind fun Ak9=>(Y40.j0 k a0 a1 (!Ak9))) else (Y40.j0 k a0 a1 true)))=some (r1,r2,r3):=h
 clear h
 have HC3:=aM H
 clear H
 go_enter Tryz.func14,Tryz.ntmps14
 go_upto_region 1 with (first | ((with_reducible refine gd_ 4 ?_);refine be_ 4 #[.int .i64 0,.slice none 0 0,.int .i64 0] 40 ?_;intro A85 hg w4 hbox hb;have n0_:=aM (below_step (z6_ HB.out) hb);have n1_:=aM (hbox);have n2_:=aM ((z7_ HB.out:w.heap.size≤A85));have n3_:=aM ((z7_ HB.out:w.heap.size≤A85));clear HB;have HB:=n0_;have AM3:=n1_;have GW541:=n2_;have Ap2:=n3_;clear n0_ n1_ n2_ n3_;clear hb hbox hg))
 (try simp only [Act.put,sa_,s0_,ss_])
 go_cut [12] (fun v12 wc=>∃ (kq:Nat) (J1:Bool),v12 = .bool J1∧Aside0 (Y40.j0 kq a0 a1 J1=some (r1,r2,r3))∧Aside0 (kq≤k)∧Aside0 (wc.heap[A85]? = some (.cells #[.int .i64 0,(.slice none 0 0),.int .i64 0] 40 (0,0)))∧Aside0 (Below w.heap.size w wc))
 case first =>
  have H:=HC3.out
  clear HC3
  replace H:=bS H
  obtain ⟨BV6,A50,H⟩:=H
  replace H:(if BV6=true then ((Y87.f a1 1 8).bind fun Ak9=>(Y40.j0 k a0 a1 (!Ak9))) else (Y40.j0 k a0 a1 true))=some (r1,r2,r3):=H
  have A5:=aM A50
  clear A50
  by_cases c6:BV6=true
  ·subst c6
   have H1:((Y87.f a1 1 8).bind fun Ak9=>(Y40.j0 k a0 a1 (!Ak9)))=some (r1,r2,r3):=by rw [if_pos rfl] at H;exact H
   clear H
   have H:=H1
   clear H1
   replace H:=bS H
   obtain ⟨Ak9,A70,H⟩:=H
   replace H:(Y40.j0 k a0 a1 (!Ak9))=some (r1,r2,r3):=H
   have A7:=aM A70
   clear A70
   have H':=aM H
   clear H
   go_wp2_with (first | ((with_reducible refine gc_ 44 ?_);refine gl_ (some 6) Tryz.func44 #[.int .i64 a0] ?_;(with_reducible refine (Y43.calls a0 true _ A5.out).mono ?_);rintro e w' ⟨rfl,⟨nd,rfl⟩⟩;refine ⟨_,rfl,?_⟩) | (go_at_call 45;(with_reducible refine (Y87.calls a1 1 8 Ak9 _ A7.out).mono ?_);rintro e w' ⟨rfl,⟨nd,rfl⟩⟩))
   go_meet
   case rel=>exact ⟨_,(!Ak9),(z2_),H',⟨by first | omega | exact Nat.le_refl _⟩,⟨z3_ AM3.out⟩,⟨z4_ HB.out Ap2.out⟩⟩
  ·replace c6:=Bool.eq_false_iff.mpr c6
   subst c6
   have H1:(Y40.j0 k a0 a1 true)=some (r1,r2,r3):=by rw [if_neg (show ¬ (false=true) by decide)] at H;exact H
   clear H
   have H:=H1
   clear H1
   have H':=aM H
   clear H
   go_wp2_with (first | ((with_reducible refine gc_ 44 ?_);refine gl_ (some 6) Tryz.func44 #[.int .i64 a0] ?_;(with_reducible refine (Y43.calls a0 false _ A5.out).mono ?_);rintro e w' ⟨rfl,⟨nd,rfl⟩⟩;refine ⟨_,rfl,?_⟩))
   go_meet
   case rel=>exact ⟨_,(true),(z2_),H',⟨by first | omega | exact Nat.le_refl _⟩,⟨z3_ AM3.out⟩,⟨z4_ HB.out Ap2.out⟩⟩
 case rest =>
  clear HC3
  try clear c1
  try clear p2
  try clear c4
  try clear c6
  obtain ⟨kq,J1,rfl,HA,HJ2,AM3,HB⟩:=hcut
  cases kq with
  | zero=>exact absurd HA.out (by simp [Y40.j0])
  | succ kj2 =>
   have H:=HA.out
   clear HA
   simp only [Y40.j0] at H
   by_cases c8:J1=true
   ·subst c8
    have H1:(some (0,([]:List (S78)),1))=some (r1,r2,r3):=by rw [if_pos rfl] at H;exact H
    clear H
    have H:=H1
    clear H1
    simp only [Option.some.injEq,Prod.mk.injEq] at H
    obtain ⟨rfl,rfl,rfl⟩:=H
    have ⟨R9,a7,Ak6,S0,a8,Ak7⟩:=cz3_ AM3.out
    go_wp2
    refine bodyPost_ret (results_cell_row rfl _ _ A85 40 #[.int .i64 0,.slice none 0 0,.int .i64 1] (0,0) _ rfl (z50_ AM3.out) Tryz.underlying40 rfl (by kernel_rfl)) rfl ?_
    exact ⟨_,z8_,z27_,z4_ HB.out Ap2.out⟩
   ·replace c8:=Bool.eq_false_iff.mpr c8
    subst c8
    have H1:((Y25.f kj2 a0 a1).bind fun A84=>(some (A84.1,A84.2,0)))=some (r1,r2,r3):=by rw [if_neg (show ¬ (false=true) by decide)] at H;exact H
    clear H
    have H:=H1
    clear H1
    replace H:=bS H
    obtain ⟨⟨CR2,CR3⟩,AF2,H⟩:=H
    replace H:(some (CR2,CR3,0))=some (r1,r2,r3):=H
    have A10:=aM AF2
    clear AF2
    simp only [Option.some.injEq,Prod.mk.injEq] at H
    obtain ⟨rfl,rfl,rfl⟩:=H
    go_wp2_with (first | ((with_reducible refine gc_ 46 ?_);refine gl_ (some 16) Tryz.func46 #[.int .i64 a0,.int .i64 a1] ?_;(with_reducible refine (Y25.calls kj2 a0 a1 CR2 CR3 _ A10.out).mono ?_);rintro e w11 ⟨v546,rfl,ho0,hb⟩;refine ⟨_,rfl,?_⟩;have n0_:=aM (Kd.R_lower ho0 (below_size (z4_ HB.out Ap2.out)));have n1_:=aM (blkB_ AM3.out hb);have n2_:=aM (below_step (z4_ HB.out Ap2.out) hb);clear AM3;clear HB;have CC7:=n0_;have AM3:=n1_;have HB:=n2_;clear n0_ n1_ n2_;(try clear hb);(try clear ho0);obtain ⟨U4,N5,Ai5⟩:=Kd.R_slice CC7.out;subst Ai5;have ⟨Ae9,Af0,BH2,Au7,Af1,BH3⟩:=cz3_ AM3.out))
    refine bodyPost_ret (results_cell_row rfl _ _ A85 40 #[.int .i64 CR2,.slice U4 CR3.length N5,.int .i64 0] (0,0) _ rfl (z50_ AM3.out) Tryz.underlying40 rfl (by kernel_rfl)) rfl ?_
    exact ⟨_,z8_,by (with_reducible repeat (first | apply Kd.R_alloc | apply Kd.R_drewN | apply Kd.R_drew));exact Kd.R_mono (rf3_ (Kd.R_types CC7.out AM3.out (by decide)) (fun _ hk=>hk.2)) (fun _ hk=>trivial),z4_ HB.out Ap2.out⟩


/-! ### Y18: function 15 -/
def Y18.l0:Nat→List Int→List Int→Int→Option (Bool)
 | 0,_,_,_=>none
 | k+1,x0,x1,x5=>if x5<(x0.length:Int) then (if 0≤x5 then (if x5<(x1.length:Int) then (if (rd x0 x5)=(rd x1 x5) then (Y18.l0 k x0 x1 (wrap64 (x5+1))) else (none)) else (none)) else (none)) else (some true)
def Y18.f (k:Nat) (l0:List Int) (l1:List Int):Option (Bool):=if (l0.length:Int)=(l1.length:Int) then (Y18.l0 k l0 l1 0) else (none)
theorem Y18.mono_l:∀ k,(∀ y0 y1 y2,LeO (Y18.l0 k y0 y1 y2) (Y18.l0 (k+1) y0 y1 y2))
 | 0=>by intros <;> exact LeO.none _
 | k+1=>by
  have ih0:=Y18.mono_l k
  ·intros
   unfold Y18.l0
   exact mO
theorem Y18.mono:∀ a0 a1 k,LeO (Y18.f k a0 a1) (Y18.f (k+1) a0 a1):=by
 intro a0 a1 k
 have ih0:=Y18.mono_l k
 unfold Y18.f
 exact mO
theorem Y18.calls (k:Nat) (A0:Option Addr) (c0:Nat) (l0:List Int) (A1:Option Addr) (c1:Nat) (l1:List Int) (r:Bool) (w:World) (hr0:Kd.C (Kd.int .i64) w A0 l0.length l0) (hc0:l0.length≤c0) (hr1:Kd.C (Kd.int .i64) w A1 l1.length l1) (hc1:l1.length≤c1) (h:Y18.f k l0 l1=some r) :
  Calls Tryz.prog 15 #[.slice A0 l0.length c0,.slice A1 l1.length c1] w fun e w'=>e = .returned (.bool r)∧Drawn0 w w':=by
 have HR0:=aM hr0
 have HC0:=aM hc0
 clear hr0 hc0
 have HR1:=aM hr1
 have HC1:=aM hc1
 clear hr1 hc1
 have H:(if (l0.length:Int)=(l1.length:Int) then (Y18.l0 k l0 l1 0) else (none))=some r:=h
 clear h
 by_cases c3:(l0.length:Int)=(l1.length:Int)
 ·rw [if_pos c3] at H
  have c3b0:((l0.length:Int) == (l1.length:Int))=true:=beq_iff_eq.mpr c3
  have c3b1:((l0.length:Int) != (l1.length:Int))=false:=bne_eq_false_iff_eq.mpr c3
  have c3b2:(l0.length == l1.length)=true:=by first | simpa using c3 | (simp at c3 ⊢;omega)
  clear c3
  have H':=aM H
  clear H
  go_enter Tryz.func15,Tryz.ntmps15
  go_wp2
  repeat (go_quiet (fail);try go_wp2)
  go_loopg [5] k (fun kq v5 w'=>∃ (F2:Int),v5 = .int .i64 F2∧Aside0 (Y18.l0 kq l0 l1 F2=some r)∧Aside0 (kq≤k)∧Drawn0 w w')
  case atStart=>exact ⟨(0),(z2_),H',⟨Nat.le_refl _⟩,z5_⟩
  case round =>
   clear H'
   try clear c1
   try clear p2
   try clear c3
   try clear c3b0
   try clear c3b1
   try clear c3b2
   obtain ⟨F2,rfl,HA,HK1,⟨m1,rfl⟩⟩:=hrel
   cases gk with
   | zero=>exact absurd HA.out (by simp [Y18.l0])
   | succ k1 =>
    have H:=HA.out
    clear HA
    simp only [Y18.l0] at H
    by_cases c4:F2<(l0.length:Int)
    ·rw [if_pos c4] at H
     have c4b0:decide (F2<(l0.length:Int))=true:=dE c4
     clear c4
     by_cases c5:0≤F2
     ·rw [if_pos c5] at H
      have c5b0:decide (0≤F2)=true:=dE c5
      clear c5
      by_cases c6:F2<(l1.length:Int)
      ·rw [if_pos c6] at H
       have c6b0:decide (F2<(l1.length:Int))=true:=dE c6
       clear c6
       by_cases c7:(rd l0 F2)=(rd l1 F2)
       ·rw [if_pos c7] at H
        have c7b0:((rd l0 F2) == (rd l1 F2))=true:=beq_iff_eq.mpr c7
        have c7b1:((rd l0 F2) != (rd l1 F2))=false:=bne_eq_false_iff_eq.mpr c7
        clear c7
        have H':=aM H
        clear H
        have CR4:0≤(F2:Int):=dT (z1_)
        have CR5:F2<(l0.length:Int):=dT (z1_)
        obtain ⟨ad548,C61,hx548_0⟩:=Kd.at_int HR0.out F2 CR4 CR5
        cases C61
        replace CR4:=eq_true CR4
        replace CR5:=eq_true CR5
        have CR6:0≤(F2:Int):=dT (z1_)
        have CR7:F2<(l1.length:Int):=dT (z1_)
        obtain ⟨ad549,C62,hx549_0⟩:=Kd.at_int HR1.out F2 CR6 CR7
        cases C62
        replace CR6:=eq_true CR6
        replace CR7:=eq_true CR7
        go_wp2
        repeat (go_quiet (fail);try go_wp2)
        go_roundg k1
        case measure=>have:=HK1.out;omega
        case rel=>exact ⟨(wrap64 (F2+1)),(z2_),H',⟨by have:=HK1.out;omega⟩,z5_⟩
       ·rw [if_neg c7] at H
        exact nO H
      ·rw [if_neg c6] at H
       exact nO H
     ·rw [if_neg c5] at H
      exact nO H
    ·rw [if_neg c4] at H
     have c4b0:decide (F2<(l0.length:Int))=false:=dF c4
     clear c4
     obtain rfl:=sI H
     go_wp2
     repeat (go_quiet (fail);try go_wp2)
     go_ret
     exact ⟨z2_,z5_⟩
 ·rw [if_neg c3] at H
  exact nO H


attribute [local go_sem high] eqA78
/-! ### Y6: function 23 -/
mutual
def Y6.j0:Nat→Bool→Int→List (S78)→Option (Bool)
 | 0,_,_,_=>none
 | k+1,x32,AO9,AI5=>if x32=true then (some false) else (if AO9=0 then (none) else ((Y25.f k AO9 (wrap64 ((AI5.length:Int) / AO9))).bind fun A87=>(Y6.l0 k 0 AO9 AI5 A87.1 A87.2)))
def Y6.l0:Nat→Int→Int→List (S78)→Int→List (S78)→Option (Bool)
 | 0,_,_,_,_,_=>none
 | k+1,x4,AO9,AI5,B05,Ag7=>if x4<(AI5.length:Int) then (if 0≤x4 then (if x4<(Ag7.length:Int) then (if (!(((rd_T78 AI5 x4).f0) == ((rd_T78 Ag7 x4).f0)) || (!(((rd_T78 AI5 x4).f1) == ((rd_T78 Ag7 x4).f1))))=true then (some false) else (Y6.l0 k (wrap64 (x4+1)) AO9 AI5 B05 Ag7)) else (none)) else (none)) else (some true)
end
def Y6.f (k:Nat) (B2:Int) (B0:List (S78)):Option (Bool):=(Y43.f B2).bind fun BV7=>(if BV7=true then (if (B0.length:Int)<1 then (Y6.j0 k true B2 B0) else (if (B0.length:Int)>(wrap64 (8*B2)) then (Y6.j0 k true B2 B0) else (if B2=0 then (none) else (Y6.j0 k (((B0.length:Int) % B2) != 0) B2 B0)))) else (Y6.j0 k true B2 B0))
theorem Y6.mono_l:∀ k,(∀ y0 y1 y2,LeO (Y6.j0 k y0 y1 y2) (Y6.j0 (k+1) y0 y1 y2))∧(∀ y0 y1 y2 y3 y4,LeO (Y6.l0 k y0 y1 y2 y3 y4) (Y6.l0 (k+1) y0 y1 y2 y3 y4))
 | 0=>by refine ⟨?_,?_⟩ <;> intros <;> exact LeO.none _
 | k+1=>by
  obtain ⟨ih0,ih1⟩:=Y6.mono_l k
  have m0:=@Y25.mono
  refine ⟨?_,?_⟩
  ·intros
   unfold Y6.j0
   exact mO
  ·intros
   unfold Y6.l0
   exact mO
theorem Y6.mono:∀ a0 a1 k,LeO (Y6.f k a0 a1) (Y6.f (k+1) a0 a1):=by
 intro a0 a1 k
 have m0:=@Y25.mono
 obtain ⟨ih0,ih1⟩:=Y6.mono_l k
 unfold Y6.f
 exact mO
def Y6.T3:Bool × List (List Nat × List Nat):=(true,[([],[]),([0],[0]),([],[]),([2],[2]),([3],[3]),([],[]),([5],[5]),([4,6],[4,6]),([1,7],[1,7]),([],[]),([9,8,8,0,1,2,3,4,5,6,7,8,9],[8,9])])
def Y6.B3:List Nat:=[0,1,0,4,12,0,32,124,255,0,1023]
theorem Y6.tab3:rtab .any (opsOf Tryz.f23 3)=Y6.T3:=by kernel_rfl
theorem Y6.bits3:waitsOk Y6.T3.2 Y6.B3=true:=by kernel_rfl
def Y6.T7:Bool × List (List Nat × List Nat):=(true,[([],[]),([0],[0]),([],[]),([1,2],[1,2]),([3],[3]),([],[]),([5],[5]),([],[]),([6,7],[6,7]),([8],[8]),([4,9],[4,9])])
def Y6.B7:List Nat:=[0,1,0,7,15,0,32,0,224,480,1023]
theorem Y6.tab7:rtab .any (opsOf Tryz.f23 7)=Y6.T7:=by kernel_rfl
theorem Y6.bits7:waitsOk Y6.T7.2 Y6.B7=true:=by kernel_rfl
theorem Y6.calls (k:Nat) (B2:Int) (E7:Option Addr) (E4:Nat) (B0:List (S78)) (r:Bool) (w:World) (J9:Kd.C k78 w E7 B0.length B0) (K0:B0.length≤E4) (h:Y6.f k B2 B0=some r) :
  Calls Tryz.prog 23 #[.agg #[.int .i64 B2,.slice E7 B0.length E4]] w fun e w'=>e = .returned (.bool r)∧Below w.heap.size w w':=by
 have AD7:=Tryz.underlying27
 have Ah1:=Tryz.underlying78
 have I2:=aM J9
 have J7:=aM K0
 clear J9 K0
 have HB:=aM (Below.refl w.heap.size w)
 have H:((Y43.f B2).bind fun BV7=>(if BV7=true then (if (B0.length:Int)<1 then (Y6.j0 k true B2 B0) else (if (B0.length:Int)>(wrap64 (8*B2)) then (Y6.j0 k true B2 B0) else (if B2=0 then (none) else (Y6.j0 k (((B0.length:Int) % B2) != 0) B2 B0)))) else (Y6.j0 k true B2 B0)))=some r:=h
 clear h
 have HC2:=aM H
 clear H
 go_enter Tryz.func23,Tryz.ntmps23
 go_upto_region 1 with (first | ((with_reducible refine gd_ 1 ?_);(try (refine gate_guard (by rfl) ?_;dsimp only));refine be_ 1 #[.int .i64 B2,.slice E7 B0.length E4] 27 ?_;intro e7 hg w3 hbox hb;have n0_:=aM (below_step (z6_ HB.out) hb);have n1_:=aM (hbox);have n2_:=aM ((z7_ HB.out:w.heap.size≤e7));have n3_:=aM ((z7_ HB.out:w.heap.size≤e7));clear HB;have HB:=n0_;have I5:=n1_;have GW550:=n2_;have b0:=n3_;clear n0_ n1_ n2_ n3_;clear hb hbox hg))
 (try simp only [Act.put,sa_,s0_,ss_])
 go_cut [32] (fun v32 wc=>∃ (kq:Nat) (BO7:Bool),v32 = .bool BO7∧Aside0 (Y6.j0 kq BO7 B2 B0=some r)∧Aside0 (kq≤k)∧Aside0 (wc.heap[e7]? = some (.cells #[.int .i64 B2,(.slice E7 B0.length E4)] 27 (0,0)))∧Aside0 (Below w.heap.size w wc))
 case first =>
  have H:=HC2.out
  clear HC2
  replace H:=bS H
  obtain ⟨BV7,A40,H⟩:=H
  replace H:(if BV7=true then (if (B0.length:Int)<1 then (Y6.j0 k true B2 B0) else (if (B0.length:Int)>(wrap64 (8*B2)) then (Y6.j0 k true B2 B0) else (if B2=0 then (none) else (Y6.j0 k (((B0.length:Int) % B2) != 0) B2 B0)))) else (Y6.j0 k true B2 B0))=some r:=H
  have A4:=aM A40
  clear A40
  by_cases c5:BV7=true
  ·subst c5
   have H1:(if (B0.length:Int)<1 then (Y6.j0 k true B2 B0) else (if (B0.length:Int)>(wrap64 (8*B2)) then (Y6.j0 k true B2 B0) else (if B2=0 then (none) else (Y6.j0 k (((B0.length:Int) % B2) != 0) B2 B0))))=some r:=by rw [if_pos rfl] at H;exact H
   clear H
   have H:=H1
   clear H1
   by_cases c6:(B0.length:Int)<1
   ·rw [if_pos c6] at H
    have c6b0:decide ((B0.length:Int)<1)=true:=dE c6
    have c6b1:decide (B0.length<1)=true:=dE (by omega)
    clear c6
    (first | rw [c6b0] | (simp only [i64_w,i32_w];rw [c6b0]) | skip)
    have H':=aM H
    clear H
    have ⟨BF0,BF1,BF2,BF3⟩:=cz2_ I5.out
    go_wp2_with (first | ((with_reducible refine gc_ 44 ?_);refine gl_ (some 7) Tryz.func44 #[.int .i64 B2] ?_;(with_reducible refine (Y43.calls B2 true _ A4.out).mono ?_);rintro e w' ⟨rfl,⟨nd,rfl⟩⟩;refine ⟨_,rfl,?_⟩))
    go_meet
    case rel=>exact ⟨_,(true),(z2_),H',⟨by first | omega | exact Nat.le_refl _⟩,⟨z3_ I5.out⟩,⟨z4_ HB.out b0.out⟩⟩
   ·rw [if_neg c6] at H
    have c6b0:decide ((B0.length:Int)<1)=false:=dF c6
    have c6b1:decide (B0.length<1)=false:=dF (by omega)
    clear c6
    (first | rw [c6b0] | (simp only [i64_w,i32_w];rw [c6b0]) | skip)
    by_cases c8:(B0.length:Int)>(wrap64 (8*B2))
    ·rw [if_pos c8] at H
     have c8b0:decide ((wrap64 (8*B2))<(B0.length:Int))=true:=dE c8
     clear c8
     have H':=aM H
     clear H
     have ⟨R9,a7,S0,a8⟩:=cz2_ I5.out
     go_wp2_with (first | ((with_reducible refine gc_ 44 ?_);refine gl_ (some 7) Tryz.func44 #[.int .i64 B2] ?_;(with_reducible refine (Y43.calls B2 true _ A4.out).mono ?_);rintro e w' ⟨rfl,⟨nd,rfl⟩⟩;refine ⟨_,rfl,?_⟩))
     go_meet
     case rel=>exact ⟨_,(true),(z2_),H',⟨by first | omega | exact Nat.le_refl _⟩,⟨z3_ I5.out⟩,⟨z4_ HB.out b0.out⟩⟩
    ·rw [if_neg c8] at H
     have c8b0:decide ((wrap64 (8*B2))<(B0.length:Int))=false:=dF c8
     clear c8
     by_cases c10:B2=0
     ·rw [if_pos c10] at H
      exact nO H
     ·rw [if_neg c10] at H
      have c10b0:(B2 == 0)=false:=beq_eq_false_iff_ne.mpr c10
      have c10b1:(B2 != 0)=true:=bne_iff_ne.mpr c10
      have H':=aM H
      clear H
      have ⟨o0,o1,o3,o4⟩:=cz2_ I5.out
      go_wp2_with (first | ((with_reducible refine gc_ 44 ?_);refine gl_ (some 7) Tryz.func44 #[.int .i64 B2] ?_;(with_reducible refine (Y43.calls B2 true _ A4.out).mono ?_);rintro e w' ⟨rfl,⟨nd,rfl⟩⟩;refine ⟨_,rfl,?_⟩))
      go_meet
      case rel=>exact ⟨_,((((B0.length:Int) % B2) != 0)),(z2_),H',⟨by first | omega | exact Nat.le_refl _⟩,⟨z3_ I5.out⟩,⟨z4_ HB.out b0.out⟩⟩
  ·replace c5:=Bool.eq_false_iff.mpr c5
   subst c5
   have H1:(Y6.j0 k true B2 B0)=some r:=by rw [if_neg (show ¬ (false=true) by decide)] at H;exact H
   clear H
   have H:=H1
   clear H1
   have H':=aM H
   clear H
   have ⟨AS4,AS5,AS6,AS7⟩:=cz2_ I5.out
   go_wp2_with (first | ((with_reducible refine gc_ 44 ?_);refine gl_ (some 7) Tryz.func44 #[.int .i64 B2] ?_;(with_reducible refine (Y43.calls B2 false _ A4.out).mono ?_);rintro e w' ⟨rfl,⟨nd,rfl⟩⟩;refine ⟨_,rfl,?_⟩))
   go_meet
   case rel=>exact ⟨_,(true),(z2_),H',⟨by first | omega | exact Nat.le_refl _⟩,⟨z3_ I5.out⟩,⟨z4_ HB.out b0.out⟩⟩
 case rest =>
  clear HC2
  try clear c1
  try clear c2
  try clear p2
  try clear c4
  try clear c5
  try clear c6
  try clear c6b0
  try clear c6b1
  try clear p6
  try clear c8
  try clear c8b0
  try clear c10
  try clear c10b0
  try clear c10b1
  try clear o0
  try clear o1
  try clear AS4
  try clear AS5
  try clear BF0
  try clear BF1
  try clear R9
  try clear a7
  try clear o3
  try clear o4
  try clear AS6
  try clear AS7
  try clear BF2
  try clear BF3
  try clear S0
  try clear a8
  obtain ⟨kq,BO7,rfl,HA,HJ1,I5,HB⟩:=hcut
  cases kq with
  | zero=>exact absurd HA.out (by simp [Y6.j0])
  | succ kj1 =>
   have H:=HA.out
   clear HA
   simp only [Y6.j0] at H
   by_cases c13:BO7=true
   ·subst c13
    have H1:(some false)=some r:=by rw [if_pos rfl] at H;exact H
    clear H
    have H:=H1
    clear H1
    obtain rfl:=sI H
    go_wp2
    go_ret
    exact ⟨z8_,z4_ HB.out b0.out⟩
   ·replace c13:=Bool.eq_false_iff.mpr c13
    subst c13
    have H1:(if B2=0 then (none) else ((Y25.f kj1 B2 (wrap64 ((B0.length:Int) / B2))).bind fun A87=>(Y6.l0 kj1 0 B2 B0 A87.1 A87.2)))=some r:=by rw [if_neg (show ¬ (false=true) by decide)] at H;exact H
    clear H
    have H:=H1
    clear H1
    by_cases c14:B2=0
    ·rw [if_pos c14] at H
     exact nO H
    ·rw [if_neg c14] at H
     have c14b0:(B2 == 0)=false:=beq_eq_false_iff_ne.mpr c14
     have c14b1:(B2 != 0)=true:=bne_iff_ne.mpr c14
     replace H:=bS H
     obtain ⟨⟨A89,u6⟩,AV4,H⟩:=H
     replace H:(Y6.l0 kj1 0 B2 B0 A89 u6)=some r:=H
     have A15:=aM AV4
     clear AV4
     have H':=aM H
     clear H
     try go_wp2
     have n0_:=aM (blk_drew I5.out)
     have n1_:=aM (below_drew1 HB.out)
     clear I5
     clear HB
     have I5:=n0_
     have HB:=n1_
     clear n0_ n1_
     refine start_ (n:=11) (S:=fun w'=>w'.cell? ⟨e7,0,none⟩=some (.int .i64 B2)∧w'.cell? ⟨e7,1,none⟩=some (.slice E7 B0.length E4)) (ds:=[]) #[O,O,O,O,O,O,O,O,O,O,O] (by kernel_rfl) rfl rfl (cc2_ I5.out) (fun hHeld=>?_);refine with_tabW Y6.tab3 Y6.bits3 (fun HT_ HW_=>?_)
     generalize wc.drew=w16 at I5 HB hHeld ⊢
     refine pu_ 0 33 #[I,O,O,O,O,O,O,O,O,O,O] HT_.out ?_
     refine pu_ 2 35 #[I,O,I,O,O,O,O,O,O,O,O] HT_.out ?_
     refine pu_ 5 38 #[I,O,I,O,O,I,O,O,O,O,O] HT_.out ?_
     refine tk2_ 1 34 #[I,I,I,O,O,I,O,O,O,O,O] HT_.out HW_.out hHeld ?_
     refine tk2_ 3 36 #[I,I,I,I,O,I,O,O,O,O,O] HT_.out HW_.out hHeld ?_
     refine pu_ 4 37 #[I,I,I,I,I,I,O,O,O,O,O] HT_.out ?_
     refine tk2_ 6 39 #[I,I,I,I,I,I,I,O,O,O,O] HT_.out HW_.out hHeld ?_
     refine pu_ 7 40 #[I,I,I,I,I,I,I,I,O,O,O] HT_.out ?_
     refine join_ (σ:=Value × Nat) 1 #[I,I,I,I,I,I,I,I,I,I,O] (fun s_=>[(41,.agg #[.int .i64 A89,s_.1]),(3,.pointer (some ⟨s_.2,0,none⟩))]) (fun s_ w'=>(w'.cell? ⟨e7,0,none⟩=some (.int .i64 B2)∧w'.cell? ⟨e7,1,none⟩=some (.slice E7 B0.length E4))∧(Kd.R k78 78 w' w.heap.size (fun _=>True) s_.1 u6)∧(w'.heap[e7]? = some (.cells #[.int .i64 B2,.slice E7 B0.length E4] 27 (0,0)))∧(w'.heap[s_.2]? = some (.cells #[.int .i64 0,.slice none 0 0] 27 (0,0)))∧(w.heap.size≤s_.2)∧(w.heap.size≤s_.2)∧(e7≠s_.2)∧(s_.2≠e7)∧(Below w.heap.size w w')) ?_ ?_
     rotate_left
     ·intro hCont
      refine o2_ 8 9 41 3 #[I,I,I,I,I,I,I,I,I,O,O] #[I,I,I,I,I,I,I,I,O,I,O] HT_.out (fun K hK=>?_) (fun K hK=>?_)
      ·skip
       refine gs_ Tryz.func46 #[.int .i64 B2,.int .i64 (wrap64 ((B0.length:Int) / B2))] ?_
       with_reducible refine (Y25.calls kj1 B2 (wrap64 ((B0.length:Int) / B2)) A89 u6 _ A15.out).mono ?_
       rintro e w17 ⟨Bj9,rfl,ho0,hb⟩
       refine ⟨_,rfl,?_⟩
       have n0_:=aM (Kd.R_lower ho0 (below_size (z4_ HB.out b0.out)))
       have n1_:=aM (blkB_ I5.out hb)
       have n2_:=aM (below_step (z4_ HB.out b0.out) hb)
       clear I5
       clear HB
       have AX8:=n0_
       have I5:=n1_
       have HB:=n2_
       clear n0_ n1_ n2_
       (try clear hb)
       (try clear ho0)
       refine hK.out _ _ (cc2_ I5.out) (fun hHeld=>?_)
       clear hK K
       refine nm_ 41 ?_
       refine o1_ 9 3 #[I,I,I,I,I,I,I,I,I,I,O] HT_.out (fun K hK=>?_)
       refine bs_ 3 #[.int .i64 0,.slice none 0 0] 27 ?_
       intro W9 hg w18 hbox hb
       have n0_:=aM (Kd.R_below (z0_ AX8.out) hb)
       have n1_:=aM (blkB_ I5.out hb)
       have n2_:=aM (below_step (z4_ HB.out b0.out) hb)
       have n3_:=aM (hbox)
       have n4_:=aM ((z13_ HB.out b0.out:w.heap.size≤W9))
       have n5_:=aM ((z13_ HB.out b0.out:w.heap.size≤W9))
       have n6_:=aM (neL_ I5.out hg)
       have n7_:=aM (neG_ I5.out hg)
       clear AX8
       clear I5
       clear HB
       have AX8:=n0_
       have I5:=n1_
       have HB:=n2_
       have V7:=n3_
       have BO8:=n4_
       have AJ3:=n5_
       have O4:=n6_
       have Z6:=n7_
       clear n0_ n1_ n2_ n3_ n4_ n5_ n6_ n7_
       clear hb hbox hg
       refine hK.out _ _ (cc2_ I5.out) (fun hHeld=>?_)
       clear hK K
       refine nm_ 3 ?_
       exact norm_ (by simp only [putAll,Act.put,List.setIfInBounds_toArray,List.set_cons_zero,List.set_cons_succ]) (hCont (Bj9,W9) _ ⟨hHeld,(z0_ AX8.out),(z3_ I5.out),(z3_ V7.out),BO8.out,AJ3.out,O4.out,Z6.out,(z9_ HB.out b0.out AJ3.out)⟩)
      ·skip
       refine bs_ 3 #[.int .i64 0,.slice none 0 0] 27 ?_
       intro W9 hg w17 hbox hb
       have n0_:=aM (blkB_ I5.out hb)
       have n1_:=aM (below_step (z4_ HB.out b0.out) hb)
       have n2_:=aM (hbox)
       have n3_:=aM ((z13_ HB.out b0.out:w.heap.size≤W9))
       have n4_:=aM ((z13_ HB.out b0.out:w.heap.size≤W9))
       have n5_:=aM (neL_ I5.out hg)
       have n6_:=aM (neG_ I5.out hg)
       clear I5
       clear HB
       have I5:=n0_
       have HB:=n1_
       have V7:=n2_
       have BO8:=n3_
       have AJ3:=n4_
       have O4:=n5_
       have Z6:=n6_
       clear n0_ n1_ n2_ n3_ n4_ n5_ n6_
       clear hb hbox hg
       refine hK.out _ _ (cc2_ I5.out) (fun hHeld=>?_)
       clear hK K
       refine nm_ 3 ?_
       refine o1_ 8 41 #[I,I,I,I,I,I,I,I,I,I,O] HT_.out (fun K hK=>?_)
       refine gs_ Tryz.func46 #[.int .i64 B2,.int .i64 (wrap64 ((B0.length:Int) / B2))] ?_
       with_reducible refine (Y25.calls kj1 B2 (wrap64 ((B0.length:Int) / B2)) A89 u6 _ A15.out).mono ?_
       rintro e w18 ⟨Bj9,rfl,ho0,hb⟩
       refine ⟨_,rfl,?_⟩
       have n0_:=aM (Kd.R_lower ho0 (below_size (z9_ HB.out b0.out AJ3.out)))
       have n1_:=aM (blkB_ I5.out hb)
       have n2_:=aM (blkB_ V7.out hb)
       have n3_:=aM (below_step (z9_ HB.out b0.out AJ3.out) hb)
       clear I5
       clear V7
       clear HB
       have AX8:=n0_
       have I5:=n1_
       have V7:=n2_
       have HB:=n3_
       clear n0_ n1_ n2_ n3_
       (try clear hb)
       (try clear ho0)
       refine hK.out _ _ (cc2_ I5.out) (fun hHeld=>?_)
       clear hK K
       refine nm_ 41 ?_
       exact norm_ (by simp only [putAll,Act.put,List.setIfInBounds_toArray,List.set_cons_zero,List.set_cons_succ]) (hCont (Bj9,W9) _ ⟨hHeld,(z0_ AX8.out),(z3_ I5.out),(z3_ V7.out),BO8.out,AJ3.out,O4.out,Z6.out,(z9_ HB.out b0.out AJ3.out)⟩)
     rintro ⟨Bj9,W9⟩ w19 ⟨hS_,h0_,h1_,h2_,h3_,h4_,h5_,h6_,h7_⟩
     have n0_:Aside0 (Kd.R k78 78 w19 w.heap.size (fun _=>True) Bj9 u6):=⟨h0_⟩
     have n1_:Aside0 (w19.heap[e7]? = some (.cells #[.int .i64 B2,.slice E7 B0.length E4] 27 (0,0))):=⟨h1_⟩
     have n2_:Aside0 (w19.heap[W9]? = some (.cells #[.int .i64 0,.slice none 0 0] 27 (0,0))):=⟨h2_⟩
     have n3_:Aside0 (w.heap.size≤W9):=⟨h3_⟩
     have n4_:Aside0 (w.heap.size≤W9):=⟨h4_⟩
     have n5_:Aside0 (e7≠W9):=⟨h5_⟩
     have n6_:Aside0 (W9≠e7):=⟨h6_⟩
     have n7_:Aside0 (Below w.heap.size w w19):=⟨h7_⟩
     clear I5
     clear HB
     clear h0_ h1_ h2_ h3_ h4_ h5_ h6_ h7_
     have AX8:=n0_
     have I5:=n1_
     have V7:=n2_
     have BO8:=n3_
     have AJ3:=n4_
     have O4:=n5_
     have Z6:=n6_
     have HB:=n7_
     clear n0_ n1_ n2_ n3_ n4_ n5_ n6_ n7_
     have hHeld:w19.cell? ⟨e7,0,none⟩=some (.int .i64 B2)∧w19.cell? ⟨e7,1,none⟩=some (.slice E7 B0.length E4):=hS_
     obtain ⟨Bh7,BE3,BT2⟩:=Kd.R_slice AX8.out
     (first | subst BT2 | (injection BT2 with f1_ f2_ f3_;have f4_:=f1_.symm;have f5_:=f3_.symm;clear f1_ f2_ f3_;subst f4_;subst f5_))
     refine norm_ (a':=?_) ?_ ?_
     rotate_left
     ·simp only [putAll,Act.put,List.setIfInBounds_toArray,List.set_cons_zero,List.set_cons_succ]
      rfl
     refine one_ (i:=10) (N:=none) #[I,I,I,I,I,I,I,I,I,I,I] rfl rfl (one_of HT_.out (by kernel_rfl)) (by decide) (fun K hK=>?_)
     have hs20:w19.cell? ⟨W9,0,none⟩=some (.int .i64 0):=(blk_cell V7.out 0).trans rfl
     have hfs20:=blk_frozen V7.out 0
     have hns20_0:=O4.out
     have hms20_0:=Z6.out
     have hs22:w19.cell? ⟨W9,1,none⟩=some (.slice none 0 0):=(blk_cell V7.out 1).trans rfl
     have hfs22:=blk_frozen V7.out 1
     have hns22_0:=O4.out
     have hms22_0:=Z6.out
     refine skip_ (w1:=?_) (by rfl) rfl ?_ ?_
     rotate_left
     ·go_simp
      rfl
     refine hK.out _ _ ⟨((cell_far (p:=⟨W9,_,none⟩) O4.out _).trans (((cell_far (p:=⟨W9,_,none⟩) O4.out _).trans (hHeld.1)))),((cell_far (p:=⟨W9,_,none⟩) O4.out _).trans (((cell_far (p:=⟨W9,_,none⟩) O4.out _).trans (hHeld.2))))⟩ (fun hHeld=>?_)
     clear hK K
     refine done_ (done_of HT_.out (by kernel_rfl)) ?_
     try go_wp2
     go_loopg [4] kj1 (fun kq v4 w'=>∃ (N2:Int),v4 = .int .i64 N2∧Aside0 (Y6.l0 kq N2 B2 B0 A89 u6=some r)∧Aside0 (kq≤kj1)∧Aside0 (Kd.R k78 78 w' w.heap.size (fun _=>True) (.slice Bh7 u6.length BE3) u6)∧Aside0 (w'.heap[e7]? = some (.cells #[.int .i64 B2,(.slice E7 B0.length E4)] 27 (0,0)))∧Aside0 (w'.heap[W9]? = some (.cells #[.int .i64 A89,(.slice Bh7 u6.length BE3)] 27 (0,0)))∧Aside0 (Below w.heap.size w w'))
     case atStart=>exact ⟨(0),(z2_),H',⟨Nat.le_refl _⟩,⟨z24_ AX8.out V7.out⟩,⟨z22_ O4.out I5.out⟩,⟨z18_ V7.out⟩,⟨z9_ HB.out b0.out AJ3.out⟩⟩
     case round =>
      clear H'
      try clear c1
      try clear c2
      try clear p2
      try clear c4
      try clear c5
      try clear c6
      try clear c6b0
      try clear c6b1
      try clear p6
      try clear c8
      try clear c8b0
      try clear c10
      try clear c10b0
      try clear c10b1
      try clear c13
      try clear c14
      try clear c14b0
      try clear c14b1
      try clear o0
      try clear o1
      try clear AS4
      try clear AS5
      try clear BF0
      try clear BF1
      try clear R9
      try clear a7
      try clear o3
      try clear o4
      try clear AS6
      try clear AS7
      try clear BF2
      try clear BF3
      try clear S0
      try clear a8
      try clear p2
      try clear p6
      obtain ⟨N2,rfl,HA,HK2,T2,I5,V7,HB⟩:=hrel
      cases gk with
      | zero=>exact absurd HA.out (by simp [Y6.l0])
      | succ k2 =>
       have H:=HA.out
       clear HA
       simp only [Y6.l0] at H
       by_cases c23:N2<(B0.length:Int)
       ·rw [if_pos c23] at H
        have c23b0:decide (N2<(B0.length:Int))=true:=dE c23
        clear c23
        by_cases c24:0≤N2
        ·rw [if_pos c24] at H
         have c24b0:decide (0≤N2)=true:=dE c24
         clear c24
         by_cases c25:N2<(u6.length:Int)
         ·rw [if_pos c25] at H
          have c25b0:decide (N2<(u6.length:Int))=true:=dE c25
          clear c25
          by_cases c26:(!(((rd_T78 B0 N2).f0) == ((rd_T78 u6 N2).f0)) || (!(((rd_T78 B0 N2).f1) == ((rd_T78 u6 N2).f1))))=true
          ·rw [if_pos c26] at H
           have c26b0:(!(((rd_T78 B0 N2).f0) == ((rd_T78 u6 N2).f0)) || (!(((rd_T78 B0 N2).f1) == ((rd_T78 u6 N2).f1))))=true:=c26
           clear c26
           obtain rfl:=sI H
           have hnb27:=O4.out
           have hnc27:=Z6.out
           have ⟨hcz28_0,hcz28_1,hfz28_0,hfz28_1⟩:=cz2_ I5.out
           try go_wp2
           have n0_:=aM (Kd.R_drew T2.out)
           have n1_:=aM (blk_drew I5.out)
           have n2_:=aM (blk_drew V7.out)
           have n3_:=aM (below_drew1 HB.out)
           clear T2
           clear I5
           clear V7
           clear HB
           have T2:=n0_
           have I5:=n1_
           have V7:=n2_
           have HB:=n3_
           clear n0_ n1_ n2_ n3_
           have BF8:0≤(N2:Int):=dT (z1_)
           have BF9:N2<(B0.length:Int):=dT (z1_)
           obtain ⟨AX9,CR8,i6,i7⟩:=at_T78 I2.out N2 BF8 BF9
           have AY0:=i7
           have AY1:=i6
           cases CR8
           replace i6:=(HB.out.cell (World.block_lt_of_cell? w _ i6)).trans i6
           replace i7:=(HB.out.cell (World.block_lt_of_cell? w _ i7)).trans i7
           replace BF8:=eq_true BF8
           replace BF9:=eq_true BF9
           have BG0:0≤(N2:Int):=dT (z1_)
           have BG1:N2<(u6.length:Int):=dT (z1_)
           obtain ⟨AY2,CR9,AY3,AY4⟩:=at_T78 (Kd.R_reads' T2.out).2.2 N2 BG0 BG1
           cases CR9
           replace BG0:=eq_true BG0
           replace BG1:=eq_true BG1
           refine start_ (n:=11) (S:=fun w'=>w'.cell? ⟨e7,0,none⟩=some (.int .i64 B2)∧w'.cell? ⟨e7,1,none⟩=some (.slice (some AX9) B0.length E4)∧w'.cell? ⟨W9,0,none⟩=some (.int .i64 A89)∧w'.cell? ⟨W9,1,none⟩=some (.slice (some AY2) u6.length BE3)∧w'.cell? (AX9.add ((N2).toNat*2))=some (.int .i64 ((rd_T78 B0 N2).f0))∧w'.cell? ⟨(AX9.add ((N2).toNat*2)).block,(AX9.add ((N2).toNat*2)).off+1,none⟩=some (.int .i64 ((rd_T78 B0 N2).f1))∧w'.cell? (AY2.add ((N2).toNat*2))=some (.int .i64 ((rd_T78 u6 N2).f0))∧w'.cell? ⟨(AY2.add ((N2).toNat*2)).block,(AY2.add ((N2).toNat*2)).off+1,none⟩=some (.int .i64 ((rd_T78 u6 N2).f1))) (ds:=[]) #[O,O,O,O,O,O,O,O,O,O,O] (by kernel_rfl) rfl rfl (cj2_ I5.out (cj2_ V7.out ⟨((HB.out.cell (World.block_lt_of_cell? w _ AY1)).trans AY1),⟨((HB.out.cell (World.block_lt_of_cell? w _ AY0)).trans AY0),⟨AY3,AY4⟩⟩⟩)) (fun hHeld=>?_);refine with_tabW Y6.tab7 Y6.bits7 (fun HT_ HW_=>?_)
           generalize wr.drew=w29 at T2 I5 V7 HB i6 i7 AY3 AY4 hHeld ⊢
           refine pu_ 0 49 #[I,O,O,O,O,O,O,O,O,O,O] HT_.out ?_
           refine pu_ 2 51 #[I,O,I,O,O,O,O,O,O,O,O] HT_.out ?_
           refine pu_ 5 54 #[I,O,I,O,O,I,O,O,O,O,O] HT_.out ?_
           refine pu_ 7 56 #[I,O,I,O,O,I,O,I,O,O,O] HT_.out ?_
           refine tk8_ 1 50 #[I,I,I,O,O,I,O,I,O,O,O] HT_.out HW_.out hHeld ?_
           refine pu_ 3 52 #[I,I,I,I,O,I,O,I,O,O,O] HT_.out ?_
           refine tk8_ 4 53 #[I,I,I,I,I,I,O,I,O,O,O] HT_.out HW_.out hHeld ?_
           refine tk8_ 6 55 #[I,I,I,I,I,I,I,I,O,O,O] HT_.out HW_.out hHeld ?_
           refine pu_ 8 57 #[I,I,I,I,I,I,I,I,I,O,O] HT_.out ?_
           refine tk8_ 9 58 #[I,I,I,I,I,I,I,I,I,I,O] HT_.out HW_.out hHeld ?_
           refine pu_ 10 59 #[I,I,I,I,I,I,I,I,I,I,I] HT_.out ?_
           refine done_ (done_of HT_.out (by kernel_rfl)) ?_
           try go_wp2
           go_ret
           exact ⟨z8_,z9_ HB.out b0.out AJ3.out⟩
          ·rw [if_neg c26] at H
           have c26b0:(!(((rd_T78 B0 N2).f0) == ((rd_T78 u6 N2).f0)) || (!(((rd_T78 B0 N2).f1) == ((rd_T78 u6 N2).f1))))=false:=by simpa using c26
           clear c26
           have H':=aM H
           clear H
           have Cs2:=O4.out
           have Cs3:=Z6.out
           have ⟨Bz2,Bz3,Bz4,Bz5⟩:=cz2_ I5.out
           try go_wp2
           have n0_:=aM (Kd.R_drew T2.out)
           have n1_:=aM (blk_drew I5.out)
           have n2_:=aM (blk_drew V7.out)
           have n3_:=aM (below_drew1 HB.out)
           clear T2
           clear I5
           clear V7
           clear HB
           have T2:=n0_
           have I5:=n1_
           have V7:=n2_
           have HB:=n3_
           clear n0_ n1_ n2_ n3_
           have BF8:0≤(N2:Int):=dT (z1_)
           have BF9:N2<(B0.length:Int):=dT (z1_)
           obtain ⟨AX9,CR8,i6,i7⟩:=at_T78 I2.out N2 BF8 BF9
           have AY0:=i7
           have AY1:=i6
           cases CR8
           replace i6:=(HB.out.cell (World.block_lt_of_cell? w _ i6)).trans i6
           replace i7:=(HB.out.cell (World.block_lt_of_cell? w _ i7)).trans i7
           replace BF8:=eq_true BF8
           replace BF9:=eq_true BF9
           have BG0:0≤(N2:Int):=dT (z1_)
           have BG1:N2<(u6.length:Int):=dT (z1_)
           obtain ⟨AY2,CR9,AY3,AY4⟩:=at_T78 (Kd.R_reads' T2.out).2.2 N2 BG0 BG1
           cases CR9
           replace BG0:=eq_true BG0
           replace BG1:=eq_true BG1
           refine start_ (n:=11) (S:=fun w'=>w'.cell? ⟨e7,0,none⟩=some (.int .i64 B2)∧w'.cell? ⟨e7,1,none⟩=some (.slice (some AX9) B0.length E4)∧w'.cell? ⟨W9,0,none⟩=some (.int .i64 A89)∧w'.cell? ⟨W9,1,none⟩=some (.slice (some AY2) u6.length BE3)∧w'.cell? (AX9.add ((N2).toNat*2))=some (.int .i64 ((rd_T78 B0 N2).f0))∧w'.cell? ⟨(AX9.add ((N2).toNat*2)).block,(AX9.add ((N2).toNat*2)).off+1,none⟩=some (.int .i64 ((rd_T78 B0 N2).f1))∧w'.cell? (AY2.add ((N2).toNat*2))=some (.int .i64 ((rd_T78 u6 N2).f0))∧w'.cell? ⟨(AY2.add ((N2).toNat*2)).block,(AY2.add ((N2).toNat*2)).off+1,none⟩=some (.int .i64 ((rd_T78 u6 N2).f1))) (ds:=[]) #[O,O,O,O,O,O,O,O,O,O,O] (by kernel_rfl) rfl rfl (cj2_ I5.out (cj2_ V7.out ⟨((HB.out.cell (World.block_lt_of_cell? w _ AY1)).trans AY1),⟨((HB.out.cell (World.block_lt_of_cell? w _ AY0)).trans AY0),⟨AY3,AY4⟩⟩⟩)) (fun hHeld=>?_);refine with_tabW Y6.tab7 Y6.bits7 (fun HT_ HW_=>?_)
           generalize wr.drew=w32 at T2 I5 V7 HB i6 i7 AY3 AY4 hHeld ⊢
           refine pu_ 0 49 #[I,O,O,O,O,O,O,O,O,O,O] HT_.out ?_
           refine pu_ 2 51 #[I,O,I,O,O,O,O,O,O,O,O] HT_.out ?_
           refine pu_ 5 54 #[I,O,I,O,O,I,O,O,O,O,O] HT_.out ?_
           refine pu_ 7 56 #[I,O,I,O,O,I,O,I,O,O,O] HT_.out ?_
           refine tk8_ 1 50 #[I,I,I,O,O,I,O,I,O,O,O] HT_.out HW_.out hHeld ?_
           refine pu_ 3 52 #[I,I,I,I,O,I,O,I,O,O,O] HT_.out ?_
           refine tk8_ 4 53 #[I,I,I,I,I,I,O,I,O,O,O] HT_.out HW_.out hHeld ?_
           refine tk8_ 6 55 #[I,I,I,I,I,I,I,I,O,O,O] HT_.out HW_.out hHeld ?_
           refine pu_ 8 57 #[I,I,I,I,I,I,I,I,I,O,O] HT_.out ?_
           refine tk8_ 9 58 #[I,I,I,I,I,I,I,I,I,I,O] HT_.out HW_.out hHeld ?_
           refine pu_ 10 59 #[I,I,I,I,I,I,I,I,I,I,I] HT_.out ?_
           refine done_ (done_of HT_.out (by kernel_rfl)) ?_
           try go_wp2
           go_roundg k2
           case measure=>have:=HJ1.out;have:=HK2.out;omega
           case rel=>exact ⟨(wrap64 (N2+1)),(z2_),H',⟨z14_ HJ1.out HK2.out⟩,⟨z0_ T2.out⟩,⟨z3_ I5.out⟩,⟨z3_ V7.out⟩,⟨z9_ HB.out b0.out AJ3.out⟩⟩
         ·rw [if_neg c25] at H
          exact nO H
        ·rw [if_neg c24] at H
         exact nO H
       ·rw [if_neg c23] at H
        have c23b0:decide (N2<(B0.length:Int))=false:=dF c23
        clear c23
        obtain rfl:=sI H
        have B64:=O4.out
        have B65:=Z6.out
        have ⟨By6,hcz34_1,By7,hfz34_1⟩:=cz2_ I5.out
        go_wp2
        go_ret
        exact ⟨z8_,z9_ HB.out b0.out AJ3.out⟩


/-! ### Y15: function 24 -/
mutual
def Y15.j0:Nat→ByteArray→Bool→Option (Bool)
 | 0,_,_=>none
 | k+1,x0,x12=>if x12=true then (some false) else (Y15.l0 k x0 0)
def Y15.l0:Nat→ByteArray→Int→Option (Bool)
 | 0,_,_=>none
 | k+1,x0,x3=>if x3<(x0.size:Int) then (if 0≤x3 then (if (bt x0 x3)≥97 then (if ((bt x0 x3)≤122) then (Y15.l0 k x0 (wrap64 (x3+1))) else (if x3=0 then (some false) else (if (bt x0 x3)≥48 then (if ((bt x0 x3)≤57) then (Y15.l0 k x0 (wrap64 (x3+1))) else (if (bt x0 x3)=95 then (Y15.l0 k x0 (wrap64 (x3+1))) else (some false))) else (if (bt x0 x3)=95 then (Y15.l0 k x0 (wrap64 (x3+1))) else (some false))))) else (if x3=0 then (some false) else (if (bt x0 x3)≥48 then (if ((bt x0 x3)≤57) then (Y15.l0 k x0 (wrap64 (x3+1))) else (if (bt x0 x3)=95 then (Y15.l0 k x0 (wrap64 (x3+1))) else (some false))) else (if (bt x0 x3)=95 then (Y15.l0 k x0 (wrap64 (x3+1))) else (some false))))) else (none)) else (some true)
end
def Y15.f (k:Nat) (a0:ByteArray):Option (Bool):=if (a0.size:Int)<1 then (Y15.j0 k a0 true) else (Y15.j0 k a0 (decide ((a0.size:Int)>20)))
theorem Y15.mono_l:∀ k,(∀ y0 y1,LeO (Y15.j0 k y0 y1) (Y15.j0 (k+1) y0 y1))∧(∀ y0 y1,LeO (Y15.l0 k y0 y1) (Y15.l0 (k+1) y0 y1))
 | 0=>by refine ⟨?_,?_⟩ <;> intros <;> exact LeO.none _
 | k+1=>by
  obtain ⟨ih0,ih1⟩:=Y15.mono_l k
  refine ⟨?_,?_⟩
  ·intros
   unfold Y15.j0
   exact mO
  ·intros
   unfold Y15.l0
   exact mO
theorem Y15.mono:∀ a0 k,LeO (Y15.f k a0) (Y15.f (k+1) a0):=by
 intro a0 k
 obtain ⟨ih0,ih1⟩:=Y15.mono_l k
 unfold Y15.f
 exact mO
theorem Y15.calls (k:Nat) (a0:ByteArray) (r:Bool) (w:World) (h:Y15.f k a0=some r) :
  Calls Tryz.prog 24 #[.string a0] w fun e w'=>e = .returned (.bool r)∧Drawn0 w w':=by
 have H:(if (a0.size:Int)<1 then (Y15.j0 k a0 true) else (Y15.j0 k a0 (decide ((a0.size:Int)>20))))=some r:=h
 clear h
 have HC2:=aM H
 clear H
 go_enter Tryz.func24,Tryz.ntmps24
 go_upto_region 1 with (fail)
 go_cut [12] (fun v12 wc=>∃ (kq:Nat) (D3:Bool),v12 = .bool D3∧Aside0 (Y15.j0 kq a0 D3=some r)∧Aside0 (kq≤k)∧Drawn0 w wc)
 case first =>
  have H:=HC2.out
  clear HC2
  by_cases c3:(a0.size:Int)<1
  ·rw [if_pos c3] at H
   have c3b0:decide ((a0.size:Int)<1)=true:=dE c3
   have c3b1:decide (a0.size<1)=true:=dE (by omega)
   clear c3
   (first | rw [c3b0] | (simp only [i64_w,i32_w];rw [c3b0]) | skip)
   have H':=aM H
   clear H
   go_wp2
   go_meet
   case rel=>exact ⟨_,(true),(z2_),H',⟨by first | omega | exact Nat.le_refl _⟩,z5_⟩
  ·rw [if_neg c3] at H
   have c3b0:decide ((a0.size:Int)<1)=false:=dF c3
   have c3b1:decide (a0.size<1)=false:=dF (by omega)
   clear c3
   (first | rw [c3b0] | (simp only [i64_w,i32_w];rw [c3b0]) | skip)
   have H':=aM H
   clear H
   go_wp2
   go_meet
   case rel=>exact ⟨_,(decide ((a0.size:Int)>20)),(z2_),H',⟨by first | omega | exact Nat.le_refl _⟩,z5_⟩
 case rest =>
  clear HC2
  try clear c2
  try clear p2
  try clear c3
  try clear c3b0
  try clear c3b1
  obtain ⟨kq,D3,rfl,HA,HJ1,⟨mc1,rfl⟩⟩:=hcut
  cases kq with
  | zero=>exact absurd HA.out (by simp [Y15.j0])
  | succ kj1 =>
   have H:=HA.out
   clear HA
   simp only [Y15.j0] at H
   by_cases c4:D3=true
   ·subst c4
    have H1:(some false)=some r:=by rw [if_pos rfl] at H;exact H
    clear H
    have H:=H1
    clear H1
    obtain rfl:=sI H
    go_wp2
    go_ret
    exact ⟨z2_,z5_⟩
   ·replace c4:=Bool.eq_false_iff.mpr c4
    subst c4
    have H1:(Y15.l0 kj1 a0 0)=some r:=by rw [if_neg (show ¬ (false=true) by decide)] at H;exact H
    clear H
    have H:=H1
    clear H1
    have H':=aM H
    clear H
    go_wp2
    go_loopg [3] kj1 (fun kq v3 w'=>∃ (G6:Int),v3 = .int .i64 G6∧Aside0 (Y15.l0 kq a0 G6=some r)∧Aside0 (kq≤kj1)∧Drawn0 w w')
    case atStart=>exact ⟨(0),(z2_),H',⟨Nat.le_refl _⟩,z5_⟩
    case round =>
     clear H'
     try clear c1
     try clear c2
     try clear p2
     try clear c3
     try clear c3b0
     try clear c3b1
     try clear c4
     try clear p2
     obtain ⟨G6,rfl,HA,HK2,⟨m2,rfl⟩⟩:=hrel
     cases gk with
     | zero=>exact absurd HA.out (by simp [Y15.l0])
     | succ k2 =>
      have H:=HA.out
      clear HA
      simp only [Y15.l0] at H
      by_cases c5:G6<(a0.size:Int)
      ·rw [if_pos c5] at H
       have c5b0:decide (G6<(a0.size:Int))=true:=dE c5
       clear c5
       by_cases c6:0≤G6
       ·rw [if_pos c6] at H
        have c6b0:decide (0≤G6)=true:=dE c6
        clear c6
        by_cases c8:(bt a0 G6)≥97
        ·rw [if_pos c8] at H
         have c8b0:decide (97≤(bt a0 G6))=true:=dE c8
         clear c8
         by_cases c9:((bt a0 G6)≤122)
         ·rw [if_pos c9] at H
          have c9b0:decide ((bt a0 G6)≤122)=true:=dE c9
          clear c9
          have H':=aM H
          clear H
          have p7:0≤(G6:Int):=dT (z1_)
          have q7:G6<(a0.size:Int):=dT (z1_)
          have hx7:=bt_at a0 G6
          replace p7:=eq_true p7
          replace q7:=eq_true q7
          go_wp2
          go_roundg k2
          case measure=>have:=HJ1.out;have:=HK2.out;omega
          case rel=>exact ⟨(wrap64 (G6+1)),(z2_),H',⟨z14_ HJ1.out HK2.out⟩,z5_⟩
         ·rw [if_neg c9] at H
          have c9b0:decide ((bt a0 G6)≤122)=false:=dF c9
          clear c9
          by_cases c10:G6=0
          ·rw [if_pos c10] at H
           have c10b0:(G6 == 0)=true:=beq_iff_eq.mpr c10
           have c10b1:(G6 != 0)=false:=bne_eq_false_iff_eq.mpr c10
           clear c10
           obtain rfl:=sI H
           have p7:0≤(G6:Int):=dT (z1_)
           have q7:G6<(a0.size:Int):=dT (z1_)
           have hx7:=bt_at a0 G6
           replace p7:=eq_true p7
           replace q7:=eq_true q7
           go_wp2
           go_ret
           exact ⟨z2_,z5_⟩
          ·rw [if_neg c10] at H
           have c10b0:(G6 == 0)=false:=beq_eq_false_iff_ne.mpr c10
           have c10b1:(G6 != 0)=true:=bne_iff_ne.mpr c10
           by_cases c11:(bt a0 G6)≥48
           ·rw [if_pos c11] at H
            have c11b0:decide (48≤(bt a0 G6))=true:=dE c11
            clear c11
            by_cases c12:((bt a0 G6)≤57)
            ·rw [if_pos c12] at H
             have c12b0:decide ((bt a0 G6)≤57)=true:=dE c12
             clear c12
             have H':=aM H
             clear H
             have p7:0≤(G6:Int):=dT (z1_)
             have q7:G6<(a0.size:Int):=dT (z1_)
             have hx7:=bt_at a0 G6
             replace p7:=eq_true p7
             replace q7:=eq_true q7
             go_wp2
             go_roundg k2
             case measure=>have:=HJ1.out;have:=HK2.out;omega
             case rel=>exact ⟨(wrap64 (G6+1)),(z2_),H',⟨z14_ HJ1.out HK2.out⟩,z5_⟩
            ·rw [if_neg c12] at H
             have c12b0:decide ((bt a0 G6)≤57)=false:=dF c12
             clear c12
             by_cases c13:(bt a0 G6)=95
             ·rw [if_pos c13] at H
              have c13b0:((bt a0 G6) == 95)=true:=beq_iff_eq.mpr c13
              have c13b1:((bt a0 G6) != 95)=false:=bne_eq_false_iff_eq.mpr c13
              clear c13
              have H':=aM H
              clear H
              have p7:0≤(G6:Int):=dT (z1_)
              have q7:G6<(a0.size:Int):=dT (z1_)
              have hx7:=bt_at a0 G6
              replace p7:=eq_true p7
              replace q7:=eq_true q7
              go_wp2
              go_roundg k2
              case measure=>have:=HJ1.out;have:=HK2.out;omega
              case rel=>exact ⟨(wrap64 (G6+1)),(z2_),H',⟨z14_ HJ1.out HK2.out⟩,z5_⟩
             ·rw [if_neg c13] at H
              have c13b0:((bt a0 G6) == 95)=false:=beq_eq_false_iff_ne.mpr c13
              have c13b1:((bt a0 G6) != 95)=true:=bne_iff_ne.mpr c13
              obtain rfl:=sI H
              have p7:0≤(G6:Int):=dT (z1_)
              have q7:G6<(a0.size:Int):=dT (z1_)
              have hx7:=bt_at a0 G6
              replace p7:=eq_true p7
              replace q7:=eq_true q7
              go_wp2
              go_ret
              exact ⟨z2_,z5_⟩
           ·rw [if_neg c11] at H
            have c11b0:decide (48≤(bt a0 G6))=false:=dF c11
            clear c11
            by_cases c14:(bt a0 G6)=95
            ·rw [if_pos c14] at H
             have c14b0:((bt a0 G6) == 95)=true:=beq_iff_eq.mpr c14
             have c14b1:((bt a0 G6) != 95)=false:=bne_eq_false_iff_eq.mpr c14
             clear c14
             have H':=aM H
             clear H
             have p7:0≤(G6:Int):=dT (z1_)
             have q7:G6<(a0.size:Int):=dT (z1_)
             have hx7:=bt_at a0 G6
             replace p7:=eq_true p7
             replace q7:=eq_true q7
             go_wp2
             go_roundg k2
             case measure=>have:=HJ1.out;have:=HK2.out;omega
             case rel=>exact ⟨(wrap64 (G6+1)),(z2_),H',⟨z14_ HJ1.out HK2.out⟩,z5_⟩
            ·rw [if_neg c14] at H
             have c14b0:((bt a0 G6) == 95)=false:=beq_eq_false_iff_ne.mpr c14
             have c14b1:((bt a0 G6) != 95)=true:=bne_iff_ne.mpr c14
             obtain rfl:=sI H
             have p7:0≤(G6:Int):=dT (z1_)
             have q7:G6<(a0.size:Int):=dT (z1_)
             have hx7:=bt_at a0 G6
             replace p7:=eq_true p7
             replace q7:=eq_true q7
             go_wp2
             go_ret
             exact ⟨z2_,z5_⟩
        ·rw [if_neg c8] at H
         have c8b0:decide (97≤(bt a0 G6))=false:=dF c8
         clear c8
         by_cases c15:G6=0
         ·rw [if_pos c15] at H
          have c15b0:(G6 == 0)=true:=beq_iff_eq.mpr c15
          have c15b1:(G6 != 0)=false:=bne_eq_false_iff_eq.mpr c15
          clear c15
          obtain rfl:=sI H
          have p7:0≤(G6:Int):=dT (z1_)
          have q7:G6<(a0.size:Int):=dT (z1_)
          have hx7:=bt_at a0 G6
          replace p7:=eq_true p7
          replace q7:=eq_true q7
          go_wp2
          go_ret
          exact ⟨z2_,z5_⟩
         ·rw [if_neg c15] at H
          have c15b0:(G6 == 0)=false:=beq_eq_false_iff_ne.mpr c15
          have c15b1:(G6 != 0)=true:=bne_iff_ne.mpr c15
          by_cases c16:(bt a0 G6)≥48
          ·rw [if_pos c16] at H
           have c16b0:decide (48≤(bt a0 G6))=true:=dE c16
           clear c16
           by_cases c17:((bt a0 G6)≤57)
           ·rw [if_pos c17] at H
            have c17b0:decide ((bt a0 G6)≤57)=true:=dE c17
            clear c17
            have H':=aM H
            clear H
            have p7:0≤(G6:Int):=dT (z1_)
            have q7:G6<(a0.size:Int):=dT (z1_)
            have hx7:=bt_at a0 G6
            replace p7:=eq_true p7
            replace q7:=eq_true q7
            go_wp2
            go_roundg k2
            case measure=>have:=HJ1.out;have:=HK2.out;omega
            case rel=>exact ⟨(wrap64 (G6+1)),(z2_),H',⟨z14_ HJ1.out HK2.out⟩,z5_⟩
           ·rw [if_neg c17] at H
            have c17b0:decide ((bt a0 G6)≤57)=false:=dF c17
            clear c17
            by_cases c18:(bt a0 G6)=95
            ·rw [if_pos c18] at H
             have c18b0:((bt a0 G6) == 95)=true:=beq_iff_eq.mpr c18
             have c18b1:((bt a0 G6) != 95)=false:=bne_eq_false_iff_eq.mpr c18
             clear c18
             have H':=aM H
             clear H
             have p7:0≤(G6:Int):=dT (z1_)
             have q7:G6<(a0.size:Int):=dT (z1_)
             have hx7:=bt_at a0 G6
             replace p7:=eq_true p7
             replace q7:=eq_true q7
             go_wp2
             go_roundg k2
             case measure=>have:=HJ1.out;have:=HK2.out;omega
             case rel=>exact ⟨(wrap64 (G6+1)),(z2_),H',⟨z14_ HJ1.out HK2.out⟩,z5_⟩
            ·rw [if_neg c18] at H
             have c18b0:((bt a0 G6) == 95)=false:=beq_eq_false_iff_ne.mpr c18
             have c18b1:((bt a0 G6) != 95)=true:=bne_iff_ne.mpr c18
             obtain rfl:=sI H
             have p7:0≤(G6:Int):=dT (z1_)
             have q7:G6<(a0.size:Int):=dT (z1_)
             have hx7:=bt_at a0 G6
             replace p7:=eq_true p7
             replace q7:=eq_true q7
             go_wp2
             go_ret
             exact ⟨z2_,z5_⟩
          ·rw [if_neg c16] at H
           have c16b0:decide (48≤(bt a0 G6))=false:=dF c16
           clear c16
           by_cases c19:(bt a0 G6)=95
           ·rw [if_pos c19] at H
            have c19b0:((bt a0 G6) == 95)=true:=beq_iff_eq.mpr c19
            have c19b1:((bt a0 G6) != 95)=false:=bne_eq_false_iff_eq.mpr c19
            clear c19
            have H':=aM H
            clear H
            have p7:0≤(G6:Int):=dT (z1_)
            have q7:G6<(a0.size:Int):=dT (z1_)
            have hx7:=bt_at a0 G6
            replace p7:=eq_true p7
            replace q7:=eq_true q7
            go_wp2
            go_roundg k2
            case measure=>have:=HJ1.out;have:=HK2.out;omega
            case rel=>exact ⟨(wrap64 (G6+1)),(z2_),H',⟨z14_ HJ1.out HK2.out⟩,z5_⟩
           ·rw [if_neg c19] at H
            have c19b0:((bt a0 G6) == 95)=false:=beq_eq_false_iff_ne.mpr c19
            have c19b1:((bt a0 G6) != 95)=true:=bne_iff_ne.mpr c19
            obtain rfl:=sI H
            have p7:0≤(G6:Int):=dT (z1_)
            have q7:G6<(a0.size:Int):=dT (z1_)
            have hx7:=bt_at a0 G6
            replace p7:=eq_true p7
            replace q7:=eq_true q7
            go_wp2
            go_ret
            exact ⟨z2_,z5_⟩
       ·rw [if_neg c6] at H
        exact nO H
      ·rw [if_neg c5] at H
       have c5b0:decide (G6<(a0.size:Int))=false:=dF c5
       clear c5
       obtain rfl:=sI H
       go_wp2
       go_ret
       exact ⟨z2_,z5_⟩


/-! ### Y36: function 76 -/
def Y36.l0:Nat→List Int→Int→Int→Option (Bool)
 | 0,_,_,_=>none
 | k+1,x0,x1,x5=>if x5<(x0.length:Int) then (if 0≤x5 then (if (rd x0 x5)=x1 then (some true) else (Y36.l0 k x0 x1 (wrap64 (x5+1)))) else (none)) else (some false)
def Y36.f (k:Nat) (l0:List Int) (a1:Int):Option (Bool):=Y36.l0 k l0 a1 0
theorem Y36.mono_l:∀ k,(∀ y0 y1 y2,LeO (Y36.l0 k y0 y1 y2) (Y36.l0 (k+1) y0 y1 y2))
 | 0=>by intros <;> exact LeO.none _
 | k+1=>by
  have ih0:=Y36.mono_l k
  ·intros
   unfold Y36.l0
   exact mO
theorem Y36.mono:∀ a0 a1 k,LeO (Y36.f k a0 a1) (Y36.f (k+1) a0 a1):=by
 intro a0 a1 k
 have ih0:=Y36.mono_l k
 unfold Y36.f
 exact mO
theorem Y36.calls (k:Nat) (A0:Option Addr) (c0:Nat) (l0:List Int) (a1:Int) (r:Bool) (w:World) (hr0:Kd.C (Kd.int .i64) w A0 l0.length l0) (hc0:l0.length≤c0) (h:Y36.f k l0 a1=some r) :
  Calls Tryz.prog 76 #[.slice A0 l0.length c0,.int .i64 a1] w fun e w'=>e = .returned (.bool r)∧Drawn0 w w':=by
 have HR0:=aM hr0
 have HC0:=aM hc0
 clear hr0 hc0
 have H:(Y36.l0 k l0 a1 0)=some r:=h
 clear h
 have H':=aM H
 clear H
 go_enter Tryz.func76,Tryz.ntmps76
 go_wp2
 go_loopg [5] k (fun kq v5 w'=>∃ (F2:Int),v5 = .int .i64 F2∧Aside0 (Y36.l0 kq l0 a1 F2=some r)∧Aside0 (kq≤k)∧Drawn0 w w')
 case atStart=>exact ⟨(0),(z2_),H',⟨Nat.le_refl _⟩,z5_⟩
 case round =>
  clear H'
  try clear p2
  obtain ⟨F2,rfl,HA,HK1,⟨m1,rfl⟩⟩:=hrel
  cases gk with
  | zero=>exact absurd HA.out (by simp [Y36.l0])
  | succ k1 =>
   have H:=HA.out
   clear HA
   simp only [Y36.l0] at H
   by_cases c3:F2<(l0.length:Int)
   ·rw [if_pos c3] at H
    have c3b0:decide (F2<(l0.length:Int))=true:=dE c3
    clear c3
    by_cases c4:0≤F2
    ·rw [if_pos c4] at H
     have c4b0:decide (0≤F2)=true:=dE c4
     clear c4
     by_cases c5:(rd l0 F2)=a1
     ·rw [if_pos c5] at H
      have c5b0:((rd l0 F2) == a1)=true:=beq_iff_eq.mpr c5
      have c5b1:((rd l0 F2) != a1)=false:=bne_eq_false_iff_eq.mpr c5
      clear c5
      obtain rfl:=sI H
      have BG2:0≤(F2:Int):=dT (z1_)
      have BG3:F2<(l0.length:Int):=dT (z1_)
      obtain ⟨Ct3,CS0,B06⟩:=Kd.at_int HR0.out F2 BG2 BG3
      cases CS0
      replace BG2:=eq_true BG2
      replace BG3:=eq_true BG3
      go_wp2
      go_ret
      exact ⟨z2_,z5_⟩
     ·rw [if_neg c5] at H
      have c5b0:((rd l0 F2) == a1)=false:=beq_eq_false_iff_ne.mpr c5
      have c5b1:((rd l0 F2) != a1)=true:=bne_iff_ne.mpr c5
      have H':=aM H
      clear H
      have BG2:0≤(F2:Int):=dT (z1_)
      have BG3:F2<(l0.length:Int):=dT (z1_)
      obtain ⟨Ct3,CS0,B06⟩:=Kd.at_int HR0.out F2 BG2 BG3
      cases CS0
      replace BG2:=eq_true BG2
      replace BG3:=eq_true BG3
      go_wp2
      go_roundg k1
      case measure=>have:=HK1.out;omega
      case rel=>exact ⟨(wrap64 (F2+1)),(z2_),H',⟨by have:=HK1.out;omega⟩,z5_⟩
    ·rw [if_neg c4] at H
     exact nO H
   ·rw [if_neg c3] at H
    have c3b0:decide (F2<(l0.length:Int))=false:=dF c3
    clear c3
    obtain rfl:=sI H
    go_wp2
    go_ret
    exact ⟨z2_,z5_⟩


/-! ### Y17: function 47 -/
mutual
def Y17.l0:Nat→Int→Int→Int→List (S78)→Option (List Int)
 | 0,_,_,_,_=>none
 | k+1,x5,x6,AD4,P6=>if x6<(P6.length:Int) then (if 0≤x6 then (Y17.j1 k x5 x6 (decide (((rd_T78 P6 x6).f0)<x5)) AD4 P6) else (none)) else (Y17.j1 k x5 x6 false AD4 P6)
def Y17.j1:Nat→Int→Int→Bool→Int→List (S78)→Option (List Int)
 | 0,_,_,_,_,_=>none
 | k+1,x5,x6,x26,AD4,P6=>if x26=true then (Y17.l0 k x5 (wrap64 (x6+1)) AD4 P6) else (Y17.l1 k x6 (([]:List Int)) 0 AD4 P6)
def Y17.l1:Nat→Int→List Int→Int→Int→List (S78)→Option (List Int)
 | 0,_,_,_,_,_=>none
 | k+1,x6,x7,x8,AD4,P6=>if x8<(P6.length:Int) then (if (P6.length:Int)=0 then (none) else (if 0≤(Int.tmod (wrap64 (x6+x8)) (P6.length:Int)) then (if (Int.tmod (wrap64 (x6+x8)) (P6.length:Int))<(P6.length:Int) then ((Y36.f k x7 ((rd_T78 P6 (Int.tmod (wrap64 (x6+x8)) (P6.length:Int))).f1)).bind fun BV8=>(if BV8=true then (Y17.l1 k x6 x7 (wrap64 (x8+1)) AD4 P6) else (if x7.length<17592186044416 then (Y17.l1 k x6 (x7 ++ [(rd_T78 P6 (Int.tmod (wrap64 (x6+x8)) (P6.length:Int))).f1]) (wrap64 (x8+1)) AD4 P6) else (none)))) else (none)) else (none))) else (some x7)
end
def Y17.f (k:Nat) (B2:Int) (B0:List (S78)) (a1:ByteArray):Option (List Int):=(Y44.f k a1).bind fun Ad8=>(Y17.l0 k Ad8 0 B2 B0)
theorem Y17.mono_l:∀ k,(∀ y0 y1 y2 y3,LeO (Y17.l0 k y0 y1 y2 y3) (Y17.l0 (k+1) y0 y1 y2 y3))∧(∀ y0 y1 y2 y3 y4,LeO (Y17.j1 k y0 y1 y2 y3 y4) (Y17.j1 (k+1) y0 y1 y2 y3 y4))∧(∀ y0 y1 y2 y3 y4,LeO (Y17.l1 k y0 y1 y2 y3 y4) (Y17.l1 (k+1) y0 y1 y2 y3 y4))
 | 0=>by refine ⟨?_,?_,?_⟩ <;> intros <;> exact LeO.none _
 | k+1=>by
  obtain ⟨ih0,ih1,ih2⟩:=Y17.mono_l k
  have m0:=@Y36.mono
  have m1:=@Y44.mono
  refine ⟨?_,?_,?_⟩
  ·intros
   unfold Y17.l0
   exact mO
  ·intros
   unfold Y17.j1
   exact mO
  ·intros
   unfold Y17.l1
   exact mO
theorem Y17.mono:∀ a0 a1 a2 k,LeO (Y17.f k a0 a1 a2) (Y17.f (k+1) a0 a1 a2):=by
 intro a0 a1 a2 k
 have m0:=@Y36.mono
 have m1:=@Y44.mono
 obtain ⟨ih0,ih1,ih2⟩:=Y17.mono_l k
 unfold Y17.f
 exact mO
theorem Y17.calls (k:Nat) (B2:Int) (E7:Option Addr) (E4:Nat) (B0:List (S78)) (a1:ByteArray) (r:List Int) (w:World) (J9:Kd.C k78 w E7 B0.length B0) (K0:B0.length≤E4) (h:Y17.f k B2 B0 a1=some r) :
  Calls Tryz.prog 47 #[.agg #[.int .i64 B2,.slice E7 B0.length E4],.string a1] w fun e w'=>∃ v0_:Value,e = .returned (v0_)∧Kd.R (Kd.int .i64) 2 w' w.heap.size (fun _=>True) v0_ r∧Below w.heap.size w w':=by
 have AD7:=Tryz.underlying27
 have I2:=aM J9
 have J7:=aM K0
 clear J9 K0
 have HB:=aM (Below.refl w.heap.size w)
 have H:((Y44.f k a1).bind fun Ad8=>(Y17.l0 k Ad8 0 B2 B0))=some r:=h
 clear h
 replace H:=bS H
 obtain ⟨Ad8,A30,H⟩:=H
 replace H:(Y17.l0 k Ad8 0 B2 B0)=some r:=H
 have A3:=aM A30
 clear A30
 have H':=aM H
 clear H
 go_enter Tryz.func47,Tryz.ntmps47
 go_wp2_with (first | ((with_reducible refine gd_ 2 ?_);refine be_ 2 #[.int .i64 B2,.slice E7 B0.length E4] 27 ?_;intro AD5 hg w4 hbox hb;have n0_:=aM (below_step (z6_ HB.out) hb);have n1_:=aM (hbox);have n2_:=aM ((z7_ HB.out:w.heap.size≤AD5));have n3_:=aM ((z7_ HB.out:w.heap.size≤AD5));clear HB;have HB:=n0_;have M4:=n1_;have CC8:=n2_;have a6:=n3_;clear n0_ n1_ n2_ n3_;clear hb hbox hg) | (go_at_call 55;(with_reducible refine (Y44.calls k a1 Ad8 _ A3.out).mono ?_);rintro e w' ⟨rfl,⟨nd,rfl⟩⟩;(try first | exact ⟨rfl,_,World.drewN_drewN _ _ _⟩ | exact ⟨rfl,_,Eq.trans (World.drewN_drewN _ _ _) (congrArg (World.drewN _) (Nat.add_assoc _ _ _))⟩)))
 repeat (go_quiet (first | ((with_reducible refine gd_ 2 ?_);refine be_ 2 #[.int .i64 B2,.slice E7 B0.length E4] 27 ?_;intro AD5 hg w4 hbox hb;have n0_:=aM (below_step (z6_ HB.out) hb);have n1_:=aM (hbox);have n2_:=aM ((z7_ HB.out:w.heap.size≤AD5));have n3_:=aM ((z7_ HB.out:w.heap.size≤AD5));clear HB;have HB:=n0_;have M4:=n1_;have CC8:=n2_;have a6:=n3_;clear n0_ n1_ n2_ n3_;clear hb hbox hg) | (go_at_call 55;(with_reducible refine (Y44.calls k a1 Ad8 _ A3.out).mono ?_);rintro e w' ⟨rfl,⟨nd,rfl⟩⟩;(try first | exact ⟨rfl,_,World.drewN_drewN _ _ _⟩ | exact ⟨rfl,_,Eq.trans (World.drewN_drewN _ _ _) (congrArg (World.drewN _) (Nat.add_assoc _ _ _))⟩)));try go_wp2_with (first | ((with_reducible refine gd_ 2 ?_);refine be_ 2 #[.int .i64 B2,.slice E7 B0.length E4] 27 ?_;intro AD5 hg w4 hbox hb;have n0_:=aM (below_step (z6_ HB.out) hb);have n1_:=aM (hbox);have n2_:=aM ((z7_ HB.out:w.heap.size≤AD5));have n3_:=aM ((z7_ HB.out:w.heap.size≤AD5));clear HB;have HB:=n0_;have M4:=n1_;have CC8:=n2_;have a6:=n3_;clear n0_ n1_ n2_ n3_;clear hb hbox hg) | (go_at_call 55;(with_reducible refine (Y44.calls k a1 Ad8 _ A3.out).mono ?_);rintro e w' ⟨rfl,⟨nd,rfl⟩⟩;(try first | exact ⟨rfl,_,World.drewN_drewN _ _ _⟩ | exact ⟨rfl,_,Eq.trans (World.drewN_drewN _ _ _) (congrArg (World.drewN _) (Nat.add_assoc _ _ _))⟩))))
 go_loopg [6] k (fun kq v6 w'=>∃ (D9:Int),v6 = .int .i64 D9∧Aside0 (Y17.l0 kq Ad8 D9 B2 B0=some r)∧Aside0 (kq≤k)∧Aside0 (w'.heap[AD5]? = some (.cells #[.int .i64 B2,(.slice E7 B0.length E4)] 27 (0,0)))∧Aside0 (Below w.heap.size w w'))
 case atStart=>exact ⟨(0),(z2_),H',⟨Nat.le_refl _⟩,⟨z3_ M4.out⟩,⟨z4_ HB.out a6.out⟩⟩
 case round =>
  clear H'
  try clear p2
  try clear c4
  obtain ⟨D9,rfl,HA,HK1,M4,HB⟩:=hrel
  cases gk with
  | zero=>exact absurd HA.out (by simp [Y17.l0])
  | succ k1 =>
   have H:=HA.out
   clear HA
   simp only [Y17.l0] at H
   have HC5:=aM H
   clear H
   go_upto_region 3 with (fail)
   repeat (go_quiet (fail);go_upto_region 3 with (fail))
   go_cut [26] (fun v26 wc=>∃ (kq:Nat) (BO9:Bool),v26 = .bool BO9∧Aside0 (Y17.j1 kq Ad8 D9 BO9 B2 B0=some r)∧Aside0 (kq≤k1)∧Aside0 (wc.heap[AD5]? = some (.cells #[.int .i64 B2,(.slice E7 B0.length E4)] 27 (0,0)))∧Aside0 (Below w.heap.size w wc))
   case first =>
    have H:=HC5.out
    clear HC5
    by_cases c6:D9<(B0.length:Int)
    ·rw [if_pos c6] at H
     have c6b0:decide (D9<(B0.length:Int))=true:=dE c6
     clear c6
     (first | rw [c6b0] | (simp only [i64_w,i32_w];rw [c6b0]) | skip)
     by_cases c7:0≤D9
     ·rw [if_pos c7] at H
      have c7b0:decide (0≤D9)=true:=dE c7
      clear c7
      have H':=aM H
      clear H
      have ⟨AM4,AM5,AM6,AM7⟩:=cz2_ M4.out
      have Bk0:0≤(D9:Int):=dT (z1_)
      have Bk1:D9<(B0.length:Int):=dT (z1_)
      obtain ⟨ad562,C63,AY5,AY6⟩:=at_T78 I2.out D9 Bk0 Bk1
      cases C63
      replace AY5:=(HB.out.cell (World.block_lt_of_cell? w _ AY5)).trans AY5
      replace AY6:=(HB.out.cell (World.block_lt_of_cell? w _ AY6)).trans AY6
      replace Bk0:=eq_true Bk0
      replace Bk1:=eq_true Bk1
      go_wp2
      repeat (go_quiet (fail);try go_wp2)
      go_meet
      case rel=>exact ⟨_,(decide (((rd_T78 B0 D9).f0)<Ad8)),(z2_),H',⟨z21_ HK1.out⟩,⟨z3_ M4.out⟩,⟨z4_ HB.out a6.out⟩⟩
     ·rw [if_neg c7] at H
      exact nO H
    ·rw [if_neg c6] at H
     have c6b0:decide (D9<(B0.length:Int))=false:=dF c6
     clear c6
     (first | rw [c6b0] | (simp only [i64_w,i32_w];rw [c6b0]) | skip)
     have H':=aM H
     clear H
     have ⟨R9,a7,S0,a8⟩:=cz2_ M4.out
     go_wp2
     repeat (go_quiet (fail);try go_wp2)
     go_meet
     case rel=>exact ⟨_,(false),(z2_),H',⟨z21_ HK1.out⟩,⟨z3_ M4.out⟩,⟨z4_ HB.out a6.out⟩⟩
   case rest =>
    clear HC5
    try clear p2
    try clear c4
    try clear p5
    try clear q5
    try clear hx5
    try clear c6
    try clear c6b0
    try clear c7
    try clear c7b0
    try clear AM4
    try clear AM5
    try clear R9
    try clear a7
    try clear AM6
    try clear AM7
    try clear S0
    try clear a8
    try clear AY5
    try clear AY6
    try clear p2
    try clear Bk0
    try clear Bk1
    obtain ⟨kq,BO9,rfl,HA,HJ4,M4,HB⟩:=hcut
    cases kq with
    | zero=>exact absurd HA.out (by simp [Y17.j1])
    | succ kj4 =>
     have H:=HA.out
     clear HA
     simp only [Y17.j1] at H
     by_cases c10:BO9=true
     ·subst c10
      have H1:(Y17.l0 kj4 Ad8 (wrap64 (D9+1)) B2 B0)=some r:=by rw [if_pos rfl] at H;exact H
      clear H
      have H:=H1
      clear H1
      have H':=aM H
      clear H
      go_wp2
      repeat (go_quiet (fail);try go_wp2)
      go_roundg kj4
      case measure=>have:=HK1.out;have:=HJ4.out;omega
      case rel=>exact ⟨(wrap64 (D9+1)),(z2_),H',⟨z14_ HK1.out HJ4.out⟩,⟨z3_ M4.out⟩,⟨z4_ HB.out a6.out⟩⟩
     ·replace c10:=Bool.eq_false_iff.mpr c10
      subst c10
      have H1:(Y17.l1 kj4 D9 (([]:List Int)) 0 B2 B0)=some r:=by rw [if_neg (show ¬ (false=true) by decide)] at H;exact H
      clear H
      have H:=H1
      clear H1
      obtain ⟨Ct4,A91⟩:∃ y_:List Int,y_=(([]:List Int)):=⟨_,rfl⟩
      replace H:(Y17.l1 kj4 D9 Ct4 0 B2 B0)=some r:=by first | (rw [A91];with_reducible exact H) | (have H2_:=(Option.bind_some _ _).symm.trans H;rw [A91];with_reducible exact H2_) | (have H2_:=(Option.bind_some _ _).symm.trans H;with_reducible exact H2_) | with_reducible exact H | (rw [A91];exact H) | exact H
      have Ap3:=aM A91
      clear A91
      have H':=aM H
      clear H
      go_wp2_with (first | ((with_reducible refine gd_ 29 ?_);refine Kd.R_lit (Kd.int .i64) _ 2 ?hg (N:=29) ?hd (xs:=([]:List Int)) (inner:=[]) (ok:=fun _=>True) (okp:=fun _=>True) ?hr ?hp (fun _ hk=>hk) trivial (Below.refl _ _) (Nat.le_refl _) (by simp) ?_;(case hd=>rfl);(case hg=>rfl);(case hr=>first | (go_simp;done) | (go_simp;rfl));(case hp=>exact (Reps.none _ _));intro Ct5 w11 AM8 hb hg_ hnew_;clear hg_ hnew_;(first | rw [← Ap3.out] at AM8 | (simp only [Int.reduceToNat] at AM8;rw [← Ap3.out] at AM8));have n0_:=aM (Kd.R_lower AM8 (below_size (z4_ HB.out a6.out)));have n1_:=aM (blkB_ M4.out hb);have n2_:=aM (below_step (z4_ HB.out a6.out) hb);clear M4;clear HB;have Bk2:=n0_;have M4:=n1_;have HB:=n2_;clear n0_ n1_ n2_;clear hb AM8))
      repeat (go_quiet (first | ((with_reducible refine gd_ 29 ?_);refine Kd.R_lit (Kd.int .i64) _ 2 ?hg (N:=29) ?hd (xs:=([]:List Int)) (inner:=[]) (ok:=fun _=>True) (okp:=fun _=>True) ?hr ?hp (fun _ hk=>hk) trivial (Below.refl _ _) (Nat.le_refl _) (by simp) ?_;(case hd=>rfl);(case hg=>rfl);(case hr=>first | (go_simp;done) | (go_simp;rfl));(case hp=>exact (Reps.none _ _));intro Ct5 w11 AM8 hb hg_ hnew_;clear hg_ hnew_;(first | rw [← Ap3.out] at AM8 | (simp only [Int.reduceToNat] at AM8;rw [← Ap3.out] at AM8));have n0_:=aM (Kd.R_lower AM8 (below_size (z4_ HB.out a6.out)));have n1_:=aM (blkB_ M4.out hb);have n2_:=aM (below_step (z4_ HB.out a6.out) hb);clear M4;clear HB;have Bk2:=n0_;have M4:=n1_;have HB:=n2_;clear n0_ n1_ n2_;clear hb AM8));try go_wp2_with (first | ((with_reducible refine gd_ 29 ?_);refine Kd.R_lit (Kd.int .i64) _ 2 ?hg (N:=29) ?hd (xs:=([]:List Int)) (inner:=[]) (ok:=fun _=>True) (okp:=fun _=>True) ?hr ?hp (fun _ hk=>hk) trivial (Below.refl _ _) (Nat.le_refl _) (by simp) ?_;(case hd=>rfl);(case hg=>rfl);(case hr=>first | (go_simp;done) | (go_simp;rfl));(case hp=>exact (Reps.none _ _));intro Ct5 w11 AM8 hb hg_ hnew_;clear hg_ hnew_;(first | rw [← Ap3.out] at AM8 | (simp only [Int.reduceToNat] at AM8;rw [← Ap3.out] at AM8));have n0_:=aM (Kd.R_lower AM8 (below_size (z4_ HB.out a6.out)));have n1_:=aM (blkB_ M4.out hb);have n2_:=aM (below_step (z4_ HB.out a6.out) hb);clear M4;clear HB;have Bk2:=n0_;have M4:=n1_;have HB:=n2_;clear n0_ n1_ n2_;clear hb AM8)))
      go_loopg [7,8] kj4 (fun kq v7 v8 w'=>∃ (l5:List Int) (AP6:Int),v8 = .int .i64 AP6∧Aside0 (Y17.l1 kq D9 l5 AP6 B2 B0=some r)∧Aside0 (kq≤kj4)∧Aside0 (Kd.R (Kd.int .i64) 2 w' w.heap.size (fun _=>True) v7 l5)∧Aside0 (w'.heap[AD5]? = some (.cells #[.int .i64 B2,(.slice E7 B0.length E4)] 27 (0,0)))∧Aside0 (Below w.heap.size w w'))
      case atStart=>exact ⟨(Ct4),(0),(z2_),H',⟨Nat.le_refl _⟩,⟨z0_ Bk2.out⟩,⟨z3_ M4.out⟩,⟨z4_ HB.out a6.out⟩⟩
      case round =>
       clear H'
       try clear c1
       try clear p2
       try clear c4
       try clear p5
       try clear q5
       try clear hx5
       try clear c6
       try clear c6b0
       try clear p6
       try clear c7
       try clear c7b0
       try clear c10
       try clear AM4
       try clear AM5
       try clear R9
       try clear a7
       try clear AM6
       try clear AM7
       try clear S0
       try clear a8
       try clear AY5
       try clear AY6
       try clear p2
       try clear p5
       try clear Bk0
       try clear q5
       try clear Bk1
       obtain ⟨l5,AP6,rfl,HA,HK3,O6,M4,HB⟩:=hrel
       cases gk with
       | zero=>exact absurd HA.out (by simp [Y17.l1])
       | succ k3 =>
        have H:=HA.out
        clear HA
        simp only [Y17.l1] at H
        by_cases c13:AP6<(B0.length:Int)
        ·rw [if_pos c13] at H
         have c13b0:decide (AP6<(B0.length:Int))=true:=dE c13
         clear c13
         by_cases c14:(B0.length:Int)=0
         ·rw [if_pos c14] at H
          exact nO H
         ·rw [if_neg c14] at H
          have c14b0:((B0.length:Int) == 0)=false:=beq_eq_false_iff_ne.mpr c14
          have c14b1:((B0.length:Int) != 0)=true:=bne_iff_ne.mpr c14
          have c14b2:¬ (B0=[]):=fun h_=>c14 (by rw [h_];rfl)
          obtain ⟨i8,CC9⟩:∃ j_:Int,(Int.tmod (wrap64 (D9+AP6)) (B0.length:Int))=j_:=⟨_,rfl⟩
          replace H:(if 0≤(i8) then (if (i8)<(B0.length:Int) then ((Y36.f k3 l5 ((rd_T78 B0 (i8)).f1)).bind fun BV8=>(if BV8=true then (Y17.l1 k3 D9 l5 (wrap64 (AP6+1)) B2 B0) else (if l5.length<17592186044416 then (Y17.l1 k3 D9 (l5 ++ [(rd_T78 B0 (i8)).f1]) (wrap64 (AP6+1)) B2 B0) else (none)))) else (none)) else (none))=some r:=by first | (rw [CC9] at H;exact H) | (simp only [CC9] at H ⊢;exact H)
          by_cases c16:0≤(i8)
          ·rw [if_pos c16] at H
           have c16b0:decide (0≤(i8))=true:=dE c16
           clear c16
           by_cases c17:(i8)<(B0.length:Int)
           ·rw [if_pos c17] at H
            have c17b0:decide ((i8)<(B0.length:Int))=true:=dE c17
            clear c17
            replace H:=bS H
            obtain ⟨BV8,Bk3,H⟩:=H
            replace H:(if BV8=true then (Y17.l1 k3 D9 l5 (wrap64 (AP6+1)) B2 B0) else (if l5.length<17592186044416 then (Y17.l1 k3 D9 (l5 ++ [(rd_T78 B0 (i8)).f1]) (wrap64 (AP6+1)) B2 B0) else (none)))=some r:=H
            have A18:=aM Bk3
            clear Bk3
            by_cases c19:BV8=true
            ·subst c19
             have H1:(Y17.l1 k3 D9 l5 (wrap64 (AP6+1)) B2 B0)=some r:=by rw [if_pos rfl] at H;exact H
             clear H
             have H:=H1
             clear H1
             have H':=aM H
             clear H
             have ⟨Ar7,BP0,Ar8,BP1⟩:=cz2_ M4.out
             have BG4:0≤((i8):Int):=dT (z1_)
             have BG5:(i8)<(B0.length:Int):=dT (z1_)
             obtain ⟨BP2,CS1,AI6,AI7⟩:=at_T78 I2.out (i8) BG4 BG5
             cases CS1
             replace AI6:=(HB.out.cell (World.block_lt_of_cell? w _ AI6)).trans AI6
             replace AI7:=(HB.out.cell (World.block_lt_of_cell? w _ AI7)).trans AI7
             replace BG4:=eq_true BG4
             replace BG5:=eq_true BG5
             obtain ⟨Bh7,BE3,BT2⟩:=Kd.R_slice O6.out
             subst BT2
             go_wp2_with (first | (go_at_call 76;(with_reducible refine (Y36.calls k3 _ _ l5 ((rd_T78 B0 (i8)).f1) true _ ?s1 ?s2 A18.out).mono ?_);(case s1=>repeat (first | exact (Kd.R_reads' O6.out).2.2 | (with_reducible refine Kd.C_alloc ?_ _) | (with_reducible refine Kd.C_drewN ?_ _) | (with_reducible refine Kd.C_drew ?_)));(case s2=>exact (Kd.R_reads' O6.out).2.1);rintro e w' ⟨rfl,⟨nd,rfl⟩⟩;(try first | exact ⟨rfl,_,World.drewN_drewN _ _ _⟩ | exact ⟨rfl,_,Eq.trans (World.drewN_drewN _ _ _) (congrArg (World.drewN _) (Nat.add_assoc _ _ _))⟩)))
             repeat (go_quiet (first | (go_at_call 76;(with_reducible refine (Y36.calls k3 _ _ l5 ((rd_T78 B0 (i8)).f1) true _ ?s1 ?s2 A18.out).mono ?_);(case s1=>repeat (first | exact (Kd.R_reads' O6.out).2.2 | (with_reducible refine Kd.C_alloc ?_ _) | (with_reducible refine Kd.C_drewN ?_ _) | (with_reducible refine Kd.C_drew ?_)));(case s2=>exact (Kd.R_reads' O6.out).2.1);rintro e w' ⟨rfl,⟨nd,rfl⟩⟩;(try first | exact ⟨rfl,_,World.drewN_drewN _ _ _⟩ | exact ⟨rfl,_,Eq.trans (World.drewN_drewN _ _ _) (congrArg (World.drewN _) (Nat.add_assoc _ _ _))⟩)));try go_wp2_with (first | (go_at_call 76;(with_reducible refine (Y36.calls k3 _ _ l5 ((rd_T78 B0 (i8)).f1) true _ ?s1 ?s2 A18.out).mono ?_);(case s1=>repeat (first | exact (Kd.R_reads' O6.out).2.2 | (with_reducible refine Kd.C_alloc ?_ _) | (with_reducible refine Kd.C_drewN ?_ _) | (with_reducible refine Kd.C_drew ?_)));(case s2=>exact (Kd.R_reads' O6.out).2.1);rintro e w' ⟨rfl,⟨nd,rfl⟩⟩;(try first | exact ⟨rfl,_,World.drewN_drewN _ _ _⟩ | exact ⟨rfl,_,Eq.trans (World.drewN_drewN _ _ _) (congrArg (World.drewN _) (Nat.add_assoc _ _ _))⟩))))
             go_roundg k3
             case measure=>have:=HK1.out;have:=HJ4.out;have:=HK3.out;omega
             case rel=>exact ⟨(l5),(wrap64 (AP6+1)),(z2_),H',⟨by have:=HK1.out;have:=HJ4.out;have:=HK3.out;omega⟩,⟨z0_ O6.out⟩,⟨z3_ M4.out⟩,⟨z4_ HB.out a6.out⟩⟩
            ·replace c19:=Bool.eq_false_iff.mpr c19
             subst c19
             have H1:(if l5.length<17592186044416 then (Y17.l1 k3 D9 (l5 ++ [(rd_T78 B0 (i8)).f1]) (wrap64 (AP6+1)) B2 B0) else (none))=some r:=by rw [if_neg (show ¬ (false=true) by decide)] at H;exact H
             clear H
             have H:=H1
             clear H1
             by_cases c22:l5.length<17592186044416
             ·rw [if_pos c22] at H
              have Bk4:=aM c22
              clear c22
              obtain ⟨Ct6,A92⟩:∃ y_:List Int,y_=(l5 ++ [(rd_T78 B0 (i8)).f1]):=⟨_,rfl⟩
              replace H:(Y17.l1 k3 D9 Ct6 (wrap64 (AP6+1)) B2 B0)=some r:=by first | (rw [A92];with_reducible exact H) | (have H2_:=(Option.bind_some _ _).symm.trans H;rw [A92];with_reducible exact H2_) | (have H2_:=(Option.bind_some _ _).symm.trans H;with_reducible exact H2_) | with_reducible exact H | (rw [A92];exact H) | exact H
              have Bk5:=aM A92
              clear A92
              have H':=aM H
              clear H
              have ⟨BM5,Bw6,BM6,Bw7⟩:=cz2_ M4.out
              have BG4:0≤((i8):Int):=dT (z1_)
              have BG5:(i8)<(B0.length:Int):=dT (z1_)
              obtain ⟨BP2,CS1,AI6,AI7⟩:=at_T78 I2.out (i8) BG4 BG5
              cases CS1
              replace AI6:=(HB.out.cell (World.block_lt_of_cell? w _ AI6)).trans AI6
              replace AI7:=(HB.out.cell (World.block_lt_of_cell? w _ AI7)).trans AI7
              replace BG4:=eq_true BG4
              replace BG5:=eq_true BG5
              obtain ⟨BT5,BC6,Ay1⟩:=Kd.R_slice O6.out
              subst Ay1
              go_wp2_with (first | (go_at_call 76;(with_reducible refine (Y36.calls k3 _ _ l5 ((rd_T78 B0 (i8)).f1) false _ ?s1 ?s2 A18.out).mono ?_);(case s1=>repeat (first | exact (Kd.R_reads' O6.out).2.2 | (with_reducible refine Kd.C_alloc ?_ _) | (with_reducible refine Kd.C_drewN ?_ _) | (with_reducible refine Kd.C_drew ?_)));(case s2=>exact (Kd.R_reads' O6.out).2.1);rintro e w' ⟨rfl,⟨nd,rfl⟩⟩;(try first | exact ⟨rfl,_,World.drewN_drewN _ _ _⟩ | exact ⟨rfl,_,Eq.trans (World.drewN_drewN _ _ _) (congrArg (World.drewN _) (Nat.add_assoc _ _ _))⟩)) | ((with_reducible refine gate_builtin (b:=.append) (xs:=#[.tmp 53,.tmp 55]) rfl ?_);at_builtin;refine Kd.R_append (Kd.int .i64) (w0:=w) w.heap.size rfl (.tmp 53) (.tmp 55) 30 2 (.int .i64 0) 8 rfl Tryz.underlying30 info2 rfl (by decide) (by omega) (.slice BT5 l5.length BC6) l5 ((rd_T78 B0 (i8)).f1) [.int .i64 ((rd_T78 B0 (i8)).f1)] (fun _=>True) (fun _=>False) rfl rfl ?aP (fun _ hk=>hk.elim) ?aF ?aO ?aB ?aS ?aL ?_;(case aP=>exact rfl);(case aB=>exact (z4_ HB.out a6.out));(case aF=>exact (fun _ _=>trivial));(case aO=>exact (z0_ O6.out));(case aS=>exact (below_size (z4_ HB.out a6.out)));(case aL=>have:=Bk4.out;omega);intro Ct7 w25 ho hb hg hat;rw [← Bk5.out] at ho;have n0_:=aM (blk_grown (g:=AD5) (o:=.cells #[.int .i64 B2,.slice (some BP2) B0.length E4] 27 (0,0)) (z3_ M4.out) hg (Kd.R_ne O6.out M4.out (by decide)));have n1_:=aM (hb);have n2_:=aM (ho);clear M4;clear HB;clear O6;have M4:=n0_;have HB:=n1_;have Bk6:=n2_;clear n0_ n1_ n2_;clear ho hb hg hat))
              repeat (go_quiet (first | (go_at_call 76;(with_reducible refine (Y36.calls k3 _ _ l5 ((rd_T78 B0 (i8)).f1) false _ ?s1 ?s2 A18.out).mono ?_);(case s1=>repeat (first | exact (Kd.R_reads' O6.out).2.2 | (with_reducible refine Kd.C_alloc ?_ _) | (with_reducible refine Kd.C_drewN ?_ _) | (with_reducible refine Kd.C_drew ?_)));(case s2=>exact (Kd.R_reads' O6.out).2.1);rintro e w' ⟨rfl,⟨nd,rfl⟩⟩;(try first | exact ⟨rfl,_,World.drewN_drewN _ _ _⟩ | exact ⟨rfl,_,Eq.trans (World.drewN_drewN _ _ _) (congrArg (World.drewN _) (Nat.add_assoc _ _ _))⟩)) | ((with_reducible refine gate_builtin (b:=.append) (xs:=#[.tmp 53,.tmp 55]) rfl ?_);at_builtin;refine Kd.R_append (Kd.int .i64) (w0:=w) w.heap.size rfl (.tmp 53) (.tmp 55) 30 2 (.int .i64 0) 8 rfl Tryz.underlying30 info2 rfl (by decide) (by omega) (.slice BT5 l5.length BC6) l5 ((rd_T78 B0 (i8)).f1) [.int .i64 ((rd_T78 B0 (i8)).f1)] (fun _=>True) (fun _=>False) rfl rfl ?aP (fun _ hk=>hk.elim) ?aF ?aO ?aB ?aS ?aL ?_;(case aP=>exact rfl);(case aB=>exact (z4_ HB.out a6.out));(case aF=>exact (fun _ _=>trivial));(case aO=>exact (z0_ O6.out));(case aS=>exact (below_size (z4_ HB.out a6.out)));(case aL=>have:=Bk4.out;omega);intro Ct7 w25 ho hb hg hat;rw [← Bk5.out] at ho;have n0_:=aM (blk_grown (g:=AD5) (o:=.cells #[.int .i64 B2,.slice (some BP2) B0.length E4] 27 (0,0)) (z3_ M4.out) hg (Kd.R_ne O6.out M4.out (by decide)));have n1_:=aM (hb);have n2_:=aM (ho);clear M4;clear HB;clear O6;have M4:=n0_;have HB:=n1_;have Bk6:=n2_;clear n0_ n1_ n2_;clear ho hb hg hat));try go_wp2_with (first | (go_at_call 76;(with_reducible refine (Y36.calls k3 _ _ l5 ((rd_T78 B0 (i8)).f1) false _ ?s1 ?s2 A18.out).mono ?_);(case s1=>repeat (first | exact (Kd.R_reads' O6.out).2.2 | (with_reducible refine Kd.C_alloc ?_ _) | (with_reducible refine Kd.C_drewN ?_ _) | (with_reducible refine Kd.C_drew ?_)));(case s2=>exact (Kd.R_reads' O6.out).2.1);rintro e w' ⟨rfl,⟨nd,rfl⟩⟩;(try first | exact ⟨rfl,_,World.drewN_drewN _ _ _⟩ | exact ⟨rfl,_,Eq.trans (World.drewN_drewN _ _ _) (congrArg (World.drewN _) (Nat.add_assoc _ _ _))⟩)) | ((with_reducible refine gate_builtin (b:=.append) (xs:=#[.tmp 53,.tmp 55]) rfl ?_);at_builtin;refine Kd.R_append (Kd.int .i64) (w0:=w) w.heap.size rfl (.tmp 53) (.tmp 55) 30 2 (.int .i64 0) 8 rfl Tryz.underlying30 info2 rfl (by decide) (by omega) (.slice BT5 l5.length BC6) l5 ((rd_T78 B0 (i8)).f1) [.int .i64 ((rd_T78 B0 (i8)).f1)] (fun _=>True) (fun _=>False) rfl rfl ?aP (fun _ hk=>hk.elim) ?aF ?aO ?aB ?aS ?aL ?_;(case aP=>exact rfl);(case aB=>exact (z4_ HB.out a6.out));(case aF=>exact (fun _ _=>trivial));(case aO=>exact (z0_ O6.out));(case aS=>exact (below_size (z4_ HB.out a6.out)));(case aL=>have:=Bk4.out;omega);intro Ct7 w25 ho hb hg hat;rw [← Bk5.out] at ho;have n0_:=aM (blk_grown (g:=AD5) (o:=.cells #[.int .i64 B2,.slice (some BP2) B0.length E4] 27 (0,0)) (z3_ M4.out) hg (Kd.R_ne O6.out M4.out (by decide)));have n1_:=aM (hb);have n2_:=aM (ho);clear M4;clear HB;clear O6;have M4:=n0_;have HB:=n1_;have Bk6:=n2_;clear n0_ n1_ n2_;clear ho hb hg hat)))
              go_roundg k3
              case measure=>have:=HK1.out;have:=HJ4.out;have:=HK3.out;omega
              case rel=>exact ⟨(Ct6),(wrap64 (AP6+1)),(z2_),H',⟨by have:=HK1.out;have:=HJ4.out;have:=HK3.out;omega⟩,⟨z0_ Bk6.out⟩,⟨z3_ M4.out⟩,⟨z4_ HB.out a6.out⟩⟩
             ·rw [if_neg c22] at H
              exact nO H
           ·rw [if_neg c17] at H
            exact nO H
          ·rw [if_neg c16] at H
           exact nO H
        ·rw [if_neg c13] at H
         have c13b0:decide (AP6<(B0.length:Int))=false:=dF c13
         clear c13
         obtain rfl:=sI H
         have ⟨Af2,Af3,Aq4,Af4⟩:=cz2_ M4.out
         go_wp2
         repeat (go_quiet (fail);try go_wp2)
         go_ret
         exact ⟨_,z8_,z0_ O6.out,z4_ HB.out a6.out⟩


/-! ### Y46: function 16 -/
def Y46.j0:Nat→ByteArray→Bool→Int→List (S78)→Option (List Int)
 | 0,_,_,_,_=>none
 | k+1,x1,x12,B07,B08=>if x12=true then (some (([]:List Int))) else ((Y17.f k B07 B08 x1).bind fun BV9=>(some BV9))
def Y46.f (k:Nat) (B2:Int) (B0:List (S78)) (a1:ByteArray):Option (List Int):=(Y6.f k B2 B0).bind fun BW0=>(if BW0=true then ((Y15.f k a1).bind fun Al0=>(Y46.j0 k a1 (!Al0) B2 B0)) else (Y46.j0 k a1 true B2 B0))
theorem Y46.mono_l:∀ k,(∀ y0 y1 y2 y3,LeO (Y46.j0 k y0 y1 y2 y3) (Y46.j0 (k+1) y0 y1 y2 y3))
 | 0=>by intros <;> exact LeO.none _
 | k+1=>by
  have ih0:=Y46.mono_l k
  have m0:=@Y15.mono
  have m1:=@Y6.mono
  have m2:=@Y17.mono
  ·intros
   unfold Y46.j0
   exact mO
theorem Y46.mono:∀ a0 a1 a2 k,LeO (Y46.f k a0 a1 a2) (Y46.f (k+1) a0 a1 a2):=by
 intro a0 a1 a2 k
 have m0:=@Y15.mono
 have m1:=@Y6.mono
 have m2:=@Y17.mono
 have ih0:=Y46.mono_l k
 unfold Y46.f
 exact mO
theorem Y46.calls (k:Nat) (B2:Int) (E7:Option Addr) (E4:Nat) (B0:List (S78)) (a1:ByteArray) (r:List Int) (w:World) (J9:Kd.C k78 w E7 B0.length B0) (K0:B0.length≤E4) (h:Y46.f k B2 B0 a1=some r) :
  Calls Tryz.prog 16 #[.agg #[.int .i64 B2,.slice E7 B0.length E4],.string a1] w fun e w'=>∃ v0_:Value,e = .returned (v0_)∧Kd.R (Kd.int .i64) 2 w' w.heap.size (fun _=>True) v0_ r∧Below w.heap.size w w':=by
 have AD7:=Tryz.underlying27
 have I2:=aM J9
 have J7:=aM K0
 clear J9 K0
 have HB:=aM (Below.refl w.heap.size w)
 have H:((Y6.f k B2 B0).bind fun BW0=>(if BW0=true then ((Y15.f k a1).bind fun Al0=>(Y46.j0 k a1 (!Al0) B2 B0)) else (Y46.j0 k a1 true B2 B0)))=some r:=h
 clear h
 have HC3:=aM H
 clear H
 go_enter Tryz.func16,Tryz.ntmps16
 go_upto_region 1 with (first | ((with_reducible refine gd_ 2 ?_);refine be_ 2 #[.int .i64 B2,.slice E7 B0.length E4] 27 ?_;intro Bk7 hg w4 hbox hb;have n0_:=aM (below_step (z6_ HB.out) hb);have n1_:=aM (hbox);have n2_:=aM ((z7_ HB.out:w.heap.size≤Bk7));have n3_:=aM ((z7_ HB.out:w.heap.size≤Bk7));clear HB;have HB:=n0_;have n3:=n1_;have GW571:=n2_;have AQ1:=n3_;clear n0_ n1_ n2_ n3_;clear hb hbox hg))
 (try simp only [Act.put,sa_,s0_,ss_])
 go_cut [12] (fun v12 wc=>∃ (kq:Nat) (J1:Bool),v12 = .bool J1∧Aside0 (Y46.j0 kq a1 J1 B2 B0=some r)∧Aside0 (kq≤k)∧Aside0 (wc.heap[Bk7]? = some (.cells #[.int .i64 B2,(.slice E7 B0.length E4)] 27 (0,0)))∧Aside0 (Below w.heap.size w wc))
 case first =>
  have H:=HC3.out
  clear HC3
  replace H:=bS H
  obtain ⟨BW0,A50,H⟩:=H
  replace H:(if BW0=true then ((Y15.f k a1).bind fun Al0=>(Y46.j0 k a1 (!Al0) B2 B0)) else (Y46.j0 k a1 true B2 B0))=some r:=H
  have A5:=aM A50
  clear A50
  by_cases c6:BW0=true
  ·subst c6
   have H1:((Y15.f k a1).bind fun Al0=>(Y46.j0 k a1 (!Al0) B2 B0))=some r:=by rw [if_pos rfl] at H;exact H
   clear H
   have H:=H1
   clear H1
   replace H:=bS H
   obtain ⟨Al0,A70,H⟩:=H
   replace H:(Y46.j0 k a1 (!Al0) B2 B0)=some r:=H
   have A7:=aM A70
   clear A70
   have H':=aM H
   clear H
   have ⟨AM4,AM5,AM6,AM7⟩:=cz2_ n3.out
   go_wp2_with (first | ((with_reducible refine gc_ 23 ?_);refine gl_ (some 6) Tryz.func23 #[.agg #[.int .i64 B2,.slice E7 B0.length E4]] ?_;(with_reducible refine (Y6.calls k B2 _ _ B0 true _ ?s1 ?s2 A5.out).mono ?_);(case s1=>repeat (first | exact (Kd.C_below I2.out HB.out) | (with_reducible refine Kd.C_alloc ?_ _) | (with_reducible refine Kd.C_drewN ?_ _) | (with_reducible refine Kd.C_drew ?_)));(case s2=>exact J7.out);rintro e w9 ⟨rfl,hb⟩;refine ⟨_,rfl,?_⟩;have n0_:=aM (blkB_ n3.out hb);have n1_:=aM (below_step (z4_ HB.out AQ1.out) hb);clear n3;clear HB;have n3:=n0_;have HB:=n1_;clear n0_ n1_;(try clear hb)) | (go_at_call 24;(with_reducible refine (Y15.calls k a1 Al0 _ A7.out).mono ?_);rintro e w' ⟨rfl,⟨nd,rfl⟩⟩))
   go_meet
   case rel=>exact ⟨_,(!Al0),(z2_),H',⟨by first | omega | exact Nat.le_refl _⟩,⟨z3_ n3.out⟩,⟨z4_ HB.out AQ1.out⟩⟩
  ·replace c6:=Bool.eq_false_iff.mpr c6
   subst c6
   have H1:(Y46.j0 k a1 true B2 B0)=some r:=by rw [if_neg (show ¬ (false=true) by decide)] at H;exact H
   clear H
   have H:=H1
   clear H1
   have H':=aM H
   clear H
   have ⟨U5,U6,U7,U8⟩:=cz2_ n3.out
   go_wp2_with (first | ((with_reducible refine gc_ 23 ?_);refine gl_ (some 6) Tryz.func23 #[.agg #[.int .i64 B2,.slice E7 B0.length E4]] ?_;(with_reducible refine (Y6.calls k B2 _ _ B0 false _ ?s1 ?s2 A5.out).mono ?_);(case s1=>repeat (first | exact (Kd.C_below I2.out HB.out) | (with_reducible refine Kd.C_alloc ?_ _) | (with_reducible refine Kd.C_drewN ?_ _) | (with_reducible refine Kd.C_drew ?_)));(case s2=>exact J7.out);rintro e w11 ⟨rfl,hb⟩;refine ⟨_,rfl,?_⟩;have n0_:=aM (blkB_ n3.out hb);have n1_:=aM (below_step (z4_ HB.out AQ1.out) hb);clear n3;clear HB;have n3:=n0_;have HB:=n1_;clear n0_ n1_;(try clear hb)))
   go_meet
   case rel=>exact ⟨_,(true),(z2_),H',⟨by first | omega | exact Nat.le_refl _⟩,⟨z3_ n3.out⟩,⟨z4_ HB.out AQ1.out⟩⟩
 case rest =>
  clear HC3
  try clear c1
  try clear c2
  try clear p2
  try clear c6
  try clear U5
  try clear U6
  try clear AM4
  try clear AM5
  try clear U7
  try clear U8
  try clear AM6
  try clear AM7
  obtain ⟨kq,J1,rfl,HA,HJ2,n3,HB⟩:=hcut
  cases kq with
  | zero=>exact absurd HA.out (by simp [Y46.j0])
  | succ kj2 =>
   have H:=HA.out
   clear HA
   simp only [Y46.j0] at H
   by_cases c12:J1=true
   ·subst c12
    have H1:(some (([]:List Int)))=some r:=by rw [if_pos rfl] at H;exact H
    clear H
    have H:=H1
    clear H1
    obtain ⟨C64,A93⟩:∃ y_:List Int,y_=(([]:List Int)):=⟨_,rfl⟩
    replace H:(some C64)=some r:=by first | (rw [A93];with_reducible exact H) | (have H2_:=(Option.bind_some _ _).symm.trans H;rw [A93];with_reducible exact H2_) | (have H2_:=(Option.bind_some _ _).symm.trans H;with_reducible exact H2_) | with_reducible exact H | (rw [A93];exact H) | exact H
    have CD0:=aM A93
    clear A93
    obtain rfl:=sI H
    go_wp2_with (first | ((with_reducible refine gd_ 13 ?_);refine Kd.R_lit (Kd.int .i64) _ 2 ?hg (N:=13) ?hd (xs:=([]:List Int)) (inner:=[]) (ok:=fun _=>True) (okp:=fun _=>True) ?hr ?hp (fun _ hk=>hk) trivial (Below.refl _ _) (Nat.le_refl _) (by simp) ?_;(case hd=>rfl);(case hg=>rfl);(case hr=>first | (go_simp;done) | (go_simp;rfl));(case hp=>exact (Reps.none _ _));intro v575 w13 AH6 hb hg_ hnew_;clear hg_ hnew_;(first | rw [← CD0.out] at AH6 | (simp only [Int.reduceToNat] at AH6;rw [← CD0.out] at AH6));have n0_:=aM (Kd.R_lower AH6 (below_size (z4_ HB.out AQ1.out)));have n1_:=aM (blkB_ n3.out hb);have n2_:=aM (below_step (z4_ HB.out AQ1.out) hb);clear n3;clear HB;have Ct8:=n0_;have n3:=n1_;have HB:=n2_;clear n0_ n1_ n2_;clear hb AH6))
    go_ret
    exact ⟨_,z8_,z0_ Ct8.out,z4_ HB.out AQ1.out⟩
   ·replace c12:=Bool.eq_false_iff.mpr c12
    subst c12
    have H1:((Y17.f kj2 B2 B0 a1).bind fun BV9=>(some BV9))=some r:=by rw [if_neg (show ¬ (false=true) by decide)] at H;exact H
    clear H
    have H:=H1
    clear H1
    replace H:=bS H
    obtain ⟨BV9,AV4,H⟩:=H
    replace H:(some BV9)=some r:=H
    have A15:=aM AV4
    clear AV4
    obtain rfl:=sI H
    have ⟨r8,r9,s8,s9⟩:=cz2_ n3.out
    go_wp2_with (first | ((with_reducible refine gc_ 47 ?_);refine gl_ (some 16) Tryz.func47 #[.agg #[.int .i64 B2,.slice E7 B0.length E4],.string a1] ?_;(with_reducible refine (Y17.calls kj2 B2 _ _ B0 a1 BV9 _ ?s1 ?s2 A15.out).mono ?_);(case s1=>repeat (first | exact (Kd.C_below I2.out HB.out) | (with_reducible refine Kd.C_alloc ?_ _) | (with_reducible refine Kd.C_drewN ?_ _) | (with_reducible refine Kd.C_drew ?_)));(case s2=>exact J7.out);rintro e w17 ⟨v578,rfl,ho0,hb⟩;refine ⟨_,rfl,?_⟩;have n0_:=aM (Kd.R_lower ho0 (below_size (z4_ HB.out AQ1.out)));have n1_:=aM (blkB_ n3.out hb);have n2_:=aM (below_step (z4_ HB.out AQ1.out) hb);clear n3;clear HB;have Ct9:=n0_;have n3:=n1_;have HB:=n2_;clear n0_ n1_ n2_;(try clear hb);(try clear ho0)))
    go_ret
    exact ⟨_,z8_,z0_ Ct9.out,z4_ HB.out AQ1.out⟩


/-! ### Y85: function 49 -/
def Y85.f (k:Nat) (B2:Int) (B0:List (S78)) (a1:ByteArray) (a2:Int):Option (List Int):=(Y31.f k B2 B0 a1).bind fun l6=>(if 0≤(mn a2 (l6.length:Int)) then (if (mn a2 (l6.length:Int))≤(l6.length:Int) then (some (l6.take ((mn a2 (l6.length:Int)):Int).toNat)) else (none)) else (none))
theorem Y85.mono:∀ a0 a1 a2 a3 k,LeO (Y85.f k a0 a1 a2 a3) (Y85.f (k+1) a0 a1 a2 a3):=by
 intro a0 a1 a2 a3 k
 have m0:=@Y31.mono
 unfold Y85.f
 exact mO
theorem Y85.calls (k:Nat) (B2:Int) (E7:Option Addr) (E4:Nat) (B0:List (S78)) (a1:ByteArray) (a2:Int) (r:List Int) (w:World) (J9:Kd.C k78 w E7 B0.length B0) (K0:B0.length≤E4) (h:Y85.f k B2 B0 a1 a2=some r) :
  Calls Tryz.prog 49 #[.agg #[.int .i64 B2,.slice E7 B0.length E4],.string a1,.int .i64 a2] w fun e w'=>∃ v0_:Value,e = .returned (v0_)∧Kd.R (Kd.int .i64) 2 w' w.heap.size (fun _=>True) v0_ r∧Below w.heap.size w w':=by
 have AD7:=Tryz.underlying27
 have I2:=aM J9
 have J7:=aM K0
 clear J9 K0
 have HB:=aM (Below.refl w.heap.size w)
 have H:((Y31.f k B2 B0 a1).bind fun l6=>(if 0≤(mn a2 (l6.length:Int)) then (if (mn a2 (l6.length:Int))≤(l6.length:Int) then (some (l6.take ((mn a2 (l6.length:Int)):Int).toNat)) else (none)) else (none)))=some r:=h
 clear h
 replace H:=bS H
 obtain ⟨l6,A40,H⟩:=H
 replace H:(if 0≤(mn a2 (l6.length:Int)) then (if (mn a2 (l6.length:Int))≤(l6.length:Int) then (some (l6.take ((mn a2 (l6.length:Int)):Int).toNat)) else (none)) else (none))=some r:=H
 have A4:=aM A40
 clear A40
 obtain ⟨ji5,Bk8⟩:∃ j_:Int,(mn a2 (l6.length:Int))=j_:=⟨_,rfl⟩
 replace H:(if 0≤(ji5) then (if (ji5)≤(l6.length:Int) then (some (l6.take ((ji5):Int).toNat)) else (none)) else (none))=some r:=by first | (rw [Bk8] at H;exact H) | (simp only [Bk8] at H ⊢;exact H)
 (try rw [Bk8] at A4)
 have hji5_:(if (l6.length:Int)<a2 then (l6.length:Int) else a2)=ji5:=Bk8
 by_cases c6:0≤(ji5)
 ·rw [if_pos c6] at H
  have c6b0:=eq_true c6
  have c6b1:decide (0≤(ji5))=true:=dE c6
  clear c6
  by_cases c7:(ji5)≤(l6.length:Int)
  ·rw [if_pos c7] at H
   have c7b0:=eq_true c7
   have c7b1:decide ((ji5)≤(l6.length:Int))=true:=dE c7
   clear c7
   obtain ⟨Cu0,A94⟩:∃ y_:List Int,y_=(l6.take ((ji5):Int).toNat):=⟨_,rfl⟩
   replace H:(some Cu0)=some r:=by first | (rw [A94];with_reducible exact H) | (have H2_:=(Option.bind_some _ _).symm.trans H;rw [A94];with_reducible exact H2_) | (have H2_:=(Option.bind_some _ _).symm.trans H;with_reducible exact H2_) | with_reducible exact H | (rw [A94];exact H) | exact H
   have CD1:=aM A94
   clear A94
   obtain rfl:=sI H
   go_enter Tryz.func49,Tryz.ntmps49
   go_wp2_with (first | ((with_reducible refine gd_ 3 ?_);refine be_ 3 #[.int .i64 B2,.slice E7 B0.length E4] 27 ?_;intro CD2 hg w8 hbox hb;have n0_:=aM (below_step (z6_ HB.out) hb);have n1_:=aM (hbox);have n2_:=aM ((z7_ HB.out:w.heap.size≤CD2));have n3_:=aM ((z7_ HB.out:w.heap.size≤CD2));clear HB;have HB:=n0_;have BP3:=n1_;have GW580:=n2_;have Bk9:=n3_;clear n0_ n1_ n2_ n3_;clear hb hbox hg;have ⟨R9,a7,S0,a8⟩:=cz2_ BP3.out) | ((with_reducible refine gc_ 35 ?_);refine gl_ (some 10) Tryz.func35 #[.agg #[.int .i64 B2,.slice E7 B0.length E4],.string a1] ?_;(with_reducible refine (Y31.calls k B2 _ _ B0 a1 l6 _ ?s1 ?s2 A4.out).mono ?_);(case s1=>repeat (first | exact (Kd.C_below I2.out HB.out) | (with_reducible refine Kd.C_alloc ?_ _) | (with_reducible refine Kd.C_drewN ?_ _) | (with_reducible refine Kd.C_drew ?_)));(case s2=>exact J7.out);rintro e w10 ⟨v582,rfl,ho0,hb⟩;refine ⟨_,rfl,?_⟩;have n0_:=aM (Kd.R_lower ho0 (below_size (z4_ HB.out Bk9.out)));have n1_:=aM (blkB_ BP3.out hb);have n2_:=aM (below_step (z4_ HB.out Bk9.out) hb);clear BP3;clear HB;have BP4:=n0_;have BP3:=n1_;have HB:=n2_;clear n0_ n1_ n2_;(try clear hb);(try clear ho0);obtain ⟨Ba7,Ba8,BR1⟩:=Kd.R_slice BP4.out;subst BR1;have q12:((ji5):Int)≤((l6.length:Int):Int):=dT (z1_);obtain ⟨C65,A95,_,Bl0,_⟩:=info_parts info2;have BG6:=cut_to (P:=Tryz.prog) 30 2 .i64 Tryz.underlying30 A95 Ba7 l6.length Ba8 (ji5) (dT (z1_)) q12 (Kd.R_reads' BP4.out).2.1;have Au8:=Kd.R_take (m:=((ji5):Int).toNat) BP4.out (by omega);have Bl1:Cu0.length=((ji5):Int).toNat:=(z34_ CD1.out);rw [← CD1.out] at Au8;rw [← Bl1] at Au8 BG6;clear Bl1 A95 Bl0 BP4;have Cu1:=aM Au8;clear Au8;replace q12:=eq_true q12))
   go_ret
   exact ⟨_,by first | rfl | (simp [errW_none,errW_some] <;> rfl) | (simp only [← Bk8];first | rfl | (simp [errW_none,errW_some] <;> rfl)) | (simp [*,errW_none,errW_some] <;> rfl),z0_ Cu1.out,z4_ HB.out Bk9.out⟩
  ·rw [if_neg c7] at H
   exact nO H
 ·rw [if_neg c6] at H
  exact nO H


/-! ### Y33: function 17 -/
def Y33.j0:Nat→ByteArray→Int→Bool→Int→List (S78)→Option (List Int)
 | 0,_,_,_,_,_=>none
 | k+1,x1,x2,x15,B09,B11=>if x15=true then (some ([]:List Int)) else ((Y85.f k B09 B11 x1 x2).bind fun A96=>((Y49.f A96).bind fun A97=>(some A97)))
def Y33.f (k:Nat) (B2:Int) (B0:List (S78)) (a1:ByteArray) (a2:Int):Option (List Int):=(Y57.f k B2 B0 a1).bind fun BW1=>(if BW1=true then ((Y62.f a2).bind fun Al1=>(Y33.j0 k a1 a2 (!Al1) B2 B0)) else (Y33.j0 k a1 a2 true B2 B0))
theorem Y33.mono_l:∀ k,(∀ y0 y1 y2 y3 y4,LeO (Y33.j0 k y0 y1 y2 y3 y4) (Y33.j0 (k+1) y0 y1 y2 y3 y4))
 | 0=>by intros <;> exact LeO.none _
 | k+1=>by
  have ih0:=Y33.mono_l k
  have m0:=@Y57.mono
  have m1:=@Y85.mono
  ·intros
   unfold Y33.j0
   exact mO
theorem Y33.mono:∀ a0 a1 a2 a3 k,LeO (Y33.f k a0 a1 a2 a3) (Y33.f (k+1) a0 a1 a2 a3):=by
 intro a0 a1 a2 a3 k
 have m0:=@Y57.mono
 have m1:=@Y85.mono
 have ih0:=Y33.mono_l k
 unfold Y33.f
 exact mO
theorem Y33.calls (k:Nat) (B2:Int) (E7:Option Addr) (E4:Nat) (B0:List (S78)) (a1:ByteArray) (a2:Int) (r:List Int) (w:World) (J9:Kd.C k78 w E7 B0.length B0) (K0:B0.length≤E4) (h:Y33.f k B2 B0 a1 a2=some r) :
  Calls Tryz.prog 17 #[.agg #[.int .i64 B2,.slice E7 B0.length E4],.string a1,.int .i64 a2] w fun e w'=>∃ v0_:Value,e = .returned (v0_)∧Kd.R (Kd.int .i64) 2 w' w.heap.size (fun _=>True) v0_ r∧Below w.heap.size w w':=by
 have AD7:=Tryz.underlying27
 have I2:=aM J9
 have J7:=aM K0
 clear J9 K0
 have HB:=aM (Below.refl w.heap.size w)
 have H:((Y57.f k B2 B0 a1).bind fun BW1=>(if BW1=true then ((Y62.f a2).bind fun Al1=>(Y33.j0 k a1 a2 (!Al1) B2 B0)) else (Y33.j0 k a1 a2 true B2 B0)))=some r:=h
 clear h
 have HC4:=aM H
 clear H
 go_enter Tryz.func17,Tryz.ntmps17
 go_upto_region 1 with (first | ((with_reducible refine gd_ 3 ?_);refine be_ 3 #[.int .i64 B2,.slice E7 B0.length E4] 27 ?_;intro Bl2 hg w5 hbox hb;have n0_:=aM (below_step (z6_ HB.out) hb);have n1_:=aM (hbox);have n2_:=aM ((z7_ HB.out:w.heap.size≤Bl2));have n3_:=aM ((z7_ HB.out:w.heap.size≤Bl2));clear HB;have HB:=n0_;have n4:=n1_;have GW587:=n2_;have AQ2:=n3_;clear n0_ n1_ n2_ n3_;clear hb hbox hg))
 (try simp only [Act.put,sa_,s0_,ss_])
 go_cut [15] (fun v15 wc=>∃ (kq:Nat) (BP5:Bool),v15 = .bool BP5∧Aside0 (Y33.j0 kq a1 a2 BP5 B2 B0=some r)∧Aside0 (kq≤k)∧Aside0 (wc.heap[Bl2]? = some (.cells #[.int .i64 B2,(.slice E7 B0.length E4)] 27 (0,0)))∧Aside0 (Below w.heap.size w wc))
 case first =>
  have H:=HC4.out
  clear HC4
  replace H:=bS H
  obtain ⟨BW1,A60,H⟩:=H
  replace H:(if BW1=true then ((Y62.f a2).bind fun Al1=>(Y33.j0 k a1 a2 (!Al1) B2 B0)) else (Y33.j0 k a1 a2 true B2 B0))=some r:=H
  have A6:=aM A60
  clear A60
  by_cases c7:BW1=true
  ·subst c7
   have H1:((Y62.f a2).bind fun Al1=>(Y33.j0 k a1 a2 (!Al1) B2 B0))=some r:=by rw [if_pos rfl] at H;exact H
   clear H
   have H:=H1
   clear H1
   replace H:=bS H
   obtain ⟨Al1,A80,H⟩:=H
   replace H:(Y33.j0 k a1 a2 (!Al1) B2 B0)=some r:=H
   have A8:=aM A80
   clear A80
   have H':=aM H
   clear H
   have ⟨R9,a7,S0,a8⟩:=cz2_ n4.out
   go_wp2_with (first | ((with_reducible refine gc_ 34 ?_);refine gl_ (some 9) Tryz.func34 #[.agg #[.int .i64 B2,.slice E7 B0.length E4],.string a1] ?_;(with_reducible refine (Y57.calls k B2 _ _ B0 a1 true _ ?s1 ?s2 A6.out).mono ?_);(case s1=>repeat (first | exact (Kd.C_below I2.out HB.out) | (with_reducible refine Kd.C_alloc ?_ _) | (with_reducible refine Kd.C_drewN ?_ _) | (with_reducible refine Kd.C_drew ?_)));(case s2=>exact J7.out);rintro e w10 ⟨rfl,hb⟩;refine ⟨_,rfl,?_⟩;have n0_:=aM (blkB_ n4.out hb);have n1_:=aM (below_step (z4_ HB.out AQ2.out) hb);clear n4;clear HB;have n4:=n0_;have HB:=n1_;clear n0_ n1_;(try clear hb)) | (go_at_call 38;(with_reducible refine (Y62.calls a2 Al1 _ A8.out).mono ?_);rintro e w' ⟨rfl,⟨nd,rfl⟩⟩))
   go_meet
   case rel=>exact ⟨_,(!Al1),(z2_),H',⟨by first | omega | exact Nat.le_refl _⟩,⟨z3_ n4.out⟩,⟨z4_ HB.out AQ2.out⟩⟩
  ·replace c7:=Bool.eq_false_iff.mpr c7
   subst c7
   have H1:(Y33.j0 k a1 a2 true B2 B0)=some r:=by rw [if_neg (show ¬ (false=true) by decide)] at H;exact H
   clear H
   have H:=H1
   clear H1
   have H':=aM H
   clear H
   have ⟨o0,o1,o3,o4⟩:=cz2_ n4.out
   go_wp2_with (first | ((with_reducible refine gc_ 34 ?_);refine gl_ (some 9) Tryz.func34 #[.agg #[.int .i64 B2,.slice E7 B0.length E4],.string a1] ?_;(with_reducible refine (Y57.calls k B2 _ _ B0 a1 false _ ?s1 ?s2 A6.out).mono ?_);(case s1=>repeat (first | exact (Kd.C_below I2.out HB.out) | (with_reducible refine Kd.C_alloc ?_ _) | (with_reducible refine Kd.C_drewN ?_ _) | (with_reducible refine Kd.C_drew ?_)));(case s2=>exact J7.out);rintro e w12 ⟨rfl,hb⟩;refine ⟨_,rfl,?_⟩;have n0_:=aM (blkB_ n4.out hb);have n1_:=aM (below_step (z4_ HB.out AQ2.out) hb);clear n4;clear HB;have n4:=n0_;have HB:=n1_;clear n0_ n1_;(try clear hb)))
   go_meet
   case rel=>exact ⟨_,(true),(z2_),H',⟨by first | omega | exact Nat.le_refl _⟩,⟨z3_ n4.out⟩,⟨z4_ HB.out AQ2.out⟩⟩
 case rest =>
  clear HC4
  try clear c1
  try clear p2
  try clear c3
  try clear c7
  try clear o0
  try clear o1
  try clear R9
  try clear a7
  try clear o3
  try clear o4
  try clear S0
  try clear a8
  obtain ⟨kq,BP5,rfl,HA,HJ3,n4,HB⟩:=hcut
  cases kq with
  | zero=>exact absurd HA.out (by simp [Y33.j0])
  | succ kj3 =>
   have H:=HA.out
   clear HA
   simp only [Y33.j0] at H
   by_cases c13:BP5=true
   ·subst c13
    have H1:(some ([]:List Int))=some r:=by rw [if_pos rfl] at H;exact H
    clear H
    have H:=H1
    clear H1
    obtain rfl:=sI H
    go_wp2
    go_ret
    exact ⟨_,z8_,z27_,z4_ HB.out AQ2.out⟩
   ·replace c13:=Bool.eq_false_iff.mpr c13
    subst c13
    have H1:((Y85.f kj3 B2 B0 a1 a2).bind fun A96=>((Y49.f A96).bind fun A97=>(some A97)))=some r:=by rw [if_neg (show ¬ (false=true) by decide)] at H;exact H
    clear H
    have H:=H1
    clear H1
    replace H:=bS H
    obtain ⟨A96,Bl3,H⟩:=H
    replace H:((Y49.f A96).bind fun A97=>(some A97))=some r:=H
    have A14:=aM Bl3
    clear Bl3
    replace H:=bS H
    obtain ⟨A97,AV4,H⟩:=H
    replace H:(some A97)=some r:=H
    have A15:=aM AV4
    clear AV4
    obtain rfl:=sI H
    have ⟨r8,r9,s8,s9⟩:=cz2_ n4.out
    go_wp2_with (first | ((with_reducible refine gc_ 49 ?_);refine gl_ (some 19) Tryz.func49 #[.agg #[.int .i64 B2,.slice E7 B0.length E4],.string a1,.int .i64 a2] ?_;(with_reducible refine (Y85.calls kj3 B2 _ _ B0 a1 a2 A96 _ ?s1 ?s2 A14.out).mono ?_);(case s1=>repeat (first | exact (Kd.C_below I2.out HB.out) | (with_reducible refine Kd.C_alloc ?_ _) | (with_reducible refine Kd.C_drewN ?_ _) | (with_reducible refine Kd.C_drew ?_)));(case s2=>exact J7.out);rintro e w17 ⟨v591,rfl,ho0,hb⟩;refine ⟨_,rfl,?_⟩;have n0_:=aM (Kd.R_lower ho0 (below_size (z4_ HB.out AQ2.out)));have n1_:=aM (blkB_ n4.out hb);have n2_:=aM (below_step (z4_ HB.out AQ2.out) hb);clear n4;clear HB;have Al2:=n0_;have n4:=n1_;have HB:=n2_;clear n0_ n1_ n2_;(try clear hb);(try clear ho0);obtain ⟨AP1,AJ7,BZ4⟩:=Kd.R_slice Al2.out;subst BZ4) | ((with_reducible refine gc_ 48 ?_);refine gl_ (some 20) Tryz.func48 #[.slice AP1 A96.length AJ7] ?_;(with_reducible refine (Y49.calls _ _ A96 A97 _ ?s1 ?s2 A15.out).mono ?_);(case s1=>repeat (first | exact (Kd.R_reads' Al2.out).2.2 | (with_reducible refine Kd.C_alloc ?_ _) | (with_reducible refine Kd.C_drewN ?_ _) | (with_reducible refine Kd.C_drew ?_)));(case s2=>exact (Kd.R_reads' Al2.out).2.1);rintro e w19 ⟨v594,rfl,ho0,hb⟩;refine ⟨_,rfl,?_⟩;have n0_:=aM (Kd.R_elder' (z0_ Al2.out) (Kd.R_base ho0) hb);have n1_:=aM (Kd.R_lower (Kd.R_new' ho0 (Kd.R_lt (z0_ Al2.out))) (below_size (z4_ HB.out AQ2.out)));have n2_:=aM (blkB_ n4.out hb);have n3_:=aM (below_step (z4_ HB.out AQ2.out) hb);clear Al2;clear n4;clear HB;have Al2:=n0_;have Cu2:=n1_;have n4:=n2_;have HB:=n3_;clear n0_ n1_ n2_ n3_;(try clear hb);(try clear ho0)))
    go_ret
    exact ⟨_,z8_,z47_ Cu2.out,z4_ HB.out AQ2.out⟩


/-! ### Y89: function 77 -/
def Y89.f (a0:Int) (a1:Int):Option (Int):=if a0<a1 then (some a0) else (some a1)
theorem Y89.calls (a0:Int) (a1:Int) (r:Int) (w:World) (h:Y89.f a0 a1=some r) :
  Calls Tryz.prog 77 #[.int .i64 a0,.int .i64 a1] w fun e w'=>e = .returned (.int .i64 r)∧Drawn0 w w':=by
 have H:(if a0<a1 then (some a0) else (some a1))=some r:=h
 clear h
 by_cases c3:a0<a1
 ·rw [if_pos c3] at H
  have c3b0:decide (a0<a1)=true:=dE c3
  clear c3
  obtain rfl:=sI H
  go_enter Tryz.func77,Tryz.ntmps77
  go_wp2
  go_ret
  exact ⟨z2_,z5_⟩
 ·rw [if_neg c3] at H
  have c3b0:decide (a0<a1)=false:=dF c3
  clear c3
  obtain rfl:=sI H
  go_enter Tryz.func77,Tryz.ntmps77
  go_wp2
  go_ret
  exact ⟨z2_,z5_⟩


/-! ### Y63: function 50 -/
def Y63.f (k:Nat) (B2:Int) (B0:List (S78)) (a1:ByteArray) (a2:Int):Option (List Int):=(Y17.f k B2 B0 a1).bind fun AE5=>((Y89.f a2 (AE5.length:Int)).bind fun u7=>(if 0≤u7 then (if u7≤(AE5.length:Int) then (some (AE5.take (u7:Int).toNat)) else (none)) else (none)))
theorem Y63.mono:∀ a0 a1 a2 a3 k,LeO (Y63.f k a0 a1 a2 a3) (Y63.f (k+1) a0 a1 a2 a3):=by
 intro a0 a1 a2 a3 k
 have m0:=@Y17.mono
 unfold Y63.f
 exact mO
theorem Y63.calls (k:Nat) (B2:Int) (E7:Option Addr) (E4:Nat) (B0:List (S78)) (a1:ByteArray) (a2:Int) (r:List Int) (w:World) (J9:Kd.C k78 w E7 B0.length B0) (K0:B0.length≤E4) (h:Y63.f k B2 B0 a1 a2=some r) :
  Calls Tryz.prog 50 #[.agg #[.int .i64 B2,.slice E7 B0.length E4],.string a1,.int .i64 a2] w fun e w'=>∃ v0_:Value,e = .returned (v0_)∧Kd.R (Kd.int .i64) 2 w' w.heap.size (fun _=>True) v0_ r∧Below w.heap.size w w':=by
 have AD7:=Tryz.underlying27
 have I2:=aM J9
 have J7:=aM K0
 clear J9 K0
 have HB:=aM (Below.refl w.heap.size w)
 have H:((Y17.f k B2 B0 a1).bind fun AE5=>((Y89.f a2 (AE5.length:Int)).bind fun u7=>(if 0≤u7 then (if u7≤(AE5.length:Int) then (some (AE5.take (u7:Int).toNat)) else (none)) else (none))))=some r:=h
 clear h
 replace H:=bS H
 obtain ⟨AE5,A40,H⟩:=H
 replace H:((Y89.f a2 (AE5.length:Int)).bind fun u7=>(if 0≤u7 then (if u7≤(AE5.length:Int) then (some (AE5.take (u7:Int).toNat)) else (none)) else (none)))=some r:=H
 have A4:=aM A40
 clear A40
 replace H:=bS H
 obtain ⟨u7,A50,H⟩:=H
 replace H:(if 0≤u7 then (if u7≤(AE5.length:Int) then (some (AE5.take (u7:Int).toNat)) else (none)) else (none))=some r:=H
 have A5:=aM A50
 clear A50
 by_cases c6:0≤u7
 ·rw [if_pos c6] at H
  have c6b0:=eq_true c6
  have c6b1:decide (0≤u7)=true:=dE c6
  clear c6
  by_cases c7:u7≤(AE5.length:Int)
  ·rw [if_pos c7] at H
   have c7b0:=eq_true c7
   have c7b1:decide (u7≤(AE5.length:Int))=true:=dE c7
   clear c7
   obtain ⟨Cu3,A98⟩:∃ y_:List Int,y_=(AE5.take (u7:Int).toNat):=⟨_,rfl⟩
   replace H:(some Cu3)=some r:=by first | (rw [A98];with_reducible exact H) | (have H2_:=(Option.bind_some _ _).symm.trans H;rw [A98];with_reducible exact H2_) | (have H2_:=(Option.bind_some _ _).symm.trans H;with_reducible exact H2_) | with_reducible exact H | (rw [A98];exact H) | exact H
   have CD3:=aM A98
   clear A98
   obtain rfl:=sI H
   go_enter Tryz.func50,Tryz.ntmps50
   go_wp2_with (first | ((with_reducible refine gd_ 3 ?_);refine be_ 3 #[.int .i64 B2,.slice E7 B0.length E4] 27 ?_;intro CD4 hg w8 hbox hb;have n0_:=aM (below_step (z6_ HB.out) hb);have n1_:=aM (hbox);have n2_:=aM ((z7_ HB.out:w.heap.size≤CD4));have n3_:=aM ((z7_ HB.out:w.heap.size≤CD4));clear HB;have HB:=n0_;have BP6:=n1_;have GW596:=n2_;have Bl4:=n3_;clear n0_ n1_ n2_ n3_;clear hb hbox hg;have ⟨R9,a7,S0,a8⟩:=cz2_ BP6.out) | ((with_reducible refine gc_ 47 ?_);refine gl_ (some 10) Tryz.func47 #[.agg #[.int .i64 B2,.slice E7 B0.length E4],.string a1] ?_;(with_reducible refine (Y17.calls k B2 _ _ B0 a1 AE5 _ ?s1 ?s2 A4.out).mono ?_);(case s1=>repeat (first | exact (Kd.C_below I2.out HB.out) | (with_reducible refine Kd.C_alloc ?_ _) | (with_reducible refine Kd.C_drewN ?_ _) | (with_reducible refine Kd.C_drew ?_)));(case s2=>exact J7.out);rintro e w10 ⟨v598,rfl,ho0,hb⟩;refine ⟨_,rfl,?_⟩;have n0_:=aM (Kd.R_lower ho0 (below_size (z4_ HB.out Bl4.out)));have n1_:=aM (blkB_ BP6.out hb);have n2_:=aM (below_step (z4_ HB.out Bl4.out) hb);clear BP6;clear HB;have BP7:=n0_;have BP6:=n1_;have HB:=n2_;clear n0_ n1_ n2_;(try clear hb);(try clear ho0);obtain ⟨Ba7,Ba8,BR1⟩:=Kd.R_slice BP7.out;subst BR1) | ((with_reducible refine gc_ 77 ?_);refine gl_ (some 15) Tryz.func77 #[.int .i64 a2,.int .i64 (AE5.length:Int)] ?_;(with_reducible refine (Y89.calls a2 (AE5.length:Int) u7 _ A5.out).mono ?_);rintro e w' ⟨rfl,⟨nd,rfl⟩⟩;refine ⟨_,rfl,?_⟩;have q12:(u7:Int)≤((AE5.length:Int):Int):=dT (z1_);obtain ⟨C65,A95,_,Bl0,_⟩:=info_parts info2;have BG6:=cut_to (P:=Tryz.prog) 30 2 .i64 Tryz.underlying30 A95 Ba7 AE5.length Ba8 u7 (dT (z1_)) q12 (Kd.R_reads' BP7.out).2.1;have Au8:=Kd.R_take (m:=(u7:Int).toNat) BP7.out (by omega);have Bl1:Cu3.length=(u7:Int).toNat:=(z34_ CD3.out);rw [← CD3.out] at Au8;rw [← Bl1] at Au8 BG6;clear Bl1 A95 Bl0 BP7;have Cu4:=aM Au8;clear Au8;replace q12:=eq_true q12))
   go_ret
   exact ⟨_,z8_,z0_ Cu4.out,z4_ HB.out Bl4.out⟩
  ·rw [if_neg c7] at H
   exact nO H
 ·rw [if_neg c6] at H
  exact nO H


/-! ### Y32: function 18 -/
def Y32.j0:Nat→ByteArray→Int→Bool→Int→List (S78)→Option (List Int)
 | 0,_,_,_,_,_=>none
 | k+1,x1,x2,x19,B14,B16=>if x19=true then (some (([]:List Int))) else ((some (([]:List Int):List Int)).bind fun Aa1=>((Y63.f k B14 B16 x1 x2).bind fun AP7=>(if Aa1.length+AP7.length<17592186044416 then (some (Aa1 ++ AP7)) else (none))))
def Y32.f (k:Nat) (B2:Int) (B0:List (S78)) (a1:ByteArray) (a2:Int):Option (List Int):=(Y6.f k B2 B0).bind fun BW2=>(if BW2=true then ((Y15.f k a1).bind fun An5=>(if An5=true then ((Y43.f a2).bind fun AS0=>(Y32.j0 k a1 a2 (!AS0) B2 B0)) else (Y32.j0 k a1 a2 true B2 B0))) else (Y32.j0 k a1 a2 true B2 B0))
theorem Y32.mono_l:∀ k,(∀ y0 y1 y2 y3 y4,LeO (Y32.j0 k y0 y1 y2 y3 y4) (Y32.j0 (k+1) y0 y1 y2 y3 y4))
 | 0=>by intros <;> exact LeO.none _
 | k+1=>by
  have ih0:=Y32.mono_l k
  have m0:=@Y15.mono
  have m1:=@Y6.mono
  have m2:=@Y63.mono
  ·intros
   unfold Y32.j0
   exact mO
theorem Y32.mono:∀ a0 a1 a2 a3 k,LeO (Y32.f k a0 a1 a2 a3) (Y32.f (k+1) a0 a1 a2 a3):=by
 intro a0 a1 a2 a3 k
 have m0:=@Y15.mono
 have m1:=@Y6.mono
 have m2:=@Y63.mono
 have ih0:=Y32.mono_l k
 unfold Y32.f
 exact mO
theorem Y32.calls (k:Nat) (B2:Int) (E7:Option Addr) (E4:Nat) (B0:List (S78)) (a1:ByteArray) (a2:Int) (r:List Int) (w:World) (J9:Kd.C k78 w E7 B0.length B0) (K0:B0.length≤E4) (h:Y32.f k B2 B0 a1 a2=some r) :
  Calls Tryz.prog 18 #[.agg #[.int .i64 B2,.slice E7 B0.length E4],.string a1,.int .i64 a2] w fun e w'=>∃ v0_:Value,e = .returned (v0_)∧Kd.R (Kd.int .i64) 2 w' w.heap.size (fun _=>True) v0_ r∧Below w.heap.size w w':=by
 have AD7:=Tryz.underlying27
 have I2:=aM J9
 have J7:=aM K0
 clear J9 K0
 have HB:=aM (Below.refl w.heap.size w)
 have H:((Y6.f k B2 B0).bind fun BW2=>(if BW2=true then ((Y15.f k a1).bind fun An5=>(if An5=true then ((Y43.f a2).bind fun AS0=>(Y32.j0 k a1 a2 (!AS0) B2 B0)) else (Y32.j0 k a1 a2 true B2 B0))) else (Y32.j0 k a1 a2 true B2 B0)))=some r:=h
 clear h
 have HC4:=aM H
 clear H
 go_enter Tryz.func18,Tryz.ntmps18
 go_upto_region 1 with (first | ((with_reducible refine gd_ 3 ?_);refine be_ 3 #[.int .i64 B2,.slice E7 B0.length E4] 27 ?_;intro BP8 hg w5 hbox hb;have n0_:=aM (below_step (z6_ HB.out) hb);have n1_:=aM (hbox);have n2_:=aM ((z7_ HB.out:w.heap.size≤BP8));have n3_:=aM ((z7_ HB.out:w.heap.size≤BP8));clear HB;have HB:=n0_;have R0:=n1_;have GW604:=n2_;have z4:=n3_;clear n0_ n1_ n2_ n3_;clear hb hbox hg))
 (try simp only [Act.put,sa_,s0_,ss_])
 go_cut [19] (fun v19 wc=>∃ (kq:Nat) (BP9:Bool),v19 = .bool BP9∧Aside0 (Y32.j0 kq a1 a2 BP9 B2 B0=some r)∧Aside0 (kq≤k)∧Aside0 (wc.heap[BP8]? = some (.cells #[.int .i64 B2,(.slice E7 B0.length E4)] 27 (0,0)))∧Aside0 (Below w.heap.size w wc))
 case first =>
  have H:=HC4.out
  clear HC4
  replace H:=bS H
  obtain ⟨BW2,A60,H⟩:=H
  replace H:(if BW2=true then ((Y15.f k a1).bind fun An5=>(if An5=true then ((Y43.f a2).bind fun AS0=>(Y32.j0 k a1 a2 (!AS0) B2 B0)) else (Y32.j0 k a1 a2 true B2 B0))) else (Y32.j0 k a1 a2 true B2 B0))=some r:=H
  have A6:=aM A60
  clear A60
  by_cases c7:BW2=true
  ·subst c7
   have H1:((Y15.f k a1).bind fun An5=>(if An5=true then ((Y43.f a2).bind fun AS0=>(Y32.j0 k a1 a2 (!AS0) B2 B0)) else (Y32.j0 k a1 a2 true B2 B0)))=some r:=by rw [if_pos rfl] at H;exact H
   clear H
   have H:=H1
   clear H1
   replace H:=bS H
   obtain ⟨An5,A80,H⟩:=H
   replace H:(if An5=true then ((Y43.f a2).bind fun AS0=>(Y32.j0 k a1 a2 (!AS0) B2 B0)) else (Y32.j0 k a1 a2 true B2 B0))=some r:=H
   have A8:=aM A80
   clear A80
   by_cases c9:An5=true
   ·subst c9
    have H1:((Y43.f a2).bind fun AS0=>(Y32.j0 k a1 a2 (!AS0) B2 B0))=some r:=by rw [if_pos rfl] at H;exact H
    clear H
    have H:=H1
    clear H1
    replace H:=bS H
    obtain ⟨AS0,AF2,H⟩:=H
    replace H:(Y32.j0 k a1 a2 (!AS0) B2 B0)=some r:=H
    have A10:=aM AF2
    clear AF2
    have H':=aM H
    clear H
    have ⟨o0,o1,o3,o4⟩:=cz2_ R0.out
    go_wp2_with (first | ((with_reducible refine gc_ 23 ?_);refine gl_ (some 8) Tryz.func23 #[.agg #[.int .i64 B2,.slice E7 B0.length E4]] ?_;(with_reducible refine (Y6.calls k B2 _ _ B0 true _ ?s1 ?s2 A6.out).mono ?_);(case s1=>repeat (first | exact (Kd.C_below I2.out HB.out) | (with_reducible refine Kd.C_alloc ?_ _) | (with_reducible refine Kd.C_drewN ?_ _) | (with_reducible refine Kd.C_drew ?_)));(case s2=>exact J7.out);rintro e w12 ⟨rfl,hb⟩;refine ⟨_,rfl,?_⟩;have n0_:=aM (blkB_ R0.out hb);have n1_:=aM (below_step (z4_ HB.out z4.out) hb);clear R0;clear HB;have R0:=n0_;have HB:=n1_;clear n0_ n1_;(try clear hb)) | (go_at_call 24;(with_reducible refine (Y15.calls k a1 true _ A8.out).mono ?_);rintro e w' ⟨rfl,⟨nd,rfl⟩⟩) | (go_at_call 44;(with_reducible refine (Y43.calls a2 AS0 _ A10.out).mono ?_);rintro e w' ⟨rfl,⟨nd,rfl⟩⟩))
    go_meet
    case rel=>exact ⟨_,(!AS0),(z2_),H',⟨by first | omega | exact Nat.le_refl _⟩,⟨z3_ R0.out⟩,⟨z4_ HB.out z4.out⟩⟩
   ·replace c9:=Bool.eq_false_iff.mpr c9
    subst c9
    have H1:(Y32.j0 k a1 a2 true B2 B0)=some r:=by rw [if_neg (show ¬ (false=true) by decide)] at H;exact H
    clear H
    have H:=H1
    clear H1
    have H':=aM H
    clear H
    have ⟨Ae9,Af0,Au7,Af1⟩:=cz2_ R0.out
    go_wp2_with (first | ((with_reducible refine gc_ 23 ?_);refine gl_ (some 8) Tryz.func23 #[.agg #[.int .i64 B2,.slice E7 B0.length E4]] ?_;(with_reducible refine (Y6.calls k B2 _ _ B0 true _ ?s1 ?s2 A6.out).mono ?_);(case s1=>repeat (first | exact (Kd.C_below I2.out HB.out) | (with_reducible refine Kd.C_alloc ?_ _) | (with_reducible refine Kd.C_drewN ?_ _) | (with_reducible refine Kd.C_drew ?_)));(case s2=>exact J7.out);rintro e w14 ⟨rfl,hb⟩;refine ⟨_,rfl,?_⟩;have n0_:=aM (blkB_ R0.out hb);have n1_:=aM (below_step (z4_ HB.out z4.out) hb);clear R0;clear HB;have R0:=n0_;have HB:=n1_;clear n0_ n1_;(try clear hb)) | (go_at_call 24;(with_reducible refine (Y15.calls k a1 false _ A8.out).mono ?_);rintro e w' ⟨rfl,⟨nd,rfl⟩⟩))
    go_meet
    case rel=>exact ⟨_,(true),(z2_),H',⟨by first | omega | exact Nat.le_refl _⟩,⟨z3_ R0.out⟩,⟨z4_ HB.out z4.out⟩⟩
  ·replace c7:=Bool.eq_false_iff.mpr c7
   subst c7
   have H1:(Y32.j0 k a1 a2 true B2 B0)=some r:=by rw [if_neg (show ¬ (false=true) by decide)] at H;exact H
   clear H
   have H:=H1
   clear H1
   have H':=aM H
   clear H
   have ⟨BN0,BN1,BN2,BN3⟩:=cz2_ R0.out
   go_wp2_with (first | ((with_reducible refine gc_ 23 ?_);refine gl_ (some 8) Tryz.func23 #[.agg #[.int .i64 B2,.slice E7 B0.length E4]] ?_;(with_reducible refine (Y6.calls k B2 _ _ B0 false _ ?s1 ?s2 A6.out).mono ?_);(case s1=>repeat (first | exact (Kd.C_below I2.out HB.out) | (with_reducible refine Kd.C_alloc ?_ _) | (with_reducible refine Kd.C_drewN ?_ _) | (with_reducible refine Kd.C_drew ?_)));(case s2=>exact J7.out);rintro e w16 ⟨rfl,hb⟩;refine ⟨_,rfl,?_⟩;have n0_:=aM (blkB_ R0.out hb);have n1_:=aM (below_step (z4_ HB.out z4.out) hb);clear R0;clear HB;have R0:=n0_;have HB:=n1_;clear n0_ n1_;(try clear hb)))
   go_meet
   case rel=>exact ⟨_,(true),(z2_),H',⟨by first | omega | exact Nat.le_refl _⟩,⟨z3_ R0.out⟩,⟨z4_ HB.out z4.out⟩⟩
 case rest =>
  clear HC4
  try clear c1
  try clear c2
  try clear p2
  try clear c7
  try clear c9
  try clear o0
  try clear o1
  try clear Ae9
  try clear Af0
  try clear BN0
  try clear BN1
  try clear o3
  try clear o4
  try clear Au7
  try clear Af1
  try clear BN2
  try clear BN3
  obtain ⟨kq,BP9,rfl,HA,HJ3,R0,HB⟩:=hcut
  cases kq with
  | zero=>exact absurd HA.out (by simp [Y32.j0])
  | succ kj3 =>
   have H:=HA.out
   clear HA
   simp only [Y32.j0] at H
   by_cases c17:BP9=true
   ·subst c17
    have H1:(some (([]:List Int)))=some r:=by rw [if_pos rfl] at H;exact H
    clear H
    have H:=H1
    clear H1
    obtain ⟨C66,A99⟩:∃ y_:List Int,y_=(([]:List Int)):=⟨_,rfl⟩
    replace H:(some C66)=some r:=by first | (rw [A99];with_reducible exact H) | (have H2_:=(Option.bind_some _ _).symm.trans H;rw [A99];with_reducible exact H2_) | (have H2_:=(Option.bind_some _ _).symm.trans H;with_reducible exact H2_) | with_reducible exact H | (rw [A99];exact H) | exact H
    have CD5:=aM A99
    clear A99
    obtain rfl:=sI H
    go_wp2_with (first | ((with_reducible refine gd_ 20 ?_);refine Kd.R_lit (Kd.int .i64) _ 2 ?hg (N:=20) ?hd (xs:=([]:List Int)) (inner:=[]) (ok:=fun _=>True) (okp:=fun _=>True) ?hr ?hp (fun _ hk=>hk) trivial (Below.refl _ _) (Nat.le_refl _) (by simp) ?_;(case hd=>rfl);(case hg=>rfl);(case hr=>first | (go_simp;done) | (go_simp;rfl));(case hp=>exact (Reps.none _ _));intro v609 w18 Bl5 hb hg_ hnew_;clear hg_ hnew_;(first | rw [← CD5.out] at Bl5 | (simp only [Int.reduceToNat] at Bl5;rw [← CD5.out] at Bl5));have n0_:=aM (Kd.R_lower Bl5 (below_size (z4_ HB.out z4.out)));have n1_:=aM (blkB_ R0.out hb);have n2_:=aM (below_step (z4_ HB.out z4.out) hb);clear R0;clear HB;have Cu5:=n0_;have R0:=n1_;have HB:=n2_;clear n0_ n1_ n2_;clear hb Bl5))
    go_ret
    exact ⟨_,z8_,z0_ Cu5.out,z4_ HB.out z4.out⟩
   ·replace c17:=Bool.eq_false_iff.mpr c17
    subst c17
    have H1:((some (([]:List Int):List Int)).bind fun Aa1=>((Y63.f kj3 B2 B0 a1 a2).bind fun AP7=>(if Aa1.length+AP7.length<17592186044416 then (some (Aa1 ++ AP7)) else (none))))=some r:=by rw [if_neg (show ¬ (false=true) by decide)] at H;exact H
    clear H
    have H:=H1
    clear H1
    obtain ⟨Aa1,BA0⟩:∃ y_:List Int,y_=(([]:List Int)):=⟨_,rfl⟩
    replace H:((Y63.f kj3 B2 B0 a1 a2).bind fun AP7=>(if Aa1.length+AP7.length<17592186044416 then (some (Aa1 ++ AP7)) else (none)))=some r:=by first | (rw [BA0];with_reducible exact H) | (have H2_:=(Option.bind_some _ _).symm.trans H;rw [BA0];with_reducible exact H2_) | (have H2_:=(Option.bind_some _ _).symm.trans H;with_reducible exact H2_) | with_reducible exact H | (rw [BA0];exact H) | exact H
    have CD6:=aM BA0
    clear BA0
    replace H:=bS H
    obtain ⟨AP7,Aj6,H⟩:=H
    replace H:(if Aa1.length+AP7.length<17592186044416 then (some (Aa1 ++ AP7)) else (none))=some r:=H
    have A20:=aM Aj6
    clear Aj6
    by_cases c21:Aa1.length+AP7.length<17592186044416
    ·rw [if_pos c21] at H
     have Cu6:=aM c21
     clear c21
     obtain ⟨C67,BA1⟩:∃ y_:List Int,y_=(Aa1 ++ AP7):=⟨_,rfl⟩
     replace H:(some C67)=some r:=by first | (rw [BA1];with_reducible exact H) | (have H2_:=(Option.bind_some _ _).symm.trans H;rw [BA1];with_reducible exact H2_) | (have H2_:=(Option.bind_some _ _).symm.trans H;with_reducible exact H2_) | with_reducible exact H | (rw [BA1];exact H) | exact H
     have Cu7:=aM BA1
     clear BA1
     obtain rfl:=sI H
     go_wp2_with (first | ((with_reducible refine gd_ 21 ?_);refine Kd.R_lit (Kd.int .i64) _ 2 ?hg (N:=21) ?hd (xs:=([]:List Int)) (inner:=[]) (ok:=fun _=>True) (okp:=fun _=>True) ?hr ?hp (fun _ hk=>hk) trivial (Below.refl _ _) (Nat.le_refl _) (by simp) ?_;(case hd=>rfl);(case hg=>rfl);(case hr=>first | (go_simp;done) | (go_simp;rfl));(case hp=>exact (Reps.none _ _));intro C68 w22 Bl6 hb hg_ hnew_;clear hg_ hnew_;(first | rw [← CD6.out] at Bl6 | (simp only [Int.reduceToNat] at Bl6;rw [← CD6.out] at Bl6));have n0_:=aM (Kd.R_lower Bl6 (below_size (z4_ HB.out z4.out)));have n1_:=aM (blkB_ R0.out hb);have n2_:=aM (below_step (z4_ HB.out z4.out) hb);clear R0;clear HB;have Al3:=n0_;have R0:=n1_;have HB:=n2_;clear n0_ n1_ n2_;clear hb Bl6;have ⟨BL5,BL6,BL7,BL8⟩:=cz2_ R0.out) | ((with_reducible refine gc_ 50 ?_);refine gl_ (some 25) Tryz.func50 #[.agg #[.int .i64 B2,.slice E7 B0.length E4],.string a1,.int .i64 a2] ?_;(with_reducible refine (Y63.calls kj3 B2 _ _ B0 a1 a2 AP7 _ ?s1 ?s2 A20.out).mono ?_);(case s1=>repeat (first | exact (Kd.C_below I2.out HB.out) | (with_reducible refine Kd.C_alloc ?_ _) | (with_reducible refine Kd.C_drewN ?_ _) | (with_reducible refine Kd.C_drew ?_)));(case s2=>exact J7.out);rintro e w25 ⟨v615,rfl,ho0,hb⟩;refine ⟨_,rfl,?_⟩;have n0_:=aM (Kd.R_elder' (z0_ Al3.out) (Kd.R_base ho0) hb);have n1_:=aM (Kd.R_lower (Kd.R_new' ho0 (Kd.R_lt (z0_ Al3.out))) (below_size (z4_ HB.out z4.out)));have n2_:=aM (blkB_ R0.out hb);have n3_:=aM (below_step (z4_ HB.out z4.out) hb);clear Al3;clear R0;clear HB;have Al3:=n0_;have Ap4:=n1_;have R0:=n2_;have HB:=n3_;clear n0_ n1_ n2_ n3_;(try clear hb);(try clear ho0);obtain ⟨Bo3,BX6,Ah2⟩:=Kd.R_slice Ap4.out;subst Ah2) | ((with_reducible refine gate_builtin (b:=.append) (xs:=#[.tmp 21,.tmp 25]) rfl ?_);at_builtin;refine Kd.R_append_rows (Kd.int .i64) (w0:=w) w.heap.size rfl (.tmp 21) (.tmp 25) 30 2 (.int .i64 0) 8 rfl Tryz.underlying30 info2 rfl (by decide) (by omega) C68 Aa1 AP7 _ _ _ (fun k_=>some k_≠(.slice Bo3 AP7.length BX6:Value).ownBlock) (fun _=>False) rfl rfl ?aO ?aR (fun _ _ h=>h) (fun _ h=>h.elim) ?aF ?aB ?aS ?aL ?_;(case aR=>repeat (first | exact (Kd.R_reads' Ap4.out).2.2 | (with_reducible refine Kd.C_alloc ?_ _) | (with_reducible refine Kd.C_drewN ?_ _) | (with_reducible refine Kd.C_drew ?_)));(case aB=>exact (z4_ HB.out z4.out));(case aF=>exact (fun k_ hk=>Kd.fresh' (Kd.R_lt (z0_ Ap4.out)) k_ hk));(case aO=>exact (z39_ Al3.out));(case aS=>exact (below_size (z4_ HB.out z4.out)));(case aL=>have:=Cu6.out;omega);intro v618 w26 ho hb hg hat;rw [← Cu7.out] at ho;have n0_:=aM (blk_grown (g:=BP8) (o:=.cells #[.int .i64 B2,.slice E7 B0.length E4] 27 (0,0)) (z3_ R0.out) hg (Kd.R_ne Al3.out R0.out (by decide)));have n1_:=aM (Kd.R_after (ok:=(fun _=>True)) (z0_ Ap4.out) hg hat);have n2_:=aM (hb);have n3_:=aM (ho);clear R0;clear Ap4;clear HB;clear Al3;have R0:=n0_;have Ap4:=n1_;have HB:=n2_;have Cu8:=n3_;clear n0_ n1_ n2_ n3_;clear ho hb hg hat))
     go_ret
     exact ⟨_,z8_,z47_ Cu8.out,z4_ HB.out z4.out⟩
    ·rw [if_neg c21] at H
     exact nO H


/-! ### Y29: function 51 -/
mutual
def Y29.l0:Nat→List Int→Int→Option (Bool)
 | 0,_,_=>none
 | k+1,x0,x3=>if x3<(x0.length:Int) then (if 0≤x3 then ((Y43.f (rd x0 x3)).bind fun B19=>(if B19=true then (if x3>0 then (if 0≤(wrap64 (x3-1)) then (if (wrap64 (x3-1))<(x0.length:Int) then (Y29.j1 k x0 x3 (decide ((rd x0 (wrap64 (x3-1)))≥(rd x0 x3)))) else (none)) else (none)) else (Y29.j1 k x0 x3 false)) else (Y29.j1 k x0 x3 true))) else (none)) else (some true)
def Y29.j1:Nat→List Int→Int→Bool→Option (Bool)
 | 0,_,_,_=>none
 | k+1,x0,x3,x31=>if x31=true then (some false) else (Y29.l0 k x0 (wrap64 (x3+1)))
end
def Y29.f (k:Nat) (l0:List Int):Option (Bool):=Y29.l0 k l0 0
theorem Y29.mono_l:∀ k,(∀ y0 y1,LeO (Y29.l0 k y0 y1) (Y29.l0 (k+1) y0 y1))∧(∀ y0 y1 y2,LeO (Y29.j1 k y0 y1 y2) (Y29.j1 (k+1) y0 y1 y2))
 | 0=>by refine ⟨?_,?_⟩ <;> intros <;> exact LeO.none _
 | k+1=>by
  obtain ⟨ih0,ih1⟩:=Y29.mono_l k
  refine ⟨?_,?_⟩
  ·intros
   unfold Y29.l0
   exact mO
  ·intros
   unfold Y29.j1
   exact mO
theorem Y29.mono:∀ a0 k,LeO (Y29.f k a0) (Y29.f (k+1) a0):=by
 intro a0 k
 obtain ⟨ih0,ih1⟩:=Y29.mono_l k
 unfold Y29.f
 exact mO
theorem Y29.calls (k:Nat) (A0:Option Addr) (c0:Nat) (l0:List Int) (r:Bool) (w:World) (hr0:Kd.C (Kd.int .i64) w A0 l0.length l0) (hc0:l0.length≤c0) (h:Y29.f k l0=some r) :
  Calls Tryz.prog 51 #[.slice A0 l0.length c0] w fun e w'=>e = .returned (.bool r)∧Drawn0 w w':=by
 have HR0:=aM hr0
 have HC0:=aM hc0
 clear hr0 hc0
 have H:(Y29.l0 k l0 0)=some r:=h
 clear h
 have H':=aM H
 clear H
 go_enter Tryz.func51,Tryz.ntmps51
 go_wp2
 repeat (go_quiet (fail);try go_wp2)
 go_loopg [3] k (fun kq v3 w'=>∃ (I0:Int),v3 = .int .i64 I0∧Aside0 (Y29.l0 kq l0 I0=some r)∧Aside0 (kq≤k)∧Drawn0 w w')
 case atStart=>exact ⟨(0),(z2_),H',⟨Nat.le_refl _⟩,z5_⟩
 case round =>
  clear H'
  obtain ⟨I0,rfl,HA,HK1,⟨m1,rfl⟩⟩:=hrel
  cases gk with
  | zero=>exact absurd HA.out (by simp [Y29.l0])
  | succ k1 =>
   have H:=HA.out
   clear HA
   simp only [Y29.l0] at H
   by_cases c2:I0<(l0.length:Int)
   ·rw [if_pos c2] at H
    have c2b0:decide (I0<(l0.length:Int))=true:=dE c2
    clear c2
    have HC3:=aM H
    clear H
    go_upto_region 4 with (fail)
    repeat (go_quiet (fail);go_upto_region 4 with (fail))
    go_cut [31] (fun v31 wc=>∃ (kq:Nat) (AY7:Bool),v31 = .bool AY7∧Aside0 (Y29.j1 kq l0 I0 AY7=some r)∧Aside0 (kq≤k1)∧Drawn0 w wc)
    case first =>
     have H:=HC3.out
     clear HC3
     by_cases c4:0≤I0
     ·rw [if_pos c4] at H
      have c4b0:decide (0≤I0)=true:=dE c4
      clear c4
      (first | rw [c4b0] | (simp only [i64_w,i32_w];rw [c4b0]) | skip)
      replace H:=bS H
      obtain ⟨B19,A50,H⟩:=H
      replace H:(if B19=true then (if I0>0 then (if 0≤(wrap64 (I0-1)) then (if (wrap64 (I0-1))<(l0.length:Int) then (Y29.j1 k1 l0 I0 (decide ((rd l0 (wrap64 (I0-1)))≥(rd l0 I0)))) else (none)) else (none)) else (Y29.j1 k1 l0 I0 false)) else (Y29.j1 k1 l0 I0 true))=some r:=H
      have A5:=aM A50
      clear A50
      by_cases c6:B19=true
      ·subst c6
       have H1:(if I0>0 then (if 0≤(wrap64 (I0-1)) then (if (wrap64 (I0-1))<(l0.length:Int) then (Y29.j1 k1 l0 I0 (decide ((rd l0 (wrap64 (I0-1)))≥(rd l0 I0)))) else (none)) else (none)) else (Y29.j1 k1 l0 I0 false))=some r:=by rw [if_pos rfl] at H;exact H
       clear H
       have H:=H1
       clear H1
       by_cases c7:I0>0
       ·rw [if_pos c7] at H
        have c7b0:decide (0<I0)=true:=dE c7
        clear c7
        obtain ⟨ji8,Bl7⟩:∃ j_:Int,(wrap64 (I0-1))=j_:=⟨_,rfl⟩
        replace H:(if 0≤(ji8) then (if (ji8)<(l0.length:Int) then (Y29.j1 k1 l0 I0 (decide ((rd l0 (ji8))≥(rd l0 I0)))) else (none)) else (none))=some r:=by first | (rw [Bl7] at H;exact H) | (simp only [Bl7] at H ⊢;exact H)
        (try rw [Bl7] at A5)
        have hji8w:(IntKind.i64.wrap (I0-1))=ji8:=(i64_w _).trans Bl7
        by_cases c9:0≤(ji8)
        ·rw [if_pos c9] at H
         have c9b0:decide (0≤(ji8))=true:=dE c9
         clear c9
         by_cases c10:(ji8)<(l0.length:Int)
         ·rw [if_pos c10] at H
          have c10b0:decide ((ji8)<(l0.length:Int))=true:=dE c10
          clear c10
          have H':=aM H
          clear H
          have Ad9:0≤(I0:Int):=dT (z1_)
          have Ae0:I0<(l0.length:Int):=dT (z1_)
          obtain ⟨Ab8,Bl8,Au9⟩:=Kd.at_int HR0.out I0 Ad9 Ae0
          cases Bl8
          replace Ad9:=eq_true Ad9
          replace Ae0:=eq_true Ae0
          go_wp2_with (first | (go_at_call 44;(with_reducible refine (Y43.calls (rd l0 I0) true _ A5.out).mono ?_);rintro e w' ⟨rfl,⟨nd,rfl⟩⟩;(try first | exact ⟨rfl,_,World.drewN_drewN _ _ _⟩ | exact ⟨rfl,_,Eq.trans (World.drewN_drewN _ _ _) (congrArg (World.drewN _) (Nat.add_assoc _ _ _))⟩);have Ae1:0≤((ji8):Int):=dT (z1_);have Ae2:(ji8)<(l0.length:Int):=dT (z1_);obtain ⟨BA2,Bl9,Av0⟩:=Kd.at_int HR0.out (ji8) Ae1 Ae2;obtain rfl:Ab8=BA2:=(by injection Bl9);replace Ae1:=eq_true Ae1;replace Ae2:=eq_true Ae2;have Ae3:0≤(I0:Int):=dT (z1_);have Ae4:I0<(l0.length:Int):=dT (z1_);obtain ⟨BA3,Bm0,Av1⟩:=Kd.at_int HR0.out I0 Ae3 Ae4;obtain rfl:Ab8=BA3:=(by injection Bm0);replace Ae3:=eq_true Ae3;replace Ae4:=eq_true Ae4))
          repeat (go_quiet (first | (go_at_call 44;(with_reducible refine (Y43.calls (rd l0 I0) true _ A5.out).mono ?_);rintro e w' ⟨rfl,⟨nd,rfl⟩⟩;(try first | exact ⟨rfl,_,World.drewN_drewN _ _ _⟩ | exact ⟨rfl,_,Eq.trans (World.drewN_drewN _ _ _) (congrArg (World.drewN _) (Nat.add_assoc _ _ _))⟩);have Ae1:0≤((ji8):Int):=dT (z1_);have Ae2:(ji8)<(l0.length:Int):=dT (z1_);obtain ⟨BA2,Bl9,Av0⟩:=Kd.at_int HR0.out (ji8) Ae1 Ae2;obtain rfl:Ab8=BA2:=(by injection Bl9);replace Ae1:=eq_true Ae1;replace Ae2:=eq_true Ae2;have Ae3:0≤(I0:Int):=dT (z1_);have Ae4:I0<(l0.length:Int):=dT (z1_);obtain ⟨BA3,Bm0,Av1⟩:=Kd.at_int HR0.out I0 Ae3 Ae4;obtain rfl:Ab8=BA3:=(by injection Bm0);replace Ae3:=eq_true Ae3;replace Ae4:=eq_true Ae4));try go_wp2_with (first | (go_at_call 44;(with_reducible refine (Y43.calls (rd l0 I0) true _ A5.out).mono ?_);rintro e w' ⟨rfl,⟨nd,rfl⟩⟩;(try first | exact ⟨rfl,_,World.drewN_drewN _ _ _⟩ | exact ⟨rfl,_,Eq.trans (World.drewN_drewN _ _ _) (congrArg (World.drewN _) (Nat.add_assoc _ _ _))⟩);have Ae1:0≤((ji8):Int):=dT (z1_);have Ae2:(ji8)<(l0.length:Int):=dT (z1_);obtain ⟨BA2,Bl9,Av0⟩:=Kd.at_int HR0.out (ji8) Ae1 Ae2;obtain rfl:Ab8=BA2:=(by injection Bl9);replace Ae1:=eq_true Ae1;replace Ae2:=eq_true Ae2;have Ae3:0≤(I0:Int):=dT (z1_);have Ae4:I0<(l0.length:Int):=dT (z1_);obtain ⟨BA3,Bm0,Av1⟩:=Kd.at_int HR0.out I0 Ae3 Ae4;obtain rfl:Ab8=BA3:=(by injection Bm0);replace Ae3:=eq_true Ae3;replace Ae4:=eq_true Ae4)))
          go_meet
          case rel=>exact ⟨_,(decide ((rd l0 (ji8))≥(rd l0 I0))),(by first | rfl | (simp;done) | (simp only [← Bl7] <;> (first | rfl | simp)) | (simp [*];done)),H',⟨z21_ HK1.out⟩,z5_⟩
         ·rw [if_neg c10] at H
          exact nO H
        ·rw [if_neg c9] at H
         exact nO H
       ·rw [if_neg c7] at H
        have c7b0:decide (0<I0)=false:=dF c7
        clear c7
        have H':=aM H
        clear H
        have Ad9:0≤(I0:Int):=dT (z1_)
        have Ae0:I0<(l0.length:Int):=dT (z1_)
        obtain ⟨Ab8,Bl8,Au9⟩:=Kd.at_int HR0.out I0 Ad9 Ae0
        cases Bl8
        replace Ad9:=eq_true Ad9
        replace Ae0:=eq_true Ae0
        go_wp2_with (first | (go_at_call 44;(with_reducible refine (Y43.calls (rd l0 I0) true _ A5.out).mono ?_);rintro e w' ⟨rfl,⟨nd,rfl⟩⟩;(try first | exact ⟨rfl,_,World.drewN_drewN _ _ _⟩ | exact ⟨rfl,_,Eq.trans (World.drewN_drewN _ _ _) (congrArg (World.drewN _) (Nat.add_assoc _ _ _))⟩)))
        repeat (go_quiet (first | (go_at_call 44;(with_reducible refine (Y43.calls (rd l0 I0) true _ A5.out).mono ?_);rintro e w' ⟨rfl,⟨nd,rfl⟩⟩;(try first | exact ⟨rfl,_,World.drewN_drewN _ _ _⟩ | exact ⟨rfl,_,Eq.trans (World.drewN_drewN _ _ _) (congrArg (World.drewN _) (Nat.add_assoc _ _ _))⟩)));try go_wp2_with (first | (go_at_call 44;(with_reducible refine (Y43.calls (rd l0 I0) true _ A5.out).mono ?_);rintro e w' ⟨rfl,⟨nd,rfl⟩⟩;(try first | exact ⟨rfl,_,World.drewN_drewN _ _ _⟩ | exact ⟨rfl,_,Eq.trans (World.drewN_drewN _ _ _) (congrArg (World.drewN _) (Nat.add_assoc _ _ _))⟩))))
        go_meet
        case rel=>exact ⟨_,(false),(z2_),H',⟨z21_ HK1.out⟩,z5_⟩
      ·replace c6:=Bool.eq_false_iff.mpr c6
       subst c6
       have H1:(Y29.j1 k1 l0 I0 true)=some r:=by rw [if_neg (show ¬ (false=true) by decide)] at H;exact H
       clear H
       have H:=H1
       clear H1
       have H':=aM H
       clear H
       have Ad9:0≤(I0:Int):=dT (z1_)
       have Ae0:I0<(l0.length:Int):=dT (z1_)
       obtain ⟨Ab8,Bl8,Au9⟩:=Kd.at_int HR0.out I0 Ad9 Ae0
       cases Bl8
       replace Ad9:=eq_true Ad9
       replace Ae0:=eq_true Ae0
       go_wp2_with (first | (go_at_call 44;(with_reducible refine (Y43.calls (rd l0 I0) false _ A5.out).mono ?_);rintro e w' ⟨rfl,⟨nd,rfl⟩⟩;(try first | exact ⟨rfl,_,World.drewN_drewN _ _ _⟩ | exact ⟨rfl,_,Eq.trans (World.drewN_drewN _ _ _) (congrArg (World.drewN _) (Nat.add_assoc _ _ _))⟩)))
       repeat (go_quiet (first | (go_at_call 44;(with_reducible refine (Y43.calls (rd l0 I0) false _ A5.out).mono ?_);rintro e w' ⟨rfl,⟨nd,rfl⟩⟩;(try first | exact ⟨rfl,_,World.drewN_drewN _ _ _⟩ | exact ⟨rfl,_,Eq.trans (World.drewN_drewN _ _ _) (congrArg (World.drewN _) (Nat.add_assoc _ _ _))⟩)));try go_wp2_with (first | (go_at_call 44;(with_reducible refine (Y43.calls (rd l0 I0) false _ A5.out).mono ?_);rintro e w' ⟨rfl,⟨nd,rfl⟩⟩;(try first | exact ⟨rfl,_,World.drewN_drewN _ _ _⟩ | exact ⟨rfl,_,Eq.trans (World.drewN_drewN _ _ _) (congrArg (World.drewN _) (Nat.add_assoc _ _ _))⟩))))
       go_meet
       case rel=>exact ⟨_,(true),(z2_),H',⟨z21_ HK1.out⟩,z5_⟩
     ·rw [if_neg c4] at H
      exact nO H
    case rest =>
     clear HC3
     try clear c1
     try clear c2
     try clear c2b0
     try clear p2
     try clear c4
     try clear c4b0
     try clear c5
     try clear c6
     try clear p6
     try clear q6
     try clear hx6
     try clear c7
     try clear c7b0
     try clear c9
     try clear c9b0
     try clear c10
     try clear c10b0
     try clear Au9
     try clear Av0
     try clear Av1
     try clear Ad9
     try clear Ae1
     try clear Ae3
     try clear Ae0
     try clear Ae2
     try clear Ae4
     obtain ⟨kq,AY7,rfl,HA,HJ2,⟨mc2,rfl⟩⟩:=hcut
     cases kq with
     | zero=>exact absurd HA.out (by simp [Y29.j1])
     | succ kj2 =>
      have H:=HA.out
      clear HA
      simp only [Y29.j1] at H
      by_cases c11:AY7=true
      ·subst c11
       have H1:(some false)=some r:=by rw [if_pos rfl] at H;exact H
       clear H
       have H:=H1
       clear H1
       obtain rfl:=sI H
       go_wp2
       repeat (go_quiet (fail);try go_wp2)
       go_ret
       exact ⟨z2_,z5_⟩
      ·replace c11:=Bool.eq_false_iff.mpr c11
       subst c11
       have H1:(Y29.l0 kj2 l0 (wrap64 (I0+1)))=some r:=by rw [if_neg (show ¬ (false=true) by decide)] at H;exact H
       clear H
       have H:=H1
       clear H1
       have H':=aM H
       clear H
       go_wp2
       repeat (go_quiet (fail);try go_wp2)
       go_roundg kj2
       case measure=>have:=HK1.out;have:=HJ2.out;omega
       case rel=>exact ⟨(wrap64 (I0+1)),(z2_),H',⟨z14_ HK1.out HJ2.out⟩,z5_⟩
   ·rw [if_neg c2] at H
    have c2b0:decide (I0<(l0.length:Int))=false:=dF c2
    clear c2
    obtain rfl:=sI H
    go_wp2
    repeat (go_quiet (fail);try go_wp2)
    go_ret
    exact ⟨z2_,z5_⟩


/-! ### Y19: function 52 -/
mutual
def Y19.l0:Nat→List Int→List Int→List Int→Int→List Int→List Int→Int→Option (List Int × List Int)
 | 0,_,_,_,_,_,_,_=>none
 | k+1,x3,x10,x11,x12,x13,x14,x15=>if x15<(x11.length:Int) then (if 0≤x15 then (Y19.l1 k x3 x10 x11 x12 x13 x14 x15 (rd x11 x15)) else (none)) else (some (x13,x14))
def Y19.l1:Nat→List Int→List Int→List Int→Int→List Int→List Int→Int→Int→Option (List Int × List Int)
 | 0,_,_,_,_,_,_,_,_=>none
 | k+1,x3,x10,x11,x12,x13,x14,x15,x16=>(Y36.f k x3 x16).bind fun B22=>(if B22=true then (Y19.j2 k x3 x10 x11 x12 x13 x14 x15 x16 (decide (x12≤(x10.length:Int)))) else (Y19.j2 k x3 x10 x11 x12 x13 x14 x15 x16 false))
def Y19.j2:Nat→List Int→List Int→List Int→Int→List Int→List Int→Int→Int→Bool→Option (List Int × List Int)
 | 0,_,_,_,_,_,_,_,_,_=>none
 | k+1,x3,x10,x11,x12,x13,x14,x15,x16,x46=>if x46=true then (if x12<(x10.length:Int) then (if 0≤x12 then (Y19.l1 k x3 x10 x11 (wrap64 (x12+1)) x13 x14 x15 (rd x10 x12)) else (none)) else (Y19.l1 k x3 x10 x11 (wrap64 (x12+1)) x13 x14 x15 x16)) else ((Y36.f k x3 x16).bind fun BW3=>(if BW3=true then (Y19.l0 k x3 x10 x11 x12 x13 x14 (wrap64 (x15+1))) else (if x13.length<17592186044416 then (if 0≤x15 then (if x15<(x11.length:Int) then (if x14.length<17592186044416 then (Y19.l0 k x3 x10 x11 x12 (x13 ++ [x16]) (x14 ++ [rd x11 x15]) (wrap64 (x15+1))) else (none)) else (none)) else (none)) else (none))))
end
def Y19.f (k:Nat) (B2:Int) (B0:List (S78)) (a1:ByteArray) (a2:Int) (l3:List Int):Option (List Int × List Int):=(Y17.f k B2 B0 a1).bind fun U9=>((Y63.f k B2 B0 a1 a2).bind fun J5=>(Y19.l0 k l3 U9 J5 (J5.length:Int) (([]:List Int)) (([]:List Int)) 0))
theorem Y19.mono_l:∀ k,(∀ y0 y1 y2 y3 y4 y5 y6,LeO (Y19.l0 k y0 y1 y2 y3 y4 y5 y6) (Y19.l0 (k+1) y0 y1 y2 y3 y4 y5 y6))∧(∀ y0 y1 y2 y3 y4 y5 y6 y7,LeO (Y19.l1 k y0 y1 y2 y3 y4 y5 y6 y7) (Y19.l1 (k+1) y0 y1 y2 y3 y4 y5 y6 y7))∧(∀ y0 y1 y2 y3 y4 y5 y6 y7 y8,LeO (Y19.j2 k y0 y1 y2 y3 y4 y5 y6 y7 y8) (Y19.j2 (k+1) y0 y1 y2 y3 y4 y5 y6 y7 y8))
 | 0=>by refine ⟨?_,?_,?_⟩ <;> intros <;> exact LeO.none _
 | k+1=>by
  obtain ⟨ih0,ih1,ih2⟩:=Y19.mono_l k
  have m0:=@Y36.mono
  have m1:=@Y17.mono
  have m2:=@Y63.mono
  refine ⟨?_,?_,?_⟩
  ·intros
   unfold Y19.l0
   exact mO
  ·intros
   unfold Y19.l1
   exact mO
  ·intros
   unfold Y19.j2
   exact mO
theorem Y19.mono:∀ a0 a1 a2 a3 a4 k,LeO (Y19.f k a0 a1 a2 a3 a4) (Y19.f (k+1) a0 a1 a2 a3 a4):=by
 intro a0 a1 a2 a3 a4 k
 have m0:=@Y36.mono
 have m1:=@Y17.mono
 have m2:=@Y63.mono
 obtain ⟨ih0,ih1,ih2⟩:=Y19.mono_l k
 unfold Y19.f
 exact mO
theorem Y19.calls (k:Nat) (B2:Int) (E7:Option Addr) (E4:Nat) (B0:List (S78)) (a1:ByteArray) (a2:Int) (A3:Option Addr) (c3:Nat) (l3:List Int) (r1:List Int) (r2:List Int) (w:World) (J9:Kd.C k78 w E7 B0.length B0) (K0:B0.length≤E4) (hr3:Kd.C (Kd.int .i64) w A3 l3.length l3) (hc3:l3.length≤c3) (h:Y19.f k B2 B0 a1 a2 l3=some (r1,r2)) :
  Calls Tryz.prog 52 #[.agg #[.int .i64 B2,.slice E7 B0.length E4],.string a1,.int .i64 a2,.slice A3 l3.length c3] w fun e w'=>∃ v0_ v1_:Value,e = .returned (.tuple #[v0_,v1_])∧Kd.R (Kd.int .i64) 2 w' w.heap.size (fun k_=>some k_≠(v1_:Value).ownBlock) v0_ r1∧Kd.R (Kd.int .i64) 2 w' w.heap.size (fun k_=>some k_≠(v0_:Value).ownBlock) v1_ r2∧Below w.heap.size w w':=by
 have AD7:=Tryz.underlying27
 have I2:=aM J9
 have J7:=aM K0
 clear J9 K0
 have HR3:=aM hr3
 have HC3:=aM hc3
 clear hr3 hc3
 have HB:=aM (Below.refl w.heap.size w)
 have H:((Y17.f k B2 B0 a1).bind fun U9=>((Y63.f k B2 B0 a1 a2).bind fun J5=>(Y19.l0 k l3 U9 J5 (J5.length:Int) (([]:List Int)) (([]:List Int)) 0)))=some (r1,r2):=h
 clear h
 replace H:=bS H
 obtain ⟨U9,A50,H⟩:=H
 replace H:((Y63.f k B2 B0 a1 a2).bind fun J5=>(Y19.l0 k l3 U9 J5 (J5.length:Int) (([]:List Int)) (([]:List Int)) 0))=some (r1,r2):=H
 have A5:=aM A50
 clear A50
 replace H:=bS H
 obtain ⟨J5,A60,H⟩:=H
 replace H:(Y19.l0 k l3 U9 J5 (J5.length:Int) (([]:List Int)) (([]:List Int)) 0)=some (r1,r2):=H
 have A6:=aM A60
 clear A60
 obtain ⟨CS2,BA4⟩:∃ y_:List Int,y_=(([]:List Int)):=⟨_,rfl⟩
 replace H:(Y19.l0 k l3 U9 J5 (J5.length:Int) CS2 (([]:List Int)) 0)=some (r1,r2):=by first | (rw [BA4];with_reducible exact H) | (have H2_:=(Option.bind_some _ _).symm.trans H;rw [BA4];with_reducible exact H2_) | (have H2_:=(Option.bind_some _ _).symm.trans H;with_reducible exact H2_) | with_reducible exact H | (rw [BA4];exact H) | exact H
 have CD7:=aM BA4
 clear BA4
 obtain ⟨Cu9,BA5⟩:∃ y_:List Int,y_=(([]:List Int)):=⟨_,rfl⟩
 replace H:(Y19.l0 k l3 U9 J5 (J5.length:Int) CS2 Cu9 0)=some (r1,r2):=by first | (rw [BA5];with_reducible exact H) | (have H2_:=(Option.bind_some _ _).symm.trans H;rw [BA5];with_reducible exact H2_) | (have H2_:=(Option.bind_some _ _).symm.trans H;with_reducible exact H2_) | with_reducible exact H | (rw [BA5];exact H) | exact H
 have CD8:=aM BA5
 clear BA5
 have H':=aM H
 clear H
 go_enter Tryz.func52,Tryz.ntmps52
 go_wp2_with (first | ((with_reducible refine gd_ 4 ?_);(try (refine gate_guard (by rfl) ?_;dsimp only));refine be_ 4 #[.int .i64 B2,.slice E7 B0.length E4] 27 ?_;intro Al4 hg w7 hbox hb;have n0_:=aM (below_step (z6_ HB.out) hb);have n1_:=aM (hbox);have n2_:=aM ((z7_ HB.out:w.heap.size≤Al4));have n3_:=aM ((z7_ HB.out:w.heap.size≤Al4));clear HB;have HB:=n0_;have P2:=n1_;have GW624:=n2_;have b5:=n3_;clear n0_ n1_ n2_ n3_;clear hb hbox hg;have ⟨AM4,AM5,AM6,AM7⟩:=cz2_ P2.out) | ((with_reducible refine gc_ 47 ?_);refine gl_ (some 19) Tryz.func47 #[.agg #[.int .i64 B2,.slice E7 B0.length E4],.string a1] ?_;(with_reducible refine (Y17.calls k B2 _ _ B0 a1 U9 _ ?s1 ?s2 A5.out).mono ?_);(case s1=>repeat (first | exact (Kd.C_below I2.out HB.out) | (with_reducible refine Kd.C_alloc ?_ _) | (with_reducible refine Kd.C_drewN ?_ _) | (with_reducible refine Kd.C_drew ?_)));(case s2=>exact J7.out);rintro e w9 ⟨AK3,rfl,ho0,hb⟩;refine ⟨_,rfl,?_⟩;have n0_:=aM (Kd.R_lower ho0 (below_size (z4_ HB.out b5.out)));have n1_:=aM (blkB_ P2.out hb);have n2_:=aM (below_step (z4_ HB.out b5.out) hb);clear P2;clear HB;have AG1:=n0_;have P2:=n1_;have HB:=n2_;clear n0_ n1_ n2_;(try clear hb);(try clear ho0);have ⟨U5,U6,U7,U8⟩:=cz2_ P2.out) | ((with_reducible refine gc_ 50 ?_);refine gl_ (some 23) Tryz.func50 #[.agg #[.int .i64 B2,.slice E7 B0.length E4],.string a1,.int .i64 a2] ?_;(with_reducible refine (Y63.calls k B2 _ _ B0 a1 a2 J5 _ ?s1 ?s2 A6.out).mono ?_);(case s1=>repeat (first | exact (Kd.C_below I2.out HB.out) | (with_reducible refine Kd.C_alloc ?_ _) | (with_reducible refine Kd.C_drewN ?_ _) | (with_reducible refine Kd.C_drew ?_)));(case s2=>exact J7.out);rintro e w11 ⟨v629,rfl,ho0,hb⟩;refine ⟨_,rfl,?_⟩;have n0_:=aM (Kd.R_elder' (z0_ AG1.out) (Kd.R_base ho0) hb);have n1_:=aM (Kd.R_lower (Kd.R_new' ho0 (Kd.R_lt (z0_ AG1.out))) (below_size (z4_ HB.out b5.out)));have n2_:=aM (blkB_ P2.out hb);have n3_:=aM (below_step (z4_ HB.out b5.out) hb);clear AG1;clear P2;clear HB;have AG1:=n0_;have AQ3:=n1_;have P2:=n2_;have HB:=n3_;clear n0_ n1_ n2_ n3_;(try clear hb);(try clear ho0);obtain ⟨U4,N5,Ai5⟩:=Kd.R_slice AQ3.out;subst Ai5) | ((with_reducible refine gd_ 26 ?_);(try (refine gate_guard (by rfl) ?_;dsimp only));refine Kd.R_lit (Kd.int .i64) _ 2 ?hg (N:=26) ?hd (xs:=([]:List Int)) (inner:=[]) (ok:=fun _=>True) (okp:=fun _=>True) ?hr ?hp (fun _ hk=>hk) trivial (Below.refl _ _) (Nat.le_refl _) (by simp) ?_;(case hd=>rfl);(case hg=>rfl);(case hr=>first | (go_simp;done) | (go_simp;rfl));(case hp=>exact (Reps.none _ _));intro v632 w13 AH6 hb hg_ hnew_;clear hg_ hnew_;(first | rw [← CD7.out] at AH6 | (simp only [Int.reduceToNat] at AH6;rw [← CD7.out] at AH6));have n0_:=aM (Kd.R_elder' (z0_ AG1.out) (Kd.R_base AH6) hb);have n1_:=aM (Kd.R_elder' (z0_ AQ3.out) (Kd.R_base AH6) hb);have n2_:=aM (Kd.R_lower (Kd.R_new' (Kd.R_new' AH6 (Kd.R_lt (z0_ AG1.out))) (Kd.R_lt (z0_ AQ3.out))) (below_size (z4_ HB.out b5.out)));have n3_:=aM (blkB_ P2.out hb);have n4_:=aM (below_step (z4_ HB.out b5.out) hb);clear AG1;clear AQ3;clear P2;clear HB;have AG1:=n0_;have AQ3:=n1_;have BA6:=n2_;have P2:=n3_;have HB:=n4_;clear n0_ n1_ n2_ n3_ n4_;clear hb AH6) | ((with_reducible refine gd_ 27 ?_);(try (refine gate_guard (by rfl) ?_;dsimp only));refine Kd.R_lit (Kd.int .i64) _ 2 ?hg (N:=27) ?hd (xs:=([]:List Int)) (inner:=[]) (ok:=fun _=>True) (okp:=fun _=>True) ?hr ?hp (fun _ hk=>hk) trivial (Below.refl _ _) (Nat.le_refl _) (by simp) ?_;(case hd=>rfl);(case hg=>rfl);(case hr=>first | (go_simp;done) | (go_simp;rfl));(case hp=>exact (Reps.none _ _));intro v635 w15 BA7 hb hg_ hnew_;clear hg_ hnew_;(first | rw [← CD8.out] at BA7 | (simp only [Int.reduceToNat] at BA7;rw [← CD8.out] at BA7));have n0_:=aM (Kd.R_elder' (z0_ AG1.out) (Kd.R_base BA7) hb);have n1_:=aM (Kd.R_elder' (z0_ AQ3.out) (Kd.R_base BA7) hb);have n2_:=aM (Kd.R_elder' (z0_ BA6.out) (Kd.R_base BA7) hb);have n3_:=aM (Kd.R_lower (Kd.R_new' (Kd.R_new' (Kd.R_new' BA7 (Kd.R_lt (z0_ AG1.out))) (Kd.R_lt (z0_ AQ3.out))) (Kd.R_lt (z0_ BA6.out))) (below_size (z4_ HB.out b5.out)));have n4_:=aM (blkB_ P2.out hb);have n5_:=aM (below_step (z4_ HB.out b5.out) hb);clear AG1;clear AQ3;clear BA6;clear P2;clear HB;have AG1:=n0_;have AQ3:=n1_;have BA6:=n2_;have Cv0:=n3_;have P2:=n4_;have HB:=n5_;clear n0_ n1_ n2_ n3_ n4_ n5_;clear hb BA7))
 go_loopg [12,13,14,15] k (fun kq v12 v13 v14 v15 w'=>∃ (D3:Int) (G9:List Int) (S4:List Int) (J2:Int),v12 = .int .i64 D3∧v15 = .int .i64 J2∧Aside0 (Y19.l0 kq l3 U9 J5 D3 G9 S4 J2=some (r1,r2))∧Aside0 (kq≤k)∧Aside0 (Kd.R (Kd.int .i64) 2 w' w.heap.size (fun k_=>some k_≠((.slice U4 J5.length N5):Value).ownBlock∧some k_≠(v13:Value).ownBlock∧some k_≠(v14:Value).ownBlock) AK3 U9)∧Aside0 (Kd.R (Kd.int .i64) 2 w' w.heap.size (fun k_=>some k_≠(AK3:Value).ownBlock∧some k_≠(v13:Value).ownBlock∧some k_≠(v14:Value).ownBlock) (.slice U4 J5.length N5) J5)∧Aside0 (Kd.R (Kd.int .i64) 2 w' w.heap.size (fun k_=>some k_≠(AK3:Value).ownBlock∧some k_≠((.slice U4 J5.length N5):Value).ownBlock∧some k_≠(v14:Value).ownBlock) v13 G9)∧Aside0 (Kd.R (Kd.int .i64) 2 w' w.heap.size (fun k_=>some k_≠(AK3:Value).ownBlock∧some k_≠((.slice U4 J5.length N5):Value).ownBlock∧some k_≠(v13:Value).ownBlock) v14 S4)∧Aside0 (w'.heap[Al4]? = some (.cells #[.int .i64 B2,(.slice E7 B0.length E4)] 27 (0,0)))∧Aside0 (Below w.heap.size w w'))
 case atStart=>exact ⟨((J5.length:Int)),(CS2),(Cu9),(0),(z2_),(z2_),H',⟨Nat.le_refl _⟩,⟨z51_ AG1.out⟩,⟨z51_ AQ3.out⟩,⟨z51_ BA6.out⟩,⟨z51_ Cv0.out⟩,⟨z3_ P2.out⟩,⟨z4_ HB.out b5.out⟩⟩
 case round =>
  clear H'
  try clear p2
  try clear c3
  try clear c4
  try clear c5
  try clear U5
  try clear U6
  try clear AM4
  try clear AM5
  try clear U7
  try clear U8
  try clear AM6
  try clear AM7
  obtain ⟨D3,G9,S4,J2,rfl,rfl,HA,HK1,b6,P0,AJ4,z5,P2,HB⟩:=hrel
  cases gk with
  | zero=>exact absurd HA.out (by simp [Y19.l0])
  | succ k1 =>
   have H:=HA.out
   clear HA
   simp only [Y19.l0] at H
   by_cases c17:J2<(J5.length:Int)
   ·rw [if_pos c17] at H
    have c17b0:decide (J2<(J5.length:Int))=true:=dE c17
    clear c17
    by_cases c18:0≤J2
    ·rw [if_pos c18] at H
     have c18b0:decide (0≤J2)=true:=dE c18
     clear c18
     have H':=aM H
     clear H
     have Bm1:0≤(J2:Int):=dT (z1_)
     have Bm2:J2<(J5.length:Int):=dT (z1_)
     obtain ⟨AB6,C69,BQ0⟩:=Kd.at_int (Kd.R_reads' P0.out).2.2 J2 Bm1 Bm2
     cases C69
     replace Bm1:=eq_true Bm1
     replace Bm2:=eq_true Bm2
     go_wp2
     go_loopg [12,16] k1 (fun kq v12 v16 w'=>∃ (J1:Int) (V8:Int),v12 = .int .i64 J1∧v16 = .int .i64 V8∧Aside0 (Y19.l1 kq l3 U9 J5 J1 G9 S4 J2 V8=some (r1,r2))∧Aside0 (kq≤k1)∧Aside0 (Kd.R (Kd.int .i64) 2 w' w.heap.size (fun k_=>some k_≠((.slice (some AB6) J5.length N5):Value).ownBlock∧some k_≠(u13:Value).ownBlock∧some k_≠(u14:Value).ownBlock) AK3 U9)∧Aside0 (Kd.R (Kd.int .i64) 2 w' w.heap.size (fun k_=>some k_≠(AK3:Value).ownBlock∧some k_≠(u13:Value).ownBlock∧some k_≠(u14:Value).ownBlock) (.slice (some AB6) J5.length N5) J5)∧Aside0 (Kd.R (Kd.int .i64) 2 w' w.heap.size (fun k_=>some k_≠(AK3:Value).ownBlock∧some k_≠((.slice (some AB6) J5.length N5):Value).ownBlock∧some k_≠(u14:Value).ownBlock) u13 G9)∧Aside0 (Kd.R (Kd.int .i64) 2 w' w.heap.size (fun k_=>some k_≠(AK3:Value).ownBlock∧some k_≠((.slice (some AB6) J5.length N5):Value).ownBlock∧some k_≠(u13:Value).ownBlock) u14 S4)∧Aside0 (w'.heap[Al4]? = some (.cells #[.int .i64 B2,(.slice E7 B0.length E4)] 27 (0,0)))∧Aside0 (Below w.heap.size w w'))
     case atStart=>exact ⟨(D3),(rd J5 J2),(z2_),(z2_),H',⟨Nat.le_refl _⟩,⟨z0_ b6.out⟩,⟨z0_ P0.out⟩,⟨z0_ AJ4.out⟩,⟨z0_ z5.out⟩,⟨z3_ P2.out⟩,⟨z4_ HB.out b5.out⟩⟩
     case round =>
      clear H'
      try clear c1
      try clear p2
      try clear c3
      try clear c4
      try clear c5
      try clear p6
      try clear q6
      try clear hx6
      try clear c17
      try clear c17b0
      try clear c18
      try clear c18b0
      try clear U5
      try clear U6
      try clear AM4
      try clear AM5
      try clear U7
      try clear U8
      try clear AM6
      try clear AM7
      try clear BQ0
      try clear p2
      try clear Bm1
      try clear Bm2
      obtain ⟨J1,V8,rfl,rfl,HA,HK2,b6,P0,AJ4,z5,P2,HB⟩:=hrel
      cases gk with
      | zero=>exact absurd HA.out (by simp [Y19.l1])
      | succ k2 =>
       have H:=HA.out
       clear HA
       simp only [Y19.l1] at H
       have CS3:=aM H
       clear H
       go_upto_region 10 with (fail)
       go_cut [46] (fun v46 wc=>∃ (kq:Nat) (Av2:Bool),v46 = .bool Av2∧Aside0 (Y19.j2 kq l3 U9 J5 J1 G9 S4 J2 V8 Av2=some (r1,r2))∧Aside0 (kq≤k2)∧Aside0 (Kd.R (Kd.int .i64) 2 wc w.heap.size (fun k_=>some k_≠((.slice (some AB6) J5.length N5):Value).ownBlock∧some k_≠(u13:Value).ownBlock∧some k_≠(u14:Value).ownBlock) AK3 U9)∧Aside0 (Kd.R (Kd.int .i64) 2 wc w.heap.size (fun k_=>some k_≠(AK3:Value).ownBlock∧some k_≠(u13:Value).ownBlock∧some k_≠(u14:Value).ownBlock) (.slice (some AB6) J5.length N5) J5)∧Aside0 (Kd.R (Kd.int .i64) 2 wc w.heap.size (fun k_=>some k_≠(AK3:Value).ownBlock∧some k_≠((.slice (some AB6) J5.length N5):Value).ownBlock∧some k_≠(u14:Value).ownBlock) u13 G9)∧Aside0 (Kd.R (Kd.int .i64) 2 wc w.heap.size (fun k_=>some k_≠(AK3:Value).ownBlock∧some k_≠((.slice (some AB6) J5.length N5):Value).ownBlock∧some k_≠(u13:Value).ownBlock) u14 S4)∧Aside0 (wc.heap[Al4]? = some (.cells #[.int .i64 B2,(.slice E7 B0.length E4)] 27 (0,0)))∧Aside0 (Below w.heap.size w wc))
       case first =>
        have H:=CS3.out
        clear CS3
        replace H:=bS H
        obtain ⟨B22,Aj6,H⟩:=H
        replace H:(if B22=true then (Y19.j2 k2 l3 U9 J5 J1 G9 S4 J2 V8 (decide (J1≤(U9.length:Int)))) else (Y19.j2 k2 l3 U9 J5 J1 G9 S4 J2 V8 false))=some (r1,r2):=H
        have A20:=aM Aj6
        clear Aj6
        by_cases c21:B22=true
        ·subst c21
         have H1:(Y19.j2 k2 l3 U9 J5 J1 G9 S4 J2 V8 (decide (J1≤(U9.length:Int))))=some (r1,r2):=by rw [if_pos rfl] at H;exact H
         clear H
         have H:=H1
         clear H1
         have H':=aM H
         clear H
         go_wp2_with (first | ((with_reducible refine gc_ 76 ?_);refine gl_ (some 40) Tryz.func76 #[.slice A3 l3.length c3,.int .i64 V8] ?_;(with_reducible refine (Y36.calls k2 _ _ l3 V8 true _ ?s1 ?s2 A20.out).mono ?_);(case s1=>repeat (first | exact (Kd.C_below HR3.out HB.out) | (with_reducible refine Kd.C_alloc ?_ _) | (with_reducible refine Kd.C_drewN ?_ _) | (with_reducible refine Kd.C_drew ?_)));(case s2=>exact HC3.out);rintro e w' ⟨rfl,⟨nd,rfl⟩⟩;refine ⟨_,rfl,?_⟩;obtain ⟨At4,At5,Bh4⟩:=Kd.R_slice b6.out;subst Bh4))
         go_meet
         case rel=>exact ⟨_,(decide (J1≤(U9.length:Int))),(z2_),H',⟨z31_ HK1.out HK2.out⟩,⟨z0_ b6.out⟩,⟨z0_ P0.out⟩,⟨z0_ AJ4.out⟩,⟨z0_ z5.out⟩,⟨z3_ P2.out⟩,⟨z4_ HB.out b5.out⟩⟩
        ·replace c21:=Bool.eq_false_iff.mpr c21
         subst c21
         have H1:(Y19.j2 k2 l3 U9 J5 J1 G9 S4 J2 V8 false)=some (r1,r2):=by rw [if_neg (show ¬ (false=true) by decide)] at H;exact H
         clear H
         have H:=H1
         clear H1
         have H':=aM H
         clear H
         go_wp2_with (first | ((with_reducible refine gc_ 76 ?_);refine gl_ (some 40) Tryz.func76 #[.slice A3 l3.length c3,.int .i64 V8] ?_;(with_reducible refine (Y36.calls k2 _ _ l3 V8 false _ ?s1 ?s2 A20.out).mono ?_);(case s1=>repeat (first | exact (Kd.C_below HR3.out HB.out) | (with_reducible refine Kd.C_alloc ?_ _) | (with_reducible refine Kd.C_drewN ?_ _) | (with_reducible refine Kd.C_drew ?_)));(case s2=>exact HC3.out);rintro e w' ⟨rfl,⟨nd,rfl⟩⟩;refine ⟨_,rfl,?_⟩))
         go_meet
         case rel=>exact ⟨_,(false),(z2_),H',⟨z31_ HK1.out HK2.out⟩,⟨z0_ b6.out⟩,⟨z0_ P0.out⟩,⟨z0_ AJ4.out⟩,⟨z0_ z5.out⟩,⟨z3_ P2.out⟩,⟨z4_ HB.out b5.out⟩⟩
       case rest =>
        clear CS3
        try clear c1
        try clear c2
        try clear p2
        try clear c3
        try clear c4
        try clear c5
        try clear p6
        try clear q6
        try clear hx6
        try clear c7
        try clear c17
        try clear c17b0
        try clear c18
        try clear c18b0
        try clear c21
        try clear U5
        try clear U6
        try clear AM4
        try clear AM5
        try clear U7
        try clear U8
        try clear AM6
        try clear AM7
        try clear BQ0
        try clear p2
        try clear p6
        try clear Bm1
        try clear q6
        try clear Bm2
        obtain ⟨kq,Av2,rfl,HA,BA8,b6,P0,AJ4,z5,P2,HB⟩:=hcut
        cases kq with
        | zero=>exact absurd HA.out (by simp [Y19.j2])
        | succ AM9 =>
         have H:=HA.out
         clear HA
         simp only [Y19.j2] at H
         by_cases c23:Av2=true
         ·subst c23
          have H1:(if J1<(U9.length:Int) then (if 0≤J1 then (Y19.l1 AM9 l3 U9 J5 (wrap64 (J1+1)) G9 S4 J2 (rd U9 J1)) else (none)) else (Y19.l1 AM9 l3 U9 J5 (wrap64 (J1+1)) G9 S4 J2 V8))=some (r1,r2):=by rw [if_pos rfl] at H;exact H
          clear H
          have H:=H1
          clear H1
          by_cases c24:J1<(U9.length:Int)
          ·rw [if_pos c24] at H
           have c24b0:decide (J1<(U9.length:Int))=true:=dE c24
           clear c24
           by_cases c25:0≤J1
           ·rw [if_pos c25] at H
            have c25b0:decide (0≤J1)=true:=dE c25
            clear c25
            have H':=aM H
            clear H
            obtain ⟨Ao26,co26,C70⟩:=Kd.R_slice b6.out
            subst C70
            have CS4:0≤(J1:Int):=dT (z1_)
            have CS5:J1<(U9.length:Int):=dT (z1_)
            obtain ⟨ad639,C71,hx639_0⟩:=Kd.at_int (Kd.R_reads' b6.out).2.2 J1 CS4 CS5
            cases C71
            replace CS4:=eq_true CS4
            replace CS5:=eq_true CS5
            go_wp2
            go_roundg AM9
            case measure=>have:=HK1.out;have:=HK2.out;have:=BA8.out;omega
            case rel=>exact ⟨(wrap64 (J1+1)),(rd U9 J1),(z2_),(z2_),H',⟨by have:=HK1.out;have:=HK2.out;have:=BA8.out;omega⟩,⟨z0_ b6.out⟩,⟨z0_ P0.out⟩,⟨z0_ AJ4.out⟩,⟨z0_ z5.out⟩,⟨z3_ P2.out⟩,⟨z4_ HB.out b5.out⟩⟩
           ·rw [if_neg c25] at H
            exact nO H
          ·rw [if_neg c24] at H
           have c24b0:decide (J1<(U9.length:Int))=false:=dF c24
           clear c24
           have H':=aM H
           clear H
           obtain ⟨Bo3,BX6,Ah2⟩:=Kd.R_slice b6.out
           subst Ah2
           go_wp2
           go_roundg AM9
           case measure=>have:=HK1.out;have:=HK2.out;have:=BA8.out;omega
           case rel=>exact ⟨(wrap64 (J1+1)),(V8),(z2_),(z2_),H',⟨by have:=HK1.out;have:=HK2.out;have:=BA8.out;omega⟩,⟨z0_ b6.out⟩,⟨z0_ P0.out⟩,⟨z0_ AJ4.out⟩,⟨z0_ z5.out⟩,⟨z3_ P2.out⟩,⟨z4_ HB.out b5.out⟩⟩
         ·replace c23:=Bool.eq_false_iff.mpr c23
          subst c23
          have H1:((Y36.f AM9 l3 V8).bind fun BW3=>(if BW3=true then (Y19.l0 AM9 l3 U9 J5 J1 G9 S4 (wrap64 (J2+1))) else (if G9.length<17592186044416 then (if 0≤J2 then (if J2<(J5.length:Int) then (if S4.length<17592186044416 then (Y19.l0 AM9 l3 U9 J5 J1 (G9 ++ [V8]) (S4 ++ [rd J5 J2]) (wrap64 (J2+1))) else (none)) else (none)) else (none)) else (none))))=some (r1,r2):=by rw [if_neg (show ¬ (false=true) by decide)] at H;exact H
          clear H
          have H:=H1
          clear H1
          replace H:=bS H
          obtain ⟨BW3,A09,H⟩:=H
          replace H:(if BW3=true then (Y19.l0 AM9 l3 U9 J5 J1 G9 S4 (wrap64 (J2+1))) else (if G9.length<17592186044416 then (if 0≤J2 then (if J2<(J5.length:Int) then (if S4.length<17592186044416 then (Y19.l0 AM9 l3 U9 J5 J1 (G9 ++ [V8]) (S4 ++ [rd J5 J2]) (wrap64 (J2+1))) else (none)) else (none)) else (none)) else (none)))=some (r1,r2):=H
          have A28:=aM A09
          clear A09
          by_cases c29:BW3=true
          ·subst c29
           have H1:(Y19.l0 AM9 l3 U9 J5 J1 G9 S4 (wrap64 (J2+1)))=some (r1,r2):=by rw [if_pos rfl] at H;exact H
           clear H
           have H:=H1
           clear H1
           have H':=aM H
           clear H
           go_wp2_with (first | ((with_reducible refine gc_ 76 ?_);refine gl_ (some 59) Tryz.func76 #[.slice A3 l3.length c3,.int .i64 V8] ?_;(with_reducible refine (Y36.calls AM9 _ _ l3 V8 true _ ?s1 ?s2 A28.out).mono ?_);(case s1=>repeat (first | exact (Kd.C_below HR3.out HB.out) | (with_reducible refine Kd.C_alloc ?_ _) | (with_reducible refine Kd.C_drewN ?_ _) | (with_reducible refine Kd.C_drew ?_)));(case s2=>exact HC3.out);rintro e w' ⟨rfl,⟨nd,rfl⟩⟩;refine ⟨_,rfl,?_⟩))
           go_roundg AM9
           case measure=>have:=HK1.out;have:=HK2.out;have:=BA8.out;omega
           case rel=>exact ⟨(J1),(G9),(S4),(wrap64 (J2+1)),(z2_),(z2_),H',⟨by have:=HK1.out;have:=HK2.out;have:=BA8.out;omega⟩,⟨z0_ b6.out⟩,⟨z0_ P0.out⟩,⟨z0_ AJ4.out⟩,⟨z0_ z5.out⟩,⟨z3_ P2.out⟩,⟨z4_ HB.out b5.out⟩⟩
          ·replace c29:=Bool.eq_false_iff.mpr c29
           subst c29
           have H1:(if G9.length<17592186044416 then (if 0≤J2 then (if J2<(J5.length:Int) then (if S4.length<17592186044416 then (Y19.l0 AM9 l3 U9 J5 J1 (G9 ++ [V8]) (S4 ++ [rd J5 J2]) (wrap64 (J2+1))) else (none)) else (none)) else (none)) else (none))=some (r1,r2):=by rw [if_neg (show ¬ (false=true) by decide)] at H;exact H
           clear H
           have H:=H1
           clear H1
           by_cases c30:G9.length<17592186044416
           ·rw [if_pos c30] at H
            have Cv1:=aM c30
            clear c30
            obtain ⟨CS6,BA9⟩:∃ y_:List Int,y_=(G9 ++ [V8]):=⟨_,rfl⟩
            replace H:(if 0≤J2 then (if J2<(J5.length:Int) then (if S4.length<17592186044416 then (Y19.l0 AM9 l3 U9 J5 J1 CS6 (S4 ++ [rd J5 J2]) (wrap64 (J2+1))) else (none)) else (none)) else (none))=some (r1,r2):=by first | (rw [BA9];with_reducible exact H) | (have H2_:=(Option.bind_some _ _).symm.trans H;rw [BA9];with_reducible exact H2_) | (have H2_:=(Option.bind_some _ _).symm.trans H;with_reducible exact H2_) | with_reducible exact H | (rw [BA9];exact H) | exact H
            have Cv2:=aM BA9
            clear BA9
            by_cases c31:0≤J2
            ·rw [if_pos c31] at H
             have c31b0:decide (0≤J2)=true:=dE c31
             clear c31
             by_cases c32:J2<(J5.length:Int)
             ·rw [if_pos c32] at H
              have c32b0:decide (J2<(J5.length:Int))=true:=dE c32
              clear c32
              by_cases c33:S4.length<17592186044416
              ·rw [if_pos c33] at H
               have Cv3:=aM c33
               clear c33
               obtain ⟨Cv4,BB0⟩:∃ y_:List Int,y_=(S4 ++ [rd J5 J2]):=⟨_,rfl⟩
               replace H:(Y19.l0 AM9 l3 U9 J5 J1 CS6 Cv4 (wrap64 (J2+1)))=some (r1,r2):=by first | (rw [BB0];with_reducible exact H) | (have H2_:=(Option.bind_some _ _).symm.trans H;rw [BB0];with_reducible exact H2_) | (have H2_:=(Option.bind_some _ _).symm.trans H;with_reducible exact H2_) | with_reducible exact H | (rw [BB0];exact H) | exact H
               have Cv5:=aM BB0
               clear BB0
               have H':=aM H
               clear H
               go_wp2_with (first | ((with_reducible refine gc_ 76 ?_);refine gl_ (some 59) Tryz.func76 #[.slice A3 l3.length c3,.int .i64 V8] ?_;(with_reducible refine (Y36.calls AM9 _ _ l3 V8 false _ ?s1 ?s2 A28.out).mono ?_);(case s1=>repeat (first | exact (Kd.C_below HR3.out HB.out) | (with_reducible refine Kd.C_alloc ?_ _) | (with_reducible refine Kd.C_drewN ?_ _) | (with_reducible refine Kd.C_drew ?_)));(case s2=>exact HC3.out);rintro e w' ⟨rfl,⟨nd,rfl⟩⟩;refine ⟨_,rfl,?_⟩) | ((with_reducible refine gate_builtin (b:=.append) (xs:=#[.tmp 61,.tmp 63]) rfl ?_);(try (refine gate_guard (by rfl) ?_;dsimp only));at_builtin;refine Kd.R_append (Kd.int .i64) (w0:=w) w.heap.size rfl (.tmp 61) (.tmp 63) 30 2 (.int .i64 0) 8 rfl Tryz.underlying30 info2 rfl (by decide) (by omega) u13 G9 V8 [.int .i64 V8] (fun k_=>some k_≠(AK3:Value).ownBlock∧some k_≠(.slice (some AB6) J5.length N5:Value).ownBlock∧some k_≠(u14:Value).ownBlock) (fun _=>False) rfl rfl ?aP (fun _ hk=>hk.elim) ?aF ?aO ?aB ?aS ?aL ?_;(case aP=>exact rfl);(case aB=>exact (z4_ HB.out b5.out));(case aF=>exact (fun k_ hk=>⟨Kd.fresh' (Kd.R_lt (z0_ b6.out)) k_ hk,Kd.fresh' (Kd.R_lt (z0_ P0.out)) k_ hk,Kd.fresh' (Kd.R_lt (z0_ z5.out)) k_ hk⟩));(case aO=>exact (z0_ AJ4.out));(case aS=>exact (below_size (z4_ HB.out b5.out)));(case aL=>have:=Cv1.out;omega);intro CS7 w34 ho hb hg hat;rw [← Cv2.out] at ho;have n0_:=aM (Kd.R_after (ok:=(fun k_=>some k_≠(.slice (some AB6) J5.length N5:Value).ownBlock∧some k_≠(u14:Value).ownBlock)) (by (with_reducible repeat (first | apply Kd.R_alloc | apply Kd.R_drewN | apply Kd.R_drew));exact Kd.R_mono b6.out (fun _ hk=>⟨⟨hk.1,hk.2.2⟩,hk.2.1⟩)) hg hat);have n1_:=aM (Kd.R_after (ok:=(fun k_=>some k_≠(AK3:Value).ownBlock∧some k_≠(u14:Value).ownBlock)) (by (with_reducible repeat (first | apply Kd.R_alloc | apply Kd.R_drewN | apply Kd.R_drew));exact Kd.R_mono P0.out (fun _ hk=>⟨⟨hk.1,hk.2.2⟩,hk.2.1⟩)) hg hat);have n2_:=aM (Kd.R_after (ok:=(fun k_=>some k_≠(AK3:Value).ownBlock∧some k_≠(.slice (some AB6) J5.length N5:Value).ownBlock)) (by (with_reducible repeat (first | apply Kd.R_alloc | apply Kd.R_drewN | apply Kd.R_drew));exact Kd.R_mono z5.out (fun _ hk=>⟨⟨hk.1,hk.2.1⟩,hk.2.2⟩)) hg hat);have n3_:=aM (blk_grown (g:=Al4) (o:=.cells #[.int .i64 B2,.slice E7 B0.length E4] 27 (0,0)) (z3_ P2.out) hg (Kd.R_ne AJ4.out P2.out (by decide)));have n4_:=aM (hb);have n5_:=aM (ho);clear b6;clear P0;clear z5;clear P2;clear HB;clear AJ4;have b6:=n0_;have P0:=n1_;have z5:=n2_;have P2:=n3_;have HB:=n4_;have BB1:=n5_;clear n0_ n1_ n2_ n3_ n4_ n5_;clear ho hb hg hat;have CS8:0≤(J2:Int):=dT (z1_);have CS9:J2<(J5.length:Int):=dT (z1_);obtain ⟨Cv6,C72,hx644_0⟩:=Kd.at_int (Kd.R_reads' P0.out).2.2 J2 CS8 CS9;obtain rfl:AB6=Cv6:=(by injection C72);replace CS8:=eq_true CS8;replace CS9:=eq_true CS9) | ((with_reducible refine gate_builtin (b:=.append) (xs:=#[.tmp 65,.tmp 70]) rfl ?_);(try (refine gate_guard (by rfl) ?_;dsimp only));at_builtin;refine Kd.R_append (Kd.int .i64) (w0:=w) w.heap.size rfl (.tmp 65) (.tmp 70) 30 2 (.int .i64 0) 8 rfl Tryz.underlying30 info2 rfl (by decide) (by omega) u14 S4 (rd J5 J2) [.int .i64 (rd J5 J2)] (fun k_=>some k_≠(AK3:Value).ownBlock∧some k_≠(.slice (some AB6) J5.length N5:Value).ownBlock∧some k_≠(CS7:Value).ownBlock) (fun _=>False) rfl rfl ?aP (fun _ hk=>hk.elim) ?aF ?aO ?aB ?aS ?aL ?_;(case aP=>exact rfl);(case aB=>exact (z4_ HB.out b5.out));(case aF=>exact (fun k_ hk=>⟨Kd.fresh' (Kd.R_lt (z0_ b6.out)) k_ hk,Kd.fresh' (Kd.R_lt (z0_ P0.out)) k_ hk,Kd.fresh' (Kd.R_lt (z0_ BB1.out)) k_ hk⟩));(case aO=>exact (z52_ z5.out));(case aS=>exact (below_size (z4_ HB.out b5.out)));(case aL=>have:=Cv3.out;omega);intro v646 w35 ho hb hg hat;rw [← Cv5.out] at ho;have n0_:=aM (Kd.R_after (ok:=(fun k_=>some k_≠(.slice (some AB6) J5.length N5:Value).ownBlock∧some k_≠(CS7:Value).ownBlock)) (by (with_reducible repeat (first | apply Kd.R_alloc | apply Kd.R_drewN | apply Kd.R_drew));exact Kd.R_mono b6.out (fun _ hk=>⟨⟨hk.1.1,hk.2⟩,hk.1.2⟩)) hg hat);have n1_:=aM (Kd.R_after (ok:=(fun k_=>some k_≠(AK3:Value).ownBlock∧some k_≠(CS7:Value).ownBlock)) (by (with_reducible repeat (first | apply Kd.R_alloc | apply Kd.R_drewN | apply Kd.R_drew));exact Kd.R_mono P0.out (fun _ hk=>⟨⟨hk.1.1,hk.2⟩,hk.1.2⟩)) hg hat);have n2_:=aM (blk_grown (g:=Al4) (o:=.cells #[.int .i64 B2,.slice E7 B0.length E4] 27 (0,0)) (z3_ P2.out) hg (Kd.R_ne z5.out P2.out (by decide)));have n3_:=aM (Kd.R_after (ok:=(fun k_=>some k_≠(AK3:Value).ownBlock∧some k_≠(.slice (some AB6) J5.length N5:Value).ownBlock)) (by (with_reducible repeat (first | apply Kd.R_alloc | apply Kd.R_drewN | apply Kd.R_drew));exact Kd.R_mono BB1.out (fun _ hk=>⟨⟨hk.1,hk.2.1⟩,hk.2.2⟩)) hg hat);have n4_:=aM (hb);have n5_:=aM (ho);clear b6;clear P0;clear P2;clear BB1;clear HB;clear z5;have b6:=n0_;have P0:=n1_;have P2:=n2_;have BB1:=n3_;have HB:=n4_;have Cv7:=n5_;clear n0_ n1_ n2_ n3_ n4_ n5_;clear ho hb hg hat))
               go_roundg AM9
               case measure=>have:=HK1.out;have:=HK2.out;have:=BA8.out;omega
               case rel=>exact ⟨(J1),(CS6),(Cv4),(wrap64 (J2+1)),(z2_),(z2_),H',⟨by have:=HK1.out;have:=HK2.out;have:=BA8.out;omega⟩,⟨z52_ b6.out⟩,⟨z52_ P0.out⟩,⟨z52_ BB1.out⟩,⟨z0_ Cv7.out⟩,⟨z3_ P2.out⟩,⟨z4_ HB.out b5.out⟩⟩
              ·rw [if_neg c33] at H
               exact nO H
             ·rw [if_neg c32] at H
              exact nO H
            ·rw [if_neg c31] at H
             exact nO H
           ·rw [if_neg c30] at H
            exact nO H
    ·rw [if_neg c18] at H
     exact nO H
   ·rw [if_neg c17] at H
    have c17b0:decide (J2<(J5.length:Int))=false:=dF c17
    clear c17
    simp only [Option.some.injEq,Prod.mk.injEq] at H
    obtain ⟨rfl,rfl⟩:=H
    go_wp2
    go_ret2
    exact ⟨_,_,z8_,by (with_reducible repeat (first | apply Kd.R_alloc | apply Kd.R_drewN | apply Kd.R_drew));exact Kd.R_mono AJ4.out (fun _ hk=>hk.2.2),by (with_reducible repeat (first | apply Kd.R_alloc | apply Kd.R_drewN | apply Kd.R_drew));exact Kd.R_mono z5.out (fun _ hk=>hk.2.2),z4_ HB.out b5.out⟩


/-! ### Y24: function 19 -/
def Y24.j0:Nat→ByteArray→Int→List Int→Bool→Int→List (S78)→Option (List Int)
 | 0,_,_,_,_,_,_=>none
 | k+1,x1,x2,x3,x28,B23,B24=>if x28=true then (some (([]:List Int))) else ((Y19.f k B23 B24 x1 x2 x3).bind fun Bm3=>(some Bm3.1))
def Y24.f (k:Nat) (B2:Int) (B0:List (S78)) (a1:ByteArray) (a2:Int) (l3:List Int):Option (List Int):=(Y6.f k B2 B0).bind fun BW4=>(if BW4=true then ((Y15.f k a1).bind fun An6=>(if An6=true then ((Y43.f a2).bind fun AY8=>(if AY8=true then ((Y29.f k l3).bind fun AI8=>(Y24.j0 k a1 a2 l3 (!AI8) B2 B0)) else (Y24.j0 k a1 a2 l3 true B2 B0))) else (Y24.j0 k a1 a2 l3 true B2 B0))) else (Y24.j0 k a1 a2 l3 true B2 B0))
theorem Y24.mono_l:∀ k,(∀ y0 y1 y2 y3 y4 y5,LeO (Y24.j0 k y0 y1 y2 y3 y4 y5) (Y24.j0 (k+1) y0 y1 y2 y3 y4 y5))
 | 0=>by intros <;> exact LeO.none _
 | k+1=>by
  have ih0:=Y24.mono_l k
  have m0:=@Y15.mono
  have m1:=@Y6.mono
  have m2:=@Y29.mono
  have m3:=@Y19.mono
  ·intros
   unfold Y24.j0
   exact mO
theorem Y24.mono:∀ a0 a1 a2 a3 a4 k,LeO (Y24.f k a0 a1 a2 a3 a4) (Y24.f (k+1) a0 a1 a2 a3 a4):=by
 intro a0 a1 a2 a3 a4 k
 have m0:=@Y15.mono
 have m1:=@Y6.mono
 have m2:=@Y29.mono
 have m3:=@Y19.mono
 have ih0:=Y24.mono_l k
 unfold Y24.f
 exact mO
theorem Y24.calls (k:Nat) (B2:Int) (E7:Option Addr) (E4:Nat) (B0:List (S78)) (a1:ByteArray) (a2:Int) (A3:Option Addr) (c3:Nat) (l3:List Int) (r:List Int) (w:World) (J9:Kd.C k78 w E7 B0.length B0) (K0:B0.length≤E4) (hr3:Kd.C (Kd.int .i64) w A3 l3.length l3) (hc3:l3.length≤c3) (h:Y24.f k B2 B0 a1 a2 l3=some r) :
  Calls Tryz.prog 19 #[.agg #[.int .i64 B2,.slice E7 B0.length E4],.string a1,.int .i64 a2,.slice A3 l3.length c3] w fun e w'=>∃ v0_:Value,e = .returned (v0_)∧Kd.R (Kd.int .i64) 2 w' w.heap.size (fun _=>True) v0_ r∧Below w.heap.size w w':=by
 have AD7:=Tryz.underlying27
 have I2:=aM J9
 have J7:=aM K0
 clear J9 K0
 have HR3:=aM hr3
 have HC3:=aM hc3
 clear hr3 hc3
 have HB:=aM (Below.refl w.heap.size w)
 have H:((Y6.f k B2 B0).bind fun BW4=>(if BW4=true then ((Y15.f k a1).bind fun An6=>(if An6=true then ((Y43.f a2).bind fun AY8=>(if AY8=true then ((Y29.f k l3).bind fun AI8=>(Y24.j0 k a1 a2 l3 (!AI8) B2 B0)) else (Y24.j0 k a1 a2 l3 true B2 B0))) else (Y24.j0 k a1 a2 l3 true B2 B0))) else (Y24.j0 k a1 a2 l3 true B2 B0)))=some r:=h
 clear h
 have HC5:=aM H
 clear H
 go_enter Tryz.func19,Tryz.ntmps19
 go_upto_region 1 with (first | ((with_reducible refine gd_ 4 ?_);refine be_ 4 #[.int .i64 B2,.slice E7 B0.length E4] 27 ?_;intro Bm4 hg w6 hbox hb;have n0_:=aM (below_step (z6_ HB.out) hb);have n1_:=aM (hbox);have n2_:=aM ((z7_ HB.out:w.heap.size≤Bm4));have n3_:=aM ((z7_ HB.out:w.heap.size≤Bm4));clear HB;have HB:=n0_;have S5:=n1_;have GW648:=n2_;have z6:=n3_;clear n0_ n1_ n2_ n3_;clear hb hbox hg))
 (try simp only [Act.put,sa_,s0_,ss_])
 go_cut [28] (fun v28 wc=>∃ (kq:Nat) (BQ1:Bool),v28 = .bool BQ1∧Aside0 (Y24.j0 kq a1 a2 l3 BQ1 B2 B0=some r)∧Aside0 (kq≤k)∧Aside0 (wc.heap[Bm4]? = some (.cells #[.int .i64 B2,(.slice E7 B0.length E4)] 27 (0,0)))∧Aside0 (Below w.heap.size w wc))
 case first =>
  have H:=HC5.out
  clear HC5
  replace H:=bS H
  obtain ⟨BW4,A70,H⟩:=H
  replace H:(if BW4=true then ((Y15.f k a1).bind fun An6=>(if An6=true then ((Y43.f a2).bind fun AY8=>(if AY8=true then ((Y29.f k l3).bind fun AI8=>(Y24.j0 k a1 a2 l3 (!AI8) B2 B0)) else (Y24.j0 k a1 a2 l3 true B2 B0))) else (Y24.j0 k a1 a2 l3 true B2 B0))) else (Y24.j0 k a1 a2 l3 true B2 B0))=some r:=H
  have A7:=aM A70
  clear A70
  by_cases c8:BW4=true
  ·subst c8
   have H1:((Y15.f k a1).bind fun An6=>(if An6=true then ((Y43.f a2).bind fun AY8=>(if AY8=true then ((Y29.f k l3).bind fun AI8=>(Y24.j0 k a1 a2 l3 (!AI8) B2 B0)) else (Y24.j0 k a1 a2 l3 true B2 B0))) else (Y24.j0 k a1 a2 l3 true B2 B0)))=some r:=by rw [if_pos rfl] at H;exact H
   clear H
   have H:=H1
   clear H1
   replace H:=bS H
   obtain ⟨An6,A90,H⟩:=H
   replace H:(if An6=true then ((Y43.f a2).bind fun AY8=>(if AY8=true then ((Y29.f k l3).bind fun AI8=>(Y24.j0 k a1 a2 l3 (!AI8) B2 B0)) else (Y24.j0 k a1 a2 l3 true B2 B0))) else (Y24.j0 k a1 a2 l3 true B2 B0))=some r:=H
   have A9:=aM A90
   clear A90
   by_cases c10:An6=true
   ·subst c10
    have H1:((Y43.f a2).bind fun AY8=>(if AY8=true then ((Y29.f k l3).bind fun AI8=>(Y24.j0 k a1 a2 l3 (!AI8) B2 B0)) else (Y24.j0 k a1 a2 l3 true B2 B0)))=some r:=by rw [if_pos rfl] at H;exact H
    clear H
    have H:=H1
    clear H1
    replace H:=bS H
    obtain ⟨AY8,f7,H⟩:=H
    replace H:(if AY8=true then ((Y29.f k l3).bind fun AI8=>(Y24.j0 k a1 a2 l3 (!AI8) B2 B0)) else (Y24.j0 k a1 a2 l3 true B2 B0))=some r:=H
    have A11:=aM f7
    clear f7
    by_cases c12:AY8=true
    ·subst c12
     have H1:((Y29.f k l3).bind fun AI8=>(Y24.j0 k a1 a2 l3 (!AI8) B2 B0))=some r:=by rw [if_pos rfl] at H;exact H
     clear H
     have H:=H1
     clear H1
     replace H:=bS H
     obtain ⟨AI8,AK7,H⟩:=H
     replace H:(Y24.j0 k a1 a2 l3 (!AI8) B2 B0)=some r:=H
     have A13:=aM AK7
     clear AK7
     have H':=aM H
     clear H
     have ⟨AH4,AO4,AH5,AO5⟩:=cz2_ S5.out
     go_wp2_with (first | ((with_reducible refine gc_ 23 ?_);refine gl_ (some 12) Tryz.func23 #[.agg #[.int .i64 B2,.slice E7 B0.length E4]] ?_;(with_reducible refine (Y6.calls k B2 _ _ B0 true _ ?s1 ?s2 A7.out).mono ?_);(case s1=>repeat (first | exact (Kd.C_below I2.out HB.out) | (with_reducible refine Kd.C_alloc ?_ _) | (with_reducible refine Kd.C_drewN ?_ _) | (with_reducible refine Kd.C_drew ?_)));(case s2=>exact J7.out);rintro e w15 ⟨rfl,hb⟩;refine ⟨_,rfl,?_⟩;have n0_:=aM (blkB_ S5.out hb);have n1_:=aM (below_step (z4_ HB.out z6.out) hb);clear S5;clear HB;have S5:=n0_;have HB:=n1_;clear n0_ n1_;(try clear hb)) | (go_at_call 24;(with_reducible refine (Y15.calls k a1 true _ A9.out).mono ?_);rintro e w' ⟨rfl,⟨nd,rfl⟩⟩) | (go_at_call 44;(with_reducible refine (Y43.calls a2 true _ A11.out).mono ?_);rintro e w' ⟨rfl,⟨nd,rfl⟩⟩) | (go_at_call 51;(with_reducible refine (Y29.calls k _ _ l3 AI8 _ ?s1 ?s2 A13.out).mono ?_);(case s1=>repeat (first | exact (Kd.C_below HR3.out (z4_ HB.out z6.out)) | (with_reducible refine Kd.C_alloc ?_ _) | (with_reducible refine Kd.C_drewN ?_ _) | (with_reducible refine Kd.C_drew ?_)));(case s2=>exact HC3.out);rintro e w' ⟨rfl,⟨nd,rfl⟩⟩))
     go_meet
     case rel=>exact ⟨_,(!AI8),(z2_),H',⟨by first | omega | exact Nat.le_refl _⟩,⟨z3_ S5.out⟩,⟨z4_ HB.out z6.out⟩⟩
    ·replace c12:=Bool.eq_false_iff.mpr c12
     subst c12
     have H1:(Y24.j0 k a1 a2 l3 true B2 B0)=some r:=by rw [if_neg (show ¬ (false=true) by decide)] at H;exact H
     clear H
     have H:=H1
     clear H1
     have H':=aM H
     clear H
     have ⟨r8,r9,s8,s9⟩:=cz2_ S5.out
     go_wp2_with (first | ((with_reducible refine gc_ 23 ?_);refine gl_ (some 12) Tryz.func23 #[.agg #[.int .i64 B2,.slice E7 B0.length E4]] ?_;(with_reducible refine (Y6.calls k B2 _ _ B0 true _ ?s1 ?s2 A7.out).mono ?_);(case s1=>repeat (first | exact (Kd.C_below I2.out HB.out) | (with_reducible refine Kd.C_alloc ?_ _) | (with_reducible refine Kd.C_drewN ?_ _) | (with_reducible refine Kd.C_drew ?_)));(case s2=>exact J7.out);rintro e w17 ⟨rfl,hb⟩;refine ⟨_,rfl,?_⟩;have n0_:=aM (blkB_ S5.out hb);have n1_:=aM (below_step (z4_ HB.out z6.out) hb);clear S5;clear HB;have S5:=n0_;have HB:=n1_;clear n0_ n1_;(try clear hb)) | (go_at_call 24;(with_reducible refine (Y15.calls k a1 true _ A9.out).mono ?_);rintro e w' ⟨rfl,⟨nd,rfl⟩⟩) | (go_at_call 44;(with_reducible refine (Y43.calls a2 false _ A11.out).mono ?_);rintro e w' ⟨rfl,⟨nd,rfl⟩⟩))
     go_meet
     case rel=>exact ⟨_,(true),(z2_),H',⟨by first | omega | exact Nat.le_refl _⟩,⟨z3_ S5.out⟩,⟨z4_ HB.out z6.out⟩⟩
   ·replace c10:=Bool.eq_false_iff.mpr c10
    subst c10
    have H1:(Y24.j0 k a1 a2 l3 true B2 B0)=some r:=by rw [if_neg (show ¬ (false=true) by decide)] at H;exact H
    clear H
    have H:=H1
    clear H1
    have H':=aM H
    clear H
    have ⟨AV9,AW0,AW1,AW2⟩:=cz2_ S5.out
    go_wp2_with (first | ((with_reducible refine gc_ 23 ?_);refine gl_ (some 12) Tryz.func23 #[.agg #[.int .i64 B2,.slice E7 B0.length E4]] ?_;(with_reducible refine (Y6.calls k B2 _ _ B0 true _ ?s1 ?s2 A7.out).mono ?_);(case s1=>repeat (first | exact (Kd.C_below I2.out HB.out) | (with_reducible refine Kd.C_alloc ?_ _) | (with_reducible refine Kd.C_drewN ?_ _) | (with_reducible refine Kd.C_drew ?_)));(case s2=>exact J7.out);rintro e w19 ⟨rfl,hb⟩;refine ⟨_,rfl,?_⟩;have n0_:=aM (blkB_ S5.out hb);have n1_:=aM (below_step (z4_ HB.out z6.out) hb);clear S5;clear HB;have S5:=n0_;have HB:=n1_;clear n0_ n1_;(try clear hb)) | (go_at_call 24;(with_reducible refine (Y15.calls k a1 false _ A9.out).mono ?_);rintro e w' ⟨rfl,⟨nd,rfl⟩⟩))
    go_meet
    case rel=>exact ⟨_,(true),(z2_),H',⟨by first | omega | exact Nat.le_refl _⟩,⟨z3_ S5.out⟩,⟨z4_ HB.out z6.out⟩⟩
  ·replace c8:=Bool.eq_false_iff.mpr c8
   subst c8
   have H1:(Y24.j0 k a1 a2 l3 true B2 B0)=some r:=by rw [if_neg (show ¬ (false=true) by decide)] at H;exact H
   clear H
   have H:=H1
   clear H1
   have H':=aM H
   clear H
   have ⟨Ar7,BP0,Ar8,BP1⟩:=cz2_ S5.out
   go_wp2_with (first | ((with_reducible refine gc_ 23 ?_);refine gl_ (some 12) Tryz.func23 #[.agg #[.int .i64 B2,.slice E7 B0.length E4]] ?_;(with_reducible refine (Y6.calls k B2 _ _ B0 false _ ?s1 ?s2 A7.out).mono ?_);(case s1=>repeat (first | exact (Kd.C_below I2.out HB.out) | (with_reducible refine Kd.C_alloc ?_ _) | (with_reducible refine Kd.C_drewN ?_ _) | (with_reducible refine Kd.C_drew ?_)));(case s2=>exact J7.out);rintro e w21 ⟨rfl,hb⟩;refine ⟨_,rfl,?_⟩;have n0_:=aM (blkB_ S5.out hb);have n1_:=aM (below_step (z4_ HB.out z6.out) hb);clear S5;clear HB;have S5:=n0_;have HB:=n1_;clear n0_ n1_;(try clear hb)))
   go_meet
   case rel=>exact ⟨_,(true),(z2_),H',⟨by first | omega | exact Nat.le_refl _⟩,⟨z3_ S5.out⟩,⟨z4_ HB.out z6.out⟩⟩
 case rest =>
  clear HC5
  try clear c1
  try clear c2
  try clear p2
  try clear c3
  try clear c8
  try clear c10
  try clear c12
  try clear c19
  try clear AH4
  try clear AO4
  try clear r8
  try clear r9
  try clear AV9
  try clear AW0
  try clear Ar7
  try clear BP0
  try clear AH5
  try clear AO5
  try clear s8
  try clear s9
  try clear AW1
  try clear AW2
  try clear Ar8
  try clear BP1
  obtain ⟨kq,BQ1,rfl,HA,HJ4,S5,HB⟩:=hcut
  cases kq with
  | zero=>exact absurd HA.out (by simp [Y24.j0])
  | succ kj4 =>
   have H:=HA.out
   clear HA
   simp only [Y24.j0] at H
   by_cases c22:BQ1=true
   ·subst c22
    have H1:(some (([]:List Int)))=some r:=by rw [if_pos rfl] at H;exact H
    clear H
    have H:=H1
    clear H1
    obtain ⟨C73,BB2⟩:∃ y_:List Int,y_=(([]:List Int)):=⟨_,rfl⟩
    replace H:(some C73)=some r:=by first | (rw [BB2];with_reducible exact H) | (have H2_:=(Option.bind_some _ _).symm.trans H;rw [BB2];with_reducible exact H2_) | (have H2_:=(Option.bind_some _ _).symm.trans H;with_reducible exact H2_) | with_reducible exact H | (rw [BB2];exact H) | exact H
    have CD9:=aM BB2
    clear BB2
    obtain rfl:=sI H
    go_wp2_with (first | ((with_reducible refine gd_ 29 ?_);refine Kd.R_lit (Kd.int .i64) _ 2 ?hg (N:=29) ?hd (xs:=([]:List Int)) (inner:=[]) (ok:=fun _=>True) (okp:=fun _=>True) ?hr ?hp (fun _ hk=>hk) trivial (Below.refl _ _) (Nat.le_refl _) (by simp) ?_;(case hd=>rfl);(case hg=>rfl);(case hr=>first | (go_simp;done) | (go_simp;rfl));(case hp=>exact (Reps.none _ _));intro v654 w23 Bm5 hb hg_ hnew_;clear hg_ hnew_;(first | rw [← CD9.out] at Bm5 | (simp only [Int.reduceToNat] at Bm5;rw [← CD9.out] at Bm5));have n0_:=aM (Kd.R_lower Bm5 (below_size (z4_ HB.out z6.out)));have n1_:=aM (blkB_ S5.out hb);have n2_:=aM (below_step (z4_ HB.out z6.out) hb);clear S5;clear HB;have Cv8:=n0_;have S5:=n1_;have HB:=n2_;clear n0_ n1_ n2_;clear hb Bm5))
    go_ret
    exact ⟨_,z8_,z0_ Cv8.out,z4_ HB.out z6.out⟩
   ·replace c22:=Bool.eq_false_iff.mpr c22
    subst c22
    have H1:((Y19.f kj4 B2 B0 a1 a2 l3).bind fun Bm3=>(some Bm3.1))=some r:=by rw [if_neg (show ¬ (false=true) by decide)] at H;exact H
    clear H
    have H:=H1
    clear H1
    replace H:=bS H
    obtain ⟨⟨Cv9,C74⟩,Ai0,H⟩:=H
    replace H:(some Cv9)=some r:=H
    have A25:=aM Ai0
    clear Ai0
    obtain rfl:=sI H
    have ⟨Af2,Af3,Aq4,Af4⟩:=cz2_ S5.out
    go_wp2_with (first | ((with_reducible refine gc_ 52 ?_);refine gl_ (some 35) Tryz.func52 #[.agg #[.int .i64 B2,.slice E7 B0.length E4],.string a1,.int .i64 a2,.slice A3 l3.length c3] ?_;(with_reducible refine (Y19.calls kj4 B2 _ _ B0 a1 a2 _ _ l3 Cv9 C74 _ ?s1 ?s2 ?s3 ?s4 A25.out).mono ?_);(case s1=>repeat (first | exact (Kd.C_below I2.out HB.out) | (with_reducible refine Kd.C_alloc ?_ _) | (with_reducible refine Kd.C_drewN ?_ _) | (with_reducible refine Kd.C_drew ?_)));(case s2=>exact J7.out);(case s3=>repeat (first | exact (Kd.C_below HR3.out HB.out) | (with_reducible refine Kd.C_alloc ?_ _) | (with_reducible refine Kd.C_drewN ?_ _) | (with_reducible refine Kd.C_drew ?_)));(case s4=>exact HC3.out);rintro e w27 ⟨v657,v660,rfl,ho0,ho1,hb⟩;refine ⟨_,rfl,?_⟩;have n0_:=aM (Kd.R_lower ho0 (below_size (z4_ HB.out z6.out)));have n1_:=aM (Kd.R_lower ho1 (below_size (z4_ HB.out z6.out)));have n2_:=aM (blkB_ S5.out hb);have n3_:=aM (below_step (z4_ HB.out z6.out) hb);clear S5;clear HB;have Cw0:=n0_;have HO661:=n1_;have S5:=n2_;have HB:=n3_;clear n0_ n1_ n2_ n3_;(try clear hb);(try clear ho0);(try clear ho1)))
    go_ret
    exact ⟨_,z8_,z47_ Cw0.out,z4_ HB.out z6.out⟩


/-! ### Y67: function 20 -/
def Y67.f (k:Nat) (a0:ByteArray):Option (Int):=(Y69.f k (([a0]:List ByteArray))).bind fun BB3=>(if BB3=true then (some 0) else ((Y56.f k a0).bind fun Ae5=>(some Ae5)))
theorem Y67.mono:∀ a0 k,LeO (Y67.f k a0) (Y67.f (k+1) a0):=by
 intro a0 k
 have m0:=@Y56.mono
 have m1:=@Y69.mono
 unfold Y67.f
 exact mO
theorem Y67.calls (k:Nat) (a0:ByteArray) (r:Int) (w:World) (h:Y67.f k a0=some r) :
  Calls Tryz.prog 20 #[.string a0] w fun e w'=>e = .returned (.int .i64 r)∧Below w.heap.size w w':=by
 have HB:=aM (Below.refl w.heap.size w)
 have H:((Y69.f k (([a0]:List ByteArray))).bind fun BB3=>(if BB3=true then (some 0) else ((Y56.f k a0).bind fun Ae5=>(some Ae5))))=some r:=h
 clear h
 obtain ⟨Bm6,BB4⟩:∃ y_:List ByteArray,y_=(([a0]:List ByteArray)):=⟨_,rfl⟩
 replace H:((Y69.f k Bm6).bind fun BB3=>(if BB3=true then (some 0) else ((Y56.f k a0).bind fun Ae5=>(some Ae5))))=some r:=by first | (rw [BB4];with_reducible exact H) | (have H2_:=(Option.bind_some _ _).symm.trans H;rw [BB4];with_reducible exact H2_) | (have H2_:=(Option.bind_some _ _).symm.trans H;with_reducible exact H2_) | with_reducible exact H | (rw [BB4];exact H) | exact H
 have BQ2:=aM BB4
 clear BB4
 replace H:=bS H
 obtain ⟨BB3,A20,H⟩:=H
 replace H:(if BB3=true then (some 0) else ((Y56.f k a0).bind fun Ae5=>(some Ae5)))=some r:=H
 have A2:=aM A20
 clear A20
 by_cases c3:BB3=true
 ·subst c3
  have H1:(some 0)=some r:=by rw [if_pos rfl] at H;exact H
  clear H
  have H:=H1
  clear H1
  obtain rfl:=sI H
  go_enter Tryz.func20,Tryz.ntmps20
  go_wp2_with (first | ((with_reducible refine gd_ 4 ?_);refine Kd.R_lit Kd.string _ 9 ?hg (N:=4) ?hd (xs:=([a0]:List ByteArray)) (inner:=[.string a0]) (ok:=fun _=>True) (okp:=fun _=>True) ?hr ?hp (fun _ hk=>hk) trivial (Below.refl _ _) (Nat.le_refl _) (by simp) ?_;(case hd=>rfl);(case hg=>rfl);(case hr=>first | (go_simp;done) | (go_simp;rfl));(case hp=>exact (Reps.one (show Kd.M Kd.string _ _ _ a0 [.string a0] from rfl) (Reps.none _ _)));intro C75 w4 ho5 hb hg_ hnew_;clear hg_ hnew_;(first | rw [← BQ2.out] at ho5 | (simp only [Int.reduceToNat] at ho5;rw [← BQ2.out] at ho5));have n0_:=aM (Kd.R_lower ho5 (below_size (z6_ HB.out)));have n1_:=aM (below_step (z6_ HB.out) hb);clear HB;have Al5:=n0_;have HB:=n1_;clear n0_ n1_;clear hb ho5;obtain ⟨Ao6,co6,eo6⟩:=Kd.R_slice Al5.out;subst eo6) | ((with_reducible refine gc_ 53 ?_);refine gl_ (some 5) Tryz.func53 #[.slice Ao6 Bm6.length co6] ?_;(with_reducible refine (Y69.calls k _ _ Bm6 true _ ?s1 ?s2 A2.out).mono ?_);(case s1=>repeat (first | exact (Kd.R_reads' Al5.out).2.2 | (with_reducible refine Kd.C_alloc ?_ _) | (with_reducible refine Kd.C_drewN ?_ _) | (with_reducible refine Kd.C_drew ?_)));(case s2=>exact (Kd.R_reads' Al5.out).2.1);rintro e w' ⟨rfl,⟨nd,rfl⟩⟩;refine ⟨_,rfl,?_⟩))
  go_ret
  exact ⟨z8_,z6_ HB.out⟩
 ·replace c3:=Bool.eq_false_iff.mpr c3
  subst c3
  have H1:((Y56.f k a0).bind fun Ae5=>(some Ae5))=some r:=by rw [if_neg (show ¬ (false=true) by decide)] at H;exact H
  clear H
  have H:=H1
  clear H1
  replace H:=bS H
  obtain ⟨Ae5,A70,H⟩:=H
  replace H:(some Ae5)=some r:=H
  have A7:=aM A70
  clear A70
  obtain rfl:=sI H
  go_enter Tryz.func20,Tryz.ntmps20
  go_wp2_with (first | ((with_reducible refine gd_ 4 ?_);refine Kd.R_lit Kd.string _ 9 ?hg (N:=4) ?hd (xs:=([a0]:List ByteArray)) (inner:=[.string a0]) (ok:=fun _=>True) (okp:=fun _=>True) ?hr ?hp (fun _ hk=>hk) trivial (Below.refl _ _) (Nat.le_refl _) (by simp) ?_;(case hd=>rfl);(case hg=>rfl);(case hr=>first | (go_simp;done) | (go_simp;rfl));(case hp=>exact (Reps.one (show Kd.M Kd.string _ _ _ a0 [.string a0] from rfl) (Reps.none _ _)));intro C75 w8 ho9 hb hg_ hnew_;clear hg_ hnew_;(first | rw [← BQ2.out] at ho9 | (simp only [Int.reduceToNat] at ho9;rw [← BQ2.out] at ho9));have n0_:=aM (Kd.R_lower ho9 (below_size (z6_ HB.out)));have n1_:=aM (below_step (z6_ HB.out) hb);clear HB;have Al5:=n0_;have HB:=n1_;clear n0_ n1_;clear hb ho9;obtain ⟨C76,Cd3,Bt0⟩:=Kd.R_slice Al5.out;subst Bt0) | ((with_reducible refine gc_ 53 ?_);refine gl_ (some 5) Tryz.func53 #[.slice C76 Bm6.length Cd3] ?_;(with_reducible refine (Y69.calls k _ _ Bm6 false _ ?s1 ?s2 A2.out).mono ?_);(case s1=>repeat (first | exact (Kd.R_reads' Al5.out).2.2 | (with_reducible refine Kd.C_alloc ?_ _) | (with_reducible refine Kd.C_drewN ?_ _) | (with_reducible refine Kd.C_drew ?_)));(case s2=>exact (Kd.R_reads' Al5.out).2.1);rintro e w' ⟨rfl,⟨nd,rfl⟩⟩;refine ⟨_,rfl,?_⟩) | ((with_reducible refine gc_ 54 ?_);refine gl_ (some 7) Tryz.func54 #[.string a0] ?_;(with_reducible refine (Y56.calls k a0 Ae5 _ A7.out).mono ?_);rintro e w' ⟨rfl,⟨nd,rfl⟩⟩;refine ⟨_,rfl,?_⟩))
  go_ret
  exact ⟨z8_,z6_ HB.out⟩


/-! ### Y64: function 21 -/
def Y64.f (k:Nat) (a0:ByteArray):Option (Int):=if (a0.size:Int)>8000 then (some 0) else ((Y44.f k a0).bind fun BW5=>(some BW5))
theorem Y64.mono:∀ a0 k,LeO (Y64.f k a0) (Y64.f (k+1) a0):=by
 intro a0 k
 have m0:=@Y44.mono
 unfold Y64.f
 exact mO
theorem Y64.calls (k:Nat) (a0:ByteArray) (r:Int) (w:World) (h:Y64.f k a0=some r) :
  Calls Tryz.prog 21 #[.string a0] w fun e w'=>e = .returned (.int .i64 r)∧Drawn0 w w':=by
 have H:(if (a0.size:Int)>8000 then (some 0) else ((Y44.f k a0).bind fun BW5=>(some BW5)))=some r:=h
 clear h
 by_cases c2:(a0.size:Int)>8000
 ·rw [if_pos c2] at H
  have c2b0:decide (8000<(a0.size:Int))=true:=dE c2
  have c2b1:decide (8000<a0.size)=true:=dE (by omega)
  clear c2
  obtain rfl:=sI H
  go_enter Tryz.func21,Tryz.ntmps21
  go_wp2
  go_ret
  exact ⟨z2_,z5_⟩
 ·rw [if_neg c2] at H
  have c2b0:decide (8000<(a0.size:Int))=false:=dF c2
  have c2b1:decide (8000<a0.size)=false:=dF (by omega)
  clear c2
  replace H:=bS H
  obtain ⟨BW5,A30,H⟩:=H
  replace H:(some BW5)=some r:=H
  have A3:=aM A30
  clear A30
  obtain rfl:=sI H
  go_enter Tryz.func21,Tryz.ntmps21
  go_wp2_with (first | ((with_reducible refine gc_ 55 ?_);refine gl_ (some 7) Tryz.func55 #[.string a0] ?_;(with_reducible refine (Y44.calls k a0 BW5 _ A3.out).mono ?_);rintro e w' ⟨rfl,⟨nd,rfl⟩⟩;refine ⟨_,rfl,?_⟩))
  go_ret
  exact ⟨z2_,z5_⟩

end Go.Proofs.YtelecnmflodkkaaGreatDoor.P
