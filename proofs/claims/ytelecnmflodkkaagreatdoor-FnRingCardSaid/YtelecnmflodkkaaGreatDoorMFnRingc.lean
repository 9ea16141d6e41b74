/- A drawn key's order holds each node once; its first owner is the first of these; drawn stand-ins are not down and all different; and the program's rings, orders, owners, stand-ins and hashes are the reference's. No condition. (Part 3 of 5: written by programs of this workplace and by hand, merged.) -/
import Derived.Test.YtelecnmflodkkaaGreatDoorMFnRinga
import Derived.Test.YtelecnmflodkkaaGreatDoorMFnRingb
import Derived.Lib.SliceRun
set_option linter.unusedVariables false
set_option linter.unusedSimpArgs false
set_option maxHeartbeats 8000000
set_option maxRecDepth 100000

namespace Go.Proofs.YtelecnmflodkkaaGreatDoor.P
open Go.RowKit Go.Proofs.YtelecnmflodkkaaGreatDoorW.PrintWords Go.Proofs.YtelecnmflodkkaaGreatDoorW.PrintLast Go.Proofs.YtelecnmflodkkaaGreatDoorW.PrintMore
attribute [local go_sem] max2_int min2_int max_two min_two max_three min_three max_four min_four   -- for this text's walks alone
set_option linter.unusedVariables false
set_option linter.unusedSimpArgs false

/-! ### Y1: function 103 -/
mutual
def Y1.l0:Nat→List (S78)→Int→Int→Int→Bool→Bool→Option ((List (S78)))
 | 0,_,_,_,_,_,_=>none
 | k+1,x0,x1,x2,x3,x10,x11=>if (wrap64 (x2-x1))≤12 then ((Y2.f k x0 x1 x2).bind fun Bu9=>(some Bu9)) else (if x3=0 then ((Y66.f x0 x1 x2).bind fun _=>(some x0)) else (if x10=true then (Y1.j1 k x0 x1 x2 x3 x10 x11 (wrap64 (x2-x1))) else ((Y53.f x0 x1 x2).bind fun _=>(Y1.j1 k x0 x1 x2 (wrap64 (x3-1)) x10 x11 (wrap64 (x2-x1))))))
def Y1.j1:Nat→List (S78)→Int→Int→Int→Bool→Bool→Int→Option ((List (S78)))
 | 0,_,_,_,_,_,_,_=>none
 | k+1,x0,x1,x2,x3,x10,x11,x12=>(Y8.f k x0 x1 x2).bind fun BM8=>(if BM8.2=2 then ((Y54.f x0 x1 x2).bind fun _=>(Y1.j2 k x0 x1 x2 x3 x10 x11 x12 (wrap64 ((wrap64 (x2-1))-(wrap64 (BM8.1-x1)))) 1)) else (Y1.j2 k x0 x1 x2 x3 x10 x11 x12 BM8.1 BM8.2))
def Y1.j2:Nat→List (S78)→Int→Int→Int→Bool→Bool→Int→Int→Int→Option ((List (S78)))
 | 0,_,_,_,_,_,_,_,_,_=>none
 | k+1,x0,x1,x2,x3,x10,x11,x12,x13,x14=>if x10=true then (if x11=true then (Y1.j3 k x0 x1 x2 x3 x10 x11 x12 x13 (x14 == 1)) else (Y1.j3 k x0 x1 x2 x3 x10 x11 x12 x13 false)) else (Y1.j3 k x0 x1 x2 x3 x10 x11 x12 x13 false)
def Y1.j3:Nat→List (S78)→Int→Int→Int→Bool→Bool→Int→Int→Bool→Option ((List (S78)))
 | 0,_,_,_,_,_,_,_,_,_=>none
 | k+1,x0,x1,x2,x3,x10,x11,x12,x13,x75=>if x75=true then ((Y45.f x0 x1 x2).bind fun BS5=>(if BS5=true then (some x0) else (Y1.j4 k x0 x1 x2 x3 x10 x11 x12 x13))) else (Y1.j4 k x0 x1 x2 x3 x10 x11 x12 x13)
def Y1.j4:Nat→List (S78)→Int→Int→Int→Bool→Bool→Int→Int→Option ((List (S78)))
 | 0,_,_,_,_,_,_,_,_=>none
 | k+1,x0,x1,x2,x3,x10,x11,x12,x13=>if x1>0 then (if 0≤(wrap64 (x1-1)) then (if (wrap64 (x1-1))<(x0.length:Int) then (if 0≤x13 then (if x13<(x0.length:Int) then ((Y38.f k ((rd_T78 x0 (wrap64 (x1-1))).f0) ((rd_T78 x0 (wrap64 (x1-1))).f1) ((rd_T78 x0 x13).f0) ((rd_T78 x0 x13).f1)).bind fun BD4=>(Y1.j5 k x0 x1 x2 x3 x10 x11 x12 x13 (!(decide (BD4<0))))) else (none)) else (none)) else (none)) else (none)) else (Y1.j5 k x0 x1 x2 x3 x10 x11 x12 x13 false)
def Y1.j5:Nat→List (S78)→Int→Int→Int→Bool→Bool→Int→Int→Bool→Option ((List (S78)))
 | 0,_,_,_,_,_,_,_,_,_=>none
 | k+1,x0,x1,x2,x3,x10,x11,x12,x13,x97=>if x97=true then ((Y52.f x0 x1 x2 x13).bind fun BD5=>(Y1.l0 k x0 BD5 x2 x3 x10 x11)) else ((Y0.f k x0 x1 x2 x13).bind fun V2=>(if (wrap64 (V2.1-x1))<(wrap64 (x2-V2.1)) then ((Y1.f k V2.2.2 x1 V2.1 x3).bind fun As5=>(Y1.l0 k As5 (wrap64 (V2.1+1)) x2 x3 (decide ((wrap64 (V2.1-x1))≥(wrap64 (Int.tdiv x12 8)))) V2.2.1)) else ((Y1.f k V2.2.2 (wrap64 (V2.1+1)) x2 x3).bind fun As6=>(Y1.l0 k As6 x1 V2.1 x3 (decide ((wrap64 (x2-V2.1))≥(wrap64 (Int.tdiv x12 8)))) V2.2.1))))
def Y1.f:Nat→List (S78)→Int→Int→Int→Option ((List (S78)))
 | 0,_,_,_,_=>none
 | k+1,l0,a1,a2,a3=>Y1.l0 k l0 a1 a2 a3 true true
end
theorem Y1.mono_l:∀ k,(∀ y0 y1 y2 y3,LeO (Y1.f k y0 y1 y2 y3) (Y1.f (k+1) y0 y1 y2 y3))∧(∀ y0 y1 y2 y3 y4 y5,LeO (Y1.l0 k y0 y1 y2 y3 y4 y5) (Y1.l0 (k+1) y0 y1 y2 y3 y4 y5))∧(∀ y0 y1 y2 y3 y4 y5 y6,LeO (Y1.j1 k y0 y1 y2 y3 y4 y5 y6) (Y1.j1 (k+1) y0 y1 y2 y3 y4 y5 y6))∧(∀ y0 y1 y2 y3 y4 y5 y6 y7 y8,LeO (Y1.j2 k y0 y1 y2 y3 y4 y5 y6 y7 y8) (Y1.j2 (k+1) y0 y1 y2 y3 y4 y5 y6 y7 y8))∧(∀ y0 y1 y2 y3 y4 y5 y6 y7 y8,LeO (Y1.j3 k y0 y1 y2 y3 y4 y5 y6 y7 y8) (Y1.j3 (k+1) y0 y1 y2 y3 y4 y5 y6 y7 y8))∧(∀ y0 y1 y2 y3 y4 y5 y6 y7,LeO (Y1.j4 k y0 y1 y2 y3 y4 y5 y6 y7) (Y1.j4 (k+1) y0 y1 y2 y3 y4 y5 y6 y7))∧(∀ y0 y1 y2 y3 y4 y5 y6 y7 y8,LeO (Y1.j5 k y0 y1 y2 y3 y4 y5 y6 y7 y8) (Y1.j5 (k+1) y0 y1 y2 y3 y4 y5 y6 y7 y8))
 | 0=>by refine ⟨?_,?_,?_,?_,?_,?_,?_⟩ <;> intros <;> exact LeO.none _
 | k+1=>by
  obtain ⟨ih0,ih1,ih2,ih3,ih4,ih5,ih6⟩:=Y1.mono_l k
  have m0:=@Y38.mono
  have m1:=@Y8.mono
  have m2:=@Y2.mono
  have m3:=@Y0.mono
  refine ⟨?_,?_,?_,?_,?_,?_,?_⟩
  ·intros
   unfold Y1.f
   exact mO
  ·intros
   unfold Y1.l0
   exact mO
  ·intros
   unfold Y1.j1
   exact mO
  ·intros
   unfold Y1.j2
   exact mO
  ·intros
   unfold Y1.j3
   exact mO
  ·intros
   unfold Y1.j4
   exact mO
  ·intros
   unfold Y1.j5
   exact mO
theorem Y1.mono:∀ a0 a1 a2 a3 k,LeO (Y1.f k a0 a1 a2 a3) (Y1.f (k+1) a0 a1 a2 a3):=by
 intro a0 a1 a2 a3 k
 obtain ⟨ih0,ih1,ih2,ih3,ih4,ih5,ih6⟩:=Y1.mono_l k
 exact ih0 a0 a1 a2 a3
def Y1.T17:Bool × List (List Nat × List Nat):=(true,[([],[]),([0],[0]),([1],[1]),([2],[2]),([2],[2]),([2],[2]),([5,2],[2,5]),([4,6,2],[2,4,6]),([7,2],[2,7]),([2],[2]),([2],[2]),([9,10,2],[2,9,10]),([11,2],[2,11]),([3,8,12,2,2],[2,3,8,12]),([13,2],[2,13]),([14,2],[2,14]),([2,15],[2,15])])
def Y1.B17:List Nat:=[0,1,3,7,7,7,39,119,247,7,7,1543,3591,8191,16383,32767,65535]
theorem Y1.tab17:rtab .any (opsOf Tryz.f103 17)=Y1.T17:=by kernel_rfl
theorem Y1.bits17:waitsOk Y1.T17.2 Y1.B17=true:=by kernel_rfl
abbrev Y1.q0:Array Bool:=#[O,O,O,O,O,O,O,O,O,O,O,O,O,O,O,O,O]
abbrev Y1.q1:Array Bool:=#[I,O,O,O,O,O,O,O,O,O,O,O,O,O,O,O,O]
abbrev Y1.q2:Array Bool:=#[I,I,O,O,O,O,O,O,O,O,O,O,O,O,O,O,O]
abbrev Y1.q3:Array Bool:=#[I,I,I,O,O,O,O,O,O,O,O,O,O,O,O,O,O]
abbrev Y1.q4:Array Bool:=#[I,I,I,I,O,O,O,O,O,O,O,O,O,O,O,O,O]
abbrev Y1.q5:Array Bool:=#[I,I,I,I,I,O,O,O,O,O,O,O,O,O,O,O,O]
abbrev Y1.q6:Array Bool:=#[I,I,I,I,I,I,O,O,O,O,O,O,O,O,O,O,O]
abbrev Y1.q7:Array Bool:=#[I,I,I,I,I,I,I,O,O,O,O,O,O,O,O,O,O]
abbrev Y1.q8:Array Bool:=#[I,I,I,I,I,I,I,I,O,O,O,O,O,O,O,O,O]
abbrev Y1.q9:Array Bool:=#[I,I,I,I,I,I,I,I,I,I,I,I,O,O,O,O,O]
abbrev Y1.q10:Array Bool:=#[I,I,I,I,I,I,I,I,I,I,I,I,I,O,O,O,O]
abbrev Y1.q11:Array Bool:=#[I,I,I,I,I,I,I,I,I,I,I,I,I,I,O,O,O]
abbrev Y1.q12:Array Bool:=#[I,I,I,I,I,I,I,I,I,I,I,I,I,I,I,O,O]
abbrev Y1.q13:Array Bool:=#[I,I,I,I,I,I,I,I,I,I,I,I,I,I,I,I,O]
abbrev Y1.q14:Array Bool:=#[I,I,I,I,I,I,I,I,I,I,I,I,I,I,I,I,I]
theorem Y1.calls (k:Nat):∀ (P0_:Nat→Prop) (M0:Value) (l0:List (S78)) (a1:Int) (a2:Int) (a3:Int)  (r:List (S78)) (w0 w:World) (hB:Below w0.heap.size w0 w) (ho0:Kd.R k78 78 w w0.heap.size P0_ M0 l0) (h:Y1.f k l0 a1 a2 a3=some r),
  Calls Tryz.prog 103 #[M0,.int .i64 a1,.int .i64 a2,.int .i64 a3,.func (.func 72) #[] #[]] w fun e w'=>e = .returned (.tuple #[])∧Kd.R k78 78 w' w0.heap.size (fun k_=>(P0_ k_∨w.heap.size≤k_)) M0 r∧Below w0.heap.size w0 w'∧Kept w w' (fun k_=>P0_ k_):=by
 induction k using Nat.strongRecOn with
 | _ k ih =>
 intro P0_ M0 l0 a1 a2 a3 r w0 w hB ho0 h
 cases k with
 | zero=>exact absurd h (by simp [Y1.f])
 | succ k =>
 simp only [Y1.f] at h
 have Ah1:=Tryz.underlying78
 have HO0:=aM (show Kd.R k78 78 w w0.heap.size (fun k_=>(P0_ k_∨w.heap.size≤k_)) M0 l0 from Kd.R_mono ho0 (fun k_ hk=>(.inl hk)))
 have HK:=aM (Kept.refl w (fun k_=>P0_ k_))
 have HW0:=aM hB.size
 have HB:=aM hB
 clear hB
 have H:(Y1.l0 k l0 a1 a2 a3 true true)=some r:=h
 clear h
 have H':=aM H
 clear H
 go_enter Tryz.func103,Tryz.ntmps103
 go_wp2
 go_loopg [1,2,3,10,11] k (fun kq v1 v2 v3 v10 v11 w'=>∃ (D4:List (S78)) (F9:Int) (F5:Int) (I0:Int) (L0:Bool) (F7:Bool),v1 = .int .i64 F9∧v2 = .int .i64 F5∧v3 = .int .i64 I0∧v10 = .bool L0∧v11 = .bool F7∧Aside0 (Y1.l0 kq D4 F9 F5 I0 L0 F7=some r)∧Aside0 (kq≤k)∧Aside0 (Kd.R k78 78 w' w0.heap.size (fun k_=>(P0_ k_∨w.heap.size≤k_)) M0 D4)∧Aside0 (Kept w w' (fun k_=>P0_ k_))∧Aside0 (Below w0.heap.size w0 w'))
 case atStart=>exact ⟨(l0),(a1),(a2),(a3),(true),(true),(z2_),(z2_),(z2_),(z2_),(z2_),H',⟨Nat.le_refl _⟩,⟨z0_ HO0.out⟩,⟨z11_ HK.out⟩,⟨z6_ HB.out⟩⟩
 case round =>
  clear H'
  try clear p2
  obtain ⟨D4,F9,F5,I0,L0,F7,rfl,rfl,rfl,rfl,rfl,HA,HK1,C2,HK,HB⟩:=hrel
  cases gk with
  | zero=>exact absurd HA.out (by simp [Y1.l0])
  | succ k1 =>
   have H:=HA.out
   clear HA
   simp only [Y1.l0] at H
   by_cases c6:(wrap64 (F5-F9))≤12
   ·rw [if_pos c6] at H
    have c6b0:decide ((wrap64 (F5-F9))≤12)=true:=dE c6
    clear c6
    replace H:=bS H
    obtain ⟨Bu9,A70,H⟩:=H
    replace H:(some Bu9)=some r:=H
    have A7:=aM A70
    clear A70
    obtain rfl:=sI H
    obtain ⟨Ao8,co8,eo8⟩:=Kd.R_slice C2.out
    subst eo8
    go_wp2_with (first | ((with_reducible refine gc_ 127 ?_);refine gl_ (some 30) Tryz.func127 #[.slice Ao8 D4.length co8,.int .i64 F9,.int .i64 F5,.func (.func 72) #[] #[]] ?_;(with_reducible refine (Y2.calls k1 (fun k_=>some k_=(.slice Ao8 D4.length co8:Value).ownBlock) (.slice Ao8 D4.length co8) D4 F9 F5  Bu9 w0 _ ?s1 ?s2 A7.out).mono ?_);(case s1=>repeat (first | (with_reducible first | exact HB.out | apply below_alloc | apply pw_below_drewN | apply below_drew1) | exact HB.out));(case s2=>exact Kd.R_tight rfl C2.out);rintro e w9 ⟨rfl,hy0,hb,hkp⟩;refine ⟨_,rfl,?_⟩;have n0_:=aM (Kd.R_reok rfl hy0 (fun k_ e_=>C2.out.1 k_ e_));have n1_:=aM (Kept.then_ (S:=(fun k_=>P0_ k_)) (z11_ HK.out) hkp (fun k_ hs_=>(fun e_=>(C2.out.1 k_ e_.symm)) hs_));have n2_:=aM (hb);clear C2;clear HK;clear HB;have C2:=n0_;have HK:=n1_;have HB:=n2_;clear n0_ n1_ n2_;(try clear hb);(try clear hkp);(try clear hy0)))
    first | go_end0 | ((try simp only [Exit.inBlock,Exit.then]);refine bodyPost_ret (results_none rfl _ _ _) rfl ?_)
    exact ⟨z8_,z0_ C2.out,z6_ HB.out,z11_ HK.out⟩
   ·rw [if_neg c6] at H
    have c6b0:decide ((wrap64 (F5-F9))≤12)=false:=dF c6
    clear c6
    by_cases c10:I0=0
    ·rw [if_pos c10] at H
     have c10b0:(I0 == 0)=true:=beq_iff_eq.mpr c10
     have c10b1:(I0 != 0)=false:=bne_eq_false_iff_eq.mpr c10
     clear c10
     replace H:=bS H
     obtain ⟨_,f7,H⟩:=H
     replace H:(some D4)=some r:=H
     have A11:=aM f7
     clear f7
     obtain rfl:=sI H
     obtain ⟨U4,N5,Ai5⟩:=Kd.R_slice C2.out
     subst Ai5
     go_wp2_with (first | ((with_reducible refine gc_ 128 ?_);refine gl_ (some 37) Tryz.func128 #[.slice U4 D4.length N5,.int .i64 F9,.int .i64 F5,.func (.func 72) #[] #[]] ?_;(with_reducible refine (Y66.calls _ _ D4 F9 F5   _ ?s1 ?s2 A11.out).mono ?_);(case s1=>repeat (first | exact (Kd.R_reads' C2.out).2.2 | (with_reducible refine Kd.C_alloc ?_ _) | (with_reducible refine Kd.C_drewN ?_ _) | (with_reducible refine Kd.C_drew ?_)));(case s2=>exact (Kd.R_reads' C2.out).2.1);rintro e w' ⟨rfl,⟨nd,rfl⟩⟩;refine ⟨_,rfl,?_⟩))
     first | go_end0 | ((try simp only [Exit.inBlock,Exit.then]);refine bodyPost_ret (results_none rfl _ _ _) rfl ?_)
     exact ⟨z8_,z0_ C2.out,z6_ HB.out,z11_ HK.out⟩
    ·rw [if_neg c10] at H
     have c10b0:(I0 == 0)=false:=beq_eq_false_iff_ne.mpr c10
     have c10b1:(I0 != 0)=true:=bne_iff_ne.mpr c10
     have CM4:=aM H
     clear H
     go_upto_if 39 with (fail)
     go_cut [3] (fun v3 wc=>∃ (kq:Nat) (L3:Int),v3 = .int .i64 L3∧Aside0 (Y1.j1 kq D4 F9 F5 L3 L0 F7 (wrap64 (F5-F9))=some r)∧Aside0 (kq≤k1)∧Aside0 (Kd.R k78 78 wc w0.heap.size (fun k_=>(P0_ k_∨w.heap.size≤k_)) M0 D4)∧Aside0 (Kept w wc (fun k_=>P0_ k_))∧Aside0 (Below w0.heap.size w0 wc))
     case first =>
      have H:=CM4.out
      clear CM4
      by_cases c14:L0=true
      ·subst c14
       have H1:(Y1.j1 k1 D4 F9 F5 I0 true F7 (wrap64 (F5-F9)))=some r:=by rw [if_pos rfl] at H;exact H
       clear H
       have H:=H1
       clear H1
       have H':=aM H
       clear H
       go_wp2
       go_meet
       case rel=>exact ⟨_,(I0),(z2_),H',⟨z21_ HK1.out⟩,⟨z0_ C2.out⟩,⟨z11_ HK.out⟩,⟨z6_ HB.out⟩⟩
      ·replace c14:=Bool.eq_false_iff.mpr c14
       subst c14
       have H1:((Y53.f D4 F9 F5).bind fun _=>(Y1.j1 k1 D4 F9 F5 (wrap64 (I0-1)) false F7 (wrap64 (F5-F9))))=some r:=by rw [if_neg (show ¬ (false=true) by decide)] at H;exact H
       clear H
       have H:=H1
       clear H1
       replace H:=bS H
       obtain ⟨_,AV4,H⟩:=H
       replace H:(Y1.j1 k1 D4 F9 F5 (wrap64 (I0-1)) false F7 (wrap64 (F5-F9)))=some r:=H
       have A15:=aM AV4
       clear AV4
       have H':=aM H
       clear H
       obtain ⟨C28,Ck8,Bv0⟩:=Kd.R_slice C2.out
       subst Bv0
       go_wp2_with (first | ((with_reducible refine gc_ 129 ?_);refine gl_ (some 44) Tryz.func129 #[.slice C28 D4.length Ck8,.int .i64 F9,.int .i64 F5,.func (.func 72) #[] #[]] ?_;(with_reducible refine (Y53.calls _ _ D4 F9 F5   _ ?s1 ?s2 A15.out).mono ?_);(case s1=>repeat (first | exact (Kd.R_reads' C2.out).2.2 | (with_reducible refine Kd.C_alloc ?_ _) | (with_reducible refine Kd.C_drewN ?_ _) | (with_reducible refine Kd.C_drew ?_)));(case s2=>exact (Kd.R_reads' C2.out).2.1);rintro e w' ⟨rfl,⟨nd,rfl⟩⟩;refine ⟨_,rfl,?_⟩))
       go_meet
       case rel=>exact ⟨_,(wrap64 (I0-1)),(z2_),H',⟨z21_ HK1.out⟩,⟨z0_ C2.out⟩,⟨z11_ HK.out⟩,⟨z6_ HB.out⟩⟩
     case rest =>
      clear CM4
      try clear c1
      try clear p2
      try clear c6
      try clear c6b0
      try clear p6
      try clear c7
      try clear c10
      try clear c10b0
      try clear c10b1
      try clear c14
      try clear p2
      obtain ⟨kq,L3,rfl,HA,AL4,C2,HK,HB⟩:=hcut
      cases kq with
      | zero=>exact absurd HA.out (by simp [Y1.j1])
      | succ Bh1 =>
       have H:=HA.out
       clear HA
       simp only [Y1.j1] at H
       replace H:=bS H
       obtain ⟨⟨BS6,As7⟩,Ai9,H⟩:=H
       replace H:(if As7=2 then ((Y54.f D4 F9 F5).bind fun _=>(Y1.j2 Bh1 D4 F9 F5 L3 L0 F7 (wrap64 (F5-F9)) (wrap64 ((wrap64 (F5-1))-(wrap64 (BS6-F9)))) 1)) else (Y1.j2 Bh1 D4 F9 F5 L3 L0 F7 (wrap64 (F5-F9)) BS6 As7))=some r:=H
       have A17:=aM Ai9
       clear Ai9
       have CM5:=aM H
       clear H
       obtain ⟨AE2,AE3,C29⟩:=Kd.R_slice C2.out
       subst C29
       go_upto_if 56 with (first | ((with_reducible refine gc_ 130 ?_);refine gl_ (some 52) Tryz.func130 #[.slice AE2 D4.length AE3,.int .i64 F9,.int .i64 F5,.func (.func 72) #[] #[]] ?_;(with_reducible refine (Y8.calls Bh1 _ _ D4 F9 F5  BS6 As7 _ ?s1 ?s2 A17.out).mono ?_);(case s1=>repeat (first | exact (Kd.R_reads' C2.out).2.2 | (with_reducible refine Kd.C_alloc ?_ _) | (with_reducible refine Kd.C_drewN ?_ _) | (with_reducible refine Kd.C_drew ?_)));(case s2=>exact (Kd.R_reads' C2.out).2.1);rintro e w20 ⟨rfl,hb⟩;refine ⟨_,rfl,?_⟩;have n0_:=aM (Kd.R_below (z0_ C2.out) hb);have n1_:=aM (Kept.below (S:=(fun k_=>P0_ k_)) (z11_ HK.out) hb);have n2_:=aM (below_step (z6_ HB.out) hb);clear C2;clear HK;clear HB;have C2:=n0_;have HK:=n1_;have HB:=n2_;clear n0_ n1_ n2_;(try clear hb)))
       (try simp only [Act.put,sa_,s0_,ss_])
       go_cut [13,14] (fun v13 v14 wc=>∃ (kq:Nat) (H7:Int) (AZ7:Int),v13 = .int .i64 H7∧v14 = .int .i64 AZ7∧Aside0 (Y1.j2 kq D4 F9 F5 L3 L0 F7 (wrap64 (F5-F9)) H7 AZ7=some r)∧Aside0 (kq≤Bh1)∧Aside0 (Kd.R k78 78 wc w0.heap.size (fun k_=>(P0_ k_∨w.heap.size≤k_)) (.slice AE2 D4.length AE3) D4)∧Aside0 (Kept w wc (fun k_=>P0_ k_))∧Aside0 (Below w0.heap.size w0 wc))
       case first =>
        have H:=CM5.out
        clear CM5
        by_cases c21:As7=2
        ·rw [if_pos c21] at H
         have c21b0:(As7 == 2)=true:=beq_iff_eq.mpr c21
         have c21b1:(As7 != 2)=false:=bne_eq_false_iff_eq.mpr c21
         clear c21
         (first | rw [c21b0] | (simp only [i64_w,i32_w];rw [c21b0]) | skip)
         replace H:=bS H
         obtain ⟨_,Az1,H⟩:=H
         replace H:(Y1.j2 Bh1 D4 F9 F5 L3 L0 F7 (wrap64 (F5-F9)) (wrap64 ((wrap64 (F5-1))-(wrap64 (BS6-F9)))) 1)=some r:=H
         have A22:=aM Az1
         clear Az1
         have H':=aM H
         clear H
         go_wp2_with (first | ((with_reducible refine gc_ 131 ?_);refine gl_ (some 61) Tryz.func131 #[.slice AE2 D4.length AE3,.int .i64 F9,.int .i64 F5,.func (.func 72) #[] #[]] ?_;(with_reducible refine (Y54.calls _ _ D4 F9 F5   _ ?s1 ?s2 A22.out).mono ?_);(case s1=>repeat (first | exact (Kd.R_reads' C2.out).2.2 | (with_reducible refine Kd.C_alloc ?_ _) | (with_reducible refine Kd.C_drewN ?_ _) | (with_reducible refine Kd.C_drew ?_)));(case s2=>exact (Kd.R_reads' C2.out).2.1);rintro e w' ⟨rfl,⟨nd,rfl⟩⟩;refine ⟨_,rfl,?_⟩))
         go_meet
         case rel=>exact ⟨_,(wrap64 ((wrap64 (F5-1))-(wrap64 (BS6-F9)))),(1),(z2_),(z2_),H',⟨z31_ HK1.out AL4.out⟩,⟨z0_ C2.out⟩,⟨z11_ HK.out⟩,⟨z6_ HB.out⟩⟩
        ·rw [if_neg c21] at H
         have c21b0:(As7 == 2)=false:=beq_eq_false_iff_ne.mpr c21
         have c21b1:(As7 != 2)=true:=bne_iff_ne.mpr c21
         (first | rw [c21b0] | (simp only [i64_w,i32_w];rw [c21b0]) | skip)
         have H':=aM H
         clear H
         go_wp2
         go_meet
         case rel=>exact ⟨_,(BS6),(As7),(z2_),(z2_),H',⟨z31_ HK1.out AL4.out⟩,⟨z0_ C2.out⟩,⟨z11_ HK.out⟩,⟨z6_ HB.out⟩⟩
       case rest =>
        clear CM5
        try clear c1
        try clear c2
        try clear p2
        try clear c6
        try clear c6b0
        try clear p6
        try clear c7
        try clear c10
        try clear c10b0
        try clear c10b1
        try clear c14
        try clear c21
        try clear c21b0
        try clear c21b1
        try clear p2
        try clear p6
        obtain ⟨kq,H7,AZ7,rfl,rfl,HA,AR7,C2,HK,HB⟩:=hcut
        cases kq with
        | zero=>exact absurd HA.out (by simp [Y1.j2])
        | succ BS7 =>
         have H:=HA.out
         clear HA
         simp only [Y1.j2] at H
         have CM6:=aM H
         clear H
         go_upto_region 15 with (fail)
         go_cut [75] (fun v75 wc=>∃ (kq:Nat) (As8:Bool),v75 = .bool As8∧Aside0 (Y1.j3 kq D4 F9 F5 L3 L0 F7 (wrap64 (F5-F9)) H7 As8=some r)∧Aside0 (kq≤BS7)∧Aside0 (Kd.R k78 78 wc w0.heap.size (fun k_=>(P0_ k_∨w.heap.size≤k_)) (.slice AE2 D4.length AE3) D4)∧Aside0 (Kept w wc (fun k_=>P0_ k_))∧Aside0 (Below w0.heap.size w0 wc))
         case first =>
          have H:=CM6.out
          clear CM6
          by_cases c24:L0=true
          ·subst c24
           have H1:(if F7=true then (Y1.j3 BS7 D4 F9 F5 L3 true F7 (wrap64 (F5-F9)) H7 (AZ7 == 1)) else (Y1.j3 BS7 D4 F9 F5 L3 true F7 (wrap64 (F5-F9)) H7 false))=some r:=by rw [if_pos rfl] at H;exact H
           clear H
           have H:=H1
           clear H1
           by_cases c25:F7=true
           ·subst c25
            have H1:(Y1.j3 BS7 D4 F9 F5 L3 true true (wrap64 (F5-F9)) H7 (AZ7 == 1))=some r:=by rw [if_pos rfl] at H;exact H
            clear H
            have H:=H1
            clear H1
            have H':=aM H
            clear H
            go_wp2
            go_meet
            case rel=>exact ⟨_,((AZ7 == 1)),(z2_),H',⟨z33_ HK1.out AL4.out AR7.out⟩,⟨z0_ C2.out⟩,⟨z11_ HK.out⟩,⟨z6_ HB.out⟩⟩
           ·replace c25:=Bool.eq_false_iff.mpr c25
            subst c25
            have H1:(Y1.j3 BS7 D4 F9 F5 L3 true false (wrap64 (F5-F9)) H7 false)=some r:=by rw [if_neg (show ¬ (false=true) by decide)] at H;exact H
            clear H
            have H:=H1
            clear H1
            have H':=aM H
            clear H
            go_wp2
            go_meet
            case rel=>exact ⟨_,(false),(z2_),H',⟨z33_ HK1.out AL4.out AR7.out⟩,⟨z0_ C2.out⟩,⟨z11_ HK.out⟩,⟨z6_ HB.out⟩⟩
          ·replace c24:=Bool.eq_false_iff.mpr c24
           subst c24
           have H1:(Y1.j3 BS7 D4 F9 F5 L3 false F7 (wrap64 (F5-F9)) H7 false)=some r:=by rw [if_neg (show ¬ (false=true) by decide)] at H;exact H
           clear H
           have H:=H1
           clear H1
           have H':=aM H
           clear H
           go_wp2
           go_meet
           case rel=>exact ⟨_,(false),(z2_),H',⟨z33_ HK1.out AL4.out AR7.out⟩,⟨z0_ C2.out⟩,⟨z11_ HK.out⟩,⟨z6_ HB.out⟩⟩
         case rest =>
          clear CM6
          try clear c1
          try clear c2
          try clear p2
          try clear c6
          try clear c6b0
          try clear p6
          try clear c7
          try clear c10
          try clear c10b0
          try clear c10b1
          try clear c14
          try clear c21
          try clear c21b0
          try clear c21b1
          try clear c24
          try clear c25
          try clear p2
          try clear p6
          obtain ⟨kq,As8,rfl,HA,Ad0,C2,HK,HB⟩:=hcut
          cases kq with
          | zero=>exact absurd HA.out (by simp [Y1.j3])
          | succ Bh2 =>
           have H:=HA.out
           clear HA
           simp only [Y1.j3] at H
           have CM7:=aM H
           clear H
           go_upto_if 75 with (fail)
           go_cut [] (fun wc=>∃ (kq:Nat),Aside0 (Y1.j4 kq D4 F9 F5 L3 L0 F7 (wrap64 (F5-F9)) H7=some r)∧Aside0 (kq≤Bh2)∧Aside0 (Kd.R k78 78 wc w0.heap.size (fun k_=>(P0_ k_∨w.heap.size≤k_)) (.slice AE2 D4.length AE3) D4)∧Aside0 (Kept w wc (fun k_=>P0_ k_))∧Aside0 (Below w0.heap.size w0 wc))
           case first =>
            have H:=CM7.out
            clear CM7
            by_cases c27:As8=true
            ·subst c27
             have H1:((Y45.f D4 F9 F5).bind fun BS5=>(if BS5=true then (some D4) else (Y1.j4 Bh2 D4 F9 F5 L3 L0 F7 (wrap64 (F5-F9)) H7)))=some r:=by rw [if_pos rfl] at H;exact H
             clear H
             have H:=H1
             clear H1
             replace H:=bS H
             obtain ⟨BS5,A09,H⟩:=H
             replace H:(if BS5=true then (some D4) else (Y1.j4 Bh2 D4 F9 F5 L3 L0 F7 (wrap64 (F5-F9)) H7))=some r:=H
             have A28:=aM A09
             clear A09
             by_cases c29:BS5=true
             ·subst c29
              have H1:(some D4)=some r:=by rw [if_pos rfl] at H;exact H
              clear H
              have H:=H1
              clear H1
              obtain rfl:=sI H
              go_wp2_with (first | ((with_reducible refine gc_ 132 ?_);refine gl_ (some 80) Tryz.func132 #[.slice AE2 D4.length AE3,.int .i64 F9,.int .i64 F5,.func (.func 72) #[] #[]] ?_;(with_reducible refine (Y45.calls _ _ D4 F9 F5  true _ ?s1 ?s2 A28.out).mono ?_);(case s1=>repeat (first | exact (Kd.R_reads' C2.out).2.2 | (with_reducible refine Kd.C_alloc ?_ _) | (with_reducible refine Kd.C_drewN ?_ _) | (with_reducible refine Kd.C_drew ?_)));(case s2=>exact (Kd.R_reads' C2.out).2.1);rintro e w' ⟨rfl,⟨nd,rfl⟩⟩;refine ⟨_,rfl,?_⟩))
              first | go_end0 | ((try simp only [Exit.inBlock,Exit.then]);refine bodyPost_ret (results_none rfl _ _ _) rfl ?_)
              exact ⟨z8_,z0_ C2.out,z6_ HB.out,z11_ HK.out⟩
             ·replace c29:=Bool.eq_false_iff.mpr c29
              subst c29
              have H1:(Y1.j4 Bh2 D4 F9 F5 L3 L0 F7 (wrap64 (F5-F9)) H7)=some r:=by rw [if_neg (show ¬ (false=true) by decide)] at H;exact H
              clear H
              have H:=H1
              clear H1
              have H':=aM H
              clear H
              go_wp2_with (first | ((with_reducible refine gc_ 132 ?_);refine gl_ (some 80) Tryz.func132 #[.slice AE2 D4.length AE3,.int .i64 F9,.int .i64 F5,.func (.func 72) #[] #[]] ?_;(with_reducible refine (Y45.calls _ _ D4 F9 F5  false _ ?s1 ?s2 A28.out).mono ?_);(case s1=>repeat (first | exact (Kd.R_reads' C2.out).2.2 | (with_reducible refine Kd.C_alloc ?_ _) | (with_reducible refine Kd.C_drewN ?_ _) | (with_reducible refine Kd.C_drew ?_)));(case s2=>exact (Kd.R_reads' C2.out).2.1);rintro e w' ⟨rfl,⟨nd,rfl⟩⟩;refine ⟨_,rfl,?_⟩))
              go_meet
              case rel=>exact ⟨_,H',⟨by have:=HK1.out;have:=AL4.out;have:=AR7.out;have:=Ad0.out;first | omega | exact Nat.le_refl _⟩,⟨z0_ C2.out⟩,⟨z11_ HK.out⟩,⟨z6_ HB.out⟩⟩
            ·replace c27:=Bool.eq_false_iff.mpr c27
             subst c27
             have H1:(Y1.j4 Bh2 D4 F9 F5 L3 L0 F7 (wrap64 (F5-F9)) H7)=some r:=by rw [if_neg (show ¬ (false=true) by decide)] at H;exact H
             clear H
             have H:=H1
             clear H1
             have H':=aM H
             clear H
             go_wp2
             go_meet
             case rel=>exact ⟨_,H',⟨by have:=HK1.out;have:=AL4.out;have:=AR7.out;have:=Ad0.out;first | omega | exact Nat.le_refl _⟩,⟨z0_ C2.out⟩,⟨z11_ HK.out⟩,⟨z6_ HB.out⟩⟩
           case rest =>
            clear CM7
            try clear c1
            try clear c2
            try clear p2
            try clear c6
            try clear c6b0
            try clear p6
            try clear c7
            try clear c10
            try clear c10b0
            try clear c10b1
            try clear c14
            try clear c21
            try clear c21b0
            try clear c21b1
            try clear c24
            try clear c25
            try clear c27
            try clear c29
            try clear p2
            try clear p6
            obtain ⟨kq,HA,An1,C2,HK,HB⟩:=hcut
            cases kq with
            | zero=>exact absurd HA.out (by simp [Y1.j4])
            | succ Bh3 =>
             have H:=HA.out
             clear HA
             simp only [Y1.j4] at H
             have CM8:=aM H
             clear H
             go_upto_region 17 with (fail)
             go_cut [97] (fun v97 wc=>∃ (kq:Nat) (As9:Bool),v97 = .bool As9∧Aside0 (Y1.j5 kq D4 F9 F5 L3 L0 F7 (wrap64 (F5-F9)) H7 As9=some r)∧Aside0 (kq≤Bh3)∧Aside0 (Kd.R k78 78 wc w0.heap.size (fun k_=>(P0_ k_∨w.heap.size≤k_)) (.slice AE2 D4.length AE3) D4)∧Aside0 (Kept w wc (fun k_=>P0_ k_))∧Aside0 (Below w0.heap.size w0 wc))
             case first =>
              have H:=CM8.out
              clear CM8
              by_cases c31:F9>0
              ·rw [if_pos c31] at H
               have c31b0:decide (0<F9)=true:=dE c31
               clear c31
               (first | rw [c31b0] | (simp only [i64_w,i32_w];rw [c31b0]) | skip)
               obtain ⟨AE4,BM9⟩:∃ j_:Int,(wrap64 (F9-1))=j_:=⟨_,rfl⟩
               replace H:(if 0≤(AE4) then (if (AE4)<(D4.length:Int) then (if 0≤H7 then (if H7<(D4.length:Int) then ((Y38.f Bh3 ((rd_T78 D4 (AE4)).f0) ((rd_T78 D4 (AE4)).f1) ((rd_T78 D4 H7).f0) ((rd_T78 D4 H7).f1)).bind fun BD4=>(Y1.j5 Bh3 D4 F9 F5 L3 L0 F7 (wrap64 (F5-F9)) H7 (!(decide (BD4<0))))) else (none)) else (none)) else (none)) else (none))=some r:=by first | (rw [BM9] at H;exact H) | (simp only [BM9] at H ⊢;exact H)
               have hji32w:(IntKind.i64.wrap (F9-1))=AE4:=(i64_w _).trans BM9
               by_cases c33:0≤(AE4)
               ·rw [if_pos c33] at H
                have c33b0:decide (0≤(AE4))=true:=dE c33
                clear c33
                by_cases c34:(AE4)<(D4.length:Int)
                ·rw [if_pos c34] at H
                 have c34b0:decide ((AE4)<(D4.length:Int))=true:=dE c34
                 clear c34
                 by_cases c35:0≤H7
                 ·rw [if_pos c35] at H
                  have c35b0:decide (0≤H7)=true:=dE c35
                  clear c35
                  by_cases c36:H7<(D4.length:Int)
                  ·rw [if_pos c36] at H
                   have c36b0:decide (H7<(D4.length:Int))=true:=dE c36
                   clear c36
                   replace H:=bS H
                   obtain ⟨BD4,Ck9,H⟩:=H
                   replace H:(Y1.j5 Bh3 D4 F9 F5 L3 L0 F7 (wrap64 (F5-F9)) H7 (!(decide (BD4<0))))=some r:=H
                   have A37:=aM Ck9
                   clear Ck9
                   have H':=aM H
                   clear H
                   try go_wp2
                   have n0_:=aM (Kd.R_drew C2.out)
                   have n1_:=aM (Kept.drew HK.out)
                   have n2_:=aM (below_drew1 HB.out)
                   clear C2
                   clear HK
                   clear HB
                   have C2:=n0_
                   have HK:=n1_
                   have HB:=n2_
                   clear n0_ n1_ n2_
                   have Bv1:0≤((AE4):Int):=dT (z1_)
                   have Bv2:(AE4)<(D4.length:Int):=dT (z1_)
                   obtain ⟨Aj5,e312,At0,At1⟩:=at_T78 (Kd.R_reads' C2.out).2.2 (AE4) Bv1 Bv2
                   cases e312
                   replace Bv1:=eq_true Bv1
                   replace Bv2:=eq_true Bv2
                   have Bv3:0≤(H7:Int):=dT (z1_)
                   have Bv4:H7<(D4.length:Int):=dT (z1_)
                   obtain ⟨Cl0,e313,At2,At3⟩:=at_T78 (Kd.R_reads' C2.out).2.2 H7 Bv3 Bv4
                   obtain rfl:Aj5=Cl0:=(by injection e313)
                   replace Bv3:=eq_true Bv3
                   replace Bv4:=eq_true Bv4
                   refine start_ (n:=17) (S:=fun w'=>w'.cell? (Aj5.add (((AE4)).toNat*2))=some (.int .i64 ((rd_T78 D4 (AE4)).f0))∧w'.cell? ⟨(Aj5.add (((AE4)).toNat*2)).block,(Aj5.add (((AE4)).toNat*2)).off+1,none⟩=some (.int .i64 ((rd_T78 D4 (AE4)).f1))∧w'.cell? (Aj5.add ((H7).toNat*2))=some (.int .i64 ((rd_T78 D4 H7).f0))∧w'.cell? ⟨(Aj5.add ((H7).toNat*2)).block,(Aj5.add ((H7).toNat*2)).off+1,none⟩=some (.int .i64 ((rd_T78 D4 H7).f1))) (ds:=[]) Y1.q0 (by kernel_rfl) rfl rfl ⟨At0,At1,At2,At3⟩ (fun hHeld=>?_);refine with_tabW Y1.tab17 Y1.bits17 (fun HT_ HW_=>?_)
                   generalize wc.drew=w38 at C2 HK HB At0 At1 At2 At3 hHeld ⊢
                   refine pu_ 0 81 Y1.q1 HT_.out ?_
                   refine pu_ 1 82 Y1.q2 HT_.out ?_
                   refine pu_ 2 83 Y1.q3 HT_.out ?_
                   refine pu_ 3 84 Y1.q4 HT_.out ?_
                   refine pu_ 4 85 Y1.q5 HT_.out ?_
                   refine pu_ 5 86 Y1.q6 HT_.out ?_
                   refine pu_ 6 87 Y1.q7 HT_.out ?_
                   refine pu_ 7 88 Y1.q8 HT_.out ?_
                   refine pu_ 9 90 #[I,I,I,I,I,I,I,I,O,I,O,O,O,O,O,O,O] HT_.out ?_
                   refine pu_ 10 91 #[I,I,I,I,I,I,I,I,O,I,I,O,O,O,O,O,O] HT_.out ?_
                   refine pu_ 11 92 #[I,I,I,I,I,I,I,I,O,I,I,I,O,O,O,O,O] HT_.out ?_
                   refine tk4_ 8 89 Y1.q9 HT_.out HW_.out hHeld ?_
                   refine tk4_ 12 93 Y1.q10 HT_.out HW_.out hHeld ?_
                   refine o1_ 13 94 Y1.q11 HT_.out (fun K hK=>?_)
                   refine goesD_ Tryz.func72 (by kernel_rfl) rfl #[.agg #[.int .i64 ((rd_T78 D4 (AE4)).f0),.int .i64 ((rd_T78 D4 (AE4)).f1)],.agg #[.int .i64 ((rd_T78 D4 H7).f0),.int .i64 ((rd_T78 D4 H7).f1)]] (by rfl) rfl rfl (by rfl) (by (try simp only [List.map_toArray,List.map_cons,List.map_nil]);first | done | (simp only [BM9];rfl) | rfl | (simp only [List.length_drop,List.length_take];rfl)) ?_
                   with_reducible refine (Y38.calls Bh3 ((rd_T78 D4 (AE4)).f0) ((rd_T78 D4 (AE4)).f1) ((rd_T78 D4 H7).f0) ((rd_T78 D4 H7).f1) BD4 _ A37.out).mono ?_
                   rintro e w39 ⟨rfl,hb⟩
                   have AQ9:=(hb.cell (World.block_lt_of_cell? _ _ (hHeld.1))).trans (hHeld.1)
                   have AR0:=(hb.cell (World.block_lt_of_cell? _ _ (hHeld.2.1))).trans (hHeld.2.1)
                   have AR1:=(hb.cell (World.block_lt_of_cell? _ _ (hHeld.2.2.1))).trans (hHeld.2.2.1)
                   have AR2:=(hb.cell (World.block_lt_of_cell? _ _ (hHeld.2.2.2))).trans (hHeld.2.2.2)
                   refine ⟨_,rfl,?_⟩
                   have n0_:=aM (Kd.R_below (z0_ C2.out) hb)
                   have n1_:=aM (Kept.below (S:=(fun k_=>P0_ k_)) (z11_ HK.out) hb)
                   have n2_:=aM (below_step (z6_ HB.out) hb)
                   clear C2
                   clear HK
                   clear HB
                   have C2:=n0_
                   have HK:=n1_
                   have HB:=n2_
                   clear n0_ n1_ n2_
                   (try clear hb)
                   refine hK.out _ _ ⟨AQ9,AR0,AR1,AR2⟩ (fun hHeld=>?_)
                   clear hK K
                   refine nm_ 94 ?_
                   refine pu_ 14 95 Y1.q12 HT_.out ?_
                   refine pu_ 15 96 Y1.q13 HT_.out ?_
                   refine pu_ 16 97 Y1.q14 HT_.out ?_
                   refine done_ (done_of HT_.out (by kernel_rfl)) ?_
                   try go_wp2
                   go_meet
                   case rel=>exact ⟨_,(!(decide (BD4<0))),(z2_),H',⟨by have:=HK1.out;have:=AL4.out;have:=AR7.out;have:=Ad0.out;have:=An1.out;first | omega | exact Nat.le_refl _⟩,⟨z0_ C2.out⟩,⟨z11_ HK.out⟩,⟨z6_ HB.out⟩⟩
                  ·rw [if_neg c36] at H
                   exact nO H
                 ·rw [if_neg c35] at H
                  exact nO H
                ·rw [if_neg c34] at H
                 exact nO H
               ·rw [if_neg c33] at H
                exact nO H
              ·rw [if_neg c31] at H
               have c31b0:decide (0<F9)=false:=dF c31
               clear c31
               (first | rw [c31b0] | (simp only [i64_w,i32_w];rw [c31b0]) | skip)
               have H':=aM H
               clear H
               try go_wp2
               have n0_:=aM (Kd.R_drew C2.out)
               have n1_:=aM (Kept.drew HK.out)
               have n2_:=aM (below_drew1 HB.out)
               clear C2
               clear HK
               clear HB
               have C2:=n0_
               have HK:=n1_
               have HB:=n2_
               clear n0_ n1_ n2_
               refine start_ (n:=17) (S:=fun w'=>True) (ds:=[]) Y1.q0 (by kernel_rfl) rfl rfl trivial (fun hHeld=>?_);refine with_tabW Y1.tab17 Y1.bits17 (fun HT_ HW_=>?_)
               generalize wc.drew=w40 at C2 HK HB hHeld ⊢
               refine pu_ 0 81 Y1.q1 HT_.out ?_
               refine pu_ 1 82 Y1.q2 HT_.out ?_
               refine pu_ 2 83 Y1.q3 HT_.out ?_
               refine pn_ 3 84 Y1.q4 HT_.out ?_
               refine pn_ 4 85 Y1.q5 HT_.out ?_
               refine pn_ 5 86 Y1.q6 HT_.out ?_
               refine pn_ 6 87 Y1.q7 HT_.out ?_
               refine pn_ 7 88 Y1.q8 HT_.out ?_
               refine pn_ 8 89 #[I,I,I,I,I,I,I,I,I,O,O,O,O,O,O,O,O] HT_.out ?_
               refine pn_ 9 90 #[I,I,I,I,I,I,I,I,I,I,O,O,O,O,O,O,O] HT_.out ?_
               refine pn_ 10 91 #[I,I,I,I,I,I,I,I,I,I,I,O,O,O,O,O,O] HT_.out ?_
               refine pn_ 11 92 Y1.q9 HT_.out ?_
               refine pn_ 12 93 Y1.q10 HT_.out ?_
               refine pn_ 13 94 Y1.q11 HT_.out ?_
               refine pn_ 14 95 Y1.q12 HT_.out ?_
               refine pn_ 15 96 Y1.q13 HT_.out ?_
               refine pu_ 16 97 Y1.q14 HT_.out ?_
               refine done_ (done_of HT_.out (by kernel_rfl)) ?_
               try go_wp2
               go_meet
               case rel=>exact ⟨_,(false),(z2_),H',⟨by have:=HK1.out;have:=AL4.out;have:=AR7.out;have:=Ad0.out;have:=An1.out;first | omega | exact Nat.le_refl _⟩,⟨z0_ C2.out⟩,⟨z11_ HK.out⟩,⟨z6_ HB.out⟩⟩
             case rest =>
              clear CM8
              try clear c1
              try clear c2
              try clear p2
              try clear c3
              try clear p3
              try clear q3
              try clear hx3
              try clear c6
              try clear c6b0
              try clear p6
              try clear c7
              try clear c10
              try clear c10b0
              try clear c10b1
              try clear c14
              try clear c21
              try clear c21b0
              try clear c21b1
              try clear c24
              try clear c25
              try clear c27
              try clear c29
              try clear c31
              try clear c31b0
              try clear p31
              try clear q31
              try clear hx31
              try clear c33
              try clear c33b0
              try clear c34
              try clear c34b0
              try clear c35
              try clear c35b0
              try clear c36
              try clear c36b0
              try clear At0
              try clear At1
              try clear At2
              try clear At3
              try clear p2
              try clear Bv1
              try clear Bv3
              try clear p6
              try clear Bv2
              try clear Bv4
              obtain ⟨kq,As9,rfl,HA,A16,C2,HK,HB⟩:=hcut
              cases kq with
              | zero=>exact absurd HA.out (by simp [Y1.j5])
              | succ AF4 =>
               have H:=HA.out
               clear HA
               simp only [Y1.j5] at H
               by_cases c41:As9=true
               ·subst c41
                have H1:((Y52.f D4 F9 F5 H7).bind fun BD5=>(Y1.l0 AF4 D4 BD5 F5 L3 L0 F7))=some r:=by rw [if_pos rfl] at H;exact H
                clear H
                have H:=H1
                clear H1
                replace H:=bS H
                obtain ⟨BD5,Cl1,H⟩:=H
                replace H:(Y1.l0 AF4 D4 BD5 F5 L3 L0 F7)=some r:=H
                have A42:=aM Cl1
                clear Cl1
                have H':=aM H
                clear H
                go_wp2_with (first | ((with_reducible refine gc_ 133 ?_);refine gl_ (some 103) Tryz.func133 #[.slice AE2 D4.length AE3,.int .i64 F9,.int .i64 F5,.int .i64 H7,.func (.func 72) #[] #[]] ?_;(with_reducible refine (Y52.calls _ _ D4 F9 F5 H7  BD5 _ ?s1 ?s2 A42.out).mono ?_);(case s1=>repeat (first | exact (Kd.R_reads' C2.out).2.2 | (with_reducible refine Kd.C_alloc ?_ _) | (with_reducible refine Kd.C_drewN ?_ _) | (with_reducible refine Kd.C_drew ?_)));(case s2=>exact (Kd.R_reads' C2.out).2.1);rintro e w' ⟨rfl,⟨nd,rfl⟩⟩;refine ⟨_,rfl,?_⟩))
                go_roundg AF4
                case measure=>have:=HK1.out;have:=AL4.out;have:=AR7.out;have:=Ad0.out;have:=An1.out;have:=A16.out;omega
                case rel=>exact ⟨(D4),(BD5),(F5),(L3),(L0),(F7),(z2_),(z2_),(z2_),(z2_),(z2_),H',⟨by have:=HK1.out;have:=AL4.out;have:=AR7.out;have:=Ad0.out;have:=An1.out;have:=A16.out;omega⟩,⟨z0_ C2.out⟩,⟨z11_ HK.out⟩,⟨z6_ HB.out⟩⟩
               ·replace c41:=Bool.eq_false_iff.mpr c41
                subst c41
                have H1:((Y0.f AF4 D4 F9 F5 H7).bind fun V2=>(if (wrap64 (V2.1-F9))<(wrap64 (F5-V2.1)) then ((Y1.f AF4 V2.2.2 F9 V2.1 L3).bind fun As5=>(Y1.l0 AF4 As5 (wrap64 (V2.1+1)) F5 L3 (decide ((wrap64 (V2.1-F9))≥(wrap64 (Int.tdiv (wrap64 (F5-F9)) 8)))) V2.2.1)) else ((Y1.f AF4 V2.2.2 (wrap64 (V2.1+1)) F5 L3).bind fun As6=>(Y1.l0 AF4 As6 F9 V2.1 L3 (decide ((wrap64 (F5-V2.1))≥(wrap64 (Int.tdiv (wrap64 (F5-F9)) 8)))) V2.2.1))))=some r:=by rw [if_neg (show ¬ (false=true) by decide)] at H;exact H
                clear H
                have H:=H1
                clear H1
                replace H:=bS H
                obtain ⟨⟨k7,A26,BS8⟩,Cl2,H⟩:=H
                replace H:(if (wrap64 (k7-F9))<(wrap64 (F5-k7)) then ((Y1.f AF4 BS8 F9 k7 L3).bind fun As5=>(Y1.l0 AF4 As5 (wrap64 (k7+1)) F5 L3 (decide ((wrap64 (k7-F9))≥(wrap64 (Int.tdiv (wrap64 (F5-F9)) 8)))) A26)) else ((Y1.f AF4 BS8 (wrap64 (k7+1)) F5 L3).bind fun As6=>(Y1.l0 AF4 As6 F9 k7 L3 (decide ((wrap64 (F5-k7))≥(wrap64 (Int.tdiv (wrap64 (F5-F9)) 8)))) A26)))=some r:=H
                have A43:=aM Cl2
                clear Cl2
                by_cases c44:(wrap64 (k7-F9))<(wrap64 (F5-k7))
                ·rw [if_pos c44] at H
                 have c44b0:decide ((wrap64 (k7-F9))<(wrap64 (F5-k7)))=true:=dE c44
                 clear c44
                 replace H:=bS H
                 obtain ⟨As5,Cl3,H⟩:=H
                 replace H:(Y1.l0 AF4 As5 (wrap64 (k7+1)) F5 L3 (decide ((wrap64 (k7-F9))≥(wrap64 (Int.tdiv (wrap64 (F5-F9)) 8)))) A26)=some r:=H
                 have A45:=aM Cl3
                 clear Cl3
                 have H':=aM H
                 clear H
                 go_wp2_with (first | ((with_reducible refine gc_ 134 ?_);refine gl_ (some 111) Tryz.func134 #[.slice AE2 D4.length AE3,.int .i64 F9,.int .i64 F5,.int .i64 H7,.func (.func 72) #[] #[]] ?_;(with_reducible refine (Y0.calls AF4 (fun k_=>some k_=(.slice AE2 D4.length AE3:Value).ownBlock) (.slice AE2 D4.length AE3) D4 F9 F5 H7  k7 A26 BS8 w0 _ ?s1 ?s2 A43.out).mono ?_);(case s1=>repeat (first | (with_reducible first | exact HB.out | apply below_alloc | apply pw_below_drewN | apply below_drew1) | exact HB.out));(case s2=>exact Kd.R_tight rfl C2.out);rintro e w46 ⟨rfl,hy0,hb,hkp⟩;refine ⟨_,rfl,?_⟩;have n0_:=aM (Kd.R_reok rfl hy0 (fun k_ e_=>C2.out.1 k_ e_));have n1_:=aM (Kept.then_ (S:=(fun k_=>P0_ k_)) (z11_ HK.out) hkp (fun k_ hs_=>(fun e_=>(C2.out.1 k_ e_.symm)) hs_));have n2_:=aM (hb);clear C2;clear HK;clear HB;have C2:=n0_;have HK:=n1_;have HB:=n2_;clear n0_ n1_ n2_;(try clear hb);(try clear hkp);(try clear hy0)) | ((with_reducible refine gc_ 103 ?_);refine gl_ (some 134) Tryz.func103 #[.slice AE2 D4.length AE3,.int .i64 F9,.int .i64 k7,.int .i64 L3,.func (.func 72) #[] #[]] ?_;(with_reducible refine (ih AF4 (by have:=HK1.out;have:=AL4.out;have:=AR7.out;have:=Ad0.out;have:=An1.out;have:=A16.out;omega) (fun k_=>some k_=(.slice AE2 D4.length AE3:Value).ownBlock) (.slice AE2 D4.length AE3) BS8 F9 k7 L3  As5 w0 _ ?s1 ?s2 A45.out).mono ?_);(case s1=>repeat (first | (with_reducible first | exact HB.out | apply below_alloc | apply pw_below_drewN | apply below_drew1) | exact HB.out));(case s2=>exact Kd.R_tight rfl C2.out);rintro e w47 ⟨rfl,hy0,hb,hkp⟩;refine ⟨_,rfl,?_⟩;have n0_:=aM (Kd.R_reok rfl hy0 (fun k_ e_=>C2.out.1 k_ e_));have n1_:=aM (Kept.then_ (S:=(fun k_=>P0_ k_)) (z11_ HK.out) hkp (fun k_ hs_=>(fun e_=>(C2.out.1 k_ e_.symm)) hs_));have n2_:=aM (hb);clear C2;clear HK;clear HB;have C2:=n0_;have HK:=n1_;have HB:=n2_;clear n0_ n1_ n2_;(try clear hb);(try clear hkp);(try clear hy0)))
                 go_roundg AF4
                 case measure=>have:=HK1.out;have:=AL4.out;have:=AR7.out;have:=Ad0.out;have:=An1.out;have:=A16.out;omega
                 case rel=>exact ⟨(As5),(wrap64 (k7+1)),(F5),(L3),(decide ((wrap64 (k7-F9))≥(wrap64 (Int.tdiv (wrap64 (F5-F9)) 8)))),(A26),(z2_),(z2_),(z2_),(z2_),(z2_),H',⟨by have:=HK1.out;have:=AL4.out;have:=AR7.out;have:=Ad0.out;have:=An1.out;have:=A16.out;omega⟩,⟨z0_ C2.out⟩,⟨z11_ HK.out⟩,⟨z6_ HB.out⟩⟩
                ·rw [if_neg c44] at H
                 have c44b0:decide ((wrap64 (k7-F9))<(wrap64 (F5-k7)))=false:=dF c44
                 clear c44
                 replace H:=bS H
                 obtain ⟨As6,Cl4,H⟩:=H
                 replace H:(Y1.l0 AF4 As6 F9 k7 L3 (decide ((wrap64 (F5-k7))≥(wrap64 (Int.tdiv (wrap64 (F5-F9)) 8)))) A26)=some r:=H
                 have A48:=aM Cl4
                 clear Cl4
                 have H':=aM H
                 clear H
                 go_wp2_with (first | ((with_reducible refine gc_ 134 ?_);refine gl_ (some 111) Tryz.func134 #[.slice AE2 D4.length AE3,.int .i64 F9,.int .i64 F5,.int .i64 H7,.func (.func 72) #[] #[]] ?_;(with_reducible refine (Y0.calls AF4 (fun k_=>some k_=(.slice AE2 D4.length AE3:Value).ownBlock) (.slice AE2 D4.length AE3) D4 F9 F5 H7  k7 A26 BS8 w0 _ ?s1 ?s2 A43.out).mono ?_);(case s1=>repeat (first | (with_reducible first | exact HB.out | apply below_alloc | apply pw_below_drewN | apply below_drew1) | exact HB.out));(case s2=>exact Kd.R_tight rfl C2.out);rintro e w49 ⟨rfl,hy0,hb,hkp⟩;refine ⟨_,rfl,?_⟩;have n0_:=aM (Kd.R_reok rfl hy0 (fun k_ e_=>C2.out.1 k_ e_));have n1_:=aM (Kept.then_ (S:=(fun k_=>P0_ k_)) (z11_ HK.out) hkp (fun k_ hs_=>(fun e_=>(C2.out.1 k_ e_.symm)) hs_));have n2_:=aM (hb);clear C2;clear HK;clear HB;have C2:=n0_;have HK:=n1_;have HB:=n2_;clear n0_ n1_ n2_;(try clear hb);(try clear hkp);(try clear hy0)) | ((with_reducible refine gc_ 103 ?_);refine gl_ (some 146) Tryz.func103 #[.slice AE2 D4.length AE3,.int .i64 (wrap64 (k7+1)),.int .i64 F5,.int .i64 L3,.func (.func 72) #[] #[]] ?_;(with_reducible refine (ih AF4 (by have:=HK1.out;have:=AL4.out;have:=AR7.out;have:=Ad0.out;have:=An1.out;have:=A16.out;omega) (fun k_=>some k_=(.slice AE2 D4.length AE3:Value).ownBlock) (.slice AE2 D4.length AE3) BS8 (wrap64 (k7+1)) F5 L3  As6 w0 _ ?s1 ?s2 A48.out).mono ?_);(case s1=>repeat (first | (with_reducible first | exact HB.out | apply below_alloc | apply pw_below_drewN | apply below_drew1) | exact HB.out));(case s2=>exact Kd.R_tight rfl C2.out);rintro e w50 ⟨rfl,hy0,hb,hkp⟩;refine ⟨_,rfl,?_⟩;have n0_:=aM (Kd.R_reok rfl hy0 (fun k_ e_=>C2.out.1 k_ e_));have n1_:=aM (Kept.then_ (S:=(fun k_=>P0_ k_)) (z11_ HK.out) hkp (fun k_ hs_=>(fun e_=>(C2.out.1 k_ e_.symm)) hs_));have n2_:=aM (hb);clear C2;clear HK;clear HB;have C2:=n0_;have HK:=n1_;have HB:=n2_;clear n0_ n1_ n2_;(try clear hb);(try clear hkp);(try clear hy0)))
                 go_roundg AF4
                 case measure=>have:=HK1.out;have:=AL4.out;have:=AR7.out;have:=Ad0.out;have:=An1.out;have:=A16.out;omega
                 case rel=>exact ⟨(As6),(F9),(k7),(L3),(decide ((wrap64 (F5-k7))≥(wrap64 (Int.tdiv (wrap64 (F5-F9)) 8)))),(A26),(z2_),(z2_),(z2_),(z2_),(z2_),H',⟨by have:=HK1.out;have:=AL4.out;have:=AR7.out;have:=Ad0.out;have:=An1.out;have:=A16.out;omega⟩,⟨z0_ C2.out⟩,⟨z11_ HK.out⟩,⟨z6_ HB.out⟩⟩


/-! ### Y34: function 71 -/
def Y34.f (k:Nat) (l0:List (S78))  : Option ((List (S78))):=(Y90.f k (IntKind.u64.wrap ((l0.length:Int)))).bind fun A29=>((Y1.f k l0 0 (l0.length:Int) A29).bind fun A32=>(some A32))
theorem Y34.mono:∀ a0 k,LeO (Y34.f k a0) (Y34.f (k+1) a0):=by
 intro a0 k
 have m0:=@Y90.mono
 have m1:=@Y1.mono
 unfold Y34.f
 exact mO
theorem Y34.calls (k:Nat) (P0_:Nat→Prop) (M0:Value) (l0:List (S78))  (r:List (S78)) (w0 w:World) (hB:Below w0.heap.size w0 w) (ho0:Kd.R k78 78 w w0.heap.size P0_ M0 l0) (h:Y34.f k l0=some r) :
  Calls Tryz.prog 71 #[M0,.func (.func 72) #[] #[]] w fun e w'=>e = .returned (.tuple #[])∧Kd.R k78 78 w' w0.heap.size (fun k_=>(P0_ k_∨w.heap.size≤k_)) M0 r∧Below w0.heap.size w0 w'∧Kept w w' (fun k_=>P0_ k_):=by
 have HO0:=aM (show Kd.R k78 78 w w0.heap.size (fun k_=>(P0_ k_∨w.heap.size≤k_)) M0 l0 from Kd.R_mono ho0 (fun k_ hk=>(.inl hk)))
 have HK:=aM (Kept.refl w (fun k_=>P0_ k_))
 have HW0:=aM hB.size
 have HB:=aM hB
 clear hB
 have H:((Y90.f k (IntKind.u64.wrap ((l0.length:Int)))).bind fun A29=>((Y1.f k l0 0 (l0.length:Int) A29).bind fun A32=>(some A32)))=some r:=h
 clear h
 replace H:=bS H
 obtain ⟨A29,A30,H⟩:=H
 replace H:((Y1.f k l0 0 (l0.length:Int) A29).bind fun A32=>(some A32))=some r:=H
 have A3:=aM A30
 clear A30
 replace H:=bS H
 obtain ⟨A32,A40,H⟩:=H
 replace H:(some A32)=some r:=H
 have A4:=aM A40
 clear A40
 obtain rfl:=sI H
 obtain ⟨Ao5,co5,eo5⟩:=Kd.R_slice HO0.out
 subst eo5
 go_enter Tryz.func71,Tryz.ntmps71
 go_wp2_with (first | ((with_reducible refine gc_ 104 ?_);refine gl_ (some 11) Tryz.func104 #[.int .u64 (IntKind.u64.wrap ((l0.length:Int)))] ?_;(with_reducible refine (Y90.calls k (IntKind.u64.wrap ((l0.length:Int))) A29 _ A3.out).mono ?_);rintro e w' ⟨rfl,⟨nd,rfl⟩⟩;refine ⟨_,rfl,?_⟩) | ((with_reducible refine gc_ 103 ?_);refine gl_ (some 13) Tryz.func103 #[.slice Ao5 l0.length co5,.int .i64 0,.int .i64 (l0.length:Int),.int .i64 A29,.func (.func 72) #[] #[]] ?_;(with_reducible refine (Y1.calls k (fun k_=>some k_=(.slice Ao5 l0.length co5:Value).ownBlock) (.slice Ao5 l0.length co5) l0 0 (l0.length:Int) A29  A32 w0 _ ?s1 ?s2 A4.out).mono ?_);(case s1=>repeat (first | (with_reducible first | exact HB.out | apply below_alloc | apply pw_below_drewN | apply below_drew1) | exact HB.out));(case s2=>exact Kd.R_tight rfl HO0.out);rintro e w6 ⟨rfl,hy0,hb,hkp⟩;refine ⟨_,rfl,?_⟩;have n0_:=aM (Kd.R_reok rfl hy0 (fun k_ e_=>HO0.out.1 k_ e_));have n1_:=aM (Kept.then_ (S:=(fun k_=>P0_ k_)) (z11_ HK.out) hkp (fun k_ hs_=>(fun e_=>(HO0.out.1 k_ e_.symm)) hs_));have n2_:=aM (hb);clear HO0;clear HK;clear HB;have HO0:=n0_;have HK:=n1_;have HB:=n2_;clear n0_ n1_ n2_;(try clear hb);(try clear hkp);(try clear hy0)))
 first | go_end0 | ((try simp only [Exit.inBlock,Exit.then]);refine bodyPost_ret (results_none rfl _ _ _) rfl ?_)
 exact ⟨z8_,z0_ HO0.out,z6_ HB.out,z11_ HK.out⟩


/-! ### Y28: function 43 -/
mutual
def Y28.l0:Nat→Int→Int→Int→Int→List (S78)→Option (Int × (List (S78)))
 | 0,_,_,_,_,_=>none
 | k+1,x0,x1,x6,AV5,AO3=>if x6≤x0 then (Y28.l1 k x0 x1 x6 1 AV5 AO3) else ((Y34.f k AO3).bind fun Bv5=>(some (AV5,Bv5)))
def Y28.l1:Nat→Int→Int→Int→Int→Int→List (S78)→Option (Int × (List (S78)))
 | 0,_,_,_,_,_,_=>none
 | k+1,x0,x1,x6,x7,AV5,AO3=>if x7≤x1 then ((Y82.f k x6).bind fun AJ8=>(if AJ8.size+1≤9223372036854775807 then ((Y82.f k x7).bind fun AV6=>(if (AJ8.size+1)+AV6.size≤9223372036854775807 then ((Y56.f k ((AJ8 ++ (⟨#[45]⟩:ByteArray)) ++ AV6)).bind fun Ad1=>(if AO3.length<8796093022208 then (Y28.l1 k x0 x1 x6 (wrap64 (x7+1)) AV5 (AO3 ++ [(⟨Ad1,x6⟩:S78)])) else (none))) else (none))) else (none))) else (Y28.l0 k x0 x1 (wrap64 (x6+1)) AV5 AO3)
end
def Y28.f (k:Nat) (a0:Int) (a1:Int):Option (Int × (List (S78))):=Y28.l0 k a0 a1 1 a0 ([]:List (S78))
theorem Y28.mono_l:∀ k,(∀ y0 y1 y2 y3 y4,LeO (Y28.l0 k y0 y1 y2 y3 y4) (Y28.l0 (k+1) y0 y1 y2 y3 y4))∧(∀ y0 y1 y2 y3 y4 y5,LeO (Y28.l1 k y0 y1 y2 y3 y4 y5) (Y28.l1 (k+1) y0 y1 y2 y3 y4 y5))
 | 0=>by refine ⟨?_,?_⟩ <;> intros <;> exact LeO.none _
 | k+1=>by
  obtain ⟨ih0,ih1⟩:=Y28.mono_l k
  have m0:=@Y82.mono
  have m1:=@Y56.mono
  have m2:=@Y34.mono
  refine ⟨?_,?_⟩
  ·intros
   unfold Y28.l0
   exact mO
  ·intros
   unfold Y28.l1
   exact mO
theorem Y28.mono:∀ a0 a1 k,LeO (Y28.f k a0 a1) (Y28.f (k+1) a0 a1):=by
 intro a0 a1 k
 have m0:=@Y82.mono
 have m1:=@Y56.mono
 have m2:=@Y34.mono
 obtain ⟨ih0,ih1⟩:=Y28.mono_l k
 unfold Y28.f
 exact mO
def Y28.T8:Bool × List (List Nat × List Nat):=(true,[([],[]),([0],[0]),([],[]),([2],[2]),([3],[3]),([],[]),([5,3],[5]),([4,6],[4,6]),([7,6],[7]),([],[]),([8,9],[8,9]),([10],[10]),([1,11,8],[1,11]),([0,1,2,3,4,5,6,7,8,9,10,11,12],[]),([13,12,12,0,1,2,3,4,5,6,7,8,9,10,11,12],[12,13])])
def Y28.B8:List Nat:=[0,1,0,4,12,0,44,124,252,0,1020,2044,4095,8191,16383]
theorem Y28.tab8:rtab .any (opsOf Tryz.f43 8)=Y28.T8:=by kernel_rfl
theorem Y28.bits8:waitsOk Y28.T8.2 Y28.B8=true:=by kernel_rfl
theorem Y28.calls (k:Nat) (a0:Int) (a1:Int) (r1:Int) (r2:List (S78)) (w:World) (h:Y28.f k a0 a1=some (r1,r2)) :
  Calls Tryz.prog 43 #[.int .i64 a0,.int .i64 a1] w fun e w'=>∃ v1_:Value,e = .returned (.agg #[.int .i64 r1,v1_])∧Kd.R k78 78 w' w.heap.size (fun _=>True) v1_ r2∧Below w.heap.size w w':=by
 have AD7:=Tryz.underlying27
 have Ah1:=Tryz.underlying78
 have HB:=aM (Below.refl w.heap.size w)
 have H:(Y28.l0 k a0 a1 1 a0 ([]:List (S78)))=some (r1,r2):=h
 clear h
 have H':=aM H
 clear H
 go_enter Tryz.func43,Tryz.ntmps43
 go_wp2_with (first | ((with_reducible refine gd_ 4 ?_);refine be_ 4 #[.int .i64 0,.slice none 0 0] 27 ?_;intro Ao3 hg w3 hbox hb;have n0_:=aM (below_step (z6_ HB.out) hb);have n1_:=aM (hbox);have n2_:=aM ((z7_ HB.out:w.heap.size≤Ao3));have n3_:=aM ((z7_ HB.out:w.heap.size≤Ao3));clear HB;have HB:=n0_;have U2:=n1_;have GW323:=n2_;have AL5:=n3_;clear n0_ n1_ n2_ n3_;clear hb hbox hg) | ((with_reducible refine gd_ 5 ?_);refine be_ 5 #[.int .i64 0,.slice none 0 0] 27 ?_;intro AV7 hg w4 hbox hb;have n0_:=aM (blkB_ U2.out hb);have n1_:=aM (below_step (z4_ HB.out AL5.out) hb);have n2_:=aM (hbox);have n3_:=aM ((z13_ HB.out AL5.out:w.heap.size≤AV7));have n4_:=aM ((z13_ HB.out AL5.out:w.heap.size≤AV7));have n5_:=aM (neL_ U2.out hg);have n6_:=aM (neG_ U2.out hg);clear U2;clear HB;have U2:=n0_;have HB:=n1_;have Q9:=n2_;have GW324:=n3_;have Ab1:=n4_;have AF5:=n5_;have AZ8:=n6_;clear n0_ n1_ n2_ n3_ n4_ n5_ n6_;clear hb hbox hg;have CF3:=AZ8.out;have CF4:=AF5.out;have ⟨AD8,AG8,AD9,AG9⟩:=cz2_ Q9.out))
 go_loopg [6] k (fun kq v6 w'=>∃ (D9:Int) (Z2:List (S78)) (W8:Value),v6 = .int .i64 D9∧Aside0 (Y28.l0 kq a0 a1 D9 a0 Z2=some (r1,r2))∧Aside0 (kq≤k)∧Aside0 (Kd.R k78 78 w' w.heap.size (fun _=>True) W8 Z2)∧Aside0 (w'.heap[Ao3]? = some (.cells #[.int .i64 0,(.slice none 0 0)] 27 (0,0)))∧Aside0 (w'.heap[AV7]? = some (.cells #[.int .i64 a0,W8] 27 (0,0)))∧Aside0 (Below w.heap.size w w'))
 case atStart=>exact ⟨(1),(([]:List (S78))),(.slice none 0 0),(z2_),H',⟨Nat.le_refl _⟩,⟨z27_⟩,⟨z22_ AF5.out U2.out⟩,⟨z18_ Q9.out⟩,⟨z9_ HB.out AL5.out Ab1.out⟩⟩
 case round =>
  clear H'
  try clear p2
  try clear c4
  try clear c5
  try clear AD8
  try clear AG8
  try clear AD9
  try clear AG9
  obtain ⟨D9,Z2,W8,rfl,HA,HK1,K3,U2,Q9,HB⟩:=hrel
  cases gk with
  | zero=>exact absurd HA.out (by simp [Y28.l0])
  | succ k1 =>
   have H:=HA.out
   clear HA
   simp only [Y28.l0] at H
   by_cases c7:D9≤a0
   ·rw [if_pos c7] at H
    have c7b0:decide (D9≤a0)=true:=dE c7
    clear c7
    have H':=aM H
    clear H
    go_wp2
    go_loopg [7] k1 (fun kq v7 w'=>∃ (K4:Int) (Q1:List (S78)) (W8:Value),v7 = .int .i64 K4∧Aside0 (Y28.l1 kq a0 a1 D9 K4 a0 Q1=some (r1,r2))∧Aside0 (kq≤k1)∧Aside0 (Kd.R k78 78 w' w.heap.size (fun _=>True) W8 Q1)∧Aside0 (w'.heap[Ao3]? = some (.cells #[.int .i64 0,(.slice none 0 0)] 27 (0,0)))∧Aside0 (w'.heap[AV7]? = some (.cells #[.int .i64 a0,W8] 27 (0,0)))∧Aside0 (Below w.heap.size w w'))
    case atStart=>exact ⟨(1),(Z2),(W8),(z2_),H',⟨Nat.le_refl _⟩,⟨z0_ K3.out⟩,⟨z3_ U2.out⟩,⟨z3_ Q9.out⟩,⟨z9_ HB.out AL5.out Ab1.out⟩⟩
    case round =>
     clear H'
     try clear p2
     try clear c4
     try clear c5
     try clear c7
     try clear c7b0
     try clear AD8
     try clear AG8
     try clear AD9
     try clear AG9
     try clear p2
     obtain ⟨K4,Q1,W8,rfl,HA,HK2,K3,U2,Q9,HB⟩:=hrel
     cases gk with
     | zero=>exact absurd HA.out (by simp [Y28.l1])
     | succ k2 =>
      have H:=HA.out
      clear HA
      simp only [Y28.l1] at H
      by_cases c8:K4≤a1
      ·rw [if_pos c8] at H
       have c8b0:decide (K4≤a1)=true:=dE c8
       clear c8
       replace H:=bS H
       obtain ⟨AJ8,A90,H⟩:=H
       replace H:(if AJ8.size+1≤9223372036854775807 then ((Y82.f k2 K4).bind fun AV6=>(if (AJ8.size+1)+AV6.size≤9223372036854775807 then ((Y56.f k2 ((AJ8 ++ (⟨#[45]⟩:ByteArray)) ++ AV6)).bind fun Ad1=>(if Q1.length<8796093022208 then (Y28.l1 k2 a0 a1 D9 (wrap64 (K4+1)) a0 (Q1 ++ [(⟨Ad1,D9⟩:S78)])) else (none))) else (none))) else (none))=some (r1,r2):=H
       have A9:=aM A90
       clear A90
       by_cases c10:AJ8.size+1≤9223372036854775807
       ·rw [if_pos c10] at H
        have c10b0:=eq_true c10
        have c10b1:decide (AJ8.size+1≤9223372036854775807)=true:=dE c10
        try have c10b2:(9223372036854775807<AJ8.size+1)=False:=eq_false (Nat.not_lt.2 c10)
        replace H:=bS H
        obtain ⟨AV6,f7,H⟩:=H
        replace H:(if (AJ8.size+1)+AV6.size≤9223372036854775807 then ((Y56.f k2 ((AJ8 ++ (⟨#[45]⟩:ByteArray)) ++ AV6)).bind fun Ad1=>(if Q1.length<8796093022208 then (Y28.l1 k2 a0 a1 D9 (wrap64 (K4+1)) a0 (Q1 ++ [(⟨Ad1,D9⟩:S78)])) else (none))) else (none))=some (r1,r2):=H
        have A11:=aM f7
        clear f7
        by_cases c12:(AJ8.size+1)+AV6.size≤9223372036854775807
        ·rw [if_pos c12] at H
         have c12b0:=eq_true c12
         have c12b1:decide ((AJ8.size+1)+AV6.size≤9223372036854775807)=true:=dE c12
         try have c12b2:(9223372036854775807<(AJ8.size+1)+AV6.size)=False:=eq_false (Nat.not_lt.2 c12)
         replace H:=bS H
         obtain ⟨Ad1,AK7,H⟩:=H
         replace H:(if Q1.length<8796093022208 then (Y28.l1 k2 a0 a1 D9 (wrap64 (K4+1)) a0 (Q1 ++ [(⟨Ad1,D9⟩:S78)])) else (none))=some (r1,r2):=H
         have A13:=aM AK7
         clear AK7
         by_cases c14:Q1.length<8796093022208
         ·rw [if_pos c14] at H
          have Cl5:=aM c14
          clear c14
          obtain ⟨Bv6,A34⟩:∃ y_:List (S78),y_=(Q1 ++ [(⟨Ad1,D9⟩:S78)]):=⟨_,rfl⟩
          replace H:(Y28.l1 k2 a0 a1 D9 (wrap64 (K4+1)) a0 Bv6)=some (r1,r2):=by first | (rw [A34];with_reducible exact H) | (have H2_:=(Option.bind_some _ _).symm.trans H;rw [A34];with_reducible exact H2_) | (have H2_:=(Option.bind_some _ _).symm.trans H;with_reducible exact H2_) | with_reducible exact H | (rw [A34];exact H) | exact H
          have Cl6:=aM A34
          clear A34
          have H':=aM H
          clear H
          try go_wp2
          have n0_:=aM (Kd.R_drew K3.out)
          have n1_:=aM (blk_drew U2.out)
          have n2_:=aM (blk_drew Q9.out)
          have n3_:=aM (below_drew1 HB.out)
          clear K3
          clear U2
          clear Q9
          clear HB
          have K3:=n0_
          have U2:=n1_
          have Q9:=n2_
          have HB:=n3_
          clear n0_ n1_ n2_ n3_
          refine start_ (n:=15) (S:=fun w'=>w'.cell? ⟨AV7,0,none⟩=some (.int .i64 a0)∧w'.cell? ⟨AV7,1,none⟩=some (W8)) (ds:=[14]) #[O,O,O,O,O,O,O,O,O,O,O,O,O,O,O] (by kernel_rfl) rfl rfl (cc2_ Q9.out) (fun hHeld=>?_);refine with_tabW Y28.tab8 Y28.bits8 (fun HT_ HW_=>?_)
          generalize wr.drew=w15 at K3 U2 Q9 HB hHeld ⊢
          refine pu_ 0 20 #[I,O,O,O,O,O,O,O,O,O,O,O,O,O,O] HT_.out ?_
          refine pu_ 2 22 #[I,O,I,O,O,O,O,O,O,O,O,O,O,O,O] HT_.out ?_
          refine pu_ 5 25 #[I,O,I,O,O,I,O,O,O,O,O,O,O,O,O] HT_.out ?_
          refine pu_ 9 29 #[I,O,I,O,O,I,O,O,O,I,O,O,O,O,O] HT_.out ?_
          refine tk2_ 1 21 #[I,I,I,O,O,I,O,O,O,I,O,O,O,O,O] HT_.out HW_.out hHeld ?_
          refine o1_ 3 23 #[I,I,I,I,O,I,O,O,O,I,O,O,O,O,O] HT_.out (fun K hK=>?_)
          refine gs_ Tryz.func70 #[.int .i64 D9] ?_
          with_reducible refine (Y82.calls k2 D9 AJ8 _ A9.out).mono ?_
          rintro e w' ⟨rfl,⟨nd,rfl⟩⟩
          refine ⟨_,rfl,?_⟩
          refine hK.out _ _ (cc2_ Q9.out) (fun hHeld=>?_)
          clear hK K
          refine nm_ 23 ?_
          refine pu_ 4 24 #[I,I,I,I,I,I,O,O,O,I,O,O,O,O,O] HT_.out ?_
          refine o1_ 6 26 #[I,I,I,I,I,I,I,O,O,I,O,O,O,O,O] HT_.out (fun K hK=>?_)
          refine gs_ Tryz.func70 #[.int .i64 K4] ?_
          with_reducible refine (Y82.calls k2 K4 AV6 _ A11.out).mono ?_
          rintro e w' ⟨rfl,⟨nd,rfl⟩⟩
          refine ⟨_,rfl,?_⟩
          refine hK.out _ _ (cc2_ Q9.out) (fun hHeld=>?_)
          clear hK K
          refine nm_ 26 ?_
          refine pu_ 7 27 #[I,I,I,I,I,I,I,I,O,I,O,O,O,O,O] HT_.out ?_
          refine o1_ 8 28 #[I,I,I,I,I,I,I,I,I,I,O,O,O,O,O] HT_.out (fun K hK=>?_)
          refine gs_ Tryz.func54 #[.string ((AJ8 ++ (⟨#[45]⟩:ByteArray)) ++ AV6)] ?_
          with_reducible refine (Y56.calls k2 ((AJ8 ++ (⟨#[45]⟩:ByteArray)) ++ AV6) Ad1 _ A13.out).mono ?_
          rintro e w' ⟨rfl,⟨nd,rfl⟩⟩
          refine ⟨_,rfl,?_⟩
          refine hK.out _ _ (cc2_ Q9.out) (fun hHeld=>?_)
          clear hK K
          refine nm_ 28 ?_
          refine pu_ 10 30 #[I,I,I,I,I,I,I,I,I,I,I,O,O,O,O] HT_.out ?_
          refine o1_ 11 31 #[I,I,I,I,I,I,I,I,I,I,I,I,O,O,O] HT_.out (fun K hK=>?_)
          refine value_ (w1:=?_) (v:=?_) (by rfl) rfl ?_ ?_
          rotate_left 2
          ·go_simp
           constructor
           ·rfl
           ·rfl
          refine hK.out _ _ (cc2_ (blk_alloc Q9.out _)) (fun hHeld=>?_)
          clear hK K
          refine nm_ 31 ?_
          refine o1_ 12 32 #[I,I,I,I,I,I,I,I,I,I,I,I,I,O,O] HT_.out (fun K hK=>?_)
          refine Kd.R_append_step k78 (w0:=w) w.heap.size (by rfl) (.tmp 21) (.tmp 31) 25 78 (.agg #[(.int .i64 0),(.int .i64 0)]) 16 rfl Tryz.underlying25 info78 rfl (by decide) (by omega) W8 Q1 (⟨Ad1,D9⟩:S78) [.int .i64 Ad1,.int .i64 D9] (fun _=>True) (fun _=>False) rfl rfl ?aP (fun _ hk=>hk.elim) ?aF ?aO ?aB ?aS ?aL ?_
          (case aP=>exact k78_mkM _ _ _ (⟨Ad1,D9⟩:S78))
          (case aB=>exact (z9_ HB.out AL5.out Ab1.out))
          (case aF=>exact (fun _ _=>trivial))
          (case aO=>exact (z0_ K3.out))
          (case aS=>exact (below_size (z9_ HB.out AL5.out Ab1.out)))
          (case aL=>have:=Cl5.out;omega)
          intro v330 w16 ho hb hg hat
          rw [← Cl6.out] at ho
          have n0_:=aM (blk_grown (g:=Ao3) (o:=.cells #[.int .i64 0,.slice none 0 0] 27 (0,0)) (z3_ U2.out) hg (Kd.R_ne K3.out U2.out (by decide)))
          have n1_:=aM (blk_grown (g:=AV7) (o:=.cells #[.int .i64 a0,W8] 27 (0,0)) (z3_ Q9.out) hg (Kd.R_ne K3.out Q9.out (by decide)))
          have n2_:=aM (hb)
          have n3_:=aM (ho)
          clear U2
          clear Q9
          clear HB
          clear K3
          have U2:=n0_
          have Q9:=n1_
          have HB:=n2_
          have B97:=n3_
          clear n0_ n1_ n2_ n3_
          clear ho hb hg hat
          obtain ⟨Cl7,Cl8,Cl9⟩:=Kd.R_slice B97.out
          (first | subst Cl9 | (injection Cl9 with f1_ f2_ f3_;have f4_:=f1_.symm;have f5_:=f3_.symm;clear f1_ f2_ f3_;subst f4_;subst f5_))
          refine hK.out _ _ (cc2_ Q9.out) (fun hHeld=>?_)
          clear hK K
          refine nm_ 32 ?_
          refine pu_ 13 33 #[I,I,I,I,I,I,I,I,I,I,I,I,I,I,O] HT_.out ?_
          refine last_ (i:=14) (N:=none) #[I,I,I,I,I,I,I,I,I,I,I,I,I,I,I] rfl rfl (one_of HT_.out (by kernel_rfl)) (by decide) (fun K hK=>?_)
          have C30:w16.cell? ⟨AV7,1,none⟩=some (W8):=(blk_cell Q9.out 1).trans rfl
          have Cm0:=blk_frozen Q9.out 1
          have hns18_0:=AF5.out
          have hms18_0:=AZ8.out
          refine skip_ (w1:=?_) (by rfl) rfl ?_ ?_
          rotate_left
          ·go_simp
           rfl
          refine hK.out _ _ ?_
          clear hK K
          refine done_ (done_of HT_.out (by kernel_rfl)) ?_
          try go_wp2
          go_roundg k2
          case measure=>have:=HK1.out;have:=HK2.out;omega
          case rel=>exact ⟨(wrap64 (K4+1)),(Bv6),(.slice Cl7 Bv6.length Cl8),(z2_),H',⟨z14_ HK1.out HK2.out⟩,⟨by (with_reducible repeat (first | apply Kd.R_alloc | apply Kd.R_drewN | apply Kd.R_drew));exact Kd.R_mono (Kd.R_far (p:=⟨AV7,1,none⟩) (Kd.R_types B97.out Q9.out (by decide)) (fun _ hk=>hk.2) (.slice Cl7 Bv6.length Cl8)) (fun _ hk=>trivial)⟩,⟨z46_ AF5.out U2.out⟩,⟨by (with_reducible repeat (first | refine blk_drewN ?_ _ | refine blk_drew ?_ | refine blk_alloc ?_ _));refine blk_put (cs:=#[.int .i64 a0,W8]) ?_ 1 _ rfl;(with_reducible repeat (first | refine blk_drewN ?_ _ | refine blk_drew ?_ | refine blk_alloc ?_ _));exact Q9.out⟩,⟨z9_ HB.out AL5.out Ab1.out⟩⟩
         ·rw [if_neg c14] at H
          exact nO H
        ·rw [if_neg c12] at H
         exact nO H
       ·rw [if_neg c10] at H
        exact nO H
      ·rw [if_neg c8] at H
       have c8b0:decide (K4≤a1)=false:=dF c8
       clear c8
       have H':=aM H
       clear H
       go_wp2
       go_roundg k2
       case measure=>have:=HK1.out;have:=HK2.out;omega
       case rel=>exact ⟨(wrap64 (D9+1)),(Q1),(W8),(z2_),H',⟨z14_ HK1.out HK2.out⟩,⟨z0_ K3.out⟩,⟨z3_ U2.out⟩,⟨z3_ Q9.out⟩,⟨z9_ HB.out AL5.out Ab1.out⟩⟩
   ·rw [if_neg c7] at H
    have c7b0:decide (D9≤a0)=false:=dF c7
    clear c7
    replace H:=bS H
    obtain ⟨Bv5,Cm1,H⟩:=H
    replace H:(some (a0,Bv5))=some (r1,r2):=H
    have A19:=aM Cm1
    clear Cm1
    simp only [Option.some.injEq,Prod.mk.injEq] at H
    obtain ⟨rfl,rfl⟩:=H
    have hnb20:=AZ8.out
    have hnc20:=AF5.out
    have ⟨hcz21_0,hcz21_1,hfz21_0,hfz21_1⟩:=cz2_ Q9.out
    obtain ⟨At4,At5,Bh4⟩:=Kd.R_slice K3.out
    subst Bh4
    go_wp2_with (first | ((with_reducible refine gc_ 71 ?_);refine gl_ (some 36) Tryz.func71 #[.slice At4 Z2.length At5,.func (.func 72) #[] #[]] ?_;(with_reducible refine (Y34.calls k1 (fun k_=>some k_=(.slice At4 Z2.length At5:Value).ownBlock) (.slice At4 Z2.length At5) Z2  Bv5 w _ ?s1 ?s2 A19.out).mono ?_);(case s1=>repeat (first | (with_reducible first | exact HB.out | apply below_alloc | apply pw_below_drewN | apply below_drew1 | refine below_set ?_ AL5.out | refine below_set ?_ Ab1.out) | exact HB.out));(case s2=>exact Kd.R_tight rfl K3.out);rintro e w23 ⟨rfl,hy0,hb,hkp⟩;refine ⟨_,rfl,?_⟩;have n0_:=aM (Kd.R_reok rfl hy0 (fun k_ e_=>K3.out.1 k_ e_));have n1_:=aM (blk_kept (z3_ U2.out) hkp (fun hs_=>(fun e_=>(Kd.R_ne K3.out U2.out (by decide)) e_) hs_));have n2_:=aM (blk_kept (z3_ Q9.out) hkp (fun hs_=>(fun e_=>(Kd.R_ne K3.out Q9.out (by decide)) e_) hs_));have n3_:=aM (hb);clear K3;clear U2;clear Q9;clear HB;have K3:=n0_;have U2:=n1_;have Q9:=n2_;have HB:=n3_;clear n0_ n1_ n2_ n3_;(try clear hb);(try clear hkp);(try clear hy0);have ⟨BL5,BL6,BL7,BL8⟩:=cz2_ Q9.out;have ⟨hcz25_0,hcz25_1,hfz25_0,hfz25_1⟩:=cz2_ U2.out))
    refine bodyPost_ret (results_cell_row rfl _ _ Ao3 27 #[.int .i64 a0,.slice At4 Z2.length At5] (0,0) _ rfl (z18_ U2.out) Tryz.underlying27 rfl (by kernel_rfl)) rfl ?_
    exact ⟨_,z8_,z24_ K3.out U2.out,z9_ HB.out AL5.out Ab1.out⟩


theorem eqA78 (d:Nat) (w:World) (x0 y0:Int) (x1 y1:Int) :
  (Op.equalIn (d+2) 78 (.agg #[.int .i64 x0,.int .i64 x1]) (.agg #[.int .i64 y0,.int .i64 y1])).run Tryz.prog w = .ok (x0 == y0 && (x1 == y1)) w:=by
 refine eqA_of Tryz.underlying78 (by kernel_rfl) ?_
 refine eqf_cons (by rfl) (by go_simp;rfl) (by go_simp;rfl) (by go_simp) ?_
 exact eqf_last (by rfl) (by go_simp;rfl) (by go_simp;rfl) (by go_simp)

attribute [local go_sem high] eqA78
/-! ### Y13: function 56 -/
def Y13.l0:Nat→List (S78)→List (S78)→Int→Int→Option (Bool)
 | 0,_,_,_,_=>none
 | k+1,x0,x1,x12,x13=>if x13<x12 then (if 0≤x13 then (if x13<(x0.length:Int) then (if x13<(x1.length:Int) then (if (!(((rd_T78 x0 x13).f0) == ((rd_T78 x1 x13).f0)) || (!(((rd_T78 x0 x13).f1) == ((rd_T78 x1 x13).f1))))=true then (some false) else (Y13.l0 k x0 x1 x12 (wrap64 (x13+1)))) else (none)) else (none)) else (none)) else (some true)
def Y13.f (k:Nat) (l0:List (S78)) (l1:List (S78)):Option (Bool):=if (l0.length:Int)=(l1.length:Int) then (Y13.l0 k l0 l1 (l0.length:Int) 0) else (some false)
theorem Y13.mono_l:∀ k,(∀ y0 y1 y2 y3,LeO (Y13.l0 k y0 y1 y2 y3) (Y13.l0 (k+1) y0 y1 y2 y3))
 | 0=>by intros <;> exact LeO.none _
 | k+1=>by
  have ih0:=Y13.mono_l k
  ·intros
   unfold Y13.l0
   exact mO
theorem Y13.mono:∀ a0 a1 k,LeO (Y13.f k a0 a1) (Y13.f (k+1) a0 a1):=by
 intro a0 a1 k
 have ih0:=Y13.mono_l k
 unfold Y13.f
 exact mO
theorem Y13.calls (k:Nat) (A0:Option Addr) (c0:Nat) (l0:List (S78)) (A1:Option Addr) (c1:Nat) (l1:List (S78)) (r:Bool) (w:World) (hr0:Kd.C k78 w A0 l0.length l0) (hc0:l0.length≤c0) (hr1:Kd.C k78 w A1 l1.length l1) (hc1:l1.length≤c1) (h:Y13.f k l0 l1=some r) :
  Calls Tryz.prog 56 #[.slice A0 l0.length c0,.slice A1 l1.length c1] w fun e w'=>e = .returned (.bool r)∧Drawn0 w w':=by
 have Ah1:=Tryz.underlying78
 have HR0:=aM hr0
 have HC0:=aM hc0
 clear hr0 hc0
 have HR1:=aM hr1
 have HC1:=aM hc1
 clear hr1 hc1
 have H:(if (l0.length:Int)=(l1.length:Int) then (Y13.l0 k l0 l1 (l0.length:Int) 0) else (some false))=some r:=h
 clear h
 by_cases c3:(l0.length:Int)=(l1.length:Int)
 ·rw [if_pos c3] at H
  have c3b0:((l0.length:Int) == (l1.length:Int))=true:=beq_iff_eq.mpr c3
  have c3b1:((l0.length:Int) != (l1.length:Int))=false:=bne_eq_false_iff_eq.mpr c3
  have c3b2:(l0.length == l1.length)=true:=by first | simpa using c3 | (simp at c3 ⊢;omega)
  clear c3
  have H':=aM H
  clear H
  go_enter Tryz.func56,Tryz.ntmps56
  go_wp2
  repeat (go_quiet (fail);try go_wp2)
  go_loopg [13] k (fun kq v13 w'=>∃ (G9:Int),v13 = .int .i64 G9∧Aside0 (Y13.l0 kq l0 l1 (l0.length:Int) G9=some r)∧Aside0 (kq≤k)∧Drawn0 w w')
  case atStart=>exact ⟨(0),(z2_),H',⟨Nat.le_refl _⟩,z5_⟩
  case round =>
   clear H'
   try clear c1
   try clear p2
   try clear c3
   try clear c3b0
   try clear c3b1
   try clear c3b2
   obtain ⟨G9,rfl,HA,HK1,⟨m1,rfl⟩⟩:=hrel
   cases gk with
   | zero=>exact absurd HA.out (by simp [Y13.l0])
   | succ k1 =>
    have H:=HA.out
    clear HA
    simp only [Y13.l0] at H
    by_cases c4:G9<(l0.length:Int)
    ·rw [if_pos c4] at H
     have c4b0:decide (G9<(l0.length:Int))=true:=dE c4
     clear c4
     by_cases c5:0≤G9
     ·rw [if_pos c5] at H
      have c5b0:decide (0≤G9)=true:=dE c5
      clear c5
      by_cases c6:G9<(l0.length:Int)
      ·rw [if_pos c6] at H
       have c6b0:decide (G9<(l0.length:Int))=true:=dE c6
       clear c6
       by_cases c7:G9<(l1.length:Int)
       ·rw [if_pos c7] at H
        have c7b0:decide (G9<(l1.length:Int))=true:=dE c7
        clear c7
        by_cases c8:(!(((rd_T78 l0 G9).f0) == ((rd_T78 l1 G9).f0)) || (!(((rd_T78 l0 G9).f1) == ((rd_T78 l1 G9).f1))))=true
        ·rw [if_pos c8] at H
         have c8b0:(!(((rd_T78 l0 G9).f0) == ((rd_T78 l1 G9).f0)) || (!(((rd_T78 l0 G9).f1) == ((rd_T78 l1 G9).f1))))=true:=c8
         clear c8
         obtain rfl:=sI H
         have BD6:0≤(G9:Int):=dT (z1_)
         have BD7:G9<(l0.length:Int):=dT (z1_)
         obtain ⟨Cm2,e332,Bv7,Bv8⟩:=at_T78 HR0.out G9 BD6 BD7
         cases e332
         replace BD6:=eq_true BD6
         replace BD7:=eq_true BD7
         have BD8:0≤(G9:Int):=dT (z1_)
         have BD9:G9<(l1.length:Int):=dT (z1_)
         obtain ⟨Cm3,e333,Bv9,Bw0⟩:=at_T78 HR1.out G9 BD8 BD9
         cases e333
         replace BD8:=eq_true BD8
         replace BD9:=eq_true BD9
         go_wp2
         repeat (go_quiet (fail);try go_wp2)
         go_ret
         exact ⟨z2_,z5_⟩
        ·rw [if_neg c8] at H
         have c8b0:(!(((rd_T78 l0 G9).f0) == ((rd_T78 l1 G9).f0)) || (!(((rd_T78 l0 G9).f1) == ((rd_T78 l1 G9).f1))))=false:=by simpa using c8
         clear c8
         have H':=aM H
         clear H
         have BD6:0≤(G9:Int):=dT (z1_)
         have BD7:G9<(l0.length:Int):=dT (z1_)
         obtain ⟨Cm2,e332,Bv7,Bv8⟩:=at_T78 HR0.out G9 BD6 BD7
         cases e332
         replace BD6:=eq_true BD6
         replace BD7:=eq_true BD7
         have BD8:0≤(G9:Int):=dT (z1_)
         have BD9:G9<(l1.length:Int):=dT (z1_)
         obtain ⟨Cm3,e333,Bv9,Bw0⟩:=at_T78 HR1.out G9 BD8 BD9
         cases e333
         replace BD8:=eq_true BD8
         replace BD9:=eq_true BD9
         go_wp2
         repeat (go_quiet (fail);try go_wp2)
         go_roundg k1
         case measure=>have:=HK1.out;omega
         case rel=>exact ⟨(wrap64 (G9+1)),(z2_),H',⟨by have:=HK1.out;omega⟩,z5_⟩
       ·rw [if_neg c7] at H
        exact nO H
      ·rw [if_neg c6] at H
       exact nO H
     ·rw [if_neg c5] at H
      exact nO H
    ·rw [if_neg c4] at H
     have c4b0:decide (G9<(l0.length:Int))=false:=dF c4
     clear c4
     obtain rfl:=sI H
     go_wp2
     repeat (go_quiet (fail);try go_wp2)
     go_ret
     exact ⟨z2_,z5_⟩
 ·rw [if_neg c3] at H
  have c3b0:((l0.length:Int) == (l1.length:Int))=false:=beq_eq_false_iff_ne.mpr c3
  have c3b1:((l0.length:Int) != (l1.length:Int))=true:=bne_iff_ne.mpr c3
  have c3b2:(l0.length == l1.length)=false:=by first | simpa using c3 | (simp at c3 ⊢;omega)
  obtain rfl:=sI H
  go_enter Tryz.func56,Tryz.ntmps56
  go_wp2
  repeat (go_quiet (fail);try go_wp2)
  go_ret
  exact ⟨z2_,z5_⟩


/-! ### Y12: function 22 -/
def Y12.f (k:Nat) (B2:Int) (B0:List (S78)):Option (Bool):=(Y62.f B2).bind fun BS9=>(if BS9=true then (if B2=0 then (none) else ((Y59.f (wrap64 ((B0.length:Int) / B2)) 1 8).bind fun An2=>(if An2=true then ((Y28.f k B2 (wrap64 ((B0.length:Int) / B2))).bind fun AL6=>((Y13.f k B0 AL6.2).bind fun AP4=>(some AP4))) else (some false)))) else (some false))
theorem Y12.mono:∀ a0 a1 k,LeO (Y12.f k a0 a1) (Y12.f (k+1) a0 a1):=by
 intro a0 a1 k
 have m0:=@Y28.mono
 have m1:=@Y13.mono
 unfold Y12.f
 exact mO
def Y12.T4:Bool × List (List Nat × List Nat):=(true,[([],[]),([0],[0]),([1,1],[1]),([2],[2]),([3,2],[2,3]),([2],[2]),([5,2],[2,5]),([2],[2]),([6,7,2,2],[2,6,7]),([8,2],[2,8]),([4,9,8,2],[2,4,9]),([2,10],[2,10]),([11,10,0,1,2,3,4,5,6,7,8,9,10,11],[11])])
def Y12.B4:List Nat:=[0,1,3,7,15,7,39,7,231,487,1023,2047,4095]
theorem Y12.tab4:rtab .any (opsOf Tryz.f22 4)=Y12.T4:=by kernel_rfl
theorem Y12.bits4:waitsOk Y12.T4.2 Y12.B4=true:=by kernel_rfl
abbrev Y12.q0:Array Bool:=#[O,O,O,O,O,O,O,O,O,O,O,O,O]
abbrev Y12.q1:Array Bool:=#[I,O,O,O,O,O,O,O,O,O,O,O,O]
abbrev Y12.q2:Array Bool:=#[I,I,O,O,O,O,O,O,O,O,O,O,O]
abbrev Y12.q3:Array Bool:=#[I,I,I,O,O,O,O,O,O,O,O,O,O]
abbrev Y12.q4:Array Bool:=#[I,I,I,I,O,O,O,O,O,O,O,O,O]
abbrev Y12.q5:Array Bool:=#[I,I,I,I,I,I,I,I,O,O,O,O,O]
abbrev Y12.q6:Array Bool:=#[I,I,I,I,I,I,I,I,I,O,O,O,O]
abbrev Y12.q7:Array Bool:=#[I,I,I,I,I,I,I,I,I,I,O,O,O]
abbrev Y12.q8:Array Bool:=#[I,I,I,I,I,I,I,I,I,I,I,O,O]
abbrev Y12.q9:Array Bool:=#[I,I,I,I,I,I,I,I,I,I,I,I,O]
abbrev Y12.q10:Array Bool:=#[I,I,I,I,I,I,I,I,I,I,I,I,I]
theorem Y12.calls (k:Nat) (B2:Int) (E7:Option Addr) (E4:Nat) (B0:List (S78)) (r:Bool) (w:World) (J9:Kd.C k78 w E7 B0.length B0) (K0:B0.length≤E4) (h:Y12.f k B2 B0=some r) :
  Calls Tryz.prog 22 #[.agg #[.int .i64 B2,.slice E7 B0.length E4]] w fun e w'=>e = .returned (.bool r)∧Below w.heap.size w w':=by
 have AD7:=Tryz.underlying27
 have hfd27:∀ (a:Int) (v:Value) (w:World),(Instr.field 27 (.agg #[.int .i64 a,v]) 1).run Tryz.prog w = .ok v w:=fun _ _ _=>by kernel_rfl
 have I2:=aM J9
 have J7:=aM K0
 clear J9 K0
 have HB:=aM (Below.refl w.heap.size w)
 have H:((Y62.f B2).bind fun BS9=>(if BS9=true then (if B2=0 then (none) else ((Y59.f (wrap64 ((B0.length:Int) / B2)) 1 8).bind fun An2=>(if An2=true then ((Y28.f k B2 (wrap64 ((B0.length:Int) / B2))).bind fun AL6=>((Y13.f k B0 AL6.2).bind fun AP4=>(some AP4))) else (some false)))) else (some false)))=some r:=h
 clear h
 replace H:=bS H
 obtain ⟨BS9,A20,H⟩:=H
 replace H:(if BS9=true then (if B2=0 then (none) else ((Y59.f (wrap64 ((B0.length:Int) / B2)) 1 8).bind fun An2=>(if An2=true then ((Y28.f k B2 (wrap64 ((B0.length:Int) / B2))).bind fun AL6=>((Y13.f k B0 AL6.2).bind fun AP4=>(some AP4))) else (some false)))) else (some false))=some r:=H
 have A2:=aM A20
 clear A20
 by_cases c3:BS9=true
 ·subst c3
  have H1:(if B2=0 then (none) else ((Y59.f (wrap64 ((B0.length:Int) / B2)) 1 8).bind fun An2=>(if An2=true then ((Y28.f k B2 (wrap64 ((B0.length:Int) / B2))).bind fun AL6=>((Y13.f k B0 AL6.2).bind fun AP4=>(some AP4))) else (some false))))=some r:=by rw [if_pos rfl] at H;exact H
  clear H
  have H:=H1
  clear H1
  by_cases c4:B2=0
  ·rw [if_pos c4] at H
   exact nO H
  ·rw [if_neg c4] at H
   have c4b0:(B2 == 0)=false:=beq_eq_false_iff_ne.mpr c4
   have c4b1:(B2 != 0)=true:=bne_iff_ne.mpr c4
   replace H:=bS H
   obtain ⟨An2,A50,H⟩:=H
   replace H:(if An2=true then ((Y28.f k B2 (wrap64 ((B0.length:Int) / B2))).bind fun AL6=>((Y13.f k B0 AL6.2).bind fun AP4=>(some AP4))) else (some false))=some r:=H
   have A5:=aM A50
   clear A50
   by_cases c6:An2=true
   ·subst c6
    have H1:((Y28.f k B2 (wrap64 ((B0.length:Int) / B2))).bind fun AL6=>((Y13.f k B0 AL6.2).bind fun AP4=>(some AP4)))=some r:=by rw [if_pos rfl] at H;exact H
    clear H
    have H:=H1
    clear H1
    replace H:=bS H
    obtain ⟨⟨C31,Bw1⟩,A70,H⟩:=H
    replace H:((Y13.f k B0 Bw1).bind fun AP4=>(some AP4))=some r:=H
    have A7:=aM A70
    clear A70
    replace H:=bS H
    obtain ⟨AP4,A80,H⟩:=H
    replace H:(some AP4)=some r:=H
    have A8:=aM A80
    clear A80
    obtain rfl:=sI H
    go_enter Tryz.func22,Tryz.ntmps22
    try go_wp2_with (first | ((with_reducible refine gd_ 1 ?_);refine be_ 1 #[.int .i64 B2,.slice E7 B0.length E4] 27 ?_;intro AJ2 hg w9 hbox hb;have n0_:=aM (below_step (z6_ HB.out) hb);have n1_:=aM (hbox);have n2_:=aM ((z7_ HB.out:w.heap.size≤AJ2));have n3_:=aM ((z7_ HB.out:w.heap.size≤AJ2));clear HB;have HB:=n0_;have U3:=n1_;have B98:=n2_;have AV8:=n3_;clear n0_ n1_ n2_ n3_;clear hb hbox hg;have ⟨U5,U6,U7,U8⟩:=cz2_ U3.out) | ((with_reducible refine gc_ 38 ?_);refine gl_ (some 6) Tryz.func38 #[.int .i64 B2] ?_;(with_reducible refine (Y62.calls B2 true _ A2.out).mono ?_);rintro e w' ⟨rfl,⟨nd,rfl⟩⟩;refine ⟨_,rfl,?_⟩))
    (try (rw [drewN_self w9];generalize hq_:World.drewN w9 _=w9;have n0_:Aside0 (w9.heap[AJ2]? = some (.cells #[.int .i64 B2,.slice E7 B0.length E4] 27 (0,0))):=⟨by rw [← hq_];exact (by (with_reducible repeat (first | refine blk_drewN ?_ _ | refine blk_drew ?_ | refine blk_alloc ?_ _));exact U3.out)⟩;have n1_:Aside0 (Below w.heap.size w w9):=⟨by rw [← hq_];exact (by repeat (first | (with_reducible first | exact HB.out | apply below_alloc | apply pw_below_drewN | apply below_drew1 | refine below_set ?_ AV8.out) | exact HB.out))⟩;clear U3 HB hq_;have U3:=n0_;have HB:=n1_;clear n0_ n1_))
    have n0_:=aM (blk_drew U3.out)
    have n1_:=aM (below_drew1 HB.out)
    clear U3
    clear HB
    have U3:=n0_
    have HB:=n1_
    clear n0_ n1_
    refine start_ (n:=13) (S:=fun w'=>w'.cell? ⟨AJ2,0,none⟩=some (.int .i64 B2)∧w'.cell? ⟨AJ2,1,none⟩=some (.slice E7 B0.length E4)) (ds:=[]) Y12.q0 (by kernel_rfl) rfl rfl (cc2_ U3.out) (fun hHeld=>?_);refine with_tabW Y12.tab4 Y12.bits4 (fun HT_ HW_=>?_)
    generalize w9.drew=w11 at U3 HB hHeld ⊢
    refine pu_ 0 14 Y12.q1 HT_.out ?_
    refine o1_ 1 15 Y12.q2 HT_.out (fun K hK=>?_)
    refine gs_ Tryz.func42 #[.int .i64 (wrap64 ((B0.length:Int) / B2)),.int .i64 1,.int .i64 8] ?_
    with_reducible refine (Y59.calls (wrap64 ((B0.length:Int) / B2)) 1 8 true _ A5.out).mono ?_
    rintro e w' ⟨rfl,⟨nd,rfl⟩⟩
    refine ⟨_,rfl,?_⟩
    refine hK.out _ _ (cc2_ U3.out) (fun hHeld=>?_)
    clear hK K
    refine nm_ 15 ?_
    refine pu_ 2 16 Y12.q3 HT_.out ?_
    refine pu_ 3 17 Y12.q4 HT_.out ?_
    refine pu_ 5 19 #[I,I,I,I,O,I,O,O,O,O,O,O,O] HT_.out ?_
    refine pu_ 7 21 #[I,I,I,I,O,I,O,I,O,O,O,O,O] HT_.out ?_
    refine tk2_ 4 18 #[I,I,I,I,I,I,O,I,O,O,O,O,O] HT_.out HW_.out hHeld ?_
    refine tk2_ 6 20 Y12.q5 HT_.out HW_.out hHeld ?_
    refine o1_ 8 22 Y12.q6 HT_.out (fun K hK=>?_)
    refine gs_ Tryz.func43 #[.int .i64 B2,.int .i64 (wrap64 ((B0.length:Int) / B2))] ?_
    with_reducible refine (Y28.calls k B2 (wrap64 ((B0.length:Int) / B2)) C31 Bw1 _ A7.out).mono ?_
    rintro e w12 ⟨v339,rfl,ho0,hb⟩
    refine ⟨_,rfl,?_⟩
    have n0_:=aM (Kd.R_lower ho0 (below_size (z4_ HB.out AV8.out)))
    have n1_:=aM (blkB_ U3.out hb)
    have n2_:=aM (below_step (z4_ HB.out AV8.out) hb)
    clear U3
    clear HB
    have Bh5:=n0_
    have U3:=n1_
    have HB:=n2_
    clear n0_ n1_ n2_
    (try clear hb)
    (try clear ho0)
    obtain ⟨BD1,AP2,BD2⟩:=Kd.R_slice Bh5.out
    (first | subst BD2 | (injection BD2 with f1_ f2_ f3_;have f4_:=f1_.symm;have f5_:=f3_.symm;clear f1_ f2_ f3_;subst f4_;subst f5_))
    refine hK.out _ _ (cc2_ U3.out) (fun hHeld=>?_)
    clear hK K
    refine nm_ 22 ?_
    refine pu_ 9 23 Y12.q7 HT_.out ?_
    refine o1_ 10 24 Y12.q8 HT_.out (fun K hK=>?_)
    refine gs_ Tryz.func56 #[.slice E7 B0.length E4,.slice BD1 Bw1.length AP2] ?_
    with_reducible refine (Y13.calls k _ _ B0 _ _ Bw1 AP4 _ ?s1 ?s2 ?s3 ?s4 A8.out).mono ?_
    (case s1=>repeat (first | exact (Kd.C_below I2.out HB.out) | (with_reducible refine Kd.C_alloc ?_ _) | (with_reducible refine Kd.C_drewN ?_ _) | (with_reducible refine Kd.C_drew ?_)))
    (case s2=>exact J7.out)
    (case s3=>repeat (first | exact (Kd.R_reads' Bh5.out).2.2 | (with_reducible refine Kd.C_alloc ?_ _) | (with_reducible refine Kd.C_drewN ?_ _) | (with_reducible refine Kd.C_drew ?_)))
    (case s4=>exact (Kd.R_reads' Bh5.out).2.1)
    rintro e w' ⟨rfl,⟨nd,rfl⟩⟩
    refine ⟨_,rfl,?_⟩
    refine hK.out _ _ (cc2_ U3.out) (fun hHeld=>?_)
    clear hK K
    refine nm_ 24 ?_
    refine pu_ 11 25 Y12.q9 HT_.out ?_
    refine pu_ 12 2 Y12.q10 HT_.out ?_
    refine done_ (done_of HT_.out (by kernel_rfl)) ?_
    try go_wp2
    go_ret
    exact ⟨z8_,z4_ HB.out AV8.out⟩
   ·replace c6:=Bool.eq_false_iff.mpr c6
    subst c6
    have H1:(some false)=some r:=by rw [if_neg (show ¬ (false=true) by decide)] at H;exact H
    clear H
    have H:=H1
    clear H1
    obtain rfl:=sI H
    go_enter Tryz.func22,Tryz.ntmps22
    try go_wp2_with (first | ((with_reducible refine gd_ 1 ?_);refine be_ 1 #[.int .i64 B2,.slice E7 B0.length E4] 27 ?_;intro AJ2 hg w14 hbox hb;have n0_:=aM (below_step (z6_ HB.out) hb);have n1_:=aM (hbox);have n2_:=aM ((z7_ HB.out:w.heap.size≤AJ2));have n3_:=aM ((z7_ HB.out:w.heap.size≤AJ2));clear HB;have HB:=n0_;have U3:=n1_;have B98:=n2_;have AV8:=n3_;clear n0_ n1_ n2_ n3_;clear hb hbox hg;have ⟨BN0,BN1,BN2,BN3⟩:=cz2_ U3.out) | ((with_reducible refine gc_ 38 ?_);refine gl_ (some 6) Tryz.func38 #[.int .i64 B2] ?_;(with_reducible refine (Y62.calls B2 true _ A2.out).mono ?_);rintro e w' ⟨rfl,⟨nd,rfl⟩⟩;refine ⟨_,rfl,?_⟩))
    (try (rw [drewN_self w14];generalize hq_:World.drewN w14 _=w14;have n0_:Aside0 (w14.heap[AJ2]? = some (.cells #[.int .i64 B2,.slice E7 B0.length E4] 27 (0,0))):=⟨by rw [← hq_];exact (by (with_reducible repeat (first | refine blk_drewN ?_ _ | refine blk_drew ?_ | refine blk_alloc ?_ _));exact U3.out)⟩;have n1_:Aside0 (Below w.heap.size w w14):=⟨by rw [← hq_];exact (by repeat (first | (with_reducible first | exact HB.out | apply below_alloc | apply pw_below_drewN | apply below_drew1 | refine below_set ?_ AV8.out) | exact HB.out))⟩;clear U3 HB hq_;have U3:=n0_;have HB:=n1_;clear n0_ n1_))
    have n0_:=aM (blk_drew U3.out)
    have n1_:=aM (below_drew1 HB.out)
    clear U3
    clear HB
    have U3:=n0_
    have HB:=n1_
    clear n0_ n1_
    refine start_ (n:=13) (S:=fun w'=>True) (ds:=[]) Y12.q0 (by kernel_rfl) rfl rfl trivial (fun hHeld=>?_);refine with_tabW Y12.tab4 Y12.bits4 (fun HT_ HW_=>?_)
    generalize w14.drew=w16 at U3 HB hHeld ⊢
    refine pu_ 0 14 Y12.q1 HT_.out ?_
    refine o1_ 1 15 Y12.q2 HT_.out (fun K hK=>?_)
    refine gs_ Tryz.func42 #[.int .i64 (wrap64 ((B0.length:Int) / B2)),.int .i64 1,.int .i64 8] ?_
    with_reducible refine (Y59.calls (wrap64 ((B0.length:Int) / B2)) 1 8 false _ A5.out).mono ?_
    rintro e w' ⟨rfl,⟨nd,rfl⟩⟩
    refine ⟨_,rfl,?_⟩
    refine hK.out _ _ trivial (fun hHeld=>?_)
    clear hK K
    refine nm_ 15 ?_
    refine pu_ 2 16 Y12.q3 HT_.out ?_
    refine pn_ 3 17 Y12.q4 HT_.out ?_
    refine pn_ 4 18 #[I,I,I,I,I,O,O,O,O,O,O,O,O] HT_.out ?_
    refine pn_ 5 19 #[I,I,I,I,I,I,O,O,O,O,O,O,O] HT_.out ?_
    refine pn_ 6 20 #[I,I,I,I,I,I,I,O,O,O,O,O,O] HT_.out ?_
    refine pn_ 7 21 Y12.q5 HT_.out ?_
    refine pn_ 8 22 Y12.q6 HT_.out ?_
    refine pn_ 9 23 Y12.q7 HT_.out ?_
    refine pn_ 10 24 Y12.q8 HT_.out ?_
    refine pu_ 11 25 Y12.q9 HT_.out ?_
    refine pu_ 12 2 Y12.q10 HT_.out ?_
    refine done_ (done_of HT_.out (by kernel_rfl)) ?_
    try go_wp2
    go_ret
    exact ⟨z8_,z4_ HB.out AV8.out⟩
 ·replace c3:=Bool.eq_false_iff.mpr c3
  subst c3
  have H1:(some false)=some r:=by rw [if_neg (show ¬ (false=true) by decide)] at H;exact H
  clear H
  have H:=H1
  clear H1
  obtain rfl:=sI H
  go_enter Tryz.func22,Tryz.ntmps22
  go_wp2_with (first | ((with_reducible refine gd_ 1 ?_);refine be_ 1 #[.int .i64 B2,.slice E7 B0.length E4] 27 ?_;intro AJ2 hg w17 hbox hb;have n0_:=aM (below_step (z6_ HB.out) hb);have n1_:=aM (hbox);have n2_:=aM ((z7_ HB.out:w.heap.size≤AJ2));have n3_:=aM ((z7_ HB.out:w.heap.size≤AJ2));clear HB;have HB:=n0_;have U3:=n1_;have B98:=n2_;have AV8:=n3_;clear n0_ n1_ n2_ n3_;clear hb hbox hg;have ⟨AV9,AW0,AW1,AW2⟩:=cz2_ U3.out) | ((with_reducible refine gc_ 38 ?_);refine gl_ (some 6) Tryz.func38 #[.int .i64 B2] ?_;(with_reducible refine (Y62.calls B2 false _ A2.out).mono ?_);rintro e w' ⟨rfl,⟨nd,rfl⟩⟩;refine ⟨_,rfl,?_⟩))
  go_ret
  exact ⟨z8_,z4_ HB.out AV8.out⟩


/-! ### Y88: function 79 -/
def Y88.f (a0:ByteArray):Option (Bool):=some (decide ((a0.size:Int)>8000))
theorem Y88.calls (a0:ByteArray) (r:Bool) (w:World) (h:Y88.f a0=some r) :
  Calls Tryz.prog 79 #[.string a0] w fun e w'=>e = .returned (.bool r)∧Drawn0 w w':=by
 have H:(some (decide ((a0.size:Int)>8000)))=some r:=h
 clear h
 obtain rfl:=sI H
 go_enter Tryz.func79,Tryz.ntmps79
 go_wp2
 go_ret
 exact ⟨z2_,z5_⟩


/-! ### Y11: function 106 -/
def Y11.l0:Nat→List ByteArray→Int→Int→Option (Int)
 | 0,_,_,_=>none
 | k+1,x0,x7,x8=>if x8<x7 then (if 0≤x8 then (if x8<(x0.length:Int) then ((Y88.f (rdOf ByteArray.empty x0 x8)).bind fun Bw2=>(if Bw2=true then (some x8) else (Y11.l0 k x0 x7 (wrap64 (x8+1))))) else (none)) else (none)) else (some (-1))
def Y11.f (k:Nat) (l0:List ByteArray)  : Option (Int):=Y11.l0 k l0 (l0.length:Int) 0
theorem Y11.mono_l:∀ k,(∀ y0 y1 y2,LeO (Y11.l0 k y0 y1 y2) (Y11.l0 (k+1) y0 y1 y2))
 | 0=>by intros <;> exact LeO.none _
 | k+1=>by
  have ih0:=Y11.mono_l k
  ·intros
   unfold Y11.l0
   exact mO
theorem Y11.mono:∀ a0 k,LeO (Y11.f k a0) (Y11.f (k+1) a0):=by
 intro a0 k
 have ih0:=Y11.mono_l k
 unfold Y11.f
 exact mO
theorem Y11.calls (k:Nat) (A0:Option Addr) (c0:Nat) (l0:List ByteArray)  (r:Int) (w:World) (hr0:Kd.C Kd.string w A0 l0.length l0) (hc0:l0.length≤c0) (h:Y11.f k l0=some r) :
  Calls Tryz.prog 106 #[.slice A0 l0.length c0,.func (.func 79) #[] #[]] w fun e w'=>e = .returned (.int .i64 r)∧Drawn0 w w':=by
 have HR0:=aM hr0
 have HC0:=aM hc0
 clear hr0 hc0
 have H:(Y11.l0 k l0 (l0.length:Int) 0)=some r:=h
 clear h
 have H':=aM H
 clear H
 go_enter Tryz.func106,Tryz.ntmps106
 go_wp2
 go_loopg [8] k (fun kq v8 w'=>∃ (E6:Int),v8 = .int .i64 E6∧Aside0 (Y11.l0 kq l0 (l0.length:Int) E6=some r)∧Aside0 (kq≤k)∧Drawn0 w w')
 case atStart=>exact ⟨(0),(z2_),H',⟨Nat.le_refl _⟩,z5_⟩
 case round =>
  clear H'
  try clear p2
  obtain ⟨E6,rfl,HA,HK1,⟨m1,rfl⟩⟩:=hrel
  cases gk with
  | zero=>exact absurd HA.out (by simp [Y11.l0])
  | succ k1 =>
   have H:=HA.out
   clear HA
   simp only [Y11.l0] at H
   by_cases c3:E6<(l0.length:Int)
   ·rw [if_pos c3] at H
    have c3b0:decide (E6<(l0.length:Int))=true:=dE c3
    clear c3
    by_cases c4:0≤E6
    ·rw [if_pos c4] at H
     have c4b0:decide (0≤E6)=true:=dE c4
     clear c4
     by_cases c5:E6<(l0.length:Int)
     ·rw [if_pos c5] at H
      have c5b0:decide (E6<(l0.length:Int))=true:=dE c5
      clear c5
      replace H:=bS H
      obtain ⟨Bw2,A60,H⟩:=H
      replace H:(if Bw2=true then (some E6) else (Y11.l0 k1 l0 (l0.length:Int) (wrap64 (E6+1))))=some r:=H
      have A6:=aM A60
      clear A60
      by_cases c7:Bw2=true
      ·subst c7
       have H1:(some E6)=some r:=by rw [if_pos rfl] at H;exact H
       clear H
       have H:=H1
       clear H1
       obtain rfl:=sI H
       have BE0:0≤(E6:Int):=dT (z1_)
       have BE1:E6<(l0.length:Int):=dT (z1_)
       obtain ⟨Cm4,CM9,Bw3⟩:=Kd.at_string HR0.out E6 BE0 BE1
       cases CM9
       replace BE0:=eq_true BE0
       replace BE1:=eq_true BE1
       go_wp2_with (first | (go_at_call 79;(with_reducible refine (Y88.calls (rdOf ByteArray.empty l0 E6) true _ A6.out).mono ?_);rintro e w' ⟨rfl,⟨nd,rfl⟩⟩))
       go_ret
       exact ⟨z2_,z5_⟩
      ·replace c7:=Bool.eq_false_iff.mpr c7
       subst c7
       have H1:(Y11.l0 k1 l0 (l0.length:Int) (wrap64 (E6+1)))=some r:=by rw [if_neg (show ¬ (false=true) by decide)] at H;exact H
       clear H
       have H:=H1
       clear H1
       have H':=aM H
       clear H
       have BE0:0≤(E6:Int):=dT (z1_)
       have BE1:E6<(l0.length:Int):=dT (z1_)
       obtain ⟨Cm4,CM9,Bw3⟩:=Kd.at_string HR0.out E6 BE0 BE1
       cases CM9
       replace BE0:=eq_true BE0
       replace BE1:=eq_true BE1
       go_wp2_with (first | (go_at_call 79;(with_reducible refine (Y88.calls (rdOf ByteArray.empty l0 E6) false _ A6.out).mono ?_);rintro e w' ⟨rfl,⟨nd,rfl⟩⟩))
       go_roundg k1
       case measure=>have:=HK1.out;omega
       case rel=>exact ⟨(wrap64 (E6+1)),(z2_),H',⟨by have:=HK1.out;omega⟩,z5_⟩
     ·rw [if_neg c5] at H
      exact nO H
    ·rw [if_neg c4] at H
     exact nO H
   ·rw [if_neg c3] at H
    have c3b0:decide (E6<(l0.length:Int))=false:=dF c3
    clear c3
    obtain rfl:=sI H
    go_wp2
    go_ret
    exact ⟨z2_,z5_⟩


/-! ### Y35: function 78 -/
def Y35.f (k:Nat) (l0:List ByteArray)  : Option (Bool):=(Y11.f k l0).bind fun BT0=>(some (decide (BT0≥0)))
theorem Y35.mono:∀ a0 k,LeO (Y35.f k a0) (Y35.f (k+1) a0):=by
 intro a0 k
 have m0:=@Y11.mono
 unfold Y35.f
 exact mO
theorem Y35.calls (k:Nat) (A0:Option Addr) (c0:Nat) (l0:List ByteArray)  (r:Bool) (w:World) (hr0:Kd.C Kd.string w A0 l0.length l0) (hc0:l0.length≤c0) (h:Y35.f k l0=some r) :
  Calls Tryz.prog 78 #[.slice A0 l0.length c0,.func (.func 79) #[] #[]] w fun e w'=>e = .returned (.bool r)∧Drawn0 w w':=by
 have HR0:=aM hr0
 have HC0:=aM hc0
 clear hr0 hc0
 have H:((Y11.f k l0).bind fun BT0=>(some (decide (BT0≥0))))=some r:=h
 clear h
 replace H:=bS H
 obtain ⟨BT0,A30,H⟩:=H
 replace H:(some (decide (BT0≥0)))=some r:=H
 have A3:=aM A30
 clear A30
 obtain rfl:=sI H
 go_enter Tryz.func78,Tryz.ntmps78
 go_wp2_with (first | ((with_reducible refine gc_ 106 ?_);refine gl_ (some 7) Tryz.func106 #[.slice A0 l0.length c0,.func (.func 79) #[] #[]] ?_;(with_reducible refine (Y11.calls k _ _ l0  BT0 _ ?s1 ?s2 A3.out).mono ?_);(case s1=>repeat (first | exact HR0.out | (with_reducible refine Kd.C_alloc ?_ _) | (with_reducible refine Kd.C_drewN ?_ _) | (with_reducible refine Kd.C_drew ?_)));(case s2=>exact HC0.out);rintro e w' ⟨rfl,⟨nd,rfl⟩⟩;refine ⟨_,rfl,?_⟩))
 go_ret
 exact ⟨z2_,z5_⟩


/-! ### Y69: function 53 -/
def Y69.f (k:Nat) (l0:List ByteArray):Option (Bool):=(Y35.f k l0).bind fun BT1=>(some BT1)
theorem Y69.mono:∀ a0 k,LeO (Y69.f k a0) (Y69.f (k+1) a0):=by
 intro a0 k
 have m0:=@Y35.mono
 unfold Y69.f
 exact mO
theorem Y69.calls (k:Nat) (A0:Option Addr) (c0:Nat) (l0:List ByteArray) (r:Bool) (w:World) (hr0:Kd.C Kd.string w A0 l0.length l0) (hc0:l0.length≤c0) (h:Y69.f k l0=some r) :
  Calls Tryz.prog 53 #[.slice A0 l0.length c0] w fun e w'=>e = .returned (.bool r)∧Drawn0 w w':=by
 have HR0:=aM hr0
 have HC0:=aM hc0
 clear hr0 hc0
 have H:((Y35.f k l0).bind fun BT1=>(some BT1))=some r:=h
 clear h
 replace H:=bS H
 obtain ⟨BT1,A20,H⟩:=H
 replace H:(some BT1)=some r:=H
 have A2:=aM A20
 clear A20
 obtain rfl:=sI H
 go_enter Tryz.func53,Tryz.ntmps53
 go_wp2_with (first | ((with_reducible refine gc_ 78 ?_);refine gl_ (some 4) Tryz.func78 #[.slice A0 l0.length c0,.func (.func 79) #[] #[]] ?_;(with_reducible refine (Y35.calls k _ _ l0  BT1 _ ?s1 ?s2 A2.out).mono ?_);(case s1=>repeat (first | exact HR0.out | (with_reducible refine Kd.C_alloc ?_ _) | (with_reducible refine Kd.C_drewN ?_ _) | (with_reducible refine Kd.C_drew ?_)));(case s2=>exact HC0.out);rintro e w' ⟨rfl,⟨nd,rfl⟩⟩;refine ⟨_,rfl,?_⟩))
 go_ret
 exact ⟨z2_,z5_⟩


/-! ### Y92: function 99 -/
def Y92.f (a0:ByteArray):Option (Int):=some (a0.size:Int)
theorem Y92.calls (a0:ByteArray) (r:Int) (w:World) (h:Y92.f a0=some r) :
  Calls Tryz.prog 99 #[.string a0] w fun e w'=>e = .returned (.int .i64 r)∧Drawn0 w w':=by
 have H:(some (a0.size:Int))=some r:=h
 clear h
 obtain rfl:=sI H
 go_enter Tryz.func99,Tryz.ntmps99
 go_wp2
 go_ret
 exact ⟨z2_,z5_⟩


/-! ### Y23: function 64 -/
mutual
def Y23.j0:Nat→ByteArray→Bool→Option (Bool)
 | 0,_,_=>none
 | k+1,x0,x18=>if x18=true then (some false) else (Y23.l0 k x0 (x0.size:Int) 0)
def Y23.l0:Nat→ByteArray→Int→Int→Option (Bool)
 | 0,_,_,_=>none
 | k+1,x0,x20,x21=>if x21<x20 then (if 0≤x21 then (if x21<(x0.size:Int) then (if (bt x0 x21)≥97 then (if (bt x0 x21)≤122 then (Y23.l0 k x0 x20 (wrap64 (x21+1))) else (if (bt x0 x21)≥48 then (if (bt x0 x21)≤57 then (Y23.l0 k x0 x20 (wrap64 (x21+1))) else (if ((bt x0 x21)=95) then (Y23.l0 k x0 x20 (wrap64 (x21+1))) else (some false))) else (if ((bt x0 x21)=95) then (Y23.l0 k x0 x20 (wrap64 (x21+1))) else (some false)))) else (if (bt x0 x21)≥48 then (if (bt x0 x21)≤57 then (Y23.l0 k x0 x20 (wrap64 (x21+1))) else (if ((bt x0 x21)=95) then (Y23.l0 k x0 x20 (wrap64 (x21+1))) else (some false))) else (if ((bt x0 x21)=95) then (Y23.l0 k x0 x20 (wrap64 (x21+1))) else (some false)))) else (none)) else (none)) else (some true)
end
def Y23.f (k:Nat) (a0:ByteArray):Option (Bool):=(Y92.f a0).bind fun AW3=>((Y59.f AW3 1 20).bind fun A36=>(if A36=true then (if 0<(a0.size:Int) then (if (bt a0 0)<97 then (Y23.j0 k a0 true) else (Y23.j0 k a0 (decide ((bt a0 0)>122)))) else (none)) else (Y23.j0 k a0 true)))
theorem Y23.mono_l:∀ k,(∀ y0 y1,LeO (Y23.j0 k y0 y1) (Y23.j0 (k+1) y0 y1))∧(∀ y0 y1 y2,LeO (Y23.l0 k y0 y1 y2) (Y23.l0 (k+1) y0 y1 y2))
 | 0=>by refine ⟨?_,?_⟩ <;> intros <;> exact LeO.none _
 | k+1=>by
  obtain ⟨ih0,ih1⟩:=Y23.mono_l k
  refine ⟨?_,?_⟩
  ·intros
   unfold Y23.j0
   exact mO
  ·intros
   unfold Y23.l0
   exact mO
theorem Y23.mono:∀ a0 k,LeO (Y23.f k a0) (Y23.f (k+1) a0):=by
 intro a0 k
 obtain ⟨ih0,ih1⟩:=Y23.mono_l k
 unfold Y23.f
 exact mO
theorem Y23.calls (k:Nat) (a0:ByteArray) (r:Bool) (w:World) (h:Y23.f k a0=some r) :
  Calls Tryz.prog 64 #[.string a0] w fun e w'=>e = .returned (.bool r)∧Drawn0 w w':=by
 have H:((Y92.f a0).bind fun AW3=>((Y59.f AW3 1 20).bind fun A36=>(if A36=true then (if 0<(a0.size:Int) then (if (bt a0 0)<97 then (Y23.j0 k a0 true) else (Y23.j0 k a0 (decide ((bt a0 0)>122)))) else (none)) else (Y23.j0 k a0 true))))=some r:=h
 clear h
 have HC2:=aM H
 clear H
 go_enter Tryz.func64,Tryz.ntmps64
 go_upto_region 1 with (fail)
 go_cut [18] (fun v18 wc=>∃ (kq:Nat) (BN4:Bool),v18 = .bool BN4∧Aside0 (Y23.j0 kq a0 BN4=some r)∧Aside0 (kq≤k)∧Drawn0 w wc)
 case first =>
  have H:=HC2.out
  clear HC2
  replace H:=bS H
  obtain ⟨AW3,A30,H⟩:=H
  replace H:((Y59.f AW3 1 20).bind fun A36=>(if A36=true then (if 0<(a0.size:Int) then (if (bt a0 0)<97 then (Y23.j0 k a0 true) else (Y23.j0 k a0 (decide ((bt a0 0)>122)))) else (none)) else (Y23.j0 k a0 true)))=some r:=H
  have A3:=aM A30
  clear A30
  replace H:=bS H
  obtain ⟨A36,A40,H⟩:=H
  replace H:(if A36=true then (if 0<(a0.size:Int) then (if (bt a0 0)<97 then (Y23.j0 k a0 true) else (Y23.j0 k a0 (decide ((bt a0 0)>122)))) else (none)) else (Y23.j0 k a0 true))=some r:=H
  have A4:=aM A40
  clear A40
  by_cases c5:A36=true
  ·subst c5
   have H1:(if 0<(a0.size:Int) then (if (bt a0 0)<97 then (Y23.j0 k a0 true) else (Y23.j0 k a0 (decide ((bt a0 0)>122)))) else (none))=some r:=by rw [if_pos rfl] at H;exact H
   clear H
   have H:=H1
   clear H1
   by_cases c6:0<(a0.size:Int)
   ·rw [if_pos c6] at H
    have c6b0:decide (0<(a0.size:Int))=true:=dE c6
    have c6b1:decide (0<a0.size)=true:=dE (by omega)
    clear c6
    (first | rw [c6b0] | (simp only [i64_w,i32_w];rw [c6b0]) | skip)
    by_cases c8:(bt a0 0)<97
    ·rw [if_pos c8] at H
     have c8b0:decide ((bt a0 0)<97)=true:=dE c8
     clear c8
     have H':=aM H
     clear H
     go_wp2_with (first | ((with_reducible refine gc_ 99 ?_);refine gl_ (some 6) Tryz.func99 #[.string a0] ?_;(with_reducible refine (Y92.calls a0 AW3 _ A3.out).mono ?_);rintro e w' ⟨rfl,⟨nd,rfl⟩⟩;refine ⟨_,rfl,?_⟩) | ((with_reducible refine gc_ 42 ?_);refine gl_ (some 7) Tryz.func42 #[.int .i64 AW3,.int .i64 1,.int .i64 20] ?_;(with_reducible refine (Y59.calls AW3 1 20 true _ A4.out).mono ?_);rintro e w' ⟨rfl,⟨nd,rfl⟩⟩;refine ⟨_,rfl,?_⟩;have p7:0≤(0:Int):=(by omega);have q7:0<a0.size:=(z58_);have hx7:∀ h:0<a0.size,((a0[0]'h).toNat:Int)=bt a0 0:=bt_at a0 0;clear p7;have qi7:(0<(a0.size:Int))=True:=eq_true (dT (z1_));replace q7:=eq_true q7))
     go_meet
     case rel=>exact ⟨_,(true),(z2_),H',⟨by first | omega | exact Nat.le_refl _⟩,z5_⟩
    ·rw [if_neg c8] at H
     have c8b0:decide ((bt a0 0)<97)=false:=dF c8
     clear c8
     have H':=aM H
     clear H
     go_wp2_with (first | ((with_reducible refine gc_ 99 ?_);refine gl_ (some 6) Tryz.func99 #[.string a0] ?_;(with_reducible refine (Y92.calls a0 AW3 _ A3.out).mono ?_);rintro e w' ⟨rfl,⟨nd,rfl⟩⟩;refine ⟨_,rfl,?_⟩) | ((with_reducible refine gc_ 42 ?_);refine gl_ (some 7) Tryz.func42 #[.int .i64 AW3,.int .i64 1,.int .i64 20] ?_;(with_reducible refine (Y59.calls AW3 1 20 true _ A4.out).mono ?_);rintro e w' ⟨rfl,⟨nd,rfl⟩⟩;refine ⟨_,rfl,?_⟩;have p7:0≤(0:Int):=(by omega);have q7:0<a0.size:=(z58_);have hx7:∀ h:0<a0.size,((a0[0]'h).toNat:Int)=bt a0 0:=bt_at a0 0;clear p7;have qi7:(0<(a0.size:Int))=True:=eq_true (dT (z1_));replace q7:=eq_true q7;have p9:0≤(0:Int):=(by omega);have q9:0<a0.size:=(z58_);have hx9:∀ h:0<a0.size,((a0[0]'h).toNat:Int)=bt a0 0:=bt_at a0 0;clear p9;have qi9:(0<(a0.size:Int))=True:=eq_true (dT (z1_));replace q9:=eq_true q9))
     go_meet
     case rel=>exact ⟨_,(decide ((bt a0 0)>122)),(z2_),H',⟨by first | omega | exact Nat.le_refl _⟩,z5_⟩
   ·rw [if_neg c6] at H
    exact nO H
  ·replace c5:=Bool.eq_false_iff.mpr c5
   subst c5
   have H1:(Y23.j0 k a0 true)=some r:=by rw [if_neg (show ¬ (false=true) by decide)] at H;exact H
   clear H
   have H:=H1
   clear H1
   have H':=aM H
   clear H
   go_wp2_with (first | ((with_reducible refine gc_ 99 ?_);refine gl_ (some 6) Tryz.func99 #[.string a0] ?_;(with_reducible refine (Y92.calls a0 AW3 _ A3.out).mono ?_);rintro e w' ⟨rfl,⟨nd,rfl⟩⟩;refine ⟨_,rfl,?_⟩) | ((with_reducible refine gc_ 42 ?_);refine gl_ (some 7) Tryz.func42 #[.int .i64 AW3,.int .i64 1,.int .i64 20] ?_;(with_reducible refine (Y59.calls AW3 1 20 false _ A4.out).mono ?_);rintro e w' ⟨rfl,⟨nd,rfl⟩⟩;refine ⟨_,rfl,?_⟩))
   go_meet
   case rel=>exact ⟨_,(true),(z2_),H',⟨by first | omega | exact Nat.le_refl _⟩,z5_⟩
 case rest =>
  clear HC2
  try clear p2
  try clear c4
  try clear c5
  try clear c6
  try clear c6b0
  try clear c6b1
  try clear p7
  try clear q7
  try clear hx7
  try clear qi7
  try clear c8
  try clear c8b0
  try clear c9
  try clear p9
  try clear q9
  try clear hx9
  try clear qi9
  try clear p7
  try clear p9
  try clear q7
  try clear q9
  obtain ⟨kq,BN4,rfl,HA,HJ1,⟨mc1,rfl⟩⟩:=hcut
  cases kq with
  | zero=>exact absurd HA.out (by simp [Y23.j0])
  | succ kj1 =>
   have H:=HA.out
   clear HA
   simp only [Y23.j0] at H
   by_cases c10:BN4=true
   ·subst c10
    have H1:(some false)=some r:=by rw [if_pos rfl] at H;exact H
    clear H
    have H:=H1
    clear H1
    obtain rfl:=sI H
    go_wp2
    go_ret
    exact ⟨z2_,z5_⟩
   ·replace c10:=Bool.eq_false_iff.mpr c10
    subst c10
    have H1:(Y23.l0 kj1 a0 (a0.size:Int) 0)=some r:=by rw [if_neg (show ¬ (false=true) by decide)] at H;exact H
    clear H
    have H:=H1
    clear H1
    have H':=aM H
    clear H
    go_wp2
    go_loopg [21] kj1 (fun kq v21 w'=>∃ (D8:Int),v21 = .int .i64 D8∧Aside0 (Y23.l0 kq a0 (a0.size:Int) D8=some r)∧Aside0 (kq≤kj1)∧Drawn0 w w')
    case atStart=>exact ⟨(0),(z2_),H',⟨Nat.le_refl _⟩,z5_⟩
    case round =>
     clear H'
     try clear c1
     try clear p2
     try clear c4
     try clear c5
     try clear c6
     try clear c6b0
     try clear c6b1
     try clear p7
     try clear q7
     try clear hx7
     try clear qi7
     try clear c8
     try clear c8b0
     try clear c9
     try clear p9
     try clear q9
     try clear hx9
     try clear qi9
     try clear c10
     try clear p2
     try clear p7
     try clear p9
     try clear q7
     try clear q9
     obtain ⟨D8,rfl,HA,HK2,⟨m2,rfl⟩⟩:=hrel
     cases gk with
     | zero=>exact absurd HA.out (by simp [Y23.l0])
     | succ k2 =>
      have H:=HA.out
      clear HA
      simp only [Y23.l0] at H
      by_cases c11:D8<(a0.size:Int)
      ·rw [if_pos c11] at H
       have c11b0:decide (D8<(a0.size:Int))=true:=dE c11
       clear c11
       by_cases c12:0≤D8
       ·rw [if_pos c12] at H
        have c12b0:decide (0≤D8)=true:=dE c12
        clear c12
        by_cases c13:D8<(a0.size:Int)
        ·rw [if_pos c13] at H
         have c13b0:decide (D8<(a0.size:Int))=true:=dE c13
         clear c13
         by_cases c15:(bt a0 D8)≥97
         ·rw [if_pos c15] at H
          have c15b0:decide (97≤(bt a0 D8))=true:=dE c15
          clear c15
          by_cases c16:(bt a0 D8)≤122
          ·rw [if_pos c16] at H
           have c16b0:decide ((bt a0 D8)≤122)=true:=dE c16
           clear c16
           have H':=aM H
           clear H
           have p14:0≤(D8:Int):=dT (z1_)
           have q14:D8<(a0.size:Int):=dT (z1_)
           have Ai6:=bt_at a0 D8
           replace p14:=eq_true p14
           replace q14:=eq_true q14
           go_wp2
           go_roundg k2
           case measure=>have:=HJ1.out;have:=HK2.out;omega
           case rel=>exact ⟨(wrap64 (D8+1)),(z2_),H',⟨z14_ HJ1.out HK2.out⟩,z5_⟩
          ·rw [if_neg c16] at H
           have c16b0:decide ((bt a0 D8)≤122)=false:=dF c16
           clear c16
           by_cases c17:(bt a0 D8)≥48
           ·rw [if_pos c17] at H
            have c17b0:decide (48≤(bt a0 D8))=true:=dE c17
            clear c17
            by_cases c18:(bt a0 D8)≤57
            ·rw [if_pos c18] at H
             have c18b0:decide ((bt a0 D8)≤57)=true:=dE c18
             clear c18
             have H':=aM H
             clear H
             have p14:0≤(D8:Int):=dT (z1_)
             have q14:D8<(a0.size:Int):=dT (z1_)
             have Ai6:=bt_at a0 D8
             replace p14:=eq_true p14
             replace q14:=eq_true q14
             go_wp2
             go_roundg k2
             case measure=>have:=HJ1.out;have:=HK2.out;omega
             case rel=>exact ⟨(wrap64 (D8+1)),(z2_),H',⟨z14_ HJ1.out HK2.out⟩,z5_⟩
            ·rw [if_neg c18] at H
             have c18b0:decide ((bt a0 D8)≤57)=false:=dF c18
             clear c18
             by_cases c19:((bt a0 D8)=95)
             ·rw [if_pos c19] at H
              have c19b0:((bt a0 D8) == 95)=true:=beq_iff_eq.mpr c19
              have c19b1:((bt a0 D8) != 95)=false:=bne_eq_false_iff_eq.mpr c19
              clear c19
              have H':=aM H
              clear H
              have p14:0≤(D8:Int):=dT (z1_)
              have q14:D8<(a0.size:Int):=dT (z1_)
              have Ai6:=bt_at a0 D8
              replace p14:=eq_true p14
              replace q14:=eq_true q14
              go_wp2
              go_roundg k2
              case measure=>have:=HJ1.out;have:=HK2.out;omega
              case rel=>exact ⟨(wrap64 (D8+1)),(z2_),H',⟨z14_ HJ1.out HK2.out⟩,z5_⟩
             ·rw [if_neg c19] at H
              have c19b0:((bt a0 D8) == 95)=false:=beq_eq_false_iff_ne.mpr c19
              have c19b1:((bt a0 D8) != 95)=true:=bne_iff_ne.mpr c19
              obtain rfl:=sI H
              have p14:0≤(D8:Int):=dT (z1_)
              have q14:D8<(a0.size:Int):=dT (z1_)
              have Ai6:=bt_at a0 D8
              replace p14:=eq_true p14
              replace q14:=eq_true q14
              go_wp2
              go_ret
              exact ⟨z2_,z5_⟩
           ·rw [if_neg c17] at H
            have c17b0:decide (48≤(bt a0 D8))=false:=dF c17
            clear c17
            by_cases c20:((bt a0 D8)=95)
            ·rw [if_pos c20] at H
             have c20b0:((bt a0 D8) == 95)=true:=beq_iff_eq.mpr c20
             have c20b1:((bt a0 D8) != 95)=false:=bne_eq_false_iff_eq.mpr c20
             clear c20
             have H':=aM H
             clear H
             have p14:0≤(D8:Int):=dT (z1_)
             have q14:D8<(a0.size:Int):=dT (z1_)
             have Ai6:=bt_at a0 D8
             replace p14:=eq_true p14
             replace q14:=eq_true q14
             go_wp2
             go_roundg k2
             case measure=>have:=HJ1.out;have:=HK2.out;omega
             case rel=>exact ⟨(wrap64 (D8+1)),(z2_),H',⟨z14_ HJ1.out HK2.out⟩,z5_⟩
            ·rw [if_neg c20] at H
             have c20b0:((bt a0 D8) == 95)=false:=beq_eq_false_iff_ne.mpr c20
             have c20b1:((bt a0 D8) != 95)=true:=bne_iff_ne.mpr c20
             obtain rfl:=sI H
             have p14:0≤(D8:Int):=dT (z1_)
             have q14:D8<(a0.size:Int):=dT (z1_)
             have Ai6:=bt_at a0 D8
             replace p14:=eq_true p14
             replace q14:=eq_true q14
             go_wp2
             go_ret
             exact ⟨z2_,z5_⟩
         ·rw [if_neg c15] at H
          have c15b0:decide (97≤(bt a0 D8))=false:=dF c15
          clear c15
          by_cases c21:(bt a0 D8)≥48
          ·rw [if_pos c21] at H
           have c21b0:decide (48≤(bt a0 D8))=true:=dE c21
           clear c21
           by_cases c22:(bt a0 D8)≤57
           ·rw [if_pos c22] at H
            have c22b0:decide ((bt a0 D8)≤57)=true:=dE c22
            clear c22
            have H':=aM H
            clear H
            have p14:0≤(D8:Int):=dT (z1_)
            have q14:D8<(a0.size:Int):=dT (z1_)
            have Ai6:=bt_at a0 D8
            replace p14:=eq_true p14
            replace q14:=eq_true q14
            go_wp2
            go_roundg k2
            case measure=>have:=HJ1.out;have:=HK2.out;omega
            case rel=>exact ⟨(wrap64 (D8+1)),(z2_),H',⟨z14_ HJ1.out HK2.out⟩,z5_⟩
           ·rw [if_neg c22] at H
            have c22b0:decide ((bt a0 D8)≤57)=false:=dF c22
            clear c22
            by_cases c23:((bt a0 D8)=95)
            ·rw [if_pos c23] at H
             have c23b0:((bt a0 D8) == 95)=true:=beq_iff_eq.mpr c23
             have c23b1:((bt a0 D8) != 95)=false:=bne_eq_false_iff_eq.mpr c23
             clear c23
             have H':=aM H
             clear H
             have p14:0≤(D8:Int):=dT (z1_)
             have q14:D8<(a0.size:Int):=dT (z1_)
             have Ai6:=bt_at a0 D8
             replace p14:=eq_true p14
             replace q14:=eq_true q14
             go_wp2
             go_roundg k2
             case measure=>have:=HJ1.out;have:=HK2.out;omega
             case rel=>exact ⟨(wrap64 (D8+1)),(z2_),H',⟨z14_ HJ1.out HK2.out⟩,z5_⟩
            ·rw [if_neg c23] at H
             have c23b0:((bt a0 D8) == 95)=false:=beq_eq_false_iff_ne.mpr c23
             have c23b1:((bt a0 D8) != 95)=true:=bne_iff_ne.mpr c23
             obtain rfl:=sI H
             have p14:0≤(D8:Int):=dT (z1_)
             have q14:D8<(a0.size:Int):=dT (z1_)
             have Ai6:=bt_at a0 D8
             replace p14:=eq_true p14
             replace q14:=eq_true q14
             go_wp2
             go_ret
             exact ⟨z2_,z5_⟩
          ·rw [if_neg c21] at H
           have c21b0:decide (48≤(bt a0 D8))=false:=dF c21
           clear c21
           by_cases c24:((bt a0 D8)=95)
           ·rw [if_pos c24] at H
            have c24b0:((bt a0 D8) == 95)=true:=beq_iff_eq.mpr c24
            have c24b1:((bt a0 D8) != 95)=false:=bne_eq_false_iff_eq.mpr c24
            clear c24
            have H':=aM H
            clear H
            have p14:0≤(D8:Int):=dT (z1_)
            have q14:D8<(a0.size:Int):=dT (z1_)
            have Ai6:=bt_at a0 D8
            replace p14:=eq_true p14
            replace q14:=eq_true q14
            go_wp2
            go_roundg k2
            case measure=>have:=HJ1.out;have:=HK2.out;omega
            case rel=>exact ⟨(wrap64 (D8+1)),(z2_),H',⟨z14_ HJ1.out HK2.out⟩,z5_⟩
           ·rw [if_neg c24] at H
            have c24b0:((bt a0 D8) == 95)=false:=beq_eq_false_iff_ne.mpr c24
            have c24b1:((bt a0 D8) != 95)=true:=bne_iff_ne.mpr c24
            obtain rfl:=sI H
            have p14:0≤(D8:Int):=dT (z1_)
            have q14:D8<(a0.size:Int):=dT (z1_)
            have Ai6:=bt_at a0 D8
            replace p14:=eq_true p14
            replace q14:=eq_true q14
            go_wp2
            go_ret
            exact ⟨z2_,z5_⟩
        ·rw [if_neg c13] at H
         exact nO H
       ·rw [if_neg c12] at H
        exact nO H
      ·rw [if_neg c11] at H
       have c11b0:decide (D8<(a0.size:Int))=false:=dF c11
       clear c11
       obtain rfl:=sI H
       go_wp2
       go_ret
       exact ⟨z2_,z5_⟩


/-! ### Y57: function 34 -/
def Y57.f (k:Nat) (B2:Int) (B0:List (S78)) (a1:ByteArray):Option (Bool):=(Y69.f k (([a1]:List ByteArray))).bind fun A38=>(if A38=true then (some false) else ((Y12.f k B2 B0).bind fun Ad2=>(if Ad2=true then ((Y23.f k a1).bind fun AP5=>(some AP5)) else (some false))))
theorem Y57.mono:∀ a0 a1 a2 k,LeO (Y57.f k a0 a1 a2) (Y57.f (k+1) a0 a1 a2):=by
 intro a0 a1 a2 k
 have m0:=@Y23.mono
 have m1:=@Y12.mono
 have m2:=@Y69.mono
 unfold Y57.f
 exact mO
theorem Y57.calls (k:Nat) (B2:Int) (E7:Option Addr) (E4:Nat) (B0:List (S78)) (a1:ByteArray) (r:Bool) (w:World) (J9:Kd.C k78 w E7 B0.length B0) (K0:B0.length≤E4) (h:Y57.f k B2 B0 a1=some r) :
  Calls Tryz.prog 34 #[.agg #[.int .i64 B2,.slice E7 B0.length E4],.string a1] w fun e w'=>e = .returned (.bool r)∧Below w.heap.size w w':=by
 have AD7:=Tryz.underlying27
 have I2:=aM J9
 have J7:=aM K0
 clear J9 K0
 have HB:=aM (Below.refl w.heap.size w)
 have H:((Y69.f k (([a1]:List ByteArray))).bind fun A38=>(if A38=true then (some false) else ((Y12.f k B2 B0).bind fun Ad2=>(if Ad2=true then ((Y23.f k a1).bind fun AP5=>(some AP5)) else (some false)))))=some r:=h
 clear h
 obtain ⟨BE2,A39⟩:∃ y_:List ByteArray,y_=(([a1]:List ByteArray)):=⟨_,rfl⟩
 replace H:((Y69.f k BE2).bind fun A38=>(if A38=true then (some false) else ((Y12.f k B2 B0).bind fun Ad2=>(if Ad2=true then ((Y23.f k a1).bind fun AP5=>(some AP5)) else (some false)))))=some r:=by first | (rw [A39];with_reducible exact H) | (have H2_:=(Option.bind_some _ _).symm.trans H;rw [A39];with_reducible exact H2_) | (have H2_:=(Option.bind_some _ _).symm.trans H;with_reducible exact H2_) | with_reducible exact H | (rw [A39];exact H) | exact H
 have Ao4:=aM A39
 clear A39
 replace H:=bS H
 obtain ⟨A38,A30,H⟩:=H
 replace H:(if A38=true then (some false) else ((Y12.f k B2 B0).bind fun Ad2=>(if Ad2=true then ((Y23.f k a1).bind fun AP5=>(some AP5)) else (some false))))=some r:=H
 have A3:=aM A30
 clear A30
 by_cases c4:A38=true
 ·subst c4
  have H1:(some false)=some r:=by rw [if_pos rfl] at H;exact H
  clear H
  have H:=H1
  clear H1
  obtain rfl:=sI H
  go_enter Tryz.func34,Tryz.ntmps34
  go_wp2_with (first | ((with_reducible refine gd_ 2 ?_);refine be_ 2 #[.int .i64 B2,.slice E7 B0.length E4] 27 ?_;intro Ab2 hg w5 hbox hb;have n0_:=aM (below_step (z6_ HB.out) hb);have n1_:=aM (hbox);have n2_:=aM ((z7_ HB.out:w.heap.size≤Ab2));have n3_:=aM ((z7_ HB.out:w.heap.size≤Ab2));clear HB;have HB:=n0_;have g9:=n1_;have B99:=n2_;have AB1:=n3_;clear n0_ n1_ n2_ n3_;clear hb hbox hg) | ((with_reducible refine gd_ 6 ?_);refine Kd.R_lit Kd.string _ 9 ?hg (N:=6) ?hd (xs:=([a1]:List ByteArray)) (inner:=[.string a1]) (ok:=fun _=>True) (okp:=fun _=>True) ?hr ?hp (fun _ hk=>hk) trivial (Below.refl _ _) (Nat.le_refl _) (by simp) ?_;(case hd=>rfl);(case hg=>rfl);(case hr=>first | (go_simp;done) | (go_simp;rfl));(case hp=>exact (Reps.one (show Kd.M Kd.string _ _ _ a1 [.string a1] from rfl) (Reps.none _ _)));intro Cm5 w6 ho7 hb hg_ hnew_;clear hg_ hnew_;(first | rw [← Ao4.out] at ho7 | (simp only [Int.reduceToNat] at ho7;rw [← Ao4.out] at ho7));have n0_:=aM (Kd.R_lower ho7 (below_size (z4_ HB.out AB1.out)));have n1_:=aM (blkB_ g9.out hb);have n2_:=aM (below_step (z4_ HB.out AB1.out) hb);clear g9;clear HB;have t9:=n0_;have g9:=n1_;have HB:=n2_;clear n0_ n1_ n2_;clear hb ho7;obtain ⟨Ao8,co8,eo8⟩:=Kd.R_slice t9.out;subst eo8) | ((with_reducible refine gc_ 53 ?_);refine gl_ (some 7) Tryz.func53 #[.slice Ao8 BE2.length co8] ?_;(with_reducible refine (Y69.calls k _ _ BE2 true _ ?s1 ?s2 A3.out).mono ?_);(case s1=>repeat (first | exact (Kd.R_reads' t9.out).2.2 | (with_reducible refine Kd.C_alloc ?_ _) | (with_reducible refine Kd.C_drewN ?_ _) | (with_reducible refine Kd.C_drew ?_)));(case s2=>exact (Kd.R_reads' t9.out).2.1);rintro e w' ⟨rfl,⟨nd,rfl⟩⟩;refine ⟨_,rfl,?_⟩))
  go_ret
  exact ⟨z8_,z4_ HB.out AB1.out⟩
 ·replace c4:=Bool.eq_false_iff.mpr c4
  subst c4
  have H1:((Y12.f k B2 B0).bind fun Ad2=>(if Ad2=true then ((Y23.f k a1).bind fun AP5=>(some AP5)) else (some false)))=some r:=by rw [if_neg (show ¬ (false=true) by decide)] at H;exact H
  clear H
  have H:=H1
  clear H1
  replace H:=bS H
  obtain ⟨Ad2,A90,H⟩:=H
  replace H:(if Ad2=true then ((Y23.f k a1).bind fun AP5=>(some AP5)) else (some false))=some r:=H
  have A9:=aM A90
  clear A90
  by_cases c10:Ad2=true
  ·subst c10
   have H1:((Y23.f k a1).bind fun AP5=>(some AP5))=some r:=by rw [if_pos rfl] at H;exact H
   clear H
   have H:=H1
   clear H1
   replace H:=bS H
   obtain ⟨AP5,f7,H⟩:=H
   replace H:(some AP5)=some r:=H
   have A11:=aM f7
   clear f7
   obtain rfl:=sI H
   go_enter Tryz.func34,Tryz.ntmps34
   go_wp2_with (first | ((with_reducible refine gd_ 2 ?_);refine be_ 2 #[.int .i64 B2,.slice E7 B0.length E4] 27 ?_;intro Ab2 hg w12 hbox hb;have n0_:=aM (below_step (z6_ HB.out) hb);have n1_:=aM (hbox);have n2_:=aM ((z7_ HB.out:w.heap.size≤Ab2));have n3_:=aM ((z7_ HB.out:w.heap.size≤Ab2));clear HB;have HB:=n0_;have g9:=n1_;have B99:=n2_;have AB1:=n3_;clear n0_ n1_ n2_ n3_;clear hb hbox hg) | ((with_reducible refine gd_ 6 ?_);refine Kd.R_lit Kd.string _ 9 ?hg (N:=6) ?hd (xs:=([a1]:List ByteArray)) (inner:=[.string a1]) (ok:=fun _=>True) (okp:=fun _=>True) ?hr ?hp (fun _ hk=>hk) trivial (Below.refl _ _) (Nat.le_refl _) (by simp) ?_;(case hd=>rfl);(case hg=>rfl);(case hr=>first | (go_simp;done) | (go_simp;rfl));(case hp=>exact (Reps.one (show Kd.M Kd.string _ _ _ a1 [.string a1] from rfl) (Reps.none _ _)));intro Cm5 w13 AH6 hb hg_ hnew_;clear hg_ hnew_;(first | rw [← Ao4.out] at AH6 | (simp only [Int.reduceToNat] at AH6;rw [← Ao4.out] at AH6));have n0_:=aM (Kd.R_lower AH6 (below_size (z4_ HB.out AB1.out)));have n1_:=aM (blkB_ g9.out hb);have n2_:=aM (below_step (z4_ HB.out AB1.out) hb);clear g9;clear HB;have t9:=n0_;have g9:=n1_;have HB:=n2_;clear n0_ n1_ n2_;clear hb AH6;obtain ⟨Ca3,Ca4,Br4⟩:=Kd.R_slice t9.out;subst Br4) | ((with_reducible refine gc_ 53 ?_);refine gl_ (some 7) Tryz.func53 #[.slice Ca3 BE2.length Ca4] ?_;(with_reducible refine (Y69.calls k _ _ BE2 false _ ?s1 ?s2 A3.out).mono ?_);(case s1=>repeat (first | exact (Kd.R_reads' t9.out).2.2 | (with_reducible refine Kd.C_alloc ?_ _) | (with_reducible refine Kd.C_drewN ?_ _) | (with_reducible refine Kd.C_drew ?_)));(case s2=>exact (Kd.R_reads' t9.out).2.1);rintro e w' ⟨rfl,⟨nd,rfl⟩⟩;refine ⟨_,rfl,?_⟩;have ⟨r8,r9,s8,s9⟩:=cz2_ g9.out) | (go_at_call 22;(with_reducible refine (Y12.calls k B2 _ _ B0 true _ ?s1 ?s2 A9.out).mono ?_);(case s1=>repeat (first | exact (Kd.C_below I2.out (z4_ HB.out AB1.out)) | (with_reducible refine Kd.C_alloc ?_ _) | (with_reducible refine Kd.C_drewN ?_ _) | (with_reducible refine Kd.C_drew ?_)));(case s2=>exact J7.out);rintro e w17 ⟨rfl,hb⟩;have n0_:=aM (Kd.R_below (z0_ t9.out) hb);have n1_:=aM (blkB_ g9.out hb);have n2_:=aM (below_step (z4_ HB.out AB1.out) hb);clear t9;clear g9;clear HB;have t9:=n0_;have g9:=n1_;have HB:=n2_;clear n0_ n1_ n2_;(try clear hb)) | (go_at_call 64;(with_reducible refine (Y23.calls k a1 AP5 _ A11.out).mono ?_);rintro e w' ⟨rfl,⟨nd,rfl⟩⟩))
   go_ret
   exact ⟨z8_,z4_ HB.out AB1.out⟩
  ·replace c10:=Bool.eq_false_iff.mpr c10
   subst c10
   have H1:(some false)=some r:=by rw [if_neg (show ¬ (false=true) by decide)] at H;exact H
   clear H
   have H:=H1
   clear H1
   obtain rfl:=sI H
   go_enter Tryz.func34,Tryz.ntmps34
   go_wp2_with (first | ((with_reducible refine gd_ 2 ?_);refine be_ 2 #[.int .i64 B2,.slice E7 B0.length E4] 27 ?_;intro Ab2 hg w18 hbox hb;have n0_:=aM (below_step (z6_ HB.out) hb);have n1_:=aM (hbox);have n2_:=aM ((z7_ HB.out:w.heap.size≤Ab2));have n3_:=aM ((z7_ HB.out:w.heap.size≤Ab2));clear HB;have HB:=n0_;have g9:=n1_;have B99:=n2_;have AB1:=n3_;clear n0_ n1_ n2_ n3_;clear hb hbox hg) | ((with_reducible refine gd_ 6 ?_);refine Kd.R_lit Kd.string _ 9 ?hg (N:=6) ?hd (xs:=([a1]:List ByteArray)) (inner:=[.string a1]) (ok:=fun _=>True) (okp:=fun _=>True) ?hr ?hp (fun _ hk=>hk) trivial (Below.refl _ _) (Nat.le_refl _) (by simp) ?_;(case hd=>rfl);(case hg=>rfl);(case hr=>first | (go_simp;done) | (go_simp;rfl));(case hp=>exact (Reps.one (show Kd.M Kd.string _ _ _ a1 [.string a1] from rfl) (Reps.none _ _)));intro Cm5 w19 Bh6 hb hg_ hnew_;clear hg_ hnew_;(first | rw [← Ao4.out] at Bh6 | (simp only [Int.reduceToNat] at Bh6;rw [← Ao4.out] at Bh6));have n0_:=aM (Kd.R_lower Bh6 (below_size (z4_ HB.out AB1.out)));have n1_:=aM (blkB_ g9.out hb);have n2_:=aM (below_step (z4_ HB.out AB1.out) hb);clear g9;clear HB;have t9:=n0_;have g9:=n1_;have HB:=n2_;clear n0_ n1_ n2_;clear hb Bh6;obtain ⟨Bh7,BE3,BT2⟩:=Kd.R_slice t9.out;subst BT2) | ((with_reducible refine gc_ 53 ?_);refine gl_ (some 7) Tryz.func53 #[.slice Bh7 BE2.length BE3] ?_;(with_reducible refine (Y69.calls k _ _ BE2 false _ ?s1 ?s2 A3.out).mono ?_);(case s1=>repeat (first | exact (Kd.R_reads' t9.out).2.2 | (with_reducible refine Kd.C_alloc ?_ _) | (with_reducible refine Kd.C_drewN ?_ _) | (with_reducible refine Kd.C_drew ?_)));(case s2=>exact (Kd.R_reads' t9.out).2.1);rintro e w' ⟨rfl,⟨nd,rfl⟩⟩;refine ⟨_,rfl,?_⟩;have ⟨Af5,Aq7,Af6,Aq8⟩:=cz2_ g9.out) | (go_at_call 22;(with_reducible refine (Y12.calls k B2 _ _ B0 false _ ?s1 ?s2 A9.out).mono ?_);(case s1=>repeat (first | exact (Kd.C_below I2.out (z4_ HB.out AB1.out)) | (with_reducible refine Kd.C_alloc ?_ _) | (with_reducible refine Kd.C_drewN ?_ _) | (with_reducible refine Kd.C_drew ?_)));(case s2=>exact J7.out);rintro e w23 ⟨rfl,hb⟩;have n0_:=aM (Kd.R_below (z0_ t9.out) hb);have n1_:=aM (blkB_ g9.out hb);have n2_:=aM (below_step (z4_ HB.out AB1.out) hb);clear t9;clear g9;clear HB;have t9:=n0_;have g9:=n1_;have HB:=n2_;clear n0_ n1_ n2_;(try clear hb)))
   go_ret
   exact ⟨z8_,z4_ HB.out AB1.out⟩


/-! ### Y30: function 100 -/
def Y30.l0:Nat→List Int→Int→Int→Int→Option (Int)
 | 0,_,_,_,_=>none
 | k+1,x0,x1,x7,x8=>if x8<x7 then (if 0≤x8 then (if x8<(x0.length:Int) then (if x1=(rd x0 x8) then (some x8) else (Y30.l0 k x0 x1 x7 (wrap64 (x8+1)))) else (none)) else (none)) else (some (-1))
def Y30.f (k:Nat) (l0:List Int) (a1:Int):Option (Int):=Y30.l0 k l0 a1 (l0.length:Int) 0
theorem Y30.mono_l:∀ k,(∀ y0 y1 y2 y3,LeO (Y30.l0 k y0 y1 y2 y3) (Y30.l0 (k+1) y0 y1 y2 y3))
 | 0=>by intros <;> exact LeO.none _
 | k+1=>by
  have ih0:=Y30.mono_l k
  ·intros
   unfold Y30.l0
   exact mO
theorem Y30.mono:∀ a0 a1 k,LeO (Y30.f k a0 a1) (Y30.f (k+1) a0 a1):=by
 intro a0 a1 k
 have ih0:=Y30.mono_l k
 unfold Y30.f
 exact mO
theorem Y30.calls (k:Nat) (A0:Option Addr) (c0:Nat) (l0:List Int) (a1:Int) (r:Int) (w:World) (hr0:Kd.C (Kd.int .i64) w A0 l0.length l0) (hc0:l0.length≤c0) (h:Y30.f k l0 a1=some r) :
  Calls Tryz.prog 100 #[.slice A0 l0.length c0,.int .i64 a1] w fun e w'=>e = .returned (.int .i64 r)∧Drawn0 w w':=by
 have HR0:=aM hr0
 have HC0:=aM hc0
 clear hr0 hc0
 have H:(Y30.l0 k l0 a1 (l0.length:Int) 0)=some r:=h
 clear h
 have H':=aM H
 clear H
 go_enter Tryz.func100,Tryz.ntmps100
 go_wp2
 go_loopg [8] k (fun kq v8 w'=>∃ (E6:Int),v8 = .int .i64 E6∧Aside0 (Y30.l0 kq l0 a1 (l0.length:Int) E6=some r)∧Aside0 (kq≤k)∧Drawn0 w w')
 case atStart=>exact ⟨(0),(z2_),H',⟨Nat.le_refl _⟩,z5_⟩
 case round =>
  clear H'
  try clear c1
  try clear p2
  obtain ⟨E6,rfl,HA,HK1,⟨m1,rfl⟩⟩:=hrel
  cases gk with
  | zero=>exact absurd HA.out (by simp [Y30.l0])
  | succ k1 =>
   have H:=HA.out
   clear HA
   simp only [Y30.l0] at H
   by_cases c3:E6<(l0.length:Int)
   ·rw [if_pos c3] at H
    have c3b0:decide (E6<(l0.length:Int))=true:=dE c3
    clear c3
    by_cases c4:0≤E6
    ·rw [if_pos c4] at H
     have c4b0:decide (0≤E6)=true:=dE c4
     clear c4
     by_cases c5:E6<(l0.length:Int)
     ·rw [if_pos c5] at H
      have c5b0:decide (E6<(l0.length:Int))=true:=dE c5
      clear c5
      by_cases c6:a1=(rd l0 E6)
      ·rw [if_pos c6] at H
       have c6b0:(a1 == (rd l0 E6))=true:=beq_iff_eq.mpr c6
       have c6b1:(a1 != (rd l0 E6))=false:=bne_eq_false_iff_eq.mpr c6
       clear c6
       obtain rfl:=sI H
       have BE4:0≤(E6:Int):=dT (z1_)
       have BE5:E6<(l0.length:Int):=dT (z1_)
       obtain ⟨Cm6,CN0,Bw4⟩:=Kd.at_int HR0.out E6 BE4 BE5
       cases CN0
       replace BE4:=eq_true BE4
       replace BE5:=eq_true BE5
       go_wp2
       go_ret
       exact ⟨z2_,z5_⟩
      ·rw [if_neg c6] at H
       have c6b0:(a1 == (rd l0 E6))=false:=beq_eq_false_iff_ne.mpr c6
       have c6b1:(a1 != (rd l0 E6))=true:=bne_iff_ne.mpr c6
       have H':=aM H
       clear H
       have BE4:0≤(E6:Int):=dT (z1_)
       have BE5:E6<(l0.length:Int):=dT (z1_)
       obtain ⟨Cm6,CN0,Bw4⟩:=Kd.at_int HR0.out E6 BE4 BE5
       cases CN0
       replace BE4:=eq_true BE4
       replace BE5:=eq_true BE5
       go_wp2
       go_roundg k1
       case measure=>have:=HK1.out;omega
       case rel=>exact ⟨(wrap64 (E6+1)),(z2_),H',⟨by have:=HK1.out;omega⟩,z5_⟩
     ·rw [if_neg c5] at H
      exact nO H
    ·rw [if_neg c4] at H
     exact nO H
   ·rw [if_neg c3] at H
    have c3b0:decide (E6<(l0.length:Int))=false:=dF c3
    clear c3
    obtain rfl:=sI H
    go_wp2
    go_ret
    exact ⟨z2_,z5_⟩


/-! ### Y26: function 67 -/
def Y26.f (k:Nat) (l0:List Int) (a1:Int):Option (Bool):=(Y30.f k l0 a1).bind fun BT3=>(some (decide (BT3≥0)))
theorem Y26.mono:∀ a0 a1 k,LeO (Y26.f k a0 a1) (Y26.f (k+1) a0 a1):=by
 intro a0 a1 k
 have m0:=@Y30.mono
 unfold Y26.f
 exact mO
theorem Y26.calls (k:Nat) (A0:Option Addr) (c0:Nat) (l0:List Int) (a1:Int) (r:Bool) (w:World) (hr0:Kd.C (Kd.int .i64) w A0 l0.length l0) (hc0:l0.length≤c0) (h:Y26.f k l0 a1=some r) :
  Calls Tryz.prog 67 #[.slice A0 l0.length c0,.int .i64 a1] w fun e w'=>e = .returned (.bool r)∧Drawn0 w w':=by
 have HR0:=aM hr0
 have HC0:=aM hc0
 clear hr0 hc0
 have H:((Y30.f k l0 a1).bind fun BT3=>(some (decide (BT3≥0))))=some r:=h
 clear h
 replace H:=bS H
 obtain ⟨BT3,A30,H⟩:=H
 replace H:(some (decide (BT3≥0)))=some r:=H
 have A3:=aM A30
 clear A30
 obtain rfl:=sI H
 go_enter Tryz.func67,Tryz.ntmps67
 go_wp2_with (first | ((with_reducible refine gc_ 100 ?_);refine gl_ (some 7) Tryz.func100 #[.slice A0 l0.length c0,.int .i64 a1] ?_;(with_reducible refine (Y30.calls k _ _ l0 a1 BT3 _ ?s1 ?s2 A3.out).mono ?_);(case s1=>repeat (first | exact HR0.out | (with_reducible refine Kd.C_alloc ?_ _) | (with_reducible refine Kd.C_drewN ?_ _) | (with_reducible refine Kd.C_drew ?_)));(case s2=>exact HC0.out);rintro e w' ⟨rfl,⟨nd,rfl⟩⟩;refine ⟨_,rfl,?_⟩))
 go_ret
 exact ⟨z2_,z5_⟩


/-! ### Y86: function 66 -/
def Y86.f (B2:Int) (AL1:Int) (Q4:Int):Option (Bool):=some (decide (B2≥Q4))
theorem Y86.calls (B2:Int) (AL1:Int) (gb1:Nat) (Q4:Int) (r:Bool) (w:World) (hk1:w.heap[gb1]? = some (.cells #[.int .i64 Q4] 2 (0,0))) (h:Y86.f B2 AL1 Q4=some r) :
  Calls Tryz.prog 66 #[.agg #[.int .i64 B2,.int .i64 AL1],.pointer (some ⟨gb1,0,none⟩)] w fun e w'=>e = .returned (.bool r)∧Below w.heap.size w w':=by
 have Ah1:=Tryz.underlying78
 have M2:=aM hk1
 clear hk1
 have HB:=aM (Below.refl w.heap.size w)
 have H:(some (decide (B2≥Q4)))=some r:=h
 clear h
 obtain rfl:=sI H
 go_enter Tryz.func66,Tryz.ntmps66
 go_wp2_with (first | ((with_reducible refine gd_ 2 ?_);refine be_ 2 #[.int .i64 B2,.int .i64 AL1] 78 ?_;intro CA0 hg w3 hbox hb;have n0_:=aM (blkB_ M2.out hb);have n1_:=aM (below_step (by repeat (first | (with_reducible first | exact HB.out | apply below_alloc | apply pw_below_drewN | apply below_drew1 | refine below_set ?_ u4.out) | exact HB.out)) hb);have n2_:=aM (hbox);have n3_:=aM ((by rw [hg];exact (below_size (by repeat (first | (with_reducible first | exact HB.out | apply below_alloc | apply pw_below_drewN | apply below_drew1 | refine below_set ?_ u4.out) | exact HB.out))):w.heap.size≤CA0));have n4_:=aM ((by rw [hg];exact (below_size (by repeat (first | (with_reducible first | exact HB.out | apply below_alloc | apply pw_below_drewN | apply below_drew1 | refine below_set ?_ u4.out) | exact HB.out))):w.heap.size≤CA0));have n5_:=aM (neL_ M2.out hg);have n6_:=aM (neG_ M2.out hg);clear M2;clear HB;have M2:=n0_;have HB:=n1_;have Cm7:=n2_;have GW357:=n3_;have Cm8:=n4_;have Bh8:=n5_;have Bh9:=n6_;clear n0_ n1_ n2_ n3_ n4_ n5_ n6_;clear hb hbox hg;have hnb4:=Bh9.out;have hnc4:=Bh8.out;have ⟨hcz5_0,hcz5_1,hfz5_0,hfz5_1⟩:=cz2_ Cm7.out;have ⟨AD8,AD9⟩:=cz1_ M2.out))
 go_ret
 exact ⟨z8_,by repeat (first | (with_reducible first | exact HB.out | apply below_alloc | apply pw_below_drewN | apply below_drew1 | refine below_set ?_ u4.out | refine below_set ?_ Cm8.out) | exact HB.out)⟩


/-! ### Y7: function 65 -/
def Y7.l0:Nat→List (S78)→Int→Int→Int→Option (Int)
 | 0,_,_,_,_=>none
 | k+1,x0,x7,x8,AH7=>if x8<x7 then (if 0≤x8 then (if x8<(x0.length:Int) then ((Y86.f ((rd_T78 x0 x8).f0) ((rd_T78 x0 x8).f1) AH7).bind fun Bw5=>(if Bw5=true then (some x8) else (Y7.l0 k x0 x7 (wrap64 (x8+1)) AH7))) else (none)) else (none)) else (some (-1))
def Y7.f (k:Nat) (l0:List (S78)) (Q4:Int):Option (Int):=Y7.l0 k l0 (l0.length:Int) 0 Q4
theorem Y7.mono_l:∀ k,(∀ y0 y1 y2 y3,LeO (Y7.l0 k y0 y1 y2 y3) (Y7.l0 (k+1) y0 y1 y2 y3))
 | 0=>by intros <;> exact LeO.none _
 | k+1=>by
  have ih0:=Y7.mono_l k
  ·intros
   unfold Y7.l0
   exact mO
theorem Y7.mono:∀ a0 a1 k,LeO (Y7.f k a0 a1) (Y7.f (k+1) a0 a1):=by
 intro a0 a1 k
 have ih0:=Y7.mono_l k
 unfold Y7.f
 exact mO
theorem Y7.calls (k:Nat) (A0:Option Addr) (c0:Nat) (l0:List (S78)) (gb1:Nat) (Q4:Int) (r:Int) (w:World) (hr0:Kd.C k78 w A0 l0.length l0) (hc0:l0.length≤c0) (hk1:w.heap[gb1]? = some (.cells #[.int .i64 Q4] 2 (0,0))) (h:Y7.f k l0 Q4=some r) :
  Calls Tryz.prog 65 #[.slice A0 l0.length c0,.func (.func 66) #[] #[.pointer (some ⟨gb1,0,none⟩)]] w fun e w'=>e = .returned (.int .i64 r)∧Below w.heap.size w w':=by
 have Ah1:=Tryz.underlying78
 have HR0:=aM hr0
 have HC0:=aM hc0
 clear hr0 hc0
 have M2:=aM hk1
 clear hk1
 have HB:=aM (Below.refl w.heap.size w)
 have H:(Y7.l0 k l0 (l0.length:Int) 0 Q4)=some r:=h
 clear h
 have H':=aM H
 clear H
 go_enter Tryz.func65,Tryz.ntmps65
 go_wp2
 go_loopg [8] k (fun kq v8 w'=>∃ (E6:Int),v8 = .int .i64 E6∧Aside0 (Y7.l0 kq l0 (l0.length:Int) E6 Q4=some r)∧Aside0 (kq≤k)∧Aside0 (w'.heap[gb1]? = some (.cells #[.int .i64 Q4] 2 (0,0)))∧Aside0 (Below w.heap.size w w'))
 case atStart=>exact ⟨(0),(z2_),H',⟨Nat.le_refl _⟩,⟨z3_ M2.out⟩,⟨by repeat (first | (with_reducible first | exact HB.out | apply below_alloc | apply pw_below_drewN | apply below_drew1 | refine below_set ?_ u4.out) | exact HB.out)⟩⟩
 case round =>
  clear H'
  try clear p2
  obtain ⟨E6,rfl,HA,HK1,M2,HB⟩:=hrel
  cases gk with
  | zero=>exact absurd HA.out (by simp [Y7.l0])
  | succ k1 =>
   have H:=HA.out
   clear HA
   simp only [Y7.l0] at H
   by_cases c3:E6<(l0.length:Int)
   ·rw [if_pos c3] at H
    have c3b0:decide (E6<(l0.length:Int))=true:=dE c3
    clear c3
    by_cases c4:0≤E6
    ·rw [if_pos c4] at H
     have c4b0:decide (0≤E6)=true:=dE c4
     clear c4
     by_cases c5:E6<(l0.length:Int)
     ·rw [if_pos c5] at H
      have c5b0:decide (E6<(l0.length:Int))=true:=dE c5
      clear c5
      replace H:=bS H
      obtain ⟨Bw5,A60,H⟩:=H
      replace H:(if Bw5=true then (some E6) else (Y7.l0 k1 l0 (l0.length:Int) (wrap64 (E6+1)) Q4))=some r:=H
      have A6:=aM A60
      clear A60
      by_cases c7:Bw5=true
      ·subst c7
       have H1:(some E6)=some r:=by rw [if_pos rfl] at H;exact H
       clear H
       have H:=H1
       clear H1
       obtain rfl:=sI H
       have BE6:0≤(E6:Int):=dT (z1_)
       have BE7:E6<(l0.length:Int):=dT (z1_)
       obtain ⟨Cm9,CN1,AH8,AH9⟩:=at_T78 HR0.out E6 BE6 BE7
       cases CN1
       replace AH8:=(HB.out.cell (World.block_lt_of_cell? w _ AH8)).trans AH8
       replace AH9:=(HB.out.cell (World.block_lt_of_cell? w _ AH9)).trans AH9
       replace BE6:=eq_true BE6
       replace BE7:=eq_true BE7
       go_wp2_with (first | (go_at_call 66;(with_reducible refine (Y86.calls ((rd_T78 l0 E6).f0) ((rd_T78 l0 E6).f1) gb1 Q4 true _ ?s1 A6.out).mono ?_);(case s1=>(with_reducible repeat (first | refine blk_drewN ?_ _ | refine blk_drew ?_ | refine blk_alloc ?_ _));exact M2.out);rintro e w8 ⟨rfl,hb⟩;have n0_:=aM (blkB_ M2.out hb);have n1_:=aM (below_step (by repeat (first | (with_reducible first | exact HB.out | apply below_alloc | apply pw_below_drewN | apply below_drew1 | refine below_set ?_ u4.out) | exact HB.out)) hb);clear M2;clear HB;have M2:=n0_;have HB:=n1_;clear n0_ n1_;(try clear hb)))
       go_ret
       exact ⟨z8_,by repeat (first | (with_reducible first | exact HB.out | apply below_alloc | apply pw_below_drewN | apply below_drew1 | refine below_set ?_ u4.out) | exact HB.out)⟩
      ·replace c7:=Bool.eq_false_iff.mpr c7
       subst c7
       have H1:(Y7.l0 k1 l0 (l0.length:Int) (wrap64 (E6+1)) Q4)=some r:=by rw [if_neg (show ¬ (false=true) by decide)] at H;exact H
       clear H
       have H:=H1
       clear H1
       have H':=aM H
       clear H
       have BE6:0≤(E6:Int):=dT (z1_)
       have BE7:E6<(l0.length:Int):=dT (z1_)
       obtain ⟨Cm9,CN1,AH8,AH9⟩:=at_T78 HR0.out E6 BE6 BE7
       cases CN1
       replace AH8:=(HB.out.cell (World.block_lt_of_cell? w _ AH8)).trans AH8
       replace AH9:=(HB.out.cell (World.block_lt_of_cell? w _ AH9)).trans AH9
       replace BE6:=eq_true BE6
       replace BE7:=eq_true BE7
       go_wp2_with (first | (go_at_call 66;(with_reducible refine (Y86.calls ((rd_T78 l0 E6).f0) ((rd_T78 l0 E6).f1) gb1 Q4 false _ ?s1 A6.out).mono ?_);(case s1=>(with_reducible repeat (first | refine blk_drewN ?_ _ | refine blk_drew ?_ | refine blk_alloc ?_ _));exact M2.out);rintro e w9 ⟨rfl,hb⟩;have n0_:=aM (blkB_ M2.out hb);have n1_:=aM (below_step (by repeat (first | (with_reducible first | exact HB.out | apply below_alloc | apply pw_below_drewN | apply below_drew1 | refine below_set ?_ u4.out) | exact HB.out)) hb);clear M2;clear HB;have M2:=n0_;have HB:=n1_;clear n0_ n1_;(try clear hb)))
       go_roundg k1
       case measure=>have:=HK1.out;omega
       case rel=>exact ⟨(wrap64 (E6+1)),(z2_),H',⟨by have:=HK1.out;omega⟩,⟨z3_ M2.out⟩,⟨by repeat (first | (with_reducible first | exact HB.out | apply below_alloc | apply pw_below_drewN | apply below_drew1 | refine below_set ?_ u4.out) | exact HB.out)⟩⟩
     ·rw [if_neg c5] at H
      exact nO H
    ·rw [if_neg c4] at H
     exact nO H
   ·rw [if_neg c3] at H
    have c3b0:decide (E6<(l0.length:Int))=false:=dF c3
    clear c3
    obtain rfl:=sI H
    go_wp2
    go_ret
    exact ⟨z8_,by repeat (first | (with_reducible first | exact HB.out | apply below_alloc | apply pw_below_drewN | apply below_drew1 | refine below_set ?_ u4.out) | exact HB.out)⟩


/-! ### Y31: function 35 -/
mutual
def Y31.j0:Nat→Int→Int→List (S78)→Option (List Int)
 | 0,_,_,_=>none
 | k+1,x6,Ag1,Z3=>Y31.l0 k x6 ([]:List Int) (Z3.length:Int) 0 Ag1 Z3
def Y31.l0:Nat→Int→List Int→Int→Int→Int→List (S78)→Option (List Int)
 | 0,_,_,_,_,_,_=>none
 | k+1,x6,x7,x20,x21,Ag1,Z3=>if x21<x20 then (if (Z3.length:Int)=0 then (none) else (if 0≤(Int.tmod (wrap64 (x6+x21)) (Z3.length:Int)) then (if (Int.tmod (wrap64 (x6+x21)) (Z3.length:Int))<(Z3.length:Int) then ((Y26.f k x7 ((rd_T78 Z3 (Int.tmod (wrap64 (x6+x21)) (Z3.length:Int))).f1)).bind fun BT4=>(if BT4=true then (Y31.l0 k x6 x7 x20 (wrap64 (x21+1)) Ag1 Z3) else (if x7.length<17592186044416 then (Y31.l0 k x6 (x7 ++ [(rd_T78 Z3 (Int.tmod (wrap64 (x6+x21)) (Z3.length:Int))).f1]) x20 (wrap64 (x21+1)) Ag1 Z3) else (none)))) else (none)) else (none))) else (some x7)
end
def Y31.f (k:Nat) (B2:Int) (B0:List (S78)) (a1:ByteArray):Option (List Int):=(Y56.f k a1).bind fun AW4=>((Y7.f k B0 AW4).bind fun AJ9=>(if AJ9<0 then (Y31.j0 k 0 B2 B0) else (Y31.j0 k AJ9 B2 B0)))
theorem Y31.mono_l:∀ k,(∀ y0 y1 y2,LeO (Y31.j0 k y0 y1 y2) (Y31.j0 (k+1) y0 y1 y2))∧(∀ y0 y1 y2 y3 y4 y5,LeO (Y31.l0 k y0 y1 y2 y3 y4 y5) (Y31.l0 (k+1) y0 y1 y2 y3 y4 y5))
 | 0=>by refine ⟨?_,?_⟩ <;> intros <;> exact LeO.none _
 | k+1=>by
  obtain ⟨ih0,ih1⟩:=Y31.mono_l k
  have m0:=@Y56.mono
  have m1:=@Y26.mono
  have m2:=@Y7.mono
  refine ⟨?_,?_⟩
  ·intros
   unfold Y31.j0
   exact mO
  ·intros
   unfold Y31.l0
   exact mO
theorem Y31.mono:∀ a0 a1 a2 k,LeO (Y31.f k a0 a1 a2) (Y31.f (k+1) a0 a1 a2):=by
 intro a0 a1 a2 k
 have m0:=@Y56.mono
 have m1:=@Y26.mono
 have m2:=@Y7.mono
 obtain ⟨ih0,ih1⟩:=Y31.mono_l k
 unfold Y31.f
 exact mO
theorem Y31.calls (k:Nat) (B2:Int) (E7:Option Addr) (E4:Nat) (B0:List (S78)) (a1:ByteArray) (r:List Int) (w:World) (J9:Kd.C k78 w E7 B0.length B0) (K0:B0.length≤E4) (h:Y31.f k B2 B0 a1=some r) :
  Calls Tryz.prog 35 #[.agg #[.int .i64 B2,.slice E7 B0.length E4],.string a1] w fun e w'=>∃ v0_:Value,e = .returned (v0_)∧Kd.R (Kd.int .i64) 2 w' w.heap.size (fun _=>True) v0_ r∧Below w.heap.size w w':=by
 have AD7:=Tryz.underlying27
 have I2:=aM J9
 have J7:=aM K0
 clear J9 K0
 have HB:=aM (Below.refl w.heap.size w)
 have H:((Y56.f k a1).bind fun AW4=>((Y7.f k B0 AW4).bind fun AJ9=>(if AJ9<0 then (Y31.j0 k 0 B2 B0) else (Y31.j0 k AJ9 B2 B0))))=some r:=h
 clear h
 replace H:=bS H
 obtain ⟨AW4,A30,H⟩:=H
 replace H:((Y7.f k B0 AW4).bind fun AJ9=>(if AJ9<0 then (Y31.j0 k 0 B2 B0) else (Y31.j0 k AJ9 B2 B0)))=some r:=H
 have A3:=aM A30
 clear A30
 replace H:=bS H
 obtain ⟨AJ9,A40,H⟩:=H
 replace H:(if AJ9<0 then (Y31.j0 k 0 B2 B0) else (Y31.j0 k AJ9 B2 B0))=some r:=H
 have A4:=aM A40
 clear A40
 have HC5:=aM H
 clear H
 go_enter Tryz.func35,Tryz.ntmps35
 go_upto_if 17 with (first | ((with_reducible refine gd_ 2 ?_);refine be_ 2 #[.int .i64 B2,.slice E7 B0.length E4] 27 ?_;intro z3 hg w6 hbox hb;have n0_:=aM (below_step (z6_ HB.out) hb);have n1_:=aM (hbox);have n2_:=aM ((z7_ HB.out:w.heap.size≤z3));have n3_:=aM ((z7_ HB.out:w.heap.size≤z3));clear HB;have HB:=n0_;have J3:=n1_;have CA1:=n2_;have R4:=n3_;clear n0_ n1_ n2_ n3_;clear hb hbox hg) | (go_at_call 54;(with_reducible refine (Y56.calls k a1 AW4 _ A3.out).mono ?_);rintro e w' ⟨rfl,⟨nd,rfl⟩⟩;(try first | exact ⟨rfl,_,World.drewN_drewN _ _ _⟩ | exact ⟨rfl,_,Eq.trans (World.drewN_drewN _ _ _) (congrArg (World.drewN _) (Nat.add_assoc _ _ _))⟩)) | ((with_reducible refine gd_ 5 ?_);refine be_ 5 #[.int .i64 0] 2 ?_;intro AC8 hg w7 hbox hb;have n0_:=aM (blkB_ J3.out hb);have n1_:=aM (below_step (z4_ HB.out R4.out) hb);have n2_:=aM (hbox);have n3_:=aM ((z13_ HB.out R4.out:w.heap.size≤AC8));have n4_:=aM ((z13_ HB.out R4.out:w.heap.size≤AC8));have n5_:=aM (neL_ J3.out hg);have n6_:=aM (neG_ J3.out hg);clear J3;clear HB;have J3:=n0_;have HB:=n1_;have V3:=n2_;have CA2:=n3_;have d6:=n4_;have S9:=n5_;have d7:=n6_;clear n0_ n1_ n2_ n3_ n4_ n5_ n6_;clear hb hbox hg;have Bi0:=d7.out;have Bi1:=S9.out;have ⟨R9,S0⟩:=cz1_ V3.out;have ⟨U5,U6,U7,U8⟩:=cz2_ J3.out) | (go_at_call 65;(with_reducible refine (Y7.calls k _ _ B0 AC8 AW4 AJ9 _ ?s1 ?s2 ?s3 A4.out).mono ?_);(case s1=>exact Kd.C_below I2.out (z9_ HB.out R4.out d6.out));(case s2=>exact J7.out);(case s3=>(with_reducible repeat (first | refine blk_drewN ?_ _ | refine blk_drew ?_ | refine blk_alloc ?_ _));refine blk_put (cs:=#[.int .i64 0]) ?_ 0 _ rfl;(with_reducible repeat (first | refine blk_drewN ?_ _ | refine blk_drew ?_ | refine blk_alloc ?_ _));exact V3.out);rintro e w11 ⟨rfl,hb⟩;have n0_:=aM (blk_below (g:=z3) (o:=.cells #[.int .i64 B2,.slice E7 B0.length E4] 27 (0,0)) (z46_ S9.out J3.out) hb);have n1_:=aM (blk_below (g:=AC8) (o:=.cells #[.int .i64 AW4] 2 (0,0)) (z59_ V3.out) hb);have n2_:=aM (below_step (z9_ HB.out R4.out d6.out) hb);clear J3;clear V3;clear HB;have J3:=n0_;have V3:=n1_;have HB:=n2_;clear n0_ n1_ n2_;(try clear hb)))
 repeat (go_quiet (first | ((with_reducible refine gd_ 2 ?_);refine be_ 2 #[.int .i64 B2,.slice E7 B0.length E4] 27 ?_;intro z3 hg w6 hbox hb;have n0_:=aM (below_step (z6_ HB.out) hb);have n1_:=aM (hbox);have n2_:=aM ((z7_ HB.out:w.heap.size≤z3));have n3_:=aM ((z7_ HB.out:w.heap.size≤z3));clear HB;have HB:=n0_;have J3:=n1_;have CA1:=n2_;have R4:=n3_;clear n0_ n1_ n2_ n3_;clear hb hbox hg) | (go_at_call 54;(with_reducible refine (Y56.calls k a1 AW4 _ A3.out).mono ?_);rintro e w' ⟨rfl,⟨nd,rfl⟩⟩;(try first | exact ⟨rfl,_,World.drewN_drewN _ _ _⟩ | exact ⟨rfl,_,Eq.trans (World.drewN_drewN _ _ _) (congrArg (World.drewN _) (Nat.add_assoc _ _ _))⟩)) | ((with_reducible refine gd_ 5 ?_);refine be_ 5 #[.int .i64 0] 2 ?_;intro AC8 hg w7 hbox hb;have n0_:=aM (blkB_ J3.out hb);have n1_:=aM (below_step (z4_ HB.out R4.out) hb);have n2_:=aM (hbox);have n3_:=aM ((z13_ HB.out R4.out:w.heap.size≤AC8));have n4_:=aM ((z13_ HB.out R4.out:w.heap.size≤AC8));have n5_:=aM (neL_ J3.out hg);have n6_:=aM (neG_ J3.out hg);clear J3;clear HB;have J3:=n0_;have HB:=n1_;have V3:=n2_;have CA2:=n3_;have d6:=n4_;have S9:=n5_;have d7:=n6_;clear n0_ n1_ n2_ n3_ n4_ n5_ n6_;clear hb hbox hg;have Bi0:=d7.out;have Bi1:=S9.out;have ⟨R9,S0⟩:=cz1_ V3.out;have ⟨U5,U6,U7,U8⟩:=cz2_ J3.out) | (go_at_call 65;(with_reducible refine (Y7.calls k _ _ B0 AC8 AW4 AJ9 _ ?s1 ?s2 ?s3 A4.out).mono ?_);(case s1=>exact Kd.C_below I2.out (z9_ HB.out R4.out d6.out));(case s2=>exact J7.out);(case s3=>(with_reducible repeat (first | refine blk_drewN ?_ _ | refine blk_drew ?_ | refine blk_alloc ?_ _));refine blk_put (cs:=#[.int .i64 0]) ?_ 0 _ rfl;(with_reducible repeat (first | refine blk_drewN ?_ _ | refine blk_drew ?_ | refine blk_alloc ?_ _));exact V3.out);rintro e w11 ⟨rfl,hb⟩;have n0_:=aM (blk_below (g:=z3) (o:=.cells #[.int .i64 B2,.slice E7 B0.length E4] 27 (0,0)) (z46_ S9.out J3.out) hb);have n1_:=aM (blk_below (g:=AC8) (o:=.cells #[.int .i64 AW4] 2 (0,0)) (z59_ V3.out) hb);have n2_:=aM (below_step (z9_ HB.out R4.out d6.out) hb);clear J3;clear V3;clear HB;have J3:=n0_;have V3:=n1_;have HB:=n2_;clear n0_ n1_ n2_;(try clear hb)));go_upto_if 17 with (first | ((with_reducible refine gd_ 2 ?_);refine be_ 2 #[.int .i64 B2,.slice E7 B0.length E4] 27 ?_;intro z3 hg w6 hbox hb;have n0_:=aM (below_step (z6_ HB.out) hb);have n1_:=aM (hbox);have n2_:=aM ((z7_ HB.out:w.heap.size≤z3));have n3_:=aM ((z7_ HB.out:w.heap.size≤z3));clear HB;have HB:=n0_;have J3:=n1_;have CA1:=n2_;have R4:=n3_;clear n0_ n1_ n2_ n3_;clear hb hbox hg) | (go_at_call 54;(with_reducible refine (Y56.calls k a1 AW4 _ A3.out).mono ?_);rintro e w' ⟨rfl,⟨nd,rfl⟩⟩;(try first | exact ⟨rfl,_,World.drewN_drewN _ _ _⟩ | exact ⟨rfl,_,Eq.trans (World.drewN_drewN _ _ _) (congrArg (World.drewN _) (Nat.add_assoc _ _ _))⟩)) | ((with_reducible refine gd_ 5 ?_);refine be_ 5 #[.int .i64 0] 2 ?_;intro AC8 hg w7 hbox hb;have n0_:=aM (blkB_ J3.out hb);have n1_:=aM (below_step (z4_ HB.out R4.out) hb);have n2_:=aM (hbox);have n3_:=aM ((z13_ HB.out R4.out:w.heap.size≤AC8));have n4_:=aM ((z13_ HB.out R4.out:w.heap.size≤AC8));have n5_:=aM (neL_ J3.out hg);have n6_:=aM (neG_ J3.out hg);clear J3;clear HB;have J3:=n0_;have HB:=n1_;have V3:=n2_;have CA2:=n3_;have d6:=n4_;have S9:=n5_;have d7:=n6_;clear n0_ n1_ n2_ n3_ n4_ n5_ n6_;clear hb hbox hg;have Bi0:=d7.out;have Bi1:=S9.out;have ⟨R9,S0⟩:=cz1_ V3.out;have ⟨U5,U6,U7,U8⟩:=cz2_ J3.out) | (go_at_call 65;(with_reducible refine (Y7.calls k _ _ B0 AC8 AW4 AJ9 _ ?s1 ?s2 ?s3 A4.out).mono ?_);(case s1=>exact Kd.C_below I2.out (z9_ HB.out R4.out d6.out));(case s2=>exact J7.out);(case s3=>(with_reducible repeat (first | refine blk_drewN ?_ _ | refine blk_drew ?_ | refine blk_alloc ?_ _));refine blk_put (cs:=#[.int .i64 0]) ?_ 0 _ rfl;(with_reducible repeat (first | refine blk_drewN ?_ _ | refine blk_drew ?_ | refine blk_alloc ?_ _));exact V3.out);rintro e w11 ⟨rfl,hb⟩;have n0_:=aM (blk_below (g:=z3) (o:=.cells #[.int .i64 B2,.slice E7 B0.length E4] 27 (0,0)) (z46_ S9.out J3.out) hb);have n1_:=aM (blk_below (g:=AC8) (o:=.cells #[.int .i64 AW4] 2 (0,0)) (z59_ V3.out) hb);have n2_:=aM (below_step (z9_ HB.out R4.out d6.out) hb);clear J3;clear V3;clear HB;have J3:=n0_;have V3:=n1_;have HB:=n2_;clear n0_ n1_ n2_;(try clear hb))))
 (try simp only [Act.put,sa_,s0_,ss_])
 go_cut [6] (fun v6 wc=>∃ (kq:Nat) (Ad3:Int),v6 = .int .i64 Ad3∧Aside0 (Y31.j0 kq Ad3 B2 B0=some r)∧Aside0 (kq≤k)∧Aside0 (wc.heap[z3]? = some (.cells #[.int .i64 B2,(.slice E7 B0.length E4)] 27 (0,0)))∧Aside0 True∧Aside0 (Below w.heap.size w wc))
 case first =>
  have H:=HC5.out
  clear HC5
  by_cases c12:AJ9<0
  ·rw [if_pos c12] at H
   have c12b0:decide (AJ9<0)=true:=dE c12
   clear c12
   (first | rw [c12b0] | (simp only [i64_w,i32_w];rw [c12b0]) | skip)
   have H':=aM H
   clear H
   go_wp2
   repeat (go_quiet (fail);try go_wp2)
   go_meet
   case rel=>exact ⟨_,(0),(z2_),H',⟨by first | omega | exact Nat.le_refl _⟩,⟨z3_ J3.out⟩,⟨trivial⟩,⟨z9_ HB.out R4.out d6.out⟩⟩
  ·rw [if_neg c12] at H
   have c12b0:decide (AJ9<0)=false:=dF c12
   clear c12
   (first | rw [c12b0] | (simp only [i64_w,i32_w];rw [c12b0]) | skip)
   have H':=aM H
   clear H
   go_wp2
   repeat (go_quiet (fail);try go_wp2)
   go_meet
   case rel=>exact ⟨_,(AJ9),(z2_),H',⟨by first | omega | exact Nat.le_refl _⟩,⟨z3_ J3.out⟩,⟨trivial⟩,⟨z9_ HB.out R4.out d6.out⟩⟩
 case rest =>
  clear HC5
  try clear c1
  try clear p2
  try clear c3
  try clear c8
  try clear c12
  try clear c12b0
  try clear U5
  try clear U6
  try clear R9
  try clear U7
  try clear U8
  try clear S0
  obtain ⟨kq,Ad3,rfl,HA,HJ4,J3,V3,HB⟩:=hcut
  cases kq with
  | zero=>exact absurd HA.out (by simp [Y31.j0])
  | succ kj4 =>
   have H:=HA.out
   clear HA
   simp only [Y31.j0] at H
   have H':=aM H
   clear H
   have hnb13:=S9.out
   have hnc13:=d7.out
   have ⟨AH4,AO4,AH5,AO5⟩:=cz2_ J3.out
   go_wp2
   repeat (go_quiet (fail);try go_wp2)
   go_loopg [7,21] kj4 (fun kq v7 v21 w'=>∃ (K4:List Int) (D8:Int),v21 = .int .i64 D8∧Aside0 (Y31.l0 kq Ad3 K4 (B0.length:Int) D8 B2 B0=some r)∧Aside0 (kq≤kj4)∧Aside0 (Kd.R (Kd.int .i64) 2 w' w.heap.size (fun _=>True) v7 K4)∧Aside0 (w'.heap[z3]? = some (.cells #[.int .i64 B2,(.slice E7 B0.length E4)] 27 (0,0)))∧Aside0 True∧Aside0 (Below w.heap.size w w'))
   case atStart=>exact ⟨(([]:List Int)),(0),(z2_),H',⟨Nat.le_refl _⟩,⟨z27_⟩,⟨z3_ J3.out⟩,⟨trivial⟩,⟨z9_ HB.out R4.out d6.out⟩⟩
   case round =>
    clear H'
    try clear c1
    try clear p2
    try clear c3
    try clear c8
    try clear c12
    try clear c12b0
    try clear c13
    try clear U5
    try clear U6
    try clear AH4
    try clear AO4
    try clear R9
    try clear U7
    try clear U8
    try clear AH5
    try clear AO5
    try clear S0
    try clear p2
    obtain ⟨K4,D8,rfl,HA,HK2,O6,J3,V3,HB⟩:=hrel
    cases gk with
    | zero=>exact absurd HA.out (by simp [Y31.l0])
    | succ k2 =>
     have H:=HA.out
     clear HA
     simp only [Y31.l0] at H
     by_cases c15:D8<(B0.length:Int)
     ·rw [if_pos c15] at H
      have c15b0:decide (D8<(B0.length:Int))=true:=dE c15
      clear c15
      by_cases c16:(B0.length:Int)=0
      ·rw [if_pos c16] at H
       exact nO H
      ·rw [if_neg c16] at H
       have c16b0:((B0.length:Int) == 0)=false:=beq_eq_false_iff_ne.mpr c16
       have c16b1:((B0.length:Int) != 0)=true:=bne_iff_ne.mpr c16
       have c16b2:¬ (B0=[]):=fun h_=>c16 (by rw [h_];rfl)
       obtain ⟨i1,CA3⟩:∃ j_:Int,(Int.tmod (wrap64 (Ad3+D8)) (B0.length:Int))=j_:=⟨_,rfl⟩
       replace H:(if 0≤(i1) then (if (i1)<(B0.length:Int) then ((Y26.f k2 K4 ((rd_T78 B0 (i1)).f1)).bind fun BT4=>(if BT4=true then (Y31.l0 k2 Ad3 K4 (B0.length:Int) (wrap64 (D8+1)) B2 B0) else (if K4.length<17592186044416 then (Y31.l0 k2 Ad3 (K4 ++ [(rd_T78 B0 (i1)).f1]) (B0.length:Int) (wrap64 (D8+1)) B2 B0) else (none)))) else (none)) else (none))=some r:=by first | (rw [CA3] at H;exact H) | (simp only [CA3] at H ⊢;exact H)
       by_cases c18:0≤(i1)
       ·rw [if_pos c18] at H
        have c18b0:decide (0≤(i1))=true:=dE c18
        clear c18
        by_cases c19:(i1)<(B0.length:Int)
        ·rw [if_pos c19] at H
         have c19b0:decide ((i1)<(B0.length:Int))=true:=dE c19
         clear c19
         replace H:=bS H
         obtain ⟨BT4,Aj6,H⟩:=H
         replace H:(if BT4=true then (Y31.l0 k2 Ad3 K4 (B0.length:Int) (wrap64 (D8+1)) B2 B0) else (if K4.length<17592186044416 then (Y31.l0 k2 Ad3 (K4 ++ [(rd_T78 B0 (i1)).f1]) (B0.length:Int) (wrap64 (D8+1)) B2 B0) else (none)))=some r:=H
         have A20:=aM Aj6
         clear Aj6
         by_cases c21:BT4=true
         ·subst c21
          have H1:(Y31.l0 k2 Ad3 K4 (B0.length:Int) (wrap64 (D8+1)) B2 B0)=some r:=by rw [if_pos rfl] at H;exact H
          clear H
          have H:=H1
          clear H1
          have H':=aM H
          clear H
          have hnb22:=S9.out
          have hnc22:=d7.out
          have ⟨BM5,Bw6,BM6,Bw7⟩:=cz2_ J3.out
          have BE8:0≤((i1):Int):=dT (z1_)
          have BE9:(i1)<(B0.length:Int):=dT (z1_)
          obtain ⟨BN5,CN2,AI0,AI1⟩:=at_T78 I2.out (i1) BE8 BE9
          cases CN2
          replace AI0:=(HB.out.cell (World.block_lt_of_cell? w _ AI0)).trans AI0
          replace AI1:=(HB.out.cell (World.block_lt_of_cell? w _ AI1)).trans AI1
          replace BE8:=eq_true BE8
          replace BE9:=eq_true BE9
          obtain ⟨BT5,BC6,Ay1⟩:=Kd.R_slice O6.out
          subst Ay1
          go_wp2_with (first | (go_at_call 67;(with_reducible refine (Y26.calls k2 _ _ K4 ((rd_T78 B0 (i1)).f1) true _ ?s1 ?s2 A20.out).mono ?_);(case s1=>repeat (first | exact (Kd.R_reads' O6.out).2.2 | (with_reducible refine Kd.C_alloc ?_ _) | (with_reducible refine Kd.C_drewN ?_ _) | (with_reducible refine Kd.C_drew ?_)));(case s2=>exact (Kd.R_reads' O6.out).2.1);rintro e w' ⟨rfl,⟨nd,rfl⟩⟩;(try first | exact ⟨rfl,_,World.drewN_drewN _ _ _⟩ | exact ⟨rfl,_,Eq.trans (World.drewN_drewN _ _ _) (congrArg (World.drewN _) (Nat.add_assoc _ _ _))⟩)))
          repeat (go_quiet (first | (go_at_call 67;(with_reducible refine (Y26.calls k2 _ _ K4 ((rd_T78 B0 (i1)).f1) true _ ?s1 ?s2 A20.out).mono ?_);(case s1=>repeat (first | exact (Kd.R_reads' O6.out).2.2 | (with_reducible refine Kd.C_alloc ?_ _) | (with_reducible refine Kd.C_drewN ?_ _) | (with_reducible refine Kd.C_drew ?_)));(case s2=>exact (Kd.R_reads' O6.out).2.1);rintro e w' ⟨rfl,⟨nd,rfl⟩⟩;(try first | exact ⟨rfl,_,World.drewN_drewN _ _ _⟩ | exact ⟨rfl,_,Eq.trans (World.drewN_drewN _ _ _) (congrArg (World.drewN _) (Nat.add_assoc _ _ _))⟩)));try go_wp2_with (first | (go_at_call 67;(with_reducible refine (Y26.calls k2 _ _ K4 ((rd_T78 B0 (i1)).f1) true _ ?s1 ?s2 A20.out).mono ?_);(case s1=>repeat (first | exact (Kd.R_reads' O6.out).2.2 | (with_reducible refine Kd.C_alloc ?_ _) | (with_reducible refine Kd.C_drewN ?_ _) | (with_reducible refine Kd.C_drew ?_)));(case s2=>exact (Kd.R_reads' O6.out).2.1);rintro e w' ⟨rfl,⟨nd,rfl⟩⟩;(try first | exact ⟨rfl,_,World.drewN_drewN _ _ _⟩ | exact ⟨rfl,_,Eq.trans (World.drewN_drewN _ _ _) (congrArg (World.drewN _) (Nat.add_assoc _ _ _))⟩))))
          go_roundg k2
          case measure=>have:=HJ4.out;have:=HK2.out;omega
          case rel=>exact ⟨(K4),(wrap64 (D8+1)),(z2_),H',⟨z14_ HJ4.out HK2.out⟩,⟨z0_ O6.out⟩,⟨z3_ J3.out⟩,⟨trivial⟩,⟨z9_ HB.out R4.out d6.out⟩⟩
         ·replace c21:=Bool.eq_false_iff.mpr c21
          subst c21
          have H1:(if K4.length<17592186044416 then (Y31.l0 k2 Ad3 (K4 ++ [(rd_T78 B0 (i1)).f1]) (B0.length:Int) (wrap64 (D8+1)) B2 B0) else (none))=some r:=by rw [if_neg (show ¬ (false=true) by decide)] at H;exact H
          clear H
          have H:=H1
          clear H1
          by_cases c25:K4.length<17592186044416
          ·rw [if_pos c25] at H
           have Bi2:=aM c25
           clear c25
           obtain ⟨Cn0,A41⟩:∃ y_:List Int,y_=(K4 ++ [(rd_T78 B0 (i1)).f1]):=⟨_,rfl⟩
           replace H:(Y31.l0 k2 Ad3 Cn0 (B0.length:Int) (wrap64 (D8+1)) B2 B0)=some r:=by first | (rw [A41];with_reducible exact H) | (have H2_:=(Option.bind_some _ _).symm.trans H;rw [A41];with_reducible exact H2_) | (have H2_:=(Option.bind_some _ _).symm.trans H;with_reducible exact H2_) | with_reducible exact H | (rw [A41];exact H) | exact H
           have Bi3:=aM A41
           clear A41
           have H':=aM H
           clear H
           have hnb26:=S9.out
           have hnc26:=d7.out
           have ⟨hcz27_0,hcz27_1,hfz27_0,hfz27_1⟩:=cz2_ J3.out
           have BE8:0≤((i1):Int):=dT (z1_)
           have BE9:(i1)<(B0.length:Int):=dT (z1_)
           obtain ⟨BN5,CN2,AI0,AI1⟩:=at_T78 I2.out (i1) BE8 BE9
           cases CN2
           replace AI0:=(HB.out.cell (World.block_lt_of_cell? w _ AI0)).trans AI0
           replace AI1:=(HB.out.cell (World.block_lt_of_cell? w _ AI1)).trans AI1
           replace BE8:=eq_true BE8
           replace BE9:=eq_true BE9
           obtain ⟨CN3,CN4,C32⟩:=Kd.R_slice O6.out
           subst C32
           go_wp2_with (first | (go_at_call 67;(with_reducible refine (Y26.calls k2 _ _ K4 ((rd_T78 B0 (i1)).f1) false _ ?s1 ?s2 A20.out).mono ?_);(case s1=>repeat (first | exact (Kd.R_reads' O6.out).2.2 | (with_reducible refine Kd.C_alloc ?_ _) | (with_reducible refine Kd.C_drewN ?_ _) | (with_reducible refine Kd.C_drew ?_)));(case s2=>exact (Kd.R_reads' O6.out).2.1);rintro e w' ⟨rfl,⟨nd,rfl⟩⟩;(try first | exact ⟨rfl,_,World.drewN_drewN _ _ _⟩ | exact ⟨rfl,_,Eq.trans (World.drewN_drewN _ _ _) (congrArg (World.drewN _) (Nat.add_assoc _ _ _))⟩)) | ((with_reducible refine gate_builtin (b:=.append) (xs:=#[.tmp 40,.tmp 42]) rfl ?_);at_builtin;refine Kd.R_append (Kd.int .i64) (w0:=w) w.heap.size rfl (.tmp 40) (.tmp 42) 30 2 (.int .i64 0) 8 rfl Tryz.underlying30 info2 rfl (by decide) (by omega) (.slice CN3 K4.length CN4) K4 ((rd_T78 B0 (i1)).f1) [.int .i64 ((rd_T78 B0 (i1)).f1)] (fun _=>True) (fun _=>False) rfl rfl ?aP (fun _ hk=>hk.elim) ?aF ?aO ?aB ?aS ?aL ?_;(case aP=>exact rfl);(case aB=>exact (z9_ HB.out R4.out d6.out));(case aF=>exact (fun _ _=>trivial));(case aO=>exact (z0_ O6.out));(case aS=>exact (below_size (z9_ HB.out R4.out d6.out)));(case aL=>have:=Bi2.out;omega);intro Cn1 w29 ho hb hg hat;rw [← Bi3.out] at ho;have n0_:=aM (blk_grown (g:=z3) (o:=.cells #[.int .i64 B2,.slice (some BN5) B0.length E4] 27 (0,0)) (z3_ J3.out) hg (Kd.R_ne O6.out J3.out (by decide)));have n1_:=aM trivial;have n2_:=aM (hb);have n3_:=aM (ho);clear J3;clear V3;clear HB;clear O6;have J3:=n0_;have V3:=n1_;have HB:=n2_;have Bi4:=n3_;clear n0_ n1_ n2_ n3_;clear ho hb hg hat))
           repeat (go_quiet (first | (go_at_call 67;(with_reducible refine (Y26.calls k2 _ _ K4 ((rd_T78 B0 (i1)).f1) false _ ?s1 ?s2 A20.out).mono ?_);(case s1=>repeat (first | exact (Kd.R_reads' O6.out).2.2 | (with_reducible refine Kd.C_alloc ?_ _) | (with_reducible refine Kd.C_drewN ?_ _) | (with_reducible refine Kd.C_drew ?_)));(case s2=>exact (Kd.R_reads' O6.out).2.1);rintro e w' ⟨rfl,⟨nd,rfl⟩⟩;(try first | exact ⟨rfl,_,World.drewN_drewN _ _ _⟩ | exact ⟨rfl,_,Eq.trans (World.drewN_drewN _ _ _) (congrArg (World.drewN _) (Nat.add_assoc _ _ _))⟩)) | ((with_reducible refine gate_builtin (b:=.append) (xs:=#[.tmp 40,.tmp 42]) rfl ?_);at_builtin;refine Kd.R_append (Kd.int .i64) (w0:=w) w.heap.size rfl (.tmp 40) (.tmp 42) 30 2 (.int .i64 0) 8 rfl Tryz.underlying30 info2 rfl (by decide) (by omega) (.slice CN3 K4.length CN4) K4 ((rd_T78 B0 (i1)).f1) [.int .i64 ((rd_T78 B0 (i1)).f1)] (fun _=>True) (fun _=>False) rfl rfl ?aP (fun _ hk=>hk.elim) ?aF ?aO ?aB ?aS ?aL ?_;(case aP=>exact rfl);(case aB=>exact (z9_ HB.out R4.out d6.out));(case aF=>exact (fun _ _=>trivial));(case aO=>exact (z0_ O6.out));(case aS=>exact (below_size (z9_ HB.out R4.out d6.out)));(case aL=>have:=Bi2.out;omega);intro Cn1 w29 ho hb hg hat;rw [← Bi3.out] at ho;have n0_:=aM (blk_grown (g:=z3) (o:=.cells #[.int .i64 B2,.slice (some BN5) B0.length E4] 27 (0,0)) (z3_ J3.out) hg (Kd.R_ne O6.out J3.out (by decide)));have n1_:=aM trivial;have n2_:=aM (hb);have n3_:=aM (ho);clear J3;clear V3;clear HB;clear O6;have J3:=n0_;have V3:=n1_;have HB:=n2_;have Bi4:=n3_;clear n0_ n1_ n2_ n3_;clear ho hb hg hat));try go_wp2_with (first | (go_at_call 67;(with_reducible refine (Y26.calls k2 _ _ K4 ((rd_T78 B0 (i1)).f1) false _ ?s1 ?s2 A20.out).mono ?_);(case s1=>repeat (first | exact (Kd.R_reads' O6.out).2.2 | (with_reducible refine Kd.C_alloc ?_ _) | (with_reducible refine Kd.C_drewN ?_ _) | (with_reducible refine Kd.C_drew ?_)));(case s2=>exact (Kd.R_reads' O6.out).2.1);rintro e w' ⟨rfl,⟨nd,rfl⟩⟩;(try first | exact ⟨rfl,_,World.drewN_drewN _ _ _⟩ | exact ⟨rfl,_,Eq.trans (World.drewN_drewN _ _ _) (congrArg (World.drewN _) (Nat.add_assoc _ _ _))⟩)) | ((with_reducible refine gate_builtin (b:=.append) (xs:=#[.tmp 40,.tmp 42]) rfl ?_);at_builtin;refine Kd.R_append (Kd.int .i64) (w0:=w) w.heap.size rfl (.tmp 40) (.tmp 42) 30 2 (.int .i64 0) 8 rfl Tryz.underlying30 info2 rfl (by decide) (by omega) (.slice CN3 K4.length CN4) K4 ((rd_T78 B0 (i1)).f1) [.int .i64 ((rd_T78 B0 (i1)).f1)] (fun _=>True) (fun _=>False) rfl rfl ?aP (fun _ hk=>hk.elim) ?aF ?aO ?aB ?aS ?aL ?_;(case aP=>exact rfl);(case aB=>exact (z9_ HB.out R4.out d6.out));(case aF=>exact (fun _ _=>trivial));(case aO=>exact (z0_ O6.out));(case aS=>exact (below_size (z9_ HB.out R4.out d6.out)));(case aL=>have:=Bi2.out;omega);intro Cn1 w29 ho hb hg hat;rw [← Bi3.out] at ho;have n0_:=aM (blk_grown (g:=z3) (o:=.cells #[.int .i64 B2,.slice (some BN5) B0.length E4] 27 (0,0)) (z3_ J3.out) hg (Kd.R_ne O6.out J3.out (by decide)));have n1_:=aM trivial;have n2_:=aM (hb);have n3_:=aM (ho);clear J3;clear V3;clear HB;clear O6;have J3:=n0_;have V3:=n1_;have HB:=n2_;have Bi4:=n3_;clear n0_ n1_ n2_ n3_;clear ho hb hg hat)))
           go_roundg k2
           case measure=>have:=HJ4.out;have:=HK2.out;omega
           case rel=>exact ⟨(Cn0),(wrap64 (D8+1)),(z2_),H',⟨z14_ HJ4.out HK2.out⟩,⟨z0_ Bi4.out⟩,⟨z3_ J3.out⟩,⟨trivial⟩,⟨z9_ HB.out R4.out d6.out⟩⟩
          ·rw [if_neg c25] at H
           exact nO H
        ·rw [if_neg c19] at H
         exact nO H
       ·rw [if_neg c18] at H
        exact nO H
     ·rw [if_neg c15] at H
      have c15b0:decide (D8<(B0.length:Int))=false:=dF c15
      clear c15
      obtain rfl:=sI H
      go_wp2
      repeat (go_quiet (fail);try go_wp2)
      go_ret
      exact ⟨_,z8_,z0_ O6.out,z9_ HB.out R4.out d6.out⟩


/-! ### Y83: function 7 -/
def Y83.f (k:Nat) (B2:Int) (B0:List (S78)) (a1:ByteArray):Option (List Int):=(Y57.f k B2 B0 a1).bind fun BT6=>(if BT6=true then ((Y31.f k B2 B0 a1).bind fun An3=>(some An3)) else (some ([]:List Int)))
theorem Y83.mono:∀ a0 a1 a2 k,LeO (Y83.f k a0 a1 a2) (Y83.f (k+1) a0 a1 a2):=by
 intro a0 a1 a2 k
 have m0:=@Y57.mono
 have m1:=@Y31.mono
 unfold Y83.f
 exact mO
theorem Y83.calls (k:Nat) (B2:Int) (E7:Option Addr) (E4:Nat) (B0:List (S78)) (a1:ByteArray) (r:List Int) (w:World) (J9:Kd.C k78 w E7 B0.length B0) (K0:B0.length≤E4) (h:Y83.f k B2 B0 a1=some r) :
  Calls Tryz.prog 7 #[.agg #[.int .i64 B2,.slice E7 B0.length E4],.string a1] w fun e w'=>∃ v0_:Value,e = .returned (v0_)∧Kd.R (Kd.int .i64) 2 w' w.heap.size (fun _=>True) v0_ r∧Below w.heap.size w w':=by
 have AD7:=Tryz.underlying27
 have I2:=aM J9
 have J7:=aM K0
 clear J9 K0
 have HB:=aM (Below.refl w.heap.size w)
 have H:((Y57.f k B2 B0 a1).bind fun BT6=>(if BT6=true then ((Y31.f k B2 B0 a1).bind fun An3=>(some An3)) else (some ([]:List Int))))=some r:=h
 clear h
 replace H:=bS H
 obtain ⟨BT6,A30,H⟩:=H
 replace H:(if BT6=true then ((Y31.f k B2 B0 a1).bind fun An3=>(some An3)) else (some ([]:List Int)))=some r:=H
 have A3:=aM A30
 clear A30
 by_cases c4:BT6=true
 ·subst c4
  have H1:((Y31.f k B2 B0 a1).bind fun An3=>(some An3))=some r:=by rw [if_pos rfl] at H;exact H
  clear H
  have H:=H1
  clear H1
  replace H:=bS H
  obtain ⟨An3,A50,H⟩:=H
  replace H:(some An3)=some r:=H
  have A5:=aM A50
  clear A50
  obtain rfl:=sI H
  go_enter Tryz.func7,Tryz.ntmps7
  go_wp2_with (first | ((with_reducible refine gd_ 2 ?_);refine be_ 2 #[.int .i64 B2,.slice E7 B0.length E4] 27 ?_;intro A44 hg w6 hbox hb;have n0_:=aM (below_step (z6_ HB.out) hb);have n1_:=aM (hbox);have n2_:=aM ((z7_ HB.out:w.heap.size≤A44));have n3_:=aM ((z7_ HB.out:w.heap.size≤A44));clear HB;have HB:=n0_;have AF6:=n1_;have Cn2:=n2_;have Aj7:=n3_;clear n0_ n1_ n2_ n3_;clear hb hbox hg;have ⟨BF0,BF1,BF2,BF3⟩:=cz2_ AF6.out) | ((with_reducible refine gc_ 34 ?_);refine gl_ (some 7) Tryz.func34 #[.agg #[.int .i64 B2,.slice E7 B0.length E4],.string a1] ?_;(with_reducible refine (Y57.calls k B2 _ _ B0 a1 true _ ?s1 ?s2 A3.out).mono ?_);(case s1=>repeat (first | exact (Kd.C_below I2.out HB.out) | (with_reducible refine Kd.C_alloc ?_ _) | (with_reducible refine Kd.C_drewN ?_ _) | (with_reducible refine Kd.C_drew ?_)));(case s2=>exact J7.out);rintro e w8 ⟨rfl,hb⟩;refine ⟨_,rfl,?_⟩;have n0_:=aM (blkB_ AF6.out hb);have n1_:=aM (below_step (z4_ HB.out Aj7.out) hb);clear AF6;clear HB;have AF6:=n0_;have HB:=n1_;clear n0_ n1_;(try clear hb);have ⟨R9,a7,S0,a8⟩:=cz2_ AF6.out) | ((with_reducible refine gc_ 35 ?_);refine gl_ (some 11) Tryz.func35 #[.agg #[.int .i64 B2,.slice E7 B0.length E4],.string a1] ?_;(with_reducible refine (Y31.calls k B2 _ _ B0 a1 An3 _ ?s1 ?s2 A5.out).mono ?_);(case s1=>repeat (first | exact (Kd.C_below I2.out HB.out) | (with_reducible refine Kd.C_alloc ?_ _) | (with_reducible refine Kd.C_drewN ?_ _) | (with_reducible refine Kd.C_drew ?_)));(case s2=>exact J7.out);rintro e w10 ⟨v372,rfl,ho0,hb⟩;refine ⟨_,rfl,?_⟩;have n0_:=aM (Kd.R_lower ho0 (below_size (z4_ HB.out Aj7.out)));have n1_:=aM (blkB_ AF6.out hb);have n2_:=aM (below_step (z4_ HB.out Aj7.out) hb);clear AF6;clear HB;have Cn3:=n0_;have AF6:=n1_;have HB:=n2_;clear n0_ n1_ n2_;(try clear hb);(try clear ho0)))
  go_ret
  exact ⟨_,z8_,z0_ Cn3.out,z4_ HB.out Aj7.out⟩
 ·replace c4:=Bool.eq_false_iff.mpr c4
  subst c4
  have H1:(some ([]:List Int))=some r:=by rw [if_neg (show ¬ (false=true) by decide)] at H;exact H
  clear H
  have H:=H1
  clear H1
  obtain rfl:=sI H
  go_enter Tryz.func7,Tryz.ntmps7
  go_wp2_with (first | ((with_reducible refine gd_ 2 ?_);refine be_ 2 #[.int .i64 B2,.slice E7 B0.length E4] 27 ?_;intro A44 hg w11 hbox hb;have n0_:=aM (below_step (z6_ HB.out) hb);have n1_:=aM (hbox);have n2_:=aM ((z7_ HB.out:w.heap.size≤A44));have n3_:=aM ((z7_ HB.out:w.heap.size≤A44));clear HB;have HB:=n0_;have AF6:=n1_;have Cn2:=n2_;have Aj7:=n3_;clear n0_ n1_ n2_ n3_;clear hb hbox hg;have ⟨AS4,AS5,AS6,AS7⟩:=cz2_ AF6.out) | ((with_reducible refine gc_ 34 ?_);refine gl_ (some 7) Tryz.func34 #[.agg #[.int .i64 B2,.slice E7 B0.length E4],.string a1] ?_;(with_reducible refine (Y57.calls k B2 _ _ B0 a1 false _ ?s1 ?s2 A3.out).mono ?_);(case s1=>repeat (first | exact (Kd.C_below I2.out HB.out) | (with_reducible refine Kd.C_alloc ?_ _) | (with_reducible refine Kd.C_drewN ?_ _) | (with_reducible refine Kd.C_drew ?_)));(case s2=>exact J7.out);rintro e w13 ⟨rfl,hb⟩;refine ⟨_,rfl,?_⟩;have n0_:=aM (blkB_ AF6.out hb);have n1_:=aM (below_step (z4_ HB.out Aj7.out) hb);clear AF6;clear HB;have AF6:=n0_;have HB:=n1_;clear n0_ n1_;(try clear hb)))
  go_ret
  exact ⟨_,z8_,z27_,z4_ HB.out Aj7.out⟩


/-! ### Y70: function 8 -/
def Y70.f (k:Nat) (l0:List Int):Option (Int × (List (S78)) × ByteArray × Int):=(Y20.f k l0).bind fun AF7=>((Y47.f k AF7.1 AF7.2.1 AF7.2.2.1 AF7.2.2.2).bind fun u0=>((Y51.f AF7.1 u0.2.2.1 u0.2.2.2.1 u0.2.2.2.2).bind fun i2=>((Y4.f AF7.1 i2.2.1 i2.2.2.1 i2.2.2.2 7).bind fun AW5=>(some (u0.1,u0.2.1,i2.1,AW5.1)))))
theorem Y70.mono:∀ a0 k,LeO (Y70.f k a0) (Y70.f (k+1) a0):=by
 intro a0 k
 have m0:=@Y20.mono
 have m1:=@Y47.mono
 unfold Y70.f
 exact mO
theorem Y70.calls (k:Nat) (A0:Option Addr) (c0:Nat) (l0:List Int) (r1:Int) (r2:List (S78)) (r3:ByteArray) (r4:Int) (w:World) (hr0:Kd.C (Kd.int .u8) w A0 l0.length l0) (hc0:l0.length≤c0) (h:Y70.f k l0=some (r1,r2,r3,r4)) :
  Calls Tryz.prog 8 #[.slice A0 l0.length c0] w fun e w'=>∃ v1_:Value,e = .returned (.tuple #[.agg #[.int .i64 r1,v1_],.string r3,.int .i64 r4])∧Kd.R k78 78 w' w.heap.size (fun _=>True) v1_ r2∧Below w.heap.size w w':=by
 have AD7:=Tryz.underlying27
 have HR0:=aM hr0
 have HC0:=aM hc0
 clear hr0 hc0
 have HB:=aM (Below.refl w.heap.size w)
 have H:((Y20.f k l0).bind fun AF7=>((Y47.f k AF7.1 AF7.2.1 AF7.2.2.1 AF7.2.2.2).bind fun u0=>((Y51.f AF7.1 u0.2.2.1 u0.2.2.2.1 u0.2.2.2.2).bind fun i2=>((Y4.f AF7.1 i2.2.1 i2.2.2.1 i2.2.2.2 7).bind fun AW5=>(some (u0.1,u0.2.1,i2.1,AW5.1))))))=some (r1,r2,r3,r4):=h
 clear h
 replace H:=bS H
 obtain ⟨⟨AW6,CN5,CN6,CN7⟩,A20,H⟩:=H
 replace H:((Y47.f k AW6 CN5 CN6 CN7).bind fun u0=>((Y51.f AW6 u0.2.2.1 u0.2.2.2.1 u0.2.2.2.2).bind fun i2=>((Y4.f AW6 i2.2.1 i2.2.2.1 i2.2.2.2 7).bind fun AW5=>(some (u0.1,u0.2.1,i2.1,AW5.1)))))=some (r1,r2,r3,r4):=H
 have A2:=aM A20
 clear A20
 replace H:=bS H
 obtain ⟨⟨A46,A47,BT7,BT8,BT9⟩,A30,H⟩:=H
 replace H:((Y51.f AW6 BT7 BT8 BT9).bind fun i2=>((Y4.f AW6 i2.2.1 i2.2.2.1 i2.2.2.2 7).bind fun AW5=>(some (A46,A47,i2.1,AW5.1))))=some (r1,r2,r3,r4):=H
 have A3:=aM A30
 clear A30
 replace H:=bS H
 obtain ⟨⟨CN8,Bw8,Bw9,Bx0⟩,A40,H⟩:=H
 replace H:((Y4.f AW6 Bw8 Bw9 Bx0 7).bind fun AW5=>(some (A46,A47,CN8,AW5.1)))=some (r1,r2,r3,r4):=H
 have A4:=aM A40
 clear A40
 replace H:=bS H
 obtain ⟨⟨Cn4,C33,C34,C35⟩,A50,H⟩:=H
 replace H:(some (A46,A47,CN8,Cn4))=some (r1,r2,r3,r4):=H
 have A5:=aM A50
 clear A50
 simp only [Option.some.injEq,Prod.mk.injEq] at H
 obtain ⟨rfl,rfl,rfl,rfl⟩:=H
 go_enter Tryz.func8,Tryz.ntmps8
 try go_wp2_with (first | ((with_reducible refine gd_ 2 ?_);refine be_ 2 #[.int .i64 0,.slice none 0 0] 27 ?_;intro AB2 hg w6 hbox hb;have n0_:=aM (below_step (z6_ HB.out) hb);have n1_:=aM (hbox);have n2_:=aM ((z7_ HB.out:w.heap.size≤AB2));have n3_:=aM ((z7_ HB.out:w.heap.size≤AB2));clear HB;have HB:=n0_;have R5:=n1_;have GW374:=n2_;have AW7:=n3_;clear n0_ n1_ n2_ n3_;clear hb hbox hg) | ((with_reducible refine gc_ 30 ?_);refine gl_ (some 9) Tryz.func30 #[.slice A0 l0.length c0] ?_;(with_reducible refine (Y20.calls k _ _ l0 AW6 CN5 CN6 CN7 w _ ?s1 ?s2 ?s3 A2.out).mono ?_);(case s1=>repeat (first | (with_reducible first | exact HB.out | apply below_alloc | apply pw_below_drewN | apply below_drew1 | refine below_set ?_ AW7.out) | exact HB.out));(case s2=>exact HR0.out);(case s3=>exact HC0.out);rintro e w7 ⟨Ad4,rfl,hi,hb,hb2⟩;refine ⟨_,rfl,?_⟩;have n0_:=aM (blk_below (g:=AB2) (o:=.cells #[.int .i64 0,.slice none 0 0] 27 (0,0)) (z3_ R5.out) hb2);have n1_:=aM (hb);have n2_:=aM (hi);have n3_:=aM (IsS98.ne_blk hi (blk_below (g:=AB2) (o:=.cells #[.int .i64 0,.slice none 0 0] 27 (0,0)) (z3_ R5.out) hb2) (by decide));have n4_:=aM (Ne.symm (IsS98.ne_blk hi (blk_below (g:=AB2) (o:=.cells #[.int .i64 0,.slice none 0 0] 27 (0,0)) (z3_ R5.out) hb2) (by decide)));clear R5;clear HB;have R5:=n0_;have HB:=n1_;have N6:=n2_;have d8:=n3_;have AZ9:=n4_;clear n0_ n1_ n2_ n3_ n4_;(try clear hb);(try clear hb2);(try clear hi)) | ((with_reducible refine gc_ 32 ?_);refine gl_ (some 11) Tryz.func32 #[.pointer (some ⟨Ad4,0,none⟩)] ?_;(with_reducible refine (Y47.calls k Ad4 AW6 CN5 CN6 CN7 A46 A47 BT7 BT8 BT9 w _ ?s1 ?s2 A3.out).mono ?_);(case s1=>repeat (first | (with_reducible first | exact N6.out | apply IsS98.alloc | apply IsS98.drewN | apply IsS98.drew | apply IsS98.set_1 | apply IsS98.set_2 | apply IsS98.set_3 | refine IsS98.far ?_ (by exact d8.out) _) | exact N6.out));(case s2=>repeat (first | (with_reducible first | exact HB.out | apply below_alloc | apply pw_below_drewN | apply below_drew1 | refine below_set ?_ (IsS98.ge N6.out) | refine below_set ?_ AW7.out) | exact HB.out));rintro e w8 ⟨v382,rfl,ho0,hi,hb,hk⟩;refine ⟨_,rfl,?_⟩;have n0_:=aM (KeepBut.blk hk (g':=AB2) (o:=.cells #[.int .i64 0,.slice none 0 0] 27 (0,0)) (z3_ R5.out) AZ9.out (by simp));have n1_:=aM (Kd.R_lower ho0 (below_size (z25_ HB.out N6.out AW7.out)));have n2_:=aM (hb);have n3_:=aM (hi);clear R5;clear HB;clear N6;have R5:=n0_;have AB3:=n1_;have HB:=n2_;have N6:=n3_;clear n0_ n1_ n2_ n3_;(try clear hb);(try clear hk);(try clear hi);(try clear ho0)) | ((with_reducible refine gd_ 6 ?_);refine be_ 6 #[.int .i64 0,.slice none 0 0] 27 ?_;intro Ab3 hg w9 hbox hb;have n0_:=aM (Kd.R_below (z0_ AB3.out) hb);have n1_:=aM (blkB_ R5.out hb);have n2_:=aM (IsS98.below (z35_ N6.out d8.out) hb);have n3_:=aM (below_step (z25_ HB.out N6.out AW7.out) hb);have n4_:=aM (hbox);have n5_:=aM ((z42_ HB.out N6.out AW7.out:w.heap.size≤Ab3));have n6_:=aM ((z42_ HB.out N6.out AW7.out:w.heap.size≤Ab3));have n7_:=aM (neL_ R5.out hg);have n8_:=aM (neG_ R5.out hg);have n9_:=aM ((by rw [hg];exact Nat.ne_of_lt (IsS98.lt (show IsS98 w _ Ad4 AW6 BT7 BT8 BT9 from by repeat (first | (with_reducible first | exact N6.out | apply IsS98.alloc | apply IsS98.drewN | apply IsS98.drew | apply IsS98.set_1 | apply IsS98.set_2 | apply IsS98.set_3 | refine IsS98.far ?_ (by exact d8.out) _) | exact N6.out))):Ad4≠Ab3));have K9:=aM ((by rw [hg];exact Nat.ne_of_gt (IsS98.lt (show IsS98 w _ Ad4 AW6 BT7 BT8 BT9 from by repeat (first | (with_reducible first | exact N6.out | apply IsS98.alloc | apply IsS98.drewN | apply IsS98.drew | apply IsS98.set_1 | apply IsS98.set_2 | apply IsS98.set_3 | refine IsS98.far ?_ (by exact d8.out) _) | exact N6.out))):Ab3≠Ad4));clear AB3;clear R5;clear N6;clear HB;have AB3:=n0_;have R5:=n1_;have N6:=n2_;have HB:=n3_;have AC9:=n4_;have GW387:=n5_;have Bi5:=n6_;have AO6:=n7_;have n7:=n8_;have AF8:=n9_;have Aa0:=K9;clear n0_ n1_ n2_ n3_ n4_ n5_ n6_ n7_ n8_ n9_ K9;clear hb hbox hg;have B70:=n7.out;have B71:=AO6.out;have hnb11:=Aa0.out;have hnc11:=AF8.out;have ⟨AS4,AS5,AS6,AS7⟩:=cz2_ AC9.out;obtain ⟨BD1,AP2,BD2⟩:=Kd.R_slice AB3.out;subst BD2) | ((with_reducible refine gc_ 33 ?_);refine gl_ (some 13) Tryz.func33 #[.pointer (some ⟨Ad4,0,none⟩)] ?_;(with_reducible refine (Y51.calls Ad4 AW6 BT7 BT8 BT9 CN8 Bw8 Bw9 Bx0 w _ ?s1 ?s2 A4.out).mono ?_);(case s1=>repeat (first | (with_reducible first | exact N6.out | apply IsS98.alloc | apply IsS98.drewN | apply IsS98.drew | apply IsS98.set_1 | apply IsS98.set_2 | apply IsS98.set_3 | refine IsS98.far ?_ (by exact d8.out) _ | refine IsS98.far ?_ (by exact AF8.out) _) | exact N6.out));(case s2=>repeat (first | (with_reducible first | exact HB.out | apply below_alloc | apply pw_below_drewN | apply below_drew1 | refine below_set ?_ (IsS98.ge N6.out) | refine below_set ?_ AW7.out | refine below_set ?_ Bi5.out) | exact HB.out));rintro e w14 ⟨rfl,hi,hb,hk⟩;refine ⟨_,rfl,?_⟩;have n0_:=aM (KeepBut.blk hk (g':=AB2) (o:=.cells #[.int .i64 0,.slice none 0 0] 27 (0,0)) (z22_ AO6.out R5.out) AZ9.out (by simp));have n1_:=aM (Kd.R_mono (Kd.R_keep (IsS98.apart (show IsS98 w _ Ad4 AW6 BT7 BT8 BT9 from by repeat (first | (with_reducible first | exact N6.out | apply IsS98.alloc | apply IsS98.drewN | apply IsS98.drew | apply IsS98.set_1 | apply IsS98.set_2 | apply IsS98.set_3 | refine IsS98.far ?_ (by exact d8.out) _ | refine IsS98.far ?_ (by exact AF8.out) _) | exact N6.out)) (z16_ AB3.out AC9.out) (by decide)) hk (fun _ h=>h.2)) (fun _ h=>h.1));have n2_:=aM (KeepBut.blk hk (g':=Ab3) (o:=.cells #[.int .i64 A46,.slice BD1 A47.length AP2] 27 (0,0)) (z18_ AC9.out) Aa0.out (by simp));have n3_:=aM (hb);have n4_:=aM (hi);clear R5;clear AB3;clear AC9;clear HB;clear N6;have R5:=n0_;have AB3:=n1_;have AC9:=n2_;have HB:=n3_;have N6:=n4_;clear n0_ n1_ n2_ n3_ n4_;(try clear hb);(try clear hk);(try clear hi)))
 have n0_:=aM (Kd.R_drew AB3.out)
 have n1_:=aM (blk_drew R5.out)
 have n2_:=aM (blk_drew AC9.out)
 have n3_:=aM (IsS98.drew N6.out)
 have n4_:=aM (below_drew1 HB.out)
 clear AB3
 clear R5
 clear AC9
 clear N6
 clear HB
 have AB3:=n0_
 have R5:=n1_
 have AC9:=n2_
 have N6:=n3_
 have HB:=n4_
 clear n0_ n1_ n2_ n3_ n4_
 refine start_ (n:=7) (S:=fun w'=>w'.cell? ⟨Ab3,0,none⟩=some (.int .i64 A46)∧w'.cell? ⟨Ab3,1,none⟩=some (.slice BD1 A47.length AP2)) (ds:=[]) #[O,O,O,O,O,O,O] (by kernel_rfl) rfl rfl (cc2_ AC9.out) (fun hHeld=>?_)
 generalize w14.drew=w15 at AB3 R5 AC9 N6 HB hHeld ⊢
 refine pure_ (i:=1) (N:=some 15) (v:=?_) (a':=?_) #[O,I,O,O,O,O,O] rfl rfl (by kernel_rfl) (fun _ _ _ h=>h) (Or.inl ⟨by rfl,?_⟩) ?_ ?_
 rotate_left
 ·intro w'
  go_simp
  with_reducible rfl
 rotate_left
 ·simp only [Act.put,sa_,s0_,ss_,i64_w,i32_w]
  rfl
 refine pure_ (i:=2) (N:=some 16) (v:=?_) (a':=?_) #[O,I,I,O,O,O,O] rfl rfl (by kernel_rfl) (fun _ _ _ h=>h) (Or.inl ⟨by rfl,?_⟩) ?_ ?_
 rotate_left
 ·intro w'
  go_simp
  with_reducible rfl
 rotate_left
 ·simp only [Act.put,sa_,s0_,ss_,i64_w,i32_w]
  rfl
 refine take_ (i:=0) (N:=some 14) (v:=?_) (a':=?_) #[I,I,I,O,O,O,O] rfl rfl (by kernel_rfl) (fun _ _ _ h=>h) (Or.inl ⟨by rfl,?_⟩) hHeld ?_ ?_
 rotate_left
 ·rintro w' ⟨s0,s1⟩
  go_simp
  with_reducible rfl
 rotate_left
 ·simp only [Act.put,sa_,s0_,ss_,i64_w,i32_w]
  rfl
 refine one_ (i:=3) (N:=some 17) #[I,I,I,I,O,O,O] rfl rfl (by kernel_rfl) (by decide) (fun K hK=>?_)
 refine gs_ Tryz.func31 #[.pointer (some ⟨Ad4,0,none⟩),.int .i64 7] ?_
 with_reducible refine (Y4.calls Ad4 AW6 Bw8 Bw9 Bx0 7 Cn4 C33 C34 C35 w _ ?s1 ?s2 A5.out).mono ?_
 (case s1=>repeat (first | (with_reducible first | exact N6.out | apply IsS98.alloc | apply IsS98.drewN | apply IsS98.drew | apply IsS98.set_1 | apply IsS98.set_2 | apply IsS98.set_3 | refine IsS98.far ?_ (by exact d8.out) _ | refine IsS98.far ?_ (by exact AF8.out) _) | exact N6.out))
 (case s2=>repeat (first | (with_reducible first | exact HB.out | apply below_alloc | apply pw_below_drewN | apply below_drew1 | refine below_set ?_ (IsS98.ge N6.out) | refine below_set ?_ AW7.out | refine below_set ?_ Bi5.out) | exact HB.out))
 rintro e w16 ⟨rfl,hi,hb,hk⟩
 refine ⟨_,rfl,?_⟩
 have n0_:=aM (KeepBut.blk hk (g':=AB2) (o:=.cells #[.int .i64 0,.slice none 0 0] 27 (0,0)) (z3_ R5.out) AZ9.out (by simp))
 have n1_:=aM (Kd.R_mono (Kd.R_keep (IsS98.apart (show IsS98 w _ Ad4 AW6 Bw8 Bw9 Bx0 from by repeat (first | (with_reducible first | exact N6.out | apply IsS98.alloc | apply IsS98.drewN | apply IsS98.drew | apply IsS98.set_1 | apply IsS98.set_2 | apply IsS98.set_3 | refine IsS98.far ?_ (by exact d8.out) _ | refine IsS98.far ?_ (by exact AF8.out) _) | exact N6.out)) (z0_ AB3.out) (by decide)) hk (fun _ h=>h.2)) (fun _ h=>h.1))
 have n2_:=aM (KeepBut.blk hk (g':=Ab3) (o:=.cells #[.int .i64 A46,.slice BD1 A47.length AP2] 27 (0,0)) (z3_ AC9.out) Aa0.out (by simp))
 have n3_:=aM (hb)
 have n4_:=aM (hi)
 clear R5
 clear AB3
 clear AC9
 clear HB
 clear N6
 have R5:=n0_
 have AB3:=n1_
 have AC9:=n2_
 have HB:=n3_
 have N6:=n4_
 clear n0_ n1_ n2_ n3_ n4_
 (try clear hb)
 (try clear hk)
 (try clear hi)
 refine hK.out _ _ (cc2_ AC9.out) (fun hHeld=>?_)
 clear hK K
 refine nm_ 17 ?_
 refine one_ (i:=4) (N:=none) #[I,I,I,I,I,O,O] rfl rfl (by kernel_rfl) (by decide) (fun K hK=>?_)
 have C11:w16.cell? ⟨AB2,0,none⟩=some (.int .i64 0):=(blk_cell R5.out 0).trans rfl
 have Ca1:=blk_frozen R5.out 0
 have Br1:=n7.out
 have Br2:=AO6.out
 have C30:w16.cell? ⟨AB2,1,none⟩=some (.slice none 0 0):=(blk_cell R5.out 1).trans rfl
 have Cm0:=blk_frozen R5.out 1
 have hns18_1:=n7.out
 have hms18_1:=AO6.out
 refine skip_ (w1:=?_) (by rfl) rfl ?_ ?_
 rotate_left
 ·go_simp
  rfl
 refine hK.out _ _ ⟨((cell_far (p:=⟨AB2,_,none⟩) n7.out _).trans (((cell_far (p:=⟨AB2,_,none⟩) n7.out _).trans (hHeld.1)))),((cell_far (p:=⟨AB2,_,none⟩) n7.out _).trans (((cell_far (p:=⟨AB2,_,none⟩) n7.out _).trans (hHeld.2))))⟩ (fun hHeld=>?_)
 clear hK K
 refine pure_ (i:=5) (N:=some 3) (v:=?_) (a':=?_) #[I,I,I,I,I,I,O] rfl rfl (by kernel_rfl) (fun _ _ _ h=>h) (Or.inl ⟨by rfl,?_⟩) ?_ ?_
 rotate_left
 ·intro w'
  go_simp
  with_reducible rfl
 rotate_left
 ·simp only [Act.put,sa_,s0_,ss_,i64_w,i32_w]
  rfl
 refine pure_ (i:=6) (N:=some 4) (v:=?_) (a':=?_) #[I,I,I,I,I,I,I] rfl rfl (by kernel_rfl) (fun _ _ _ h=>h) (Or.inl ⟨by rfl,?_⟩) ?_ ?_
 rotate_left
 ·intro w'
  go_simp
  with_reducible rfl
 rotate_left
 ·simp only [Act.put,sa_,s0_,ss_,i64_w,i32_w]
  rfl
 refine done_ (by kernel_rfl) ?_
 try go_wp2
 refine bodyPost_ret (results_ctt rfl _ _ AB2 27 #[.int .i64 A46,.slice BD1 A47.length AP2] (0,0) _ rfl (z18_ R5.out) Tryz.underlying27 rfl (by kernel_rfl)) rfl ?_
 exact ⟨_,z8_,z24_ AB3.out R5.out,z19_ HB.out N6.out AW7.out Bi5.out⟩


/-! ### Y22: function 9 -/
def Y22.l0:Nat→ByteArray→List Int→Int→List Int→Int→Int→Int→Int→List (S78)→Option (Int × (List (S78)) × ByteArray × Int × List Int)
 | 0,_,_,_,_,_,_,_,_,_=>none
 | k+1,x8,x9,x10,AI2,BN6,BN7,BN8,Ag2,Ag3=>if x10≤5 then ((Y55.f AI2 BN6 BN7 BN8 3).bind fun Aj8=>(if Aj8.1=true then (if x9.length<17592186044416 then (Y22.l0 k x8 (x9 ++ [x10]) (wrap64 (x10+1)) AI2 Aj8.2.1 Aj8.2.2.1 Aj8.2.2.2 Ag2 Ag3) else (none)) else (Y22.l0 k x8 x9 (wrap64 (x10+1)) AI2 Aj8.2.1 Aj8.2.2.1 Aj8.2.2.2 Ag2 Ag3))) else ((Y55.f AI2 BN6 BN7 BN8 15).bind fun Aj9=>(if Aj9.1=true then ((Y4.f AI2 Aj9.2.1 Aj9.2.2.1 Aj9.2.2.2 8).bind fun AD0=>(if x9.length<17592186044416 then ((Y4.f AI2 AD0.2.1 AD0.2.2.1 AD0.2.2.2 4).bind fun AW8=>(some (Ag2,Ag3,x8,wrap64 (1+AW8.1),(x9 ++ [AD0.1])))) else (none))) else ((Y4.f AI2 Aj9.2.1 Aj9.2.2.1 Aj9.2.2.2 4).bind fun A49=>(some (Ag2,Ag3,x8,wrap64 (1+A49.1),x9)))))
def Y22.f (k:Nat) (l0:List Int):Option (Int × (List (S78)) × ByteArray × Int × List Int):=(Y20.f k l0).bind fun AF9=>((Y47.f k AF9.1 AF9.2.1 AF9.2.2.1 AF9.2.2.2).bind fun u1=>((Y51.f AF9.1 u1.2.2.1 u1.2.2.2.1 u1.2.2.2.2).bind fun i3=>(Y22.l0 k i3.1 (([]:List Int)) 1 AF9.1 i3.2.1 i3.2.2.1 i3.2.2.2 u1.1 u1.2.1)))
theorem Y22.mono_l:∀ k,(∀ y0 y1 y2 y3 y4 y5 y6 y7 y8,LeO (Y22.l0 k y0 y1 y2 y3 y4 y5 y6 y7 y8) (Y22.l0 (k+1) y0 y1 y2 y3 y4 y5 y6 y7 y8))
 | 0=>by intros <;> exact LeO.none _
 | k+1=>by
  have ih0:=Y22.mono_l k
  have m0:=@Y20.mono
  have m1:=@Y47.mono
  ·intros
   unfold Y22.l0
   exact mO
theorem Y22.mono:∀ a0 k,LeO (Y22.f k a0) (Y22.f (k+1) a0):=by
 intro a0 k
 have m0:=@Y20.mono
 have m1:=@Y47.mono
 have ih0:=Y22.mono_l k
 unfold Y22.f
 exact mO
def Y22.T12:Bool × List (List Nat × List Nat):=(true,[([],[]),([],[]),([],[]),([2],[2]),([3],[3]),([],[]),([0,3,0],[0]),([1,6,0,1,6],[1]),([4,7,0,1,2,3,4,6,7],[4]),([5,8,0,1,2,3,4,5,6,7,8],[5])])
def Y22.B12:List Nat:=[0,0,0,4,12,0,13,79,223,511]
theorem Y22.tab12:rtab .any (opsOf Tryz.f9 12)=Y22.T12:=by kernel_rfl
theorem Y22.bits12:waitsOk Y22.T12.2 Y22.B12=true:=by kernel_rfl
theorem Y22.calls (k:Nat) (A0:Option Addr) (c0:Nat) (l0:List Int) (r1:Int) (r2:List (S78)) (r3:ByteArray) (r4:Int) (r5:List Int) (w:World) (hr0:Kd.C (Kd.int .u8) w A0 l0.length l0) (hc0:l0.length≤c0) (h:Y22.f k l0=some (r1,r2,r3,r4,r5)) :
  Calls Tryz.prog 9 #[.slice A0 l0.length c0] w fun e w'=>∃ v1_ v4_:Value,e = .returned (.tuple #[.agg #[.int .i64 r1,v1_],.string r3,.int .i64 r4,v4_])∧Kd.R k78 78 w' w.heap.size (fun _=>True) v1_ r2∧Kd.R (Kd.int .i64) 2 w' w.heap.size (fun _=>True) v4_ r5∧Below w.heap.size w w':=by
 have AD7:=Tryz.underlying27
 have HR0:=aM hr0
 have HC0:=aM hc0
 clear hr0 hc0
 have HB:=aM (Below.refl w.heap.size w)
 have H:((Y20.f k l0).bind fun AF9=>((Y47.f k AF9.1 AF9.2.1 AF9.2.2.1 AF9.2.2.2).bind fun u1=>((Y51.f AF9.1 u1.2.2.1 u1.2.2.2.1 u1.2.2.2.2).bind fun i3=>(Y22.l0 k i3.1 (([]:List Int)) 1 AF9.1 i3.2.1 i3.2.2.1 i3.2.2.2 u1.1 u1.2.1))))=some (r1,r2,r3,r4,r5):=h
 clear h
 replace H:=bS H
 obtain ⟨⟨P4,CN9,CO0,CO1⟩,A20,H⟩:=H
 replace H:((Y47.f k P4 CN9 CO0 CO1).bind fun u1=>((Y51.f P4 u1.2.2.1 u1.2.2.2.1 u1.2.2.2.2).bind fun i3=>(Y22.l0 k i3.1 (([]:List Int)) 1 P4 i3.2.1 i3.2.2.1 i3.2.2.2 u1.1 u1.2.1)))=some (r1,r2,r3,r4,r5):=H
 have A2:=aM A20
 clear A20
 replace H:=bS H
 obtain ⟨⟨a9,X2,BU0,BU1,BU2⟩,A30,H⟩:=H
 replace H:((Y51.f P4 BU0 BU1 BU2).bind fun i3=>(Y22.l0 k i3.1 (([]:List Int)) 1 P4 i3.2.1 i3.2.2.1 i3.2.2.2 a9 X2))=some (r1,r2,r3,r4,r5):=H
 have A3:=aM A30
 clear A30
 replace H:=bS H
 obtain ⟨⟨AL7,Bx1,Bx2,Bx3⟩,A40,H⟩:=H
 replace H:(Y22.l0 k AL7 (([]:List Int)) 1 P4 Bx1 Bx2 Bx3 a9 X2)=some (r1,r2,r3,r4,r5):=H
 have A4:=aM A40
 clear A40
 obtain ⟨Cn5,A51⟩:∃ y_:List Int,y_=(([]:List Int)):=⟨_,rfl⟩
 replace H:(Y22.l0 k AL7 Cn5 1 P4 Bx1 Bx2 Bx3 a9 X2)=some (r1,r2,r3,r4,r5):=by first | (rw [A51];with_reducible exact H) | (have H2_:=(Option.bind_some _ _).symm.trans H;rw [A51];with_reducible exact H2_) | (have H2_:=(Option.bind_some _ _).symm.trans H;with_reducible exact H2_) | with_reducible exact H | (rw [A51];exact H) | exact H
 have CA4:=aM A51
 clear A51
 have H':=aM H
 clear H
 go_enter Tryz.func9,Tryz.ntmps9
 go_wp2_with (first | ((with_reducible refine gd_ 2 ?_);refine be_ 2 #[.int .i64 0,.slice none 0 0] 27 ?_;intro Q5 hg w5 hbox hb;have n0_:=aM (below_step (z6_ HB.out) hb);have n1_:=aM (hbox);have n2_:=aM ((z7_ HB.out:w.heap.size≤Q5));have n3_:=aM ((z7_ HB.out:w.heap.size≤Q5));clear HB;have HB:=n0_;have F6:=n1_;have GW396:=n2_;have V4:=n3_;clear n0_ n1_ n2_ n3_;clear hb hbox hg) | ((with_reducible refine gc_ 30 ?_);refine gl_ (some 12) Tryz.func30 #[.slice A0 l0.length c0] ?_;(with_reducible refine (Y20.calls k _ _ l0 P4 CN9 CO0 CO1 w _ ?s1 ?s2 ?s3 A2.out).mono ?_);(case s1=>repeat (first | (with_reducible first | exact HB.out | apply below_alloc | apply pw_below_drewN | apply below_drew1 | refine below_set ?_ V4.out) | exact HB.out));(case s2=>exact HR0.out);(case s3=>exact HC0.out);rintro e w6 ⟨V5,rfl,hi,hb,hb2⟩;refine ⟨_,rfl,?_⟩;have n0_:=aM (blk_below (g:=Q5) (o:=.cells #[.int .i64 0,.slice none 0 0] 27 (0,0)) (z3_ F6.out) hb2);have n1_:=aM (hb);have n2_:=aM (hi);have n3_:=aM (IsS98.ne_blk hi (blk_below (g:=Q5) (o:=.cells #[.int .i64 0,.slice none 0 0] 27 (0,0)) (z3_ F6.out) hb2) (by decide));have n4_:=aM (Ne.symm (IsS98.ne_blk hi (blk_below (g:=Q5) (o:=.cells #[.int .i64 0,.slice none 0 0] 27 (0,0)) (z3_ F6.out) hb2) (by decide)));clear F6;clear HB;have F6:=n0_;have HB:=n1_;have D2:=n2_;have F3:=n3_;have Z4:=n4_;clear n0_ n1_ n2_ n3_ n4_;(try clear hb);(try clear hb2);(try clear hi)) | ((with_reducible refine gc_ 32 ?_);refine gl_ (some 14) Tryz.func32 #[.pointer (some ⟨V5,0,none⟩)] ?_;(with_reducible refine (Y47.calls k V5 P4 CN9 CO0 CO1 a9 X2 BU0 BU1 BU2 w _ ?s1 ?s2 A3.out).mono ?_);(case s1=>repeat (first | (with_reducible first | exact D2.out | apply IsS98.alloc | apply IsS98.drewN | apply IsS98.drew | apply IsS98.set_1 | apply IsS98.set_2 | apply IsS98.set_3 | refine IsS98.far ?_ (by exact F3.out) _) | exact D2.out));(case s2=>repeat (first | (with_reducible first | exact HB.out | apply below_alloc | apply pw_below_drewN | apply below_drew1 | refine below_set ?_ (IsS98.ge D2.out) | refine below_set ?_ V4.out) | exact HB.out));rintro e w7 ⟨v404,rfl,ho0,hi,hb,hk⟩;refine ⟨_,rfl,?_⟩;have n0_:=aM (KeepBut.blk hk (g':=Q5) (o:=.cells #[.int .i64 0,.slice none 0 0] 27 (0,0)) (z3_ F6.out) Z4.out (by simp));have n1_:=aM (Kd.R_lower ho0 (below_size (z25_ HB.out D2.out V4.out)));have n2_:=aM (hb);have n3_:=aM (hi);clear F6;clear HB;clear D2;have F6:=n0_;have AL8:=n1_;have HB:=n2_;have D2:=n3_;clear n0_ n1_ n2_ n3_;(try clear hb);(try clear hk);(try clear hi);(try clear ho0)) | ((with_reducible refine gd_ 7 ?_);refine be_ 7 #[.int .i64 0,.slice none 0 0] 27 ?_;intro i4 hg w8 hbox hb;have n0_:=aM (Kd.R_below (z0_ AL8.out) hb);have n1_:=aM (blkB_ F6.out hb);have n2_:=aM (IsS98.below (z35_ D2.out F3.out) hb);have n3_:=aM (below_step (z25_ HB.out D2.out V4.out) hb);have n4_:=aM (hbox);have n5_:=aM ((z42_ HB.out D2.out V4.out:w.heap.size≤i4));have n6_:=aM ((z42_ HB.out D2.out V4.out:w.heap.size≤i4));have n7_:=aM (neL_ F6.out hg);have n8_:=aM (neG_ F6.out hg);have n9_:=aM ((by rw [hg];exact Nat.ne_of_lt (IsS98.lt (show IsS98 w _ V5 P4 BU0 BU1 BU2 from by repeat (first | (with_reducible first | exact D2.out | apply IsS98.alloc | apply IsS98.drewN | apply IsS98.drew | apply IsS98.set_1 | apply IsS98.set_2 | apply IsS98.set_3 | refine IsS98.far ?_ (by exact F3.out) _) | exact D2.out))):V5≠i4));have K9:=aM ((by rw [hg];exact Nat.ne_of_gt (IsS98.lt (show IsS98 w _ V5 P4 BU0 BU1 BU2 from by repeat (first | (with_reducible first | exact D2.out | apply IsS98.alloc | apply IsS98.drewN | apply IsS98.drew | apply IsS98.set_1 | apply IsS98.set_2 | apply IsS98.set_3 | refine IsS98.far ?_ (by exact F3.out) _) | exact D2.out))):i4≠V5));clear AL8;clear F6;clear D2;clear HB;have AL8:=n0_;have F6:=n1_;have D2:=n2_;have HB:=n3_;have I8:=n4_;have GW409:=n5_;have i5:=n6_;have AA1:=n7_;have Q2:=n8_;have G1:=n9_;have Z5:=K9;clear n0_ n1_ n2_ n3_ n4_ n5_ n6_ n7_ n8_ n9_ K9;clear hb hbox hg;have C09:=Q2.out;have C10:=AA1.out;have B70:=Z5.out;have B71:=G1.out;have ⟨o0,o1,o3,o4⟩:=cz2_ I8.out;obtain ⟨U4,N5,Ai5⟩:=Kd.R_slice AL8.out;subst Ai5) | ((with_reducible refine gc_ 33 ?_);refine gl_ (some 16) Tryz.func33 #[.pointer (some ⟨V5,0,none⟩)] ?_;(with_reducible refine (Y51.calls V5 P4 BU0 BU1 BU2 AL7 Bx1 Bx2 Bx3 w _ ?s1 ?s2 A4.out).mono ?_);(case s1=>repeat (first | (with_reducible first | exact D2.out | apply IsS98.alloc | apply IsS98.drewN | apply IsS98.drew | apply IsS98.set_1 | apply IsS98.set_2 | apply IsS98.set_3 | refine IsS98.far ?_ (by exact F3.out) _ | refine IsS98.far ?_ (by exact G1.out) _) | exact D2.out));(case s2=>repeat (first | (with_reducible first | exact HB.out | apply below_alloc | apply pw_below_drewN | apply below_drew1 | refine below_set ?_ (IsS98.ge D2.out) | refine below_set ?_ V4.out | refine below_set ?_ i5.out) | exact HB.out));rintro e w13 ⟨rfl,hi,hb,hk⟩;refine ⟨_,rfl,?_⟩;have n0_:=aM (KeepBut.blk hk (g':=Q5) (o:=.cells #[.int .i64 0,.slice none 0 0] 27 (0,0)) (z22_ AA1.out F6.out) Z4.out (by simp));have n1_:=aM (Kd.R_mono (Kd.R_keep (IsS98.apart (show IsS98 w _ V5 P4 BU0 BU1 BU2 from by repeat (first | (with_reducible first | exact D2.out | apply IsS98.alloc | apply IsS98.drewN | apply IsS98.drew | apply IsS98.set_1 | apply IsS98.set_2 | apply IsS98.set_3 | refine IsS98.far ?_ (by exact F3.out) _ | refine IsS98.far ?_ (by exact G1.out) _) | exact D2.out)) (z16_ AL8.out I8.out) (by decide)) hk (fun _ h=>h.2)) (fun _ h=>h.1));have n2_:=aM (KeepBut.blk hk (g':=i4) (o:=.cells #[.int .i64 a9,.slice U4 X2.length N5] 27 (0,0)) (z18_ I8.out) Z5.out (by simp));have n3_:=aM (hb);have n4_:=aM (hi);clear F6;clear AL8;clear I8;clear HB;clear D2;have F6:=n0_;have AL8:=n1_;have I8:=n2_;have HB:=n3_;have D2:=n4_;clear n0_ n1_ n2_ n3_ n4_;(try clear hb);(try clear hk);(try clear hi)) | ((with_reducible refine gd_ 17 ?_);refine Kd.R_lit (Kd.int .i64) _ 2 ?hg (N:=17) ?hd (xs:=([]:List Int)) (inner:=[]) (ok:=fun _=>True) (okp:=fun _=>True) ?hr ?hp (fun _ hk=>hk) trivial (Below.refl _ _) (Nat.le_refl _) (by simp) ?_;(case hd=>rfl);(case hg=>rfl);(case hr=>first | (go_simp;done) | (go_simp;rfl));(case hp=>exact (Reps.none _ _));intro v415 w14 Bi6 hb hg_ hnew_;clear hg_ hnew_;(first | rw [← CA4.out] at Bi6 | (simp only [Int.reduceToNat] at Bi6;rw [← CA4.out] at Bi6));have n0_:=aM (Kd.R_below (z0_ AL8.out) hb);have n1_:=aM (Kd.R_lower Bi6 (below_size (z19_ HB.out D2.out V4.out i5.out)));have n2_:=aM (blkB_ F6.out hb);have n3_:=aM (IsS98.below (z30_ D2.out F3.out G1.out) hb);have n4_:=aM (blkB_ I8.out hb);have n5_:=aM (below_step (z19_ HB.out D2.out V4.out i5.out) hb);clear AL8;clear F6;clear D2;clear I8;clear HB;have AL8:=n0_;have Cn6:=n1_;have F6:=n2_;have D2:=n3_;have I8:=n4_;have HB:=n5_;clear n0_ n1_ n2_ n3_ n4_ n5_;clear hb Bi6))
 go_loopg [9,10] k (fun kq v9 v10 w'=>∃ (J8:List Int) (L0:Int) (M9:Int) (N0:Int) (N1:Int),v10 = .int .i64 L0∧Aside0 (Y22.l0 kq AL7 J8 L0 P4 M9 N0 N1 a9 X2=some (r1,r2,r3,r4,r5))∧Aside0 (kq≤k)∧Aside0 (Kd.R (Kd.int .i64) 2 w' w.heap.size (fun _=>True) v9 J8)∧Aside0 (Kd.R k78 78 w' w.heap.size (fun _=>True) (.slice U4 X2.length N5) X2)∧Aside0 (w'.heap[Q5]? = some (.cells #[.int .i64 0,(.slice none 0 0)] 27 (0,0)))∧Aside0 (w'.heap[i4]? = some (.cells #[.int .i64 a9,(.slice U4 X2.length N5)] 27 (0,0)))∧Aside0 (IsS98 w w' V5 P4 M9 N0 N1)∧Aside0 (Below w.heap.size w w'))
 case atStart=>exact ⟨(Cn5),(1),(Bx1),(Bx2),(Bx3),(z2_),H',⟨Nat.le_refl _⟩,⟨z0_ Cn6.out⟩,⟨z0_ AL8.out⟩,⟨z3_ F6.out⟩,⟨z3_ I8.out⟩,⟨z30_ D2.out F3.out G1.out⟩,⟨z19_ HB.out D2.out V4.out i5.out⟩⟩
 case round =>
  clear H'
  try clear c1
  try clear p2
  try clear c3
  try clear c9
  try clear c10
  try clear o0
  try clear o1
  try clear o3
  try clear o4
  obtain ⟨J8,L0,M9,N0,N1,rfl,HA,HK1,H6,E5,F6,I8,D2,HB⟩:=hrel
  cases gk with
  | zero=>exact absurd HA.out (by simp [Y22.l0])
  | succ k1 =>
   have H:=HA.out
   clear HA
   simp only [Y22.l0] at H
   by_cases c16:L0≤5
   ·rw [if_pos c16] at H
    have c16b0:decide (L0≤5)=true:=dE c16
    clear c16
    replace H:=bS H
    obtain ⟨⟨Cn7,At6,At7,At8⟩,Ai9,H⟩:=H
    replace H:(if Cn7=true then (if J8.length<17592186044416 then (Y22.l0 k1 AL7 (J8 ++ [L0]) (wrap64 (L0+1)) P4 At6 At7 At8 a9 X2) else (none)) else (Y22.l0 k1 AL7 J8 (wrap64 (L0+1)) P4 At6 At7 At8 a9 X2))=some (r1,r2,r3,r4,r5):=H
    have A17:=aM Ai9
    clear Ai9
    by_cases c18:Cn7=true
    ·subst c18
     have H1:(if J8.length<17592186044416 then (Y22.l0 k1 AL7 (J8 ++ [L0]) (wrap64 (L0+1)) P4 At6 At7 At8 a9 X2) else (none))=some (r1,r2,r3,r4,r5):=by rw [if_pos rfl] at H;exact H
     clear H
     have H:=H1
     clear H1
     by_cases c19:J8.length<17592186044416
     ·rw [if_pos c19] at H
      have Cn8:=aM c19
      clear c19
      obtain ⟨Cn9,A52⟩:∃ y_:List Int,y_=(J8 ++ [L0]):=⟨_,rfl⟩
      replace H:(Y22.l0 k1 AL7 Cn9 (wrap64 (L0+1)) P4 At6 At7 At8 a9 X2)=some (r1,r2,r3,r4,r5):=by first | (rw [A52];with_reducible exact H) | (have H2_:=(Option.bind_some _ _).symm.trans H;rw [A52];with_reducible exact H2_) | (have H2_:=(Option.bind_some _ _).symm.trans H;with_reducible exact H2_) | with_reducible exact H | (rw [A52];exact H) | exact H
      have Co0:=aM A52
      clear A52
      have H':=aM H
      clear H
      go_wp2_with (first | ((with_reducible refine gc_ 36 ?_);refine gl_ (some 23) Tryz.func36 #[.pointer (some ⟨V5,0,none⟩),.int .i64 3] ?_;(with_reducible refine (Y55.calls V5 P4 M9 N0 N1 3 true At6 At7 At8 w _ ?s1 ?s2 A17.out).mono ?_);(case s1=>repeat (first | (with_reducible first | exact D2.out | apply IsS98.alloc | apply IsS98.drewN | apply IsS98.drew | apply IsS98.set_1 | apply IsS98.set_2 | apply IsS98.set_3 | refine IsS98.far ?_ (by exact F3.out) _ | refine IsS98.far ?_ (by exact G1.out) _) | exact D2.out));(case s2=>repeat (first | (with_reducible first | exact HB.out | apply below_alloc | apply pw_below_drewN | apply below_drew1 | refine below_set ?_ (IsS98.ge D2.out) | refine below_set ?_ V4.out | refine below_set ?_ i5.out) | exact HB.out));rintro e w20 ⟨rfl,hi,hb,hk⟩;refine ⟨_,rfl,?_⟩;have n0_:=aM (Kd.R_mono (Kd.R_keep (IsS98.apart (show IsS98 w _ V5 P4 M9 N0 N1 from by repeat (first | (with_reducible first | exact D2.out | apply IsS98.alloc | apply IsS98.drewN | apply IsS98.drew | apply IsS98.set_1 | apply IsS98.set_2 | apply IsS98.set_3 | refine IsS98.far ?_ (by exact F3.out) _ | refine IsS98.far ?_ (by exact G1.out) _) | exact D2.out)) (z0_ H6.out) (by decide)) hk (fun _ h=>h.2)) (fun _ h=>h.1));have n1_:=aM (Kd.R_mono (Kd.R_keep (IsS98.apart (show IsS98 w _ V5 P4 M9 N0 N1 from by repeat (first | (with_reducible first | exact D2.out | apply IsS98.alloc | apply IsS98.drewN | apply IsS98.drew | apply IsS98.set_1 | apply IsS98.set_2 | apply IsS98.set_3 | refine IsS98.far ?_ (by exact F3.out) _ | refine IsS98.far ?_ (by exact G1.out) _) | exact D2.out)) (z0_ E5.out) (by decide)) hk (fun _ h=>h.2)) (fun _ h=>h.1));have n2_:=aM (KeepBut.blk hk (g':=Q5) (o:=.cells #[.int .i64 0,.slice none 0 0] 27 (0,0)) (z3_ F6.out) Z4.out (by simp));have n3_:=aM (KeepBut.blk hk (g':=i4) (o:=.cells #[.int .i64 a9,.slice U4 X2.length N5] 27 (0,0)) (z3_ I8.out) Z5.out (by simp));have n4_:=aM (hb);have n5_:=aM (hi);clear H6;clear E5;clear F6;clear I8;clear HB;clear D2;have H6:=n0_;have E5:=n1_;have F6:=n2_;have I8:=n3_;have HB:=n4_;have D2:=n5_;clear n0_ n1_ n2_ n3_ n4_ n5_;(try clear hb);(try clear hk);(try clear hi)) | ((with_reducible refine gate_builtin (b:=.append) (xs:=#[.tmp 24,.tmp 26]) rfl ?_);at_builtin;refine Kd.R_append (Kd.int .i64) (w0:=w) w.heap.size rfl (.tmp 24) (.tmp 26) 30 2 (.int .i64 0) 8 rfl Tryz.underlying30 info2 rfl (by decide) (by omega) u9 J8 L0 [.int .i64 L0] (fun _=>True) (fun _=>False) rfl rfl ?aP (fun _ hk=>hk.elim) ?aF ?aO ?aB ?aS ?aL ?_;(case aP=>exact rfl);(case aB=>exact (z19_ HB.out D2.out V4.out i5.out));(case aF=>exact (fun _ _=>trivial));(case aO=>exact (z0_ H6.out));(case aS=>exact (below_size (z19_ HB.out D2.out V4.out i5.out)));(case aL=>have:=Cn8.out;omega);intro v422 w21 ho hb hg hat;rw [← Co0.out] at ho;have n0_:=aM (Kd.R_over' (z0_ E5.out) (Kd.R_typed (z0_ H6.out)) (by decide) hg);have n1_:=aM (blk_grown (g:=Q5) (o:=.cells #[.int .i64 0,.slice none 0 0] 27 (0,0)) (z3_ F6.out) hg (Kd.R_ne H6.out F6.out (by decide)));have n2_:=aM (blk_grown (g:=i4) (o:=.cells #[.int .i64 a9,.slice U4 X2.length N5] 27 (0,0)) (z3_ I8.out) hg (Kd.R_ne H6.out I8.out (by decide)));have n3_:=aM (IsS98.grown (z30_ D2.out F3.out G1.out) hg (IsS98.own_ne D2.out H6.out (by decide)));have n4_:=aM (hb);have n5_:=aM (ho);clear E5;clear F6;clear I8;clear D2;clear HB;clear H6;have E5:=n0_;have F6:=n1_;have I8:=n2_;have D2:=n3_;have HB:=n4_;have Co1:=n5_;clear n0_ n1_ n2_ n3_ n4_ n5_;clear ho hb hg hat))
      go_roundg k1
      case measure=>have:=HK1.out;omega
      case rel=>exact ⟨(Cn9),(wrap64 (L0+1)),(At6),(At7),(At8),(z2_),H',⟨by have:=HK1.out;omega⟩,⟨z0_ Co1.out⟩,⟨z0_ E5.out⟩,⟨z3_ F6.out⟩,⟨z3_ I8.out⟩,⟨z30_ D2.out F3.out G1.out⟩,⟨z19_ HB.out D2.out V4.out i5.out⟩⟩
     ·rw [if_neg c19] at H
      exact nO H
    ·replace c18:=Bool.eq_false_iff.mpr c18
     subst c18
     have H1:(Y22.l0 k1 AL7 J8 (wrap64 (L0+1)) P4 At6 At7 At8 a9 X2)=some (r1,r2,r3,r4,r5):=by rw [if_neg (show ¬ (false=true) by decide)] at H;exact H
     clear H
     have H:=H1
     clear H1
     have H':=aM H
     clear H
     go_wp2_with (first | ((with_reducible refine gc_ 36 ?_);refine gl_ (some 23) Tryz.func36 #[.pointer (some ⟨V5,0,none⟩),.int .i64 3] ?_;(with_reducible refine (Y55.calls V5 P4 M9 N0 N1 3 false At6 At7 At8 w _ ?s1 ?s2 A17.out).mono ?_);(case s1=>repeat (first | (with_reducible first | exact D2.out | apply IsS98.alloc | apply IsS98.drewN | apply IsS98.drew | apply IsS98.set_1 | apply IsS98.set_2 | apply IsS98.set_3 | refine IsS98.far ?_ (by exact F3.out) _ | refine IsS98.far ?_ (by exact G1.out) _) | exact D2.out));(case s2=>repeat (first | (with_reducible first | exact HB.out | apply below_alloc | apply pw_below_drewN | apply below_drew1 | refine below_set ?_ (IsS98.ge D2.out) | refine below_set ?_ V4.out | refine below_set ?_ i5.out) | exact HB.out));rintro e w22 ⟨rfl,hi,hb,hk⟩;refine ⟨_,rfl,?_⟩;have n0_:=aM (Kd.R_mono (Kd.R_keep (IsS98.apart (show IsS98 w _ V5 P4 M9 N0 N1 from by repeat (first | (with_reducible first | exact D2.out | apply IsS98.alloc | apply IsS98.drewN | apply IsS98.drew | apply IsS98.set_1 | apply IsS98.set_2 | apply IsS98.set_3 | refine IsS98.far ?_ (by exact F3.out) _ | refine IsS98.far ?_ (by exact G1.out) _) | exact D2.out)) (z0_ H6.out) (by decide)) hk (fun _ h=>h.2)) (fun _ h=>h.1));have n1_:=aM (Kd.R_mono (Kd.R_keep (IsS98.apart (show IsS98 w _ V5 P4 M9 N0 N1 from by repeat (first | (with_reducible first | exact D2.out | apply IsS98.alloc | apply IsS98.drewN | apply IsS98.drew | apply IsS98.set_1 | apply IsS98.set_2 | apply IsS98.set_3 | refine IsS98.far ?_ (by exact F3.out) _ | refine IsS98.far ?_ (by exact G1.out) _) | exact D2.out)) (z0_ E5.out) (by decide)) hk (fun _ h=>h.2)) (fun _ h=>h.1));have n2_:=aM (KeepBut.blk hk (g':=Q5) (o:=.cells #[.int .i64 0,.slice none 0 0] 27 (0,0)) (z3_ F6.out) Z4.out (by simp));have n3_:=aM (KeepBut.blk hk (g':=i4) (o:=.cells #[.int .i64 a9,.slice U4 X2.length N5] 27 (0,0)) (z3_ I8.out) Z5.out (by simp));have n4_:=aM (hb);have n5_:=aM (hi);clear H6;clear E5;clear F6;clear I8;clear HB;clear D2;have H6:=n0_;have E5:=n1_;have F6:=n2_;have I8:=n3_;have HB:=n4_;have D2:=n5_;clear n0_ n1_ n2_ n3_ n4_ n5_;(try clear hb);(try clear hk);(try clear hi)))
     go_roundg k1
     case measure=>have:=HK1.out;omega
     case rel=>exact ⟨(J8),(wrap64 (L0+1)),(At6),(At7),(At8),(z2_),H',⟨by have:=HK1.out;omega⟩,⟨z0_ H6.out⟩,⟨z0_ E5.out⟩,⟨z3_ F6.out⟩,⟨z3_ I8.out⟩,⟨z30_ D2.out F3.out G1.out⟩,⟨z19_ HB.out D2.out V4.out i5.out⟩⟩
   ·rw [if_neg c16] at H
    have c16b0:decide (L0≤5)=false:=dF c16
    clear c16
    replace H:=bS H
    obtain ⟨⟨Co2,Ad5,Ad6,Ad7⟩,Co3,H⟩:=H
    replace H:(if Co2=true then ((Y4.f P4 Ad5 Ad6 Ad7 8).bind fun AD0=>(if J8.length<17592186044416 then ((Y4.f P4 AD0.2.1 AD0.2.2.1 AD0.2.2.2 4).bind fun AW8=>(some (a9,X2,AL7,wrap64 (1+AW8.1),(J8 ++ [AD0.1])))) else (none))) else ((Y4.f P4 Ad5 Ad6 Ad7 4).bind fun A49=>(some (a9,X2,AL7,wrap64 (1+A49.1),J8))))=some (r1,r2,r3,r4,r5):=H
    have A23:=aM Co3
    clear Co3
    by_cases c24:Co2=true
    ·subst c24
     have H1:((Y4.f P4 Ad5 Ad6 Ad7 8).bind fun AD0=>(if J8.length<17592186044416 then ((Y4.f P4 AD0.2.1 AD0.2.2.1 AD0.2.2.2 4).bind fun AW8=>(some (a9,X2,AL7,wrap64 (1+AW8.1),(J8 ++ [AD0.1])))) else (none)))=some (r1,r2,r3,r4,r5):=by rw [if_pos rfl] at H;exact H
     clear H
     have H:=H1
     clear H1
     replace H:=bS H
     obtain ⟨⟨Bi7,BU3,BU4,BU5⟩,Ai0,H⟩:=H
     replace H:(if J8.length<17592186044416 then ((Y4.f P4 BU3 BU4 BU5 4).bind fun AW8=>(some (a9,X2,AL7,wrap64 (1+AW8.1),(J8 ++ [Bi7])))) else (none))=some (r1,r2,r3,r4,r5):=H
     have A25:=aM Ai0
     clear Ai0
     by_cases c26:J8.length<17592186044416
     ·rw [if_pos c26] at H
      have Co4:=aM c26
      clear c26
      obtain ⟨Co5,A53⟩:∃ y_:List Int,y_=(J8 ++ [Bi7]):=⟨_,rfl⟩
      replace H:((Y4.f P4 BU3 BU4 BU5 4).bind fun AW8=>(some (a9,X2,AL7,wrap64 (1+AW8.1),Co5)))=some (r1,r2,r3,r4,r5):=by first | (rw [A53];with_reducible exact H) | (have H2_:=(Option.bind_some _ _).symm.trans H;rw [A53];with_reducible exact H2_) | (have H2_:=(Option.bind_some _ _).symm.trans H;with_reducible exact H2_) | with_reducible exact H | (rw [A53];exact H) | exact H
      have Co6:=aM A53
      clear A53
      replace H:=bS H
      obtain ⟨⟨Co7,C36,C37,C38⟩,A54,H⟩:=H
      replace H:(some (a9,X2,AL7,wrap64 (1+Co7),Co5))=some (r1,r2,r3,r4,r5):=H
      have A27:=aM A54
      clear A54
      simp only [Option.some.injEq,Prod.mk.injEq] at H
      obtain ⟨rfl,rfl,rfl,rfl,rfl⟩:=H
      try go_wp2_with (first | ((with_reducible refine gc_ 36 ?_);refine gl_ (some 29) Tryz.func36 #[.pointer (some ⟨V5,0,none⟩),.int .i64 15] ?_;(with_reducible refine (Y55.calls V5 P4 M9 N0 N1 15 true Ad5 Ad6 Ad7 w _ ?s1 ?s2 A23.out).mono ?_);(case s1=>repeat (first | (with_reducible first | exact D2.out | apply IsS98.alloc | apply IsS98.drewN | apply IsS98.drew | apply IsS98.set_1 | apply IsS98.set_2 | apply IsS98.set_3 | refine IsS98.far ?_ (by exact F3.out) _ | refine IsS98.far ?_ (by exact G1.out) _) | exact D2.out));(case s2=>repeat (first | (with_reducible first | exact HB.out | apply below_alloc | apply pw_below_drewN | apply below_drew1 | refine below_set ?_ (IsS98.ge D2.out) | refine below_set ?_ V4.out | refine below_set ?_ i5.out) | exact HB.out));rintro e w28 ⟨rfl,hi,hb,hk⟩;refine ⟨_,rfl,?_⟩;have n0_:=aM (Kd.R_mono (Kd.R_keep (IsS98.apart (show IsS98 w _ V5 P4 M9 N0 N1 from by repeat (first | (with_reducible first | exact D2.out | apply IsS98.alloc | apply IsS98.drewN | apply IsS98.drew | apply IsS98.set_1 | apply IsS98.set_2 | apply IsS98.set_3 | refine IsS98.far ?_ (by exact F3.out) _ | refine IsS98.far ?_ (by exact G1.out) _) | exact D2.out)) (z0_ H6.out) (by decide)) hk (fun _ h=>h.2)) (fun _ h=>h.1));have n1_:=aM (Kd.R_mono (Kd.R_keep (IsS98.apart (show IsS98 w _ V5 P4 M9 N0 N1 from by repeat (first | (with_reducible first | exact D2.out | apply IsS98.alloc | apply IsS98.drewN | apply IsS98.drew | apply IsS98.set_1 | apply IsS98.set_2 | apply IsS98.set_3 | refine IsS98.far ?_ (by exact F3.out) _ | refine IsS98.far ?_ (by exact G1.out) _) | exact D2.out)) (z0_ E5.out) (by decide)) hk (fun _ h=>h.2)) (fun _ h=>h.1));have n2_:=aM (KeepBut.blk hk (g':=Q5) (o:=.cells #[.int .i64 0,.slice none 0 0] 27 (0,0)) (z3_ F6.out) Z4.out (by simp));have n3_:=aM (KeepBut.blk hk (g':=i4) (o:=.cells #[.int .i64 a9,.slice U4 X2.length N5] 27 (0,0)) (z3_ I8.out) Z5.out (by simp));have n4_:=aM (hb);have n5_:=aM (hi);clear H6;clear E5;clear F6;clear I8;clear HB;clear D2;have H6:=n0_;have E5:=n1_;have F6:=n2_;have I8:=n3_;have HB:=n4_;have D2:=n5_;clear n0_ n1_ n2_ n3_ n4_ n5_;(try clear hb);(try clear hk);(try clear hi)) | ((with_reducible refine gc_ 31 ?_);refine gl_ (some 32) Tryz.func31 #[.pointer (some ⟨V5,0,none⟩),.int .i64 8] ?_;(with_reducible refine (Y4.calls V5 P4 Ad5 Ad6 Ad7 8 Bi7 BU3 BU4 BU5 w _ ?s1 ?s2 A25.out).mono ?_);(case s1=>repeat (first | (with_reducible first | exact D2.out | apply IsS98.alloc | apply IsS98.drewN | apply IsS98.drew | apply IsS98.set_1 | apply IsS98.set_2 | apply IsS98.set_3 | refine IsS98.far ?_ (by exact F3.out) _ | refine IsS98.far ?_ (by exact G1.out) _) | exact D2.out));(case s2=>repeat (first | (with_reducible first | exact HB.out | apply below_alloc | apply pw_below_drewN | apply below_drew1 | refine below_set ?_ (IsS98.ge D2.out) | refine below_set ?_ V4.out | refine below_set ?_ i5.out) | exact HB.out));rintro e w29 ⟨rfl,hi,hb,hk⟩;refine ⟨_,rfl,?_⟩;have n0_:=aM (Kd.R_mono (Kd.R_keep (IsS98.apart (show IsS98 w _ V5 P4 Ad5 Ad6 Ad7 from by repeat (first | (with_reducible first | exact D2.out | apply IsS98.alloc | apply IsS98.drewN | apply IsS98.drew | apply IsS98.set_1 | apply IsS98.set_2 | apply IsS98.set_3 | refine IsS98.far ?_ (by exact F3.out) _ | refine IsS98.far ?_ (by exact G1.out) _) | exact D2.out)) (z0_ H6.out) (by decide)) hk (fun _ h=>h.2)) (fun _ h=>h.1));have n1_:=aM (Kd.R_mono (Kd.R_keep (IsS98.apart (show IsS98 w _ V5 P4 Ad5 Ad6 Ad7 from by repeat (first | (with_reducible first | exact D2.out | apply IsS98.alloc | apply IsS98.drewN | apply IsS98.drew | apply IsS98.set_1 | apply IsS98.set_2 | apply IsS98.set_3 | refine IsS98.far ?_ (by exact F3.out) _ | refine IsS98.far ?_ (by exact G1.out) _) | exact D2.out)) (z0_ E5.out) (by decide)) hk (fun _ h=>h.2)) (fun _ h=>h.1));have n2_:=aM (KeepBut.blk hk (g':=Q5) (o:=.cells #[.int .i64 0,.slice none 0 0] 27 (0,0)) (z3_ F6.out) Z4.out (by simp));have n3_:=aM (KeepBut.blk hk (g':=i4) (o:=.cells #[.int .i64 a9,.slice U4 X2.length N5] 27 (0,0)) (z3_ I8.out) Z5.out (by simp));have n4_:=aM (hb);have n5_:=aM (hi);clear H6;clear E5;clear F6;clear I8;clear HB;clear D2;have H6:=n0_;have E5:=n1_;have F6:=n2_;have I8:=n3_;have HB:=n4_;have D2:=n5_;clear n0_ n1_ n2_ n3_ n4_ n5_;(try clear hb);(try clear hk);(try clear hi)) | ((with_reducible refine gate_builtin (b:=.append) (xs:=#[.tmp 30,.tmp 33]) rfl ?_);at_builtin;refine Kd.R_append (Kd.int .i64) (w0:=w) w.heap.size rfl (.tmp 30) (.tmp 33) 30 2 (.int .i64 0) 8 rfl Tryz.underlying30 info2 rfl (by decide) (by omega) u9 J8 Bi7 [.int .i64 Bi7] (fun _=>True) (fun _=>False) rfl rfl ?aP (fun _ hk=>hk.elim) ?aF ?aO ?aB ?aS ?aL ?_;(case aP=>exact rfl);(case aB=>exact (z19_ HB.out D2.out V4.out i5.out));(case aF=>exact (fun _ _=>trivial));(case aO=>exact (z0_ H6.out));(case aS=>exact (below_size (z19_ HB.out D2.out V4.out i5.out)));(case aL=>have:=Co4.out;omega);intro v433 w30 ho hb hg hat;rw [← Co6.out] at ho;have n0_:=aM (Kd.R_over' (z0_ E5.out) (Kd.R_typed (z0_ H6.out)) (by decide) hg);have n1_:=aM (blk_grown (g:=Q5) (o:=.cells #[.int .i64 0,.slice none 0 0] 27 (0,0)) (z3_ F6.out) hg (Kd.R_ne H6.out F6.out (by decide)));have n2_:=aM (blk_grown (g:=i4) (o:=.cells #[.int .i64 a9,.slice U4 X2.length N5] 27 (0,0)) (z3_ I8.out) hg (Kd.R_ne H6.out I8.out (by decide)));have n3_:=aM (IsS98.grown (z30_ D2.out F3.out G1.out) hg (IsS98.own_ne D2.out H6.out (by decide)));have n4_:=aM (hb);have n5_:=aM (ho);clear E5;clear F6;clear I8;clear D2;clear HB;clear H6;have E5:=n0_;have F6:=n1_;have I8:=n2_;have D2:=n3_;have HB:=n4_;have Ab4:=n5_;clear n0_ n1_ n2_ n3_ n4_ n5_;clear ho hb hg hat))
      have n0_:=aM (Kd.R_drew E5.out)
      have n1_:=aM (Kd.R_drew Ab4.out)
      have n2_:=aM (blk_drew F6.out)
      have n3_:=aM (blk_drew I8.out)
      have n4_:=aM (IsS98.drew D2.out)
      have n5_:=aM (below_drew1 HB.out)
      clear E5
      clear Ab4
      clear F6
      clear I8
      clear D2
      clear HB
      have E5:=n0_
      have Ab4:=n1_
      have F6:=n2_
      have I8:=n3_
      have D2:=n4_
      have HB:=n5_
      clear n0_ n1_ n2_ n3_ n4_ n5_
      refine start_ (n:=10) (S:=fun w'=>w'.cell? ⟨i4,0,none⟩=some (.int .i64 a9)∧w'.cell? ⟨i4,1,none⟩=some (.slice U4 X2.length N5)) (ds:=[]) #[O,O,O,O,O,O,O,O,O,O] (by kernel_rfl) rfl rfl (cc2_ I8.out) (fun hHeld=>?_);refine with_tabW Y22.tab12 Y22.bits12 (fun HT_ HW_=>?_)
      generalize w30.drew=w31 at E5 Ab4 F6 I8 D2 HB hHeld ⊢
      refine pu_ 1 36 #[O,I,O,O,O,O,O,O,O,O] HT_.out ?_
      refine pu_ 2 37 #[O,I,I,O,O,O,O,O,O,O] HT_.out ?_
      refine pu_ 5 40 #[O,I,I,O,O,I,O,O,O,O] HT_.out ?_
      refine tk2_ 0 35 #[I,I,I,O,O,I,O,O,O,O] HT_.out HW_.out hHeld ?_
      refine o1_ 3 38 #[I,I,I,I,O,I,O,O,O,O] HT_.out (fun K hK=>?_)
      refine gs_ Tryz.func31 #[.pointer (some ⟨V5,0,none⟩),.int .i64 4] ?_
      with_reducible refine (Y4.calls V5 P4 BU3 BU4 BU5 4 Co7 C36 C37 C38 w _ ?s1 ?s2 A27.out).mono ?_
      (case s1=>repeat (first | (with_reducible first | exact D2.out | apply IsS98.alloc | apply IsS98.drewN | apply IsS98.drew | apply IsS98.set_1 | apply IsS98.set_2 | apply IsS98.set_3 | refine IsS98.far ?_ (by exact F3.out) _ | refine IsS98.far ?_ (by exact G1.out) _) | exact D2.out))
      (case s2=>repeat (first | (with_reducible first | exact HB.out | apply below_alloc | apply pw_below_drewN | apply below_drew1 | refine below_set ?_ (IsS98.ge D2.out) | refine below_set ?_ V4.out | refine below_set ?_ i5.out) | exact HB.out))
      rintro e w32 ⟨rfl,hi,hb,hk⟩
      refine ⟨_,rfl,?_⟩
      have n0_:=aM (Kd.R_mono (Kd.R_keep (IsS98.apart (show IsS98 w _ V5 P4 BU3 BU4 BU5 from by repeat (first | (with_reducible first | exact D2.out | apply IsS98.alloc | apply IsS98.drewN | apply IsS98.drew | apply IsS98.set_1 | apply IsS98.set_2 | apply IsS98.set_3 | refine IsS98.far ?_ (by exact F3.out) _ | refine IsS98.far ?_ (by exact G1.out) _) | exact D2.out)) (z0_ E5.out) (by decide)) hk (fun _ h=>h.2)) (fun _ h=>h.1))
      have n1_:=aM (KeepBut.blk hk (g':=Q5) (o:=.cells #[.int .i64 0,.slice none 0 0] 27 (0,0)) (z3_ F6.out) Z4.out (by simp))
      have n2_:=aM (KeepBut.blk hk (g':=i4) (o:=.cells #[.int .i64 a9,.slice U4 X2.length N5] 27 (0,0)) (z3_ I8.out) Z5.out (by simp))
      have n3_:=aM (Kd.R_mono (Kd.R_keep (IsS98.apart (show IsS98 w _ V5 P4 BU3 BU4 BU5 from by repeat (first | (with_reducible first | exact D2.out | apply IsS98.alloc | apply IsS98.drewN | apply IsS98.drew | apply IsS98.set_1 | apply IsS98.set_2 | apply IsS98.set_3 | refine IsS98.far ?_ (by exact F3.out) _ | refine IsS98.far ?_ (by exact G1.out) _) | exact D2.out)) (z0_ Ab4.out) (by decide)) hk (fun _ h=>h.2)) (fun _ h=>h.1))
      have n4_:=aM (hb)
      have n5_:=aM (hi)
      clear E5
      clear F6
      clear I8
      clear Ab4
      clear HB
      clear D2
      have E5:=n0_
      have F6:=n1_
      have I8:=n2_
      have Ab4:=n3_
      have HB:=n4_
      have D2:=n5_
      clear n0_ n1_ n2_ n3_ n4_ n5_
      (try clear hb)
      (try clear hk)
      (try clear hi)
      refine hK.out _ _ (cc2_ I8.out) (fun hHeld=>?_)
      clear hK K
      refine nm_ 38 ?_
      refine pu_ 4 39 #[I,I,I,I,I,I,O,O,O,O] HT_.out ?_
      refine one_ (i:=6) (N:=none) #[I,I,I,I,I,I,I,O,O,O] rfl rfl (one_of HT_.out (by kernel_rfl)) (by decide) (fun K hK=>?_)
      have hs33:w32.cell? ⟨Q5,0,none⟩=some (.int .i64 0):=(blk_cell F6.out 0).trans rfl
      have hfs33:=blk_frozen F6.out 0
      have hns33_1:=Q2.out
      have hms33_1:=AA1.out
      have hs34:w32.cell? ⟨Q5,1,none⟩=some (.slice none 0 0):=(blk_cell F6.out 1).trans rfl
      have hfs34:=blk_frozen F6.out 1
      have hns34_1:=Q2.out
      have hms34_1:=AA1.out
      refine skip_ (w1:=?_) (by rfl) rfl ?_ ?_
      rotate_left
      ·go_simp
       rfl
      refine hK.out _ _ ⟨((cell_far (p:=⟨Q5,_,none⟩) Q2.out _).trans (((cell_far (p:=⟨Q5,_,none⟩) Q2.out _).trans (hHeld.1)))),((cell_far (p:=⟨Q5,_,none⟩) Q2.out _).trans (((cell_far (p:=⟨Q5,_,none⟩) Q2.out _).trans (hHeld.2))))⟩ (fun hHeld=>?_)
      clear hK K
      refine pu_ 7 3 #[I,I,I,I,I,I,I,I,O,O] HT_.out ?_
      refine pu_ 8 4 #[I,I,I,I,I,I,I,I,I,O] HT_.out ?_
      refine pu_ 9 5 #[I,I,I,I,I,I,I,I,I,I] HT_.out ?_
      refine done_ (done_of HT_.out (by kernel_rfl)) ?_
      try go_wp2
      refine bodyPost_ret (results_list (rs:=[.cell 2 27,.tmp 3,.tmp 4,.tmp 5]) rfl (by simp) (.cell Q5 27 #[.int .i64 a9,.slice U4 X2.length N5] (0,0) _ rfl (z18_ F6.out) Tryz.underlying27 rfl (by kernel_rfl) (.tmp (.tmp (.tmp .nil))))) rfl ?_
      exact ⟨_,_,z8_,z24_ E5.out F6.out,z24_ Ab4.out F6.out,z19_ HB.out D2.out V4.out i5.out⟩
     ·rw [if_neg c26] at H
      exact nO H
    ·replace c24:=Bool.eq_false_iff.mpr c24
     subst c24
     have H1:((Y4.f P4 Ad5 Ad6 Ad7 4).bind fun A49=>(some (a9,X2,AL7,wrap64 (1+A49.1),J8)))=some (r1,r2,r3,r4,r5):=by rw [if_neg (show ¬ (false=true) by decide)] at H;exact H
     clear H
     have H:=H1
     clear H1
     replace H:=bS H
     obtain ⟨⟨Co8,C39,C40,C41⟩,Co9,H⟩:=H
     replace H:(some (a9,X2,AL7,wrap64 (1+Co8),J8))=some (r1,r2,r3,r4,r5):=H
     have A35:=aM Co9
     clear Co9
     simp only [Option.some.injEq,Prod.mk.injEq] at H
     obtain ⟨rfl,rfl,rfl,rfl,rfl⟩:=H
     try go_wp2_with (first | ((with_reducible refine gc_ 36 ?_);refine gl_ (some 29) Tryz.func36 #[.pointer (some ⟨V5,0,none⟩),.int .i64 15] ?_;(with_reducible refine (Y55.calls V5 P4 M9 N0 N1 15 false Ad5 Ad6 Ad7 w _ ?s1 ?s2 A23.out).mono ?_);(case s1=>repeat (first | (with_reducible first | exact D2.out | apply IsS98.alloc | apply IsS98.drewN | apply IsS98.drew | apply IsS98.set_1 | apply IsS98.set_2 | apply IsS98.set_3 | refine IsS98.far ?_ (by exact F3.out) _ | refine IsS98.far ?_ (by exact G1.out) _) | exact D2.out));(case s2=>repeat (first | (with_reducible first | exact HB.out | apply below_alloc | apply pw_below_drewN | apply below_drew1 | refine below_set ?_ (IsS98.ge D2.out) | refine below_set ?_ V4.out | refine below_set ?_ i5.out) | exact HB.out));rintro e w36 ⟨rfl,hi,hb,hk⟩;refine ⟨_,rfl,?_⟩;have n0_:=aM (Kd.R_mono (Kd.R_keep (IsS98.apart (show IsS98 w _ V5 P4 M9 N0 N1 from by repeat (first | (with_reducible first | exact D2.out | apply IsS98.alloc | apply IsS98.drewN | apply IsS98.drew | apply IsS98.set_1 | apply IsS98.set_2 | apply IsS98.set_3 | refine IsS98.far ?_ (by exact F3.out) _ | refine IsS98.far ?_ (by exact G1.out) _) | exact D2.out)) (z0_ H6.out) (by decide)) hk (fun _ h=>h.2)) (fun _ h=>h.1));have n1_:=aM (Kd.R_mono (Kd.R_keep (IsS98.apart (show IsS98 w _ V5 P4 M9 N0 N1 from by repeat (first | (with_reducible first | exact D2.out | apply IsS98.alloc | apply IsS98.drewN | apply IsS98.drew | apply IsS98.set_1 | apply IsS98.set_2 | apply IsS98.set_3 | refine IsS98.far ?_ (by exact F3.out) _ | refine IsS98.far ?_ (by exact G1.out) _) | exact D2.out)) (z0_ E5.out) (by decide)) hk (fun _ h=>h.2)) (fun _ h=>h.1));have n2_:=aM (KeepBut.blk hk (g':=Q5) (o:=.cells #[.int .i64 0,.slice none 0 0] 27 (0,0)) (z3_ F6.out) Z4.out (by simp));have n3_:=aM (KeepBut.blk hk (g':=i4) (o:=.cells #[.int .i64 a9,.slice U4 X2.length N5] 27 (0,0)) (z3_ I8.out) Z5.out (by simp));have n4_:=aM (hb);have n5_:=aM (hi);clear H6;clear E5;clear F6;clear I8;clear HB;clear D2;have H6:=n0_;have E5:=n1_;have F6:=n2_;have I8:=n3_;have HB:=n4_;have D2:=n5_;clear n0_ n1_ n2_ n3_ n4_ n5_;(try clear hb);(try clear hk);(try clear hi)))
     have n0_:=aM (Kd.R_drew H6.out)
     have n1_:=aM (Kd.R_drew E5.out)
     have n2_:=aM (blk_drew F6.out)
     have n3_:=aM (blk_drew I8.out)
     have n4_:=aM (IsS98.drew D2.out)
     have n5_:=aM (below_drew1 HB.out)
     clear H6
     clear E5
     clear F6
     clear I8
     clear D2
     clear HB
     have H6:=n0_
     have E5:=n1_
     have F6:=n2_
     have I8:=n3_
     have D2:=n4_
     have HB:=n5_
     clear n0_ n1_ n2_ n3_ n4_ n5_
     refine start_ (n:=10) (S:=fun w'=>w'.cell? ⟨i4,0,none⟩=some (.int .i64 a9)∧w'.cell? ⟨i4,1,none⟩=some (.slice U4 X2.length N5)) (ds:=[]) #[O,O,O,O,O,O,O,O,O,O] (by kernel_rfl) rfl rfl (cc2_ I8.out) (fun hHeld=>?_);refine with_tabW Y22.tab12 Y22.bits12 (fun HT_ HW_=>?_)
     generalize w36.drew=w37 at H6 E5 F6 I8 D2 HB hHeld ⊢
     refine pu_ 1 36 #[O,I,O,O,O,O,O,O,O,O] HT_.out ?_
     refine pu_ 2 37 #[O,I,I,O,O,O,O,O,O,O] HT_.out ?_
     refine pu_ 5 40 #[O,I,I,O,O,I,O,O,O,O] HT_.out ?_
     refine tk2_ 0 35 #[I,I,I,O,O,I,O,O,O,O] HT_.out HW_.out hHeld ?_
     refine o1_ 3 38 #[I,I,I,I,O,I,O,O,O,O] HT_.out (fun K hK=>?_)
     refine gs_ Tryz.func31 #[.pointer (some ⟨V5,0,none⟩),.int .i64 4] ?_
     with_reducible refine (Y4.calls V5 P4 Ad5 Ad6 Ad7 4 Co8 C39 C40 C41 w _ ?s1 ?s2 A35.out).mono ?_
     (case s1=>repeat (first | (with_reducible first | exact D2.out | apply IsS98.alloc | apply IsS98.drewN | apply IsS98.drew | apply IsS98.set_1 | apply IsS98.set_2 | apply IsS98.set_3 | refine IsS98.far ?_ (by exact F3.out) _ | refine IsS98.far ?_ (by exact G1.out) _) | exact D2.out))
     (case s2=>repeat (first | (with_reducible first | exact HB.out | apply below_alloc | apply pw_below_drewN | apply below_drew1 | refine below_set ?_ (IsS98.ge D2.out) | refine below_set ?_ V4.out | refine below_set ?_ i5.out) | exact HB.out))
     rintro e w38 ⟨rfl,hi,hb,hk⟩
     refine ⟨_,rfl,?_⟩
     have n0_:=aM (Kd.R_mono (Kd.R_keep (IsS98.apart (show IsS98 w _ V5 P4 Ad5 Ad6 Ad7 from by repeat (first | (with_reducible first | exact D2.out | apply IsS98.alloc | apply IsS98.drewN | apply IsS98.drew | apply IsS98.set_1 | apply IsS98.set_2 | apply IsS98.set_3 | refine IsS98.far ?_ (by exact F3.out) _ | refine IsS98.far ?_ (by exact G1.out) _) | exact D2.out)) (z0_ H6.out) (by decide)) hk (fun _ h=>h.2)) (fun _ h=>h.1))
     have n1_:=aM (Kd.R_mono (Kd.R_keep (IsS98.apart (show IsS98 w _ V5 P4 Ad5 Ad6 Ad7 from by repeat (first | (with_reducible first | exact D2.out | apply IsS98.alloc | apply IsS98.drewN | apply IsS98.drew | apply IsS98.set_1 | apply IsS98.set_2 | apply IsS98.set_3 | refine IsS98.far ?_ (by exact F3.out) _ | refine IsS98.far ?_ (by exact G1.out) _) | exact D2.out)) (z0_ E5.out) (by decide)) hk (fun _ h=>h.2)) (fun _ h=>h.1))
     have n2_:=aM (KeepBut.blk hk (g':=Q5) (o:=.cells #[.int .i64 0,.slice none 0 0] 27 (0,0)) (z3_ F6.out) Z4.out (by simp))
     have n3_:=aM (KeepBut.blk hk (g':=i4) (o:=.cells #[.int .i64 a9,.slice U4 X2.length N5] 27 (0,0)) (z3_ I8.out) Z5.out (by simp))
     have n4_:=aM (hb)
     have n5_:=aM (hi)
     clear H6
     clear E5
     clear F6
     clear I8
     clear HB
     clear D2
     have H6:=n0_
     have E5:=n1_
     have F6:=n2_
     have I8:=n3_
     have HB:=n4_
     have D2:=n5_
     clear n0_ n1_ n2_ n3_ n4_ n5_
     (try clear hb)
     (try clear hk)
     (try clear hi)
     refine hK.out _ _ (cc2_ I8.out) (fun hHeld=>?_)
     clear hK K
     refine nm_ 38 ?_
     refine pu_ 4 39 #[I,I,I,I,I,I,O,O,O,O] HT_.out ?_
     refine one_ (i:=6) (N:=none) #[I,I,I,I,I,I,I,O,O,O] rfl rfl (one_of HT_.out (by kernel_rfl)) (by decide) (fun K hK=>?_)
     have hs39:w38.cell? ⟨Q5,0,none⟩=some (.int .i64 0):=(blk_cell F6.out 0).trans rfl
     have hfs39:=blk_frozen F6.out 0
     have hns39_1:=Q2.out
     have hms39_1:=AA1.out
     have hs40:w38.cell? ⟨Q5,1,none⟩=some (.slice none 0 0):=(blk_cell F6.out 1).trans rfl
     have hfs40:=blk_frozen F6.out 1
     have hns40_1:=Q2.out
     have hms40_1:=AA1.out
     refine skip_ (w1:=?_) (by rfl) rfl ?_ ?_
     rotate_left
     ·go_simp
      rfl
     refine hK.out _ _ ⟨((cell_far (p:=⟨Q5,_,none⟩) Q2.out _).trans (((cell_far (p:=⟨Q5,_,none⟩) Q2.out _).trans (hHeld.1)))),((cell_far (p:=⟨Q5,_,none⟩) Q2.out _).trans (((cell_far (p:=⟨Q5,_,none⟩) Q2.out _).trans (hHeld.2))))⟩ (fun hHeld=>?_)
     clear hK K
     refine pu_ 7 3 #[I,I,I,I,I,I,I,I,O,O] HT_.out ?_
     refine pu_ 8 4 #[I,I,I,I,I,I,I,I,I,O] HT_.out ?_
     refine pu_ 9 5 #[I,I,I,I,I,I,I,I,I,I] HT_.out ?_
     refine done_ (done_of HT_.out (by kernel_rfl)) ?_
     try go_wp2
     refine bodyPost_ret (results_list (rs:=[.cell 2 27,.tmp 3,.tmp 4,.tmp 5]) rfl (by simp) (.cell Q5 27 #[.int .i64 a9,.slice U4 X2.length N5] (0,0) _ rfl (z18_ F6.out) Tryz.underlying27 rfl (by kernel_rfl) (.tmp (.tmp (.tmp .nil))))) rfl ?_
     exact ⟨_,_,z8_,z24_ E5.out F6.out,z24_ H6.out F6.out,z19_ HB.out D2.out V4.out i5.out⟩


/-! ### Y84: function 37 -/
def Y84.f (l0:List Int):Option (Bool):=some (decide ((l0.length:Int)>400))
theorem Y84.calls (A0:Option Addr) (c0:Nat) (l0:List Int) (r:Bool) (w:World) (hr0:Kd.C (Kd.int .i64) w A0 l0.length l0) (hc0:l0.length≤c0) (h:Y84.f l0=some r) :
  Calls Tryz.prog 37 #[.slice A0 l0.length c0] w fun e w'=>e = .returned (.bool r)∧Drawn0 w w':=by
 have HR0:=aM hr0
 have HC0:=aM hc0
 clear hr0 hc0
 have H:(some (decide ((l0.length:Int)>400)))=some r:=h
 clear h
 obtain rfl:=sI H
 go_enter Tryz.func37,Tryz.ntmps37
 go_wp2
 go_ret
 exact ⟨z2_,z5_⟩


/-! ### Y27: function 39 -/
mutual
def Y27.l0:Nat→List Int→Int→List Int→Int→Int→Option (Bool)
 | 0,_,_,_,_,_=>none
 | k+1,x0,x1,x7,x8,x9=>if x9<x8 then (if 0≤x9 then (if x9<(x7.length:Int) then ((Y59.f (rd x7 x9) 1 x1).bind fun Bx4=>(if Bx4=true then (if x9>0 then (if 0≤(wrap64 (x9-1)) then (if (wrap64 (x9-1))<(x0.length:Int) then (Y27.j1 k x0 x1 x7 x8 x9 (decide ((rd x0 (wrap64 (x9-1)))≥(rd x7 x9)))) else (none)) else (none)) else (Y27.j1 k x0 x1 x7 x8 x9 false)) else (Y27.j1 k x0 x1 x7 x8 x9 true))) else (none)) else (none)) else (some true)
def Y27.j1:Nat→List Int→Int→List Int→Int→Int→Bool→Option (Bool)
 | 0,_,_,_,_,_,_=>none
 | k+1,x0,x1,x7,x8,x9,x30=>if x30=true then (some false) else (Y27.l0 k x0 x1 x7 x8 (wrap64 (x9+1)))
end
def Y27.f (k:Nat) (l0:List Int) (a1:Int):Option (Bool):=Y27.l0 k l0 a1 l0 (l0.length:Int) 0
theorem Y27.mono_l:∀ k,(∀ y0 y1 y2 y3 y4,LeO (Y27.l0 k y0 y1 y2 y3 y4) (Y27.l0 (k+1) y0 y1 y2 y3 y4))∧(∀ y0 y1 y2 y3 y4 y5,LeO (Y27.j1 k y0 y1 y2 y3 y4 y5) (Y27.j1 (k+1) y0 y1 y2 y3 y4 y5))
 | 0=>by refine ⟨?_,?_⟩ <;> intros <;> exact LeO.none _
 | k+1=>by
  obtain ⟨ih0,ih1⟩:=Y27.mono_l k
  refine ⟨?_,?_⟩
  ·intros
   unfold Y27.l0
   exact mO
  ·intros
   unfold Y27.j1
   exact mO
theorem Y27.mono:∀ a0 a1 k,LeO (Y27.f k a0 a1) (Y27.f (k+1) a0 a1):=by
 intro a0 a1 k
 obtain ⟨ih0,ih1⟩:=Y27.mono_l k
 unfold Y27.f
 exact mO
theorem Y27.calls (k:Nat) (A0:Option Addr) (c0:Nat) (l0:List Int) (a1:Int) (r:Bool) (w:World) (hr0:Kd.C (Kd.int .i64) w A0 l0.length l0) (hc0:l0.length≤c0) (h:Y27.f k l0 a1=some r) :
  Calls Tryz.prog 39 #[.slice A0 l0.length c0,.int .i64 a1] w fun e w'=>e = .returned (.bool r)∧Drawn0 w w':=by
 have HR0:=aM hr0
 have HC0:=aM hc0
 clear hr0 hc0
 have H:(Y27.l0 k l0 a1 l0 (l0.length:Int) 0)=some r:=h
 clear h
 have H':=aM H
 clear H
 go_enter Tryz.func39,Tryz.ntmps39
 go_wp2
 go_loopg [9] k (fun kq v9 w'=>∃ (J8:Int),v9 = .int .i64 J8∧Aside0 (Y27.l0 kq l0 a1 l0 (l0.length:Int) J8=some r)∧Aside0 (kq≤k)∧Drawn0 w w')
 case atStart=>exact ⟨(0),(z2_),H',⟨Nat.le_refl _⟩,z5_⟩
 case round =>
  clear H'
  try clear p2
  obtain ⟨J8,rfl,HA,HK1,⟨m1,rfl⟩⟩:=hrel
  cases gk with
  | zero=>exact absurd HA.out (by simp [Y27.l0])
  | succ k1 =>
   have H:=HA.out
   clear HA
   simp only [Y27.l0] at H
   by_cases c3:J8<(l0.length:Int)
   ·rw [if_pos c3] at H
    have c3b0:decide (J8<(l0.length:Int))=true:=dE c3
    clear c3
    by_cases c4:0≤J8
    ·rw [if_pos c4] at H
     have c4b0:decide (0≤J8)=true:=dE c4
     clear c4
     by_cases c5:J8<(l0.length:Int)
     ·rw [if_pos c5] at H
      have c5b0:decide (J8<(l0.length:Int))=true:=dE c5
      clear c5
      have HC6:=aM H
      clear H
      have Bx5:0≤(J8:Int):=dT (z1_)
      have Bx6:J8<(l0.length:Int):=dT (z1_)
      obtain ⟨Cp0,C42,Bx7⟩:=Kd.at_int HR0.out J8 Bx5 Bx6
      cases C42
      replace Bx5:=eq_true Bx5
      replace Bx6:=eq_true Bx6
      go_upto_region 4 with (fail)
      go_cut [30] (fun v30 wc=>∃ (kq:Nat) (BN9:Bool),v30 = .bool BN9∧Aside0 (Y27.j1 kq l0 a1 l0 (l0.length:Int) J8 BN9=some r)∧Aside0 (kq≤k1)∧Drawn0 w wc)
      case first =>
       have H:=HC6.out
       clear HC6
       replace H:=bS H
       obtain ⟨Bx4,A70,H⟩:=H
       replace H:(if Bx4=true then (if J8>0 then (if 0≤(wrap64 (J8-1)) then (if (wrap64 (J8-1))<(l0.length:Int) then (Y27.j1 k1 l0 a1 l0 (l0.length:Int) J8 (decide ((rd l0 (wrap64 (J8-1)))≥(rd l0 J8)))) else (none)) else (none)) else (Y27.j1 k1 l0 a1 l0 (l0.length:Int) J8 false)) else (Y27.j1 k1 l0 a1 l0 (l0.length:Int) J8 true))=some r:=H
       have A7:=aM A70
       clear A70
       by_cases c8:Bx4=true
       ·subst c8
        have H1:(if J8>0 then (if 0≤(wrap64 (J8-1)) then (if (wrap64 (J8-1))<(l0.length:Int) then (Y27.j1 k1 l0 a1 l0 (l0.length:Int) J8 (decide ((rd l0 (wrap64 (J8-1)))≥(rd l0 J8)))) else (none)) else (none)) else (Y27.j1 k1 l0 a1 l0 (l0.length:Int) J8 false))=some r:=by rw [if_pos rfl] at H;exact H
        clear H
        have H:=H1
        clear H1
        by_cases c9:J8>0
        ·rw [if_pos c9] at H
         have c9b0:decide (0<J8)=true:=dE c9
         clear c9
         (first | rw [c9b0] | (simp only [i64_w,i32_w];rw [c9b0]) | skip)
         obtain ⟨X7,AQ0⟩:∃ j_:Int,(wrap64 (J8-1))=j_:=⟨_,rfl⟩
         replace H:(if 0≤(X7) then (if (X7)<(l0.length:Int) then (Y27.j1 k1 l0 a1 l0 (l0.length:Int) J8 (decide ((rd l0 (X7))≥(rd l0 J8)))) else (none)) else (none))=some r:=by first | (rw [AQ0] at H;exact H) | (simp only [AQ0] at H ⊢;exact H)
         (try rw [AQ0] at A7)
         have hji10w:(IntKind.i64.wrap (J8-1))=X7:=(i64_w _).trans AQ0
         by_cases c11:0≤(X7)
         ·rw [if_pos c11] at H
          have c11b0:decide (0≤(X7))=true:=dE c11
          clear c11
          by_cases c12:(X7)<(l0.length:Int)
          ·rw [if_pos c12] at H
           have c12b0:decide ((X7)<(l0.length:Int))=true:=dE c12
           clear c12
           have H':=aM H
           clear H
           go_wp2_with (first | ((with_reducible refine gc_ 42 ?_);refine gl_ (some 16) Tryz.func42 #[.int .i64 (rd l0 J8),.int .i64 1,.int .i64 a1] ?_;(with_reducible refine (Y59.calls (rd l0 J8) 1 a1 true _ A7.out).mono ?_);rintro e w' ⟨rfl,⟨nd,rfl⟩⟩;refine ⟨_,rfl,?_⟩;have Bx8:0≤((X7):Int):=dT (z1_);have Bx9:(X7)<(l0.length:Int):=dT (z1_);obtain ⟨Cp1,C43,By0⟩:=Kd.at_int HR0.out (X7) Bx8 Bx9;obtain rfl:Cp0=Cp1:=(by injection C43);replace Bx8:=eq_true Bx8;replace Bx9:=eq_true Bx9))
           go_meet
           case rel=>exact ⟨_,(decide ((rd l0 (X7))≥(rd l0 J8))),(by first | rfl | (simp;done) | (simp only [← AQ0] <;> (first | rfl | simp)) | (simp [*];done)),H',⟨z21_ HK1.out⟩,z5_⟩
          ·rw [if_neg c12] at H
           exact nO H
         ·rw [if_neg c11] at H
          exact nO H
        ·rw [if_neg c9] at H
         have c9b0:decide (0<J8)=false:=dF c9
         clear c9
         (first | rw [c9b0] | (simp only [i64_w,i32_w];rw [c9b0]) | skip)
         have H':=aM H
         clear H
         go_wp2_with (first | ((with_reducible refine gc_ 42 ?_);refine gl_ (some 16) Tryz.func42 #[.int .i64 (rd l0 J8),.int .i64 1,.int .i64 a1] ?_;(with_reducible refine (Y59.calls (rd l0 J8) 1 a1 true _ A7.out).mono ?_);rintro e w' ⟨rfl,⟨nd,rfl⟩⟩;refine ⟨_,rfl,?_⟩))
         go_meet
         case rel=>exact ⟨_,(false),(z2_),H',⟨z21_ HK1.out⟩,z5_⟩
       ·replace c8:=Bool.eq_false_iff.mpr c8
        subst c8
        have H1:(Y27.j1 k1 l0 a1 l0 (l0.length:Int) J8 true)=some r:=by rw [if_neg (show ¬ (false=true) by decide)] at H;exact H
        clear H
        have H:=H1
        clear H1
        have H':=aM H
        clear H
        go_wp2_with (first | ((with_reducible refine gc_ 42 ?_);refine gl_ (some 16) Tryz.func42 #[.int .i64 (rd l0 J8),.int .i64 1,.int .i64 a1] ?_;(with_reducible refine (Y59.calls (rd l0 J8) 1 a1 false _ A7.out).mono ?_);rintro e w' ⟨rfl,⟨nd,rfl⟩⟩;refine ⟨_,rfl,?_⟩))
        go_meet
        case rel=>exact ⟨_,(true),(z2_),H',⟨z21_ HK1.out⟩,z5_⟩
      case rest =>
       clear HC6
       try clear c1
       try clear p2
       try clear c3
       try clear c3b0
       try clear c4
       try clear c4b0
       try clear p4
       try clear q4
       try clear hx4
       try clear c5
       try clear c5b0
       try clear p6
       try clear c8
       try clear c9
       try clear c9b0
       try clear c11
       try clear c11b0
       try clear c12
       try clear c12b0
       try clear Bx7
       try clear By0
       try clear p2
       try clear Bx5
       try clear Bx8
       try clear Bx6
       try clear Bx9
       obtain ⟨kq,BN9,rfl,HA,HJ5,⟨mc5,rfl⟩⟩:=hcut
       cases kq with
       | zero=>exact absurd HA.out (by simp [Y27.j1])
       | succ kj5 =>
        have H:=HA.out
        clear HA
        simp only [Y27.j1] at H
        by_cases c13:BN9=true
        ·subst c13
         have H1:(some false)=some r:=by rw [if_pos rfl] at H;exact H
         clear H
         have H:=H1
         clear H1
         obtain rfl:=sI H
         go_wp2
         go_ret
         exact ⟨z2_,z5_⟩
        ·replace c13:=Bool.eq_false_iff.mpr c13
         subst c13
         have H1:(Y27.l0 kj5 l0 a1 l0 (l0.length:Int) (wrap64 (J8+1)))=some r:=by rw [if_neg (show ¬ (false=true) by decide)] at H;exact H
         clear H
         have H:=H1
         clear H1
         have H':=aM H
         clear H
         go_wp2
         go_roundg kj5
         case measure=>have:=HK1.out;have:=HJ5.out;omega
         case rel=>exact ⟨(wrap64 (J8+1)),(z2_),H',⟨z14_ HK1.out HJ5.out⟩,z5_⟩
     ·rw [if_neg c5] at H
      exact nO H
    ·rw [if_neg c4] at H
     exact nO H
   ·rw [if_neg c3] at H
    have c3b0:decide (J8<(l0.length:Int))=false:=dF c3
    clear c3
    obtain rfl:=sI H
    go_wp2
    go_ret
    exact ⟨z2_,z5_⟩


/-! ### Y49: function 48 -/
def Y49.f (l0:List Int):Option (List Int):=(some (([]:List Int):List Int)).bind fun Ak0=>(if Ak0.length+l0.length<17592186044416 then (some (Ak0 ++ l0)) else (none))
theorem Y49.calls (A0:Option Addr) (c0:Nat) (l0:List Int) (r:List Int) (w:World) (hr0:Kd.C (Kd.int .i64) w A0 l0.length l0) (hc0:l0.length≤c0) (h:Y49.f l0=some r) :
  Calls Tryz.prog 48 #[.slice A0 l0.length c0] w fun e w'=>∃ v0_:Value,e = .returned (v0_)∧Kd.R (Kd.int .i64) 2 w' w.heap.size (fun _=>True) v0_ r∧Below w.heap.size w w':=by
 have q_:∀ (w:World) (a:Option Addr) (n c n' c':Nat),(binOp .eql 30 (.slice a n c) (.slice none n' c')).run Tryz.prog w = .ok (.bool a.isNone) w:=fun w a n c n' c'=>Lib.run_eql_slice_nil w _ _ a n c n' c' Tryz.underlying30
 by_cases BU6:A0=none
 ·subst BU6
  obtain rfl:l0=[]:=by
   cases l0 with
   | nil=>rfl
   | cons a_ t_=>obtain ⟨ad_,c_,e_,_⟩:=Kd.C_get hr0 a_ 0 (by decide) (by simp);cases e_
  obtain rfl:([]:List Int)=r:=by simpa [Y49.f] using h
  clear h hr0
  go_enter Tryz.func48,Tryz.ntmps48
  go_wp2
  go_ret
  exact ⟨.slice none 0 0,rfl,Kd.R_nil _ _ _ _ _,Below.refl _ _⟩
 obtain ⟨A0,rfl⟩:=Option.ne_none_iff_exists'.1 BU6
 clear BU6
 have HR0:=aM hr0
 have HC0:=aM hc0
 clear hr0 hc0
 have HB:=aM (Below.refl w.heap.size w)
 have H:((some (([]:List Int):List Int)).bind fun Ak0=>(if Ak0.length+l0.length<17592186044416 then (some (Ak0 ++ l0)) else (none)))=some r:=h
 clear h
 obtain ⟨Ak0,A55⟩:∃ y_:List Int,y_=(([]:List Int)):=⟨_,rfl⟩
 replace H:(if Ak0.length+l0.length<17592186044416 then (some (Ak0 ++ l0)) else (none))=some r:=by first | (rw [A55];with_reducible exact H) | (have H2_:=(Option.bind_some _ _).symm.trans H;rw [A55];with_reducible exact H2_) | (have H2_:=(Option.bind_some _ _).symm.trans H;with_reducible exact H2_) | with_reducible exact H | (rw [A55];exact H) | exact H
 have CA5:=aM A55
 clear A55
 by_cases c2:Ak0.length+l0.length<17592186044416
 ·rw [if_pos c2] at H
  have C44:=aM c2
  clear c2
  obtain ⟨C45,A56⟩:∃ y_:List Int,y_=(Ak0 ++ l0):=⟨_,rfl⟩
  replace H:(some C45)=some r:=by first | (rw [A56];with_reducible exact H) | (have H2_:=(Option.bind_some _ _).symm.trans H;rw [A56];with_reducible exact H2_) | (have H2_:=(Option.bind_some _ _).symm.trans H;with_reducible exact H2_) | with_reducible exact H | (rw [A56];exact H) | exact H
  have Cp2:=aM A56
  clear A56
  obtain rfl:=sI H
  go_enter Tryz.func48,Tryz.ntmps48
  go_wp2_with (first | ((with_reducible refine gd_ 5 ?_);refine Kd.R_lit (Kd.int .i64) _ 2 ?hg (N:=5) ?hd (xs:=([]:List Int)) (inner:=[]) (ok:=fun _=>True) (okp:=fun _=>True) ?hr ?hp (fun _ hk=>hk) trivial (Below.refl _ _) (Nat.le_refl _) (by simp) ?_;(case hd=>rfl);(case hg=>rfl);(case hr=>first | (go_simp;done) | (go_simp;rfl));(case hp=>exact (Reps.none _ _));intro C46 w3 ho4 hb hg_ hnew_;clear hg_ hnew_;(first | rw [← CA5.out] at ho4 | (simp only [Int.reduceToNat] at ho4;rw [← CA5.out] at ho4));have n0_:=aM (Kd.R_lower ho4 (below_size (z6_ HB.out)));have n1_:=aM (below_step (z6_ HB.out) hb);clear HB;have CA6:=n0_;have HB:=n1_;clear n0_ n1_;clear hb ho4) | ((with_reducible refine gate_builtin (b:=.append) (xs:=#[.tmp 5,.tmp 6]) rfl ?_);at_builtin;refine Kd.R_append_rows (Kd.int .i64) (w0:=w) w.heap.size rfl (.tmp 5) (.tmp 6) 30 2 (.int .i64 0) 8 rfl Tryz.underlying30 info2 rfl (by decide) (by omega) C46 Ak0 l0 _ _ _ (fun _=>True) (fun _=>False) rfl rfl ?aO ?aR (fun _ _ h=>h) (fun _ h=>h.elim) ?aF ?aB ?aS ?aL ?_;(case aR=>repeat (first | exact (Kd.C_below HR0.out HB.out) | (with_reducible refine Kd.C_alloc ?_ _) | (with_reducible refine Kd.C_drewN ?_ _) | (with_reducible refine Kd.C_drew ?_)));(case aB=>exact (z6_ HB.out));(case aF=>exact (fun _ _=>trivial));(case aO=>exact (z0_ CA6.out));(case aS=>exact (below_size (z6_ HB.out)));(case aL=>have:=C44.out;omega);intro v450 w5 ho hb hg hat;rw [← Cp2.out] at ho;have n0_:=aM (hb);have n1_:=aM (ho);clear HB;clear CA6;have HB:=n0_;have Cp3:=n1_;clear n0_ n1_;clear ho hb hg hat))
  go_ret
  exact ⟨_,z8_,z0_ Cp3.out,z6_ HB.out⟩
 ·rw [if_neg c2] at H
  exact nO H


/-! ### Y60: function 69 -/
def Y60.f (k:Nat) (a0:Int) (P5:List Int):Option (Bool):=(Y26.f k P5 a0).bind fun BU7=>(some BU7)
theorem Y60.mono:∀ a0 a1 k,LeO (Y60.f k a0 a1) (Y60.f (k+1) a0 a1):=by
 intro a0 a1 k
 have m0:=@Y26.mono
 unfold Y60.f
 exact mO
theorem Y60.calls (k:Nat) (a0:Int) (gb1:Nat) (AK0:Option Addr) (AK1:Nat) (P5:List Int) (r:Bool) (w:World) (Ab5:Kd.C (Kd.int .i64) w AK0 P5.length P5) (Ab6:P5.length≤AK1) (hk1:w.heap[gb1]? = some (.cells #[.slice AK0 P5.length AK1] 30 (0,0))) (h:Y60.f k a0 P5=some r) :
  Calls Tryz.prog 69 #[.int .i64 a0,.pointer (some ⟨gb1,0,none⟩)] w fun e w'=>e = .returned (.bool r)∧Below w.heap.size w w':=by
 have AW9:=aM Ab5
 have AX0:=aM Ab6
 clear Ab5 Ab6
 have M2:=aM hk1
 clear hk1
 have HB:=aM (Below.refl w.heap.size w)
 have H:((Y26.f k P5 a0).bind fun BU7=>(some BU7))=some r:=h
 clear h
 replace H:=bS H
 obtain ⟨BU7,A30,H⟩:=H
 replace H:(some BU7)=some r:=H
 have A3:=aM A30
 clear A30
 obtain rfl:=sI H
 have ⟨hcz4_0,hfz4_0⟩:=cz1_ M2.out
 go_enter Tryz.func69,Tryz.ntmps69
 go_wp2_with (first | ((with_reducible refine gc_ 67 ?_);refine gl_ (some 6) Tryz.func67 #[.slice AK0 P5.length AK1,.int .i64 a0] ?_;(with_reducible refine (Y26.calls k _ _ P5 a0 BU7 _ ?s1 ?s2 A3.out).mono ?_);(case s1=>repeat (first | exact AW9.out | (with_reducible refine Kd.C_alloc ?_ _) | (with_reducible refine Kd.C_drewN ?_ _) | (with_reducible refine Kd.C_drew ?_)));(case s2=>exact AX0.out);rintro e w' ⟨rfl,⟨nd,rfl⟩⟩;refine ⟨_,rfl,?_⟩))
 go_ret
 exact ⟨z8_,by repeat (first | (with_reducible first | exact HB.out | apply below_alloc | apply pw_below_drewN | apply below_drew1 | refine below_set ?_ u4.out) | exact HB.out)⟩


/-! ### Y10: function 101 -/
def Y10.l0:Nat→List Int→Int→Int→List Int→Option (Int)
 | 0,_,_,_,_=>none
 | k+1,x0,x7,x8,AH7=>if x8<x7 then (if 0≤x8 then (if x8<(x0.length:Int) then ((Y60.f k (rd x0 x8) AH7).bind fun By1=>(if By1=true then (some x8) else (Y10.l0 k x0 x7 (wrap64 (x8+1)) AH7))) else (none)) else (none)) else (some (-1))
def Y10.f (k:Nat) (l0:List Int) (P5:List Int):Option (Int):=Y10.l0 k l0 (l0.length:Int) 0 P5
theorem Y10.mono_l:∀ k,(∀ y0 y1 y2 y3,LeO (Y10.l0 k y0 y1 y2 y3) (Y10.l0 (k+1) y0 y1 y2 y3))
 | 0=>by intros <;> exact LeO.none _
 | k+1=>by
  have ih0:=Y10.mono_l k
  have m0:=@Y60.mono
  ·intros
   unfold Y10.l0
   exact mO
theorem Y10.mono:∀ a0 a1 k,LeO (Y10.f k a0 a1) (Y10.f (k+1) a0 a1):=by
 intro a0 a1 k
 have m0:=@Y60.mono
 have ih0:=Y10.mono_l k
 unfold Y10.f
 exact mO
theorem Y10.calls (k:Nat) (A0:Option Addr) (c0:Nat) (l0:List Int) (gb1:Nat) (AK0:Option Addr) (AK1:Nat) (P5:List Int) (r:Int) (w:World) (hr0:Kd.C (Kd.int .i64) w A0 l0.length l0) (hc0:l0.length≤c0) (Ab5:Kd.C (Kd.int .i64) w AK0 P5.length P5) (Ab6:P5.length≤AK1) (hk1:w.heap[gb1]? = some (.cells #[.slice AK0 P5.length AK1] 30 (0,0))) (h:Y10.f k l0 P5=some r) :
  Calls Tryz.prog 101 #[.slice A0 l0.length c0,.func (.func 69) #[] #[.pointer (some ⟨gb1,0,none⟩)]] w fun e w'=>e = .returned (.int .i64 r)∧Below w.heap.size w w':=by
 have HR0:=aM hr0
 have HC0:=aM hc0
 clear hr0 hc0
 have AW9:=aM Ab5
 have AX0:=aM Ab6
 clear Ab5 Ab6
 have M2:=aM hk1
 clear hk1
 have HB:=aM (Below.refl w.heap.size w)
 have H:(Y10.l0 k l0 (l0.length:Int) 0 P5)=some r:=h
 clear h
 have H':=aM H
 clear H
 go_enter Tryz.func101,Tryz.ntmps101
 go_wp2
 go_loopg [8] k (fun kq v8 w'=>∃ (E6:Int),v8 = .int .i64 E6∧Aside0 (Y10.l0 kq l0 (l0.length:Int) E6 P5=some r)∧Aside0 (kq≤k)∧Aside0 (w'.heap[gb1]? = some (.cells #[(.slice AK0 P5.length AK1)] 30 (0,0)))∧Aside0 (Below w.heap.size w w'))
 case atStart=>exact ⟨(0),(z2_),H',⟨Nat.le_refl _⟩,⟨z3_ M2.out⟩,⟨by repeat (first | (with_reducible first | exact HB.out | apply below_alloc | apply pw_below_drewN | apply below_drew1 | refine below_set ?_ u4.out) | exact HB.out)⟩⟩
 case round =>
  clear H'
  try clear c1
  try clear p2
  obtain ⟨E6,rfl,HA,HK1,M2,HB⟩:=hrel
  cases gk with
  | zero=>exact absurd HA.out (by simp [Y10.l0])
  | succ k1 =>
   have H:=HA.out
   clear HA
   simp only [Y10.l0] at H
   by_cases c3:E6<(l0.length:Int)
   ·rw [if_pos c3] at H
    have c3b0:decide (E6<(l0.length:Int))=true:=dE c3
    clear c3
    by_cases c4:0≤E6
    ·rw [if_pos c4] at H
     have c4b0:decide (0≤E6)=true:=dE c4
     clear c4
     by_cases c5:E6<(l0.length:Int)
     ·rw [if_pos c5] at H
      have c5b0:decide (E6<(l0.length:Int))=true:=dE c5
      clear c5
      replace H:=bS H
      obtain ⟨By1,A60,H⟩:=H
      replace H:(if By1=true then (some E6) else (Y10.l0 k1 l0 (l0.length:Int) (wrap64 (E6+1)) P5))=some r:=H
      have A6:=aM A60
      clear A60
      by_cases c7:By1=true
      ·subst c7
       have H1:(some E6)=some r:=by rw [if_pos rfl] at H;exact H
       clear H
       have H:=H1
       clear H1
       obtain rfl:=sI H
       have BF4:0≤(E6:Int):=dT (z1_)
       have BF5:E6<(l0.length:Int):=dT (z1_)
       obtain ⟨Cp4,CO2,AI3⟩:=Kd.at_int HR0.out E6 BF4 BF5
       cases CO2
       replace AI3:=(HB.out.cell (World.block_lt_of_cell? w _ AI3)).trans AI3
       replace BF4:=eq_true BF4
       replace BF5:=eq_true BF5
       go_wp2_with (first | (go_at_call 69;(with_reducible refine (Y60.calls k1 (rd l0 E6) gb1 AK0 AK1 P5 true _ ?s1 ?s2 ?s3 A6.out).mono ?_);(case s1=>repeat (first | exact (Kd.C_below AW9.out HB.out) | (with_reducible refine Kd.C_alloc ?_ _) | (with_reducible refine Kd.C_drewN ?_ _) | (with_reducible refine Kd.C_drew ?_)));(case s2=>exact AX0.out);(case s3=>(with_reducible repeat (first | refine blk_drewN ?_ _ | refine blk_drew ?_ | refine blk_alloc ?_ _));exact M2.out);rintro e w8 ⟨rfl,hb⟩;have n0_:=aM (blkB_ M2.out hb);have n1_:=aM (below_step (by repeat (first | (with_reducible first | exact HB.out | apply below_alloc | apply pw_below_drewN | apply below_drew1 | refine below_set ?_ u4.out) | exact HB.out)) hb);clear M2;clear HB;have M2:=n0_;have HB:=n1_;clear n0_ n1_;(try clear hb)))
       go_ret
       exact ⟨z8_,by repeat (first | (with_reducible first | exact HB.out | apply below_alloc | apply pw_below_drewN | apply below_drew1 | refine below_set ?_ u4.out) | exact HB.out)⟩
      ·replace c7:=Bool.eq_false_iff.mpr c7
       subst c7
       have H1:(Y10.l0 k1 l0 (l0.length:Int) (wrap64 (E6+1)) P5)=some r:=by rw [if_neg (show ¬ (false=true) by decide)] at H;exact H
       clear H
       have H:=H1
       clear H1
       have H':=aM H
       clear H
       have BF4:0≤(E6:Int):=dT (z1_)
       have BF5:E6<(l0.length:Int):=dT (z1_)
       obtain ⟨Cp4,CO2,AI3⟩:=Kd.at_int HR0.out E6 BF4 BF5
       cases CO2
       replace AI3:=(HB.out.cell (World.block_lt_of_cell? w _ AI3)).trans AI3
       replace BF4:=eq_true BF4
       replace BF5:=eq_true BF5
       go_wp2_with (first | (go_at_call 69;(with_reducible refine (Y60.calls k1 (rd l0 E6) gb1 AK0 AK1 P5 false _ ?s1 ?s2 ?s3 A6.out).mono ?_);(case s1=>repeat (first | exact (Kd.C_below AW9.out HB.out) | (with_reducible refine Kd.C_alloc ?_ _) | (with_reducible refine Kd.C_drewN ?_ _) | (with_reducible refine Kd.C_drew ?_)));(case s2=>exact AX0.out);(case s3=>(with_reducible repeat (first | refine blk_drewN ?_ _ | refine blk_drew ?_ | refine blk_alloc ?_ _));exact M2.out);rintro e w9 ⟨rfl,hb⟩;have n0_:=aM (blkB_ M2.out hb);have n1_:=aM (below_step (by repeat (first | (with_reducible first | exact HB.out | apply below_alloc | apply pw_below_drewN | apply below_drew1 | refine below_set ?_ u4.out) | exact HB.out)) hb);clear M2;clear HB;have M2:=n0_;have HB:=n1_;clear n0_ n1_;(try clear hb)))
       go_roundg k1
       case measure=>have:=HK1.out;omega
       case rel=>exact ⟨(wrap64 (E6+1)),(z2_),H',⟨by have:=HK1.out;omega⟩,⟨z3_ M2.out⟩,⟨by repeat (first | (with_reducible first | exact HB.out | apply below_alloc | apply pw_below_drewN | apply below_drew1 | refine below_set ?_ u4.out) | exact HB.out)⟩⟩
     ·rw [if_neg c5] at H
      exact nO H
    ·rw [if_neg c4] at H
     exact nO H
   ·rw [if_neg c3] at H
    have c3b0:decide (E6<(l0.length:Int))=false:=dF c3
    clear c3
    obtain rfl:=sI H
    go_wp2
    go_ret
    exact ⟨z8_,by repeat (first | (with_reducible first | exact HB.out | apply below_alloc | apply pw_below_drewN | apply below_drew1 | refine below_set ?_ u4.out) | exact HB.out)⟩


theorem clear_cells {base g cap:Nat} {ok:Nat→Prop}:∀ (m i:Nat) (xs:List Int) (W:World),Kd.R (Kd.int .i64) 2 W base ok (.slice (some ⟨g,0,none⟩) xs.length cap) xs→i+m≤xs.length →
  ∃ xs':List Int,xs'.length=xs.length∧xs'.take i=xs.take i∧Kd.R (Kd.int .i64) 2 (W.setCells g i (List.replicate m (.int .i64 0))) base ok (.slice (some ⟨g,0,none⟩) xs.length cap) xs'
 | 0,i,xs,W,h,hi=>⟨xs,rfl,rfl,h⟩
 | m+1,i,xs,W,h,hi=>by
  have h1:=(Kd.R_put h (i:Int) (0:Int)).1
  rw [Int.toNat_natCast] at h1
  obtain ⟨xs',a,b,c⟩:=clear_cells m (i+1) (xs.set i 0) _ (by rw [List.length_set];exact h1) (by rw [List.length_set];omega)
  rw [List.length_set] at a c
  refine ⟨xs',a,?_,c⟩
  have:=congrArg (List.take i) b
  simpa [List.take_take,List.take_set_of_le] using this
theorem kept_cells {w:World} {S:Nat→Prop} {g:Nat} (hg:S g∨w.heap.size≤g):∀ (vs:List Value) (o:Nat) (W:World),Kept w W S→Kept w (W.setCells g o vs) S
 | [],_,_,h=>h
 | v :: r,o,W,h=>kept_cells hg r (o+1) _ (Kept.setCell (p:=⟨g,o,none⟩) h hg v)
theorem below_cells {w0:World} {g:Nat} (hg:w0.heap.size≤g):∀ (vs:List Value) (o:Nat) (W:World),Below w0.heap.size w0 W→Below w0.heap.size w0 (W.setCells g o vs)
 | [],_,_,h=>h
 | v :: r,o,W,h=>below_cells hg r (o+1) _ (below_set h hg)
theorem clear_row {P:Program} {w0 w W:World} {t ty:TypeId} {ok S:Nat→Prop} {A:Option Addr} {c:Nat} {xs:List Int} {i:Int}
  (ht:P.underlying t=some (.slice 2)) (hv:∀ w,(zeroValue 2).run P w = .ok (.int .i64 0) w)
  (h:Kd.R (Kd.int .i64) 2 W w0.heap.size ok (.slice A xs.length c) xs) (hs:∀ k,ok k→S k∨w.heap.size≤k) (h0:0≤i) (hi:i≤(xs.length:Int)) (HK:Kept w W S) (HB:Below w0.heap.size w0 W) :
  ∃ (W':World) (xs':List Int),(Builtin.clear_ #[t] ty #[.slice (if c=i.toNat then A else A.map (·.add (i.toNat*1))) (xs.length-i.toNat) (c-i.toNat)]).run P W = .ok (.tuple #[]) W' ∧
   xs'.length=xs.length∧xs'.take i.toNat=xs.take i.toNat∧Kd.R (Kd.int .i64) 2 W' w0.heap.size ok (.slice A xs.length c) xs'∧Kept w W' S∧Below w0.heap.size w0 W':=by
 by_cases hlt:i.toNat<xs.length
 ·obtain ⟨g,cap,he,hb,hl,cells,hc⟩:=Kd.R_form h (by omega)
  injection he with e1 _ e2
  subst e1 e2
  have hcap:=(Kd.R_reads' h).2.1
  rw [if_neg (by omega),Option.map_some,add_plain,Nat.mul_one]
  obtain ⟨xs',a,b,r⟩:=clear_cells (xs.length-i.toNat) i.toNat xs W h (by omega)
  have hS:=hs g (h.1 g rfl)
  have hel:∀ j,j<xs.length-i.toNat→(W.cell? ⟨g,i.toNat+j,none⟩).isSome=true∧W.frozen? ⟨g,i.toNat+j,none⟩=false:=fun j hj=>by
   obtain ⟨ce,hcl,hM,hcc,hfr⟩:=Kd.R_elem h (0:Int) ((i.toNat+j:Nat):Int) (by omega) (by omega)
   have h3:=hfr 0
   have hce:∃ v,ce[0]? = some v:=by
    cases ce with
    | nil=>simp [Kd.int,Kd.scalar] at hcl
    | cons v r=>exact ⟨v,rfl⟩
   obtain ⟨v,hv0⟩:=hce
   have h4:=hcc 0 v hv0
   have es:(Kd.int .i64).sz=1:=rfl
   rw [es,Int.toNat_natCast,Nat.mul_one,Nat.add_zero] at h3 h4
   exact ⟨by rw [h4];rfl,h3⟩
  refine ⟨_,xs',Lib.run_clear_slice W t 2 ty (.int .i64 0) ht hv rfl rfl g i.toNat (xs.length-i.toNat) (c-i.toNat) (by omega) (fun j hj=>(hel j hj).1) (fun j hj=>(hel j hj).2),a,b,r,kept_cells hS _ _ _ HK,below_cells hb _ _ _ HB⟩
 ·refine ⟨W,xs,?_,rfl,rfl,h,HK,HB⟩
  rw [show xs.length-i.toNat=0 by omega]
  generalize (if c=i.toNat then A else A.map (·.add (i.toNat*1)))=A'
  cases A' <;> simp [Builtin.clear_,run_underlying ht]

/-! ### Y5: function 68 -/
def Y5.l0:Nat→List Int→Int→Int→List Int→Option (List Int)
 | 0,_,_,_,_=>none
 | k+1,x0,x5,x6,AH7=>if x6<(x0.length:Int) then (if 0≤x6 then ((Y60.f k (rd x0 x6) AH7).bind fun By2=>(if By2=true then (Y5.l0 k x0 x5 (wrap64 (x6+1)) AH7) else (if 0≤x5 then (if x5<(x0.length:Int) then (Y5.l0 k (x0.set (x5:Int).toNat (rd x0 x6)) (wrap64 (x5+1)) (wrap64 (x6+1)) AH7) else (none)) else (none)))) else (none)) else (if 0≤x5 then (if x5≤(x0.length:Int) then (some (x0.take (x5:Int).toNat)) else (none)) else (none))
def Y5.f (k:Nat) (l0:List Int) (P5:List Int):Option (List Int):=(Y10.f k l0 P5).bind fun AG0=>(if AG0=(-1) then (some l0) else (Y5.l0 k l0 AG0 (wrap64 (AG0+1)) P5))
theorem Y5.mono_l:∀ k,(∀ y0 y1 y2 y3,LeO (Y5.l0 k y0 y1 y2 y3) (Y5.l0 (k+1) y0 y1 y2 y3))
 | 0=>by intros <;> exact LeO.none _
 | k+1=>by
  have ih0:=Y5.mono_l k
  have m0:=@Y60.mono
  have m1:=@Y10.mono
  ·intros
   unfold Y5.l0
   exact mO
theorem Y5.mono:∀ a0 a1 k,LeO (Y5.f k a0 a1) (Y5.f (k+1) a0 a1):=by
 intro a0 a1 k
 have m0:=@Y60.mono
 have m1:=@Y10.mono
 have ih0:=Y5.mono_l k
 unfold Y5.f
 exact mO
theorem Y5.calls (k:Nat) (P0_:Nat→Prop) (M0:Value) (l0:List Int) (gb1:Nat) (AK0:Option Addr) (AK1:Nat) (P5:List Int) (r:List Int) (w0 w:World) (hB:Below w0.heap.size w0 w) (ho0:Kd.R (Kd.int .i64) 2 w w0.heap.size P0_ M0 l0) (Ab5:∀ W_,Kept w W_ (fun k_=>P0_ k_)→Kd.C (Kd.int .i64) W_ AK0 P5.length P5) (Ab6:P5.length≤AK1) (hk1:w.heap[gb1]? = some (.cells #[.slice AK0 P5.length AK1] 30 (0,0))) (h:Y5.f k l0 P5=some r) :
  Calls Tryz.prog 68 #[M0,.func (.func 69) #[] #[.pointer (some ⟨gb1,0,none⟩)]] w fun e w'=>∃ v0_:Value,e = .returned (v0_)∧Kd.R (Kd.int .i64) 2 w' w0.heap.size (fun k_=>(P0_ k_∨w.heap.size≤k_)) v0_ r∧Below w0.heap.size w0 w'∧Kept w w' (fun k_=>P0_ k_):=by
 have HO0:=aM (show Kd.R (Kd.int .i64) 2 w w0.heap.size (fun k_=>(P0_ k_∨w.heap.size≤k_)) M0 l0 from Kd.R_mono ho0 (fun k_ hk=>(.inl hk)))
 have AW9:=aM Ab5
 have AX0:=aM Ab6
 clear Ab5 Ab6
 have M2:=aM hk1
 clear hk1
 have HK:=aM (Kept.refl w (fun k_=>P0_ k_))
 have HW0:=aM hB.size
 have HB:=aM hB
 clear hB
 have H:((Y10.f k l0 P5).bind fun AG0=>(if AG0=(-1) then (some l0) else (Y5.l0 k l0 AG0 (wrap64 (AG0+1)) P5)))=some r:=h
 clear h
 replace H:=bS H
 obtain ⟨AG0,A30,H⟩:=H
 replace H:(if AG0=(-1) then (some l0) else (Y5.l0 k l0 AG0 (wrap64 (AG0+1)) P5))=some r:=H
 have A3:=aM A30
 clear A30
 by_cases c4:AG0=(-1)
 ·rw [if_pos c4] at H
  have c4b0:(AG0 == (-1))=true:=beq_iff_eq.mpr c4
  have c4b1:(AG0 != (-1))=false:=bne_eq_false_iff_eq.mpr c4
  clear c4
  obtain rfl:=sI H
  obtain ⟨Ao5,co5,eo5⟩:=Kd.R_slice HO0.out
  subst eo5
  go_enter Tryz.func68,Tryz.ntmps68
  go_wp2_with (first | ((with_reducible refine gc_ 101 ?_);refine gl_ (some 10) Tryz.func101 #[.slice Ao5 l0.length co5,.func (.func 69) #[] #[.pointer (some ⟨gb1,0,none⟩)]] ?_;(with_reducible refine (Y10.calls k _ _ l0 gb1 AK0 AK1 P5 AG0 _ ?s1 ?s2 ?s3 ?s4 ?s5 A3.out).mono ?_);(case s1=>repeat (first | exact (Kd.R_reads' HO0.out).2.2 | (with_reducible refine Kd.C_alloc ?_ _) | (with_reducible refine Kd.C_drewN ?_ _) | (with_reducible refine Kd.C_drew ?_)));(case s2=>exact (Kd.R_reads' HO0.out).2.1);(case s3=>repeat (first | exact (AW9.out _ HK.out) | (with_reducible refine Kd.C_alloc ?_ _) | (with_reducible refine Kd.C_drewN ?_ _) | (with_reducible refine Kd.C_drew ?_)));(case s4=>exact AX0.out);(case s5=>(with_reducible repeat (first | refine blk_drewN ?_ _ | refine blk_drew ?_ | refine blk_alloc ?_ _));exact M2.out);rintro e w6 ⟨rfl,hb⟩;refine ⟨_,rfl,?_⟩;have n0_:=aM (Kd.R_below (z0_ HO0.out) hb);have n1_:=aM (blkB_ M2.out hb);have n2_:=aM (Kept.below (S:=(fun k_=>P0_ k_)) (by repeat (first | (with_reducible first | exact HK.out | apply Kept.alloc | apply Kept.drewN | apply Kept.drew | refine Kept.setCell ?_ (.inr At9.out) _) | exact HK.out)) hb);have n3_:=aM (below_step (by repeat (first | (with_reducible first | exact HB.out | apply below_alloc | apply pw_below_drewN | apply below_drew1 | refine below_set ?_ u4.out) | exact HB.out)) hb);clear HO0;clear M2;clear HK;clear HB;have HO0:=n0_;have M2:=n1_;have HK:=n2_;have HB:=n3_;clear n0_ n1_ n2_ n3_;(try clear hb)))
  go_ret
  exact ⟨_,z8_,z0_ HO0.out,by repeat (first | (with_reducible first | exact HB.out | apply below_alloc | apply pw_below_drewN | apply below_drew1 | refine below_set ?_ u4.out) | exact HB.out),by repeat (first | (with_reducible first | exact HK.out | apply Kept.alloc | apply Kept.drewN | apply Kept.drew | refine Kept.setCell ?_ (.inr At9.out) _) | exact HK.out)⟩
 ·rw [if_neg c4] at H
  have c4b0:(AG0 == (-1))=false:=beq_eq_false_iff_ne.mpr c4
  have c4b1:(AG0 != (-1))=true:=bne_iff_ne.mpr c4
  have H':=aM H
  clear H
  obtain ⟨Ao7,co7,eo7⟩:=Kd.R_slice HO0.out
  subst eo7
  go_enter Tryz.func68,Tryz.ntmps68
  go_wp2_with (first | ((with_reducible refine gc_ 101 ?_);refine gl_ (some 10) Tryz.func101 #[.slice Ao7 l0.length co7,.func (.func 69) #[] #[.pointer (some ⟨gb1,0,none⟩)]] ?_;(with_reducible refine (Y10.calls k _ _ l0 gb1 AK0 AK1 P5 AG0 _ ?s1 ?s2 ?s3 ?s4 ?s5 A3.out).mono ?_);(case s1=>repeat (first | exact (Kd.R_reads' HO0.out).2.2 | (with_reducible refine Kd.C_alloc ?_ _) | (with_reducible refine Kd.C_drewN ?_ _) | (with_reducible refine Kd.C_drew ?_)));(case s2=>exact (Kd.R_reads' HO0.out).2.1);(case s3=>repeat (first | exact (AW9.out _ HK.out) | (with_reducible refine Kd.C_alloc ?_ _) | (with_reducible refine Kd.C_drewN ?_ _) | (with_reducible refine Kd.C_drew ?_)));(case s4=>exact AX0.out);(case s5=>(with_reducible repeat (first | refine blk_drewN ?_ _ | refine blk_drew ?_ | refine blk_alloc ?_ _));exact M2.out);rintro e w8 ⟨rfl,hb⟩;refine ⟨_,rfl,?_⟩;have n0_:=aM (Kd.R_below (z0_ HO0.out) hb);have n1_:=aM (blkB_ M2.out hb);have n2_:=aM (Kept.below (S:=(fun k_=>P0_ k_)) (by repeat (first | (with_reducible first | exact HK.out | apply Kept.alloc | apply Kept.drewN | apply Kept.drew | refine Kept.setCell ?_ (.inr At9.out) _) | exact HK.out)) hb);have n3_:=aM (below_step (by repeat (first | (with_reducible first | exact HB.out | apply below_alloc | apply pw_below_drewN | apply below_drew1 | refine below_set ?_ u4.out) | exact HB.out)) hb);clear HO0;clear M2;clear HK;clear HB;have HO0:=n0_;have M2:=n1_;have HK:=n2_;have HB:=n3_;clear n0_ n1_ n2_ n3_;(try clear hb)))
  go_loopg [5,6] k (fun kq v5 v6 w'=>∃ (D4:List Int) (F2:Int) (D9:Int),v5 = .int .i64 F2∧v6 = .int .i64 D9∧Aside0 (Y5.l0 kq D4 F2 D9 P5=some r)∧Aside0 (kq≤k)∧Aside0 (Kd.R (Kd.int .i64) 2 w' w0.heap.size (fun k_=>(P0_ k_∨w.heap.size≤k_)) (.slice Ao7 l0.length co7) D4)∧Aside0 (w'.heap[gb1]? = some (.cells #[(.slice AK0 P5.length AK1)] 30 (0,0)))∧Aside0 (Kept w w' (fun k_=>P0_ k_))∧Aside0 (Below w0.heap.size w0 w'))
  case atStart=>exact ⟨(l0),(AG0),(wrap64 (AG0+1)),(z2_),(z2_),H',⟨Nat.le_refl _⟩,⟨z0_ HO0.out⟩,⟨z3_ M2.out⟩,⟨by repeat (first | (with_reducible first | exact HK.out | apply Kept.alloc | apply Kept.drewN | apply Kept.drew | refine Kept.setCell ?_ (.inr At9.out) _) | exact HK.out)⟩,⟨by repeat (first | (with_reducible first | exact HB.out | apply below_alloc | apply pw_below_drewN | apply below_drew1 | refine below_set ?_ u4.out) | exact HB.out)⟩⟩
  case round =>
   clear H'
   try clear c1
   try clear p2
   try clear c4
   try clear c4b0
   try clear c4b1
   try clear p6
   try clear c7
   obtain ⟨D4,F2,D9,rfl,rfl,HA,HK1,C2,M2,HK,HB⟩:=hrel
   have AA2:=(Kd.R_reads' C2.out).1
   rw [AA2] at C2
   (try simp only [AA2])
   (try simp only [AA2] at M2)
   cases gk with
   | zero=>exact absurd HA.out (by simp [Y5.l0])
   | succ k1 =>
    have H:=HA.out
    clear HA
    simp only [Y5.l0] at H
    by_cases c9:D9<(D4.length:Int)
    ·rw [if_pos c9] at H
     have c9b0:decide (D9<(D4.length:Int))=true:=dE c9
     clear c9
     by_cases c10:0≤D9
     ·rw [if_pos c10] at H
      have c10b0:decide (0≤D9)=true:=dE c10
      clear c10
      replace H:=bS H
      obtain ⟨By2,f7,H⟩:=H
      replace H:(if By2=true then (Y5.l0 k1 D4 F2 (wrap64 (D9+1)) P5) else (if 0≤F2 then (if F2<(D4.length:Int) then (Y5.l0 k1 (D4.set (F2:Int).toNat (rd D4 D9)) (wrap64 (F2+1)) (wrap64 (D9+1)) P5) else (none)) else (none)))=some r:=H
      have A11:=aM f7
      clear f7
      by_cases c12:By2=true
      ·subst c12
       have H1:(Y5.l0 k1 D4 F2 (wrap64 (D9+1)) P5)=some r:=by rw [if_pos rfl] at H;exact H
       clear H
       have H:=H1
       clear H1
       have H':=aM H
       clear H
       have BF6:0≤(D9:Int):=dT (z1_)
       have BF7:D9<(D4.length:Int):=dT (z1_)
       obtain ⟨Cp5,CO3,BO0⟩:=Kd.at_int (Kd.R_reads' C2.out).2.2 D9 BF6 BF7
       cases CO3
       replace BF6:=eq_true BF6
       replace BF7:=eq_true BF7
       go_wp2_with (first | (go_at_call 69;(with_reducible refine (Y60.calls k1 (rd D4 D9) gb1 AK0 AK1 P5 true _ ?s1 ?s2 ?s3 A11.out).mono ?_);(case s1=>repeat (first | exact (AW9.out _ HK.out) | (with_reducible refine Kd.C_alloc ?_ _) | (with_reducible refine Kd.C_drewN ?_ _) | (with_reducible refine Kd.C_drew ?_)));(case s2=>exact AX0.out);(case s3=>(with_reducible repeat (first | refine blk_drewN ?_ _ | refine blk_drew ?_ | refine blk_alloc ?_ _));exact M2.out);rintro e w13 ⟨rfl,hb⟩;have n0_:=aM (Kd.R_below (z0_ C2.out) hb);have n1_:=aM (blkB_ M2.out hb);have n2_:=aM (Kept.below (S:=(fun k_=>P0_ k_)) (by repeat (first | (with_reducible first | exact HK.out | apply Kept.alloc | apply Kept.drewN | apply Kept.drew | refine Kept.setCell ?_ (.inr At9.out) _) | exact HK.out)) hb);have n3_:=aM (below_step (by repeat (first | (with_reducible first | exact HB.out | apply below_alloc | apply pw_below_drewN | apply below_drew1 | refine below_set ?_ u4.out) | exact HB.out)) hb);clear C2;clear M2;clear HK;clear HB;have C2:=n0_;have M2:=n1_;have HK:=n2_;have HB:=n3_;clear n0_ n1_ n2_ n3_;(try clear hb)))
       (try simp only [← AA2])
       go_roundg k1
       case measure=>have:=HK1.out;omega
       case rel=>exact ⟨(D4),(F2),(wrap64 (D9+1)),(z2_),(z2_),H',⟨by have:=HK1.out;omega⟩,⟨z32_ C2.out⟩,⟨by (try simp only [AA2]);(with_reducible repeat (first | refine blk_drewN ?_ _ | refine blk_drew ?_ | refine blk_alloc ?_ _));exact M2.out⟩,⟨by repeat (first | (with_reducible first | exact HK.out | apply Kept.alloc | apply Kept.drewN | apply Kept.drew | refine Kept.setCell ?_ (.inr At9.out) _) | exact HK.out)⟩,⟨by repeat (first | (with_reducible first | exact HB.out | apply below_alloc | apply pw_below_drewN | apply below_drew1 | refine below_set ?_ u4.out) | exact HB.out)⟩⟩
      ·replace c12:=Bool.eq_false_iff.mpr c12
       subst c12
       have H1:(if 0≤F2 then (if F2<(D4.length:Int) then (Y5.l0 k1 (D4.set (F2:Int).toNat (rd D4 D9)) (wrap64 (F2+1)) (wrap64 (D9+1)) P5) else (none)) else (none))=some r:=by rw [if_neg (show ¬ (false=true) by decide)] at H;exact H
       clear H
       have H:=H1
       clear H1
       by_cases c14:0≤F2
       ·rw [if_pos c14] at H
        have c14b0:decide (0≤F2)=true:=dE c14
        clear c14
        by_cases c15:F2<(D4.length:Int)
        ·rw [if_pos c15] at H
         have c15b0:decide (F2<(D4.length:Int))=true:=dE c15
         clear c15
         obtain ⟨CO4,A57⟩:∃ y_:List Int,y_=(D4.set (F2:Int).toNat (rd D4 D9)):=⟨_,rfl⟩
         replace H:(Y5.l0 k1 CO4 (wrap64 (F2+1)) (wrap64 (D9+1)) P5)=some r:=by first | (rw [A57];with_reducible exact H) | (have H2_:=(Option.bind_some _ _).symm.trans H;rw [A57];with_reducible exact H2_) | (have H2_:=(Option.bind_some _ _).symm.trans H;with_reducible exact H2_) | with_reducible exact H | (rw [A57];exact H) | exact H
         have Cp6:=aM A57
         clear A57
         have H':=aM H
         clear H
         have BF6:0≤(D9:Int):=dT (z1_)
         have BF7:D9<(D4.length:Int):=dT (z1_)
         obtain ⟨Cp5,CO3,BO0⟩:=Kd.at_int (Kd.R_reads' C2.out).2.2 D9 BF6 BF7
         cases CO3
         replace BF6:=eq_true BF6
         replace BF7:=eq_true BF7
         go_wp2_with (first | (go_at_call 69;(with_reducible refine (Y60.calls k1 (rd D4 D9) gb1 AK0 AK1 P5 false _ ?s1 ?s2 ?s3 A11.out).mono ?_);(case s1=>repeat (first | exact (AW9.out _ HK.out) | (with_reducible refine Kd.C_alloc ?_ _) | (with_reducible refine Kd.C_drewN ?_ _) | (with_reducible refine Kd.C_drew ?_)));(case s2=>exact AX0.out);(case s3=>(with_reducible repeat (first | refine blk_drewN ?_ _ | refine blk_drew ?_ | refine blk_alloc ?_ _));exact M2.out);rintro e w17 ⟨rfl,hb⟩;have n0_:=aM (Kd.R_below (z0_ C2.out) hb);have n1_:=aM (blkB_ M2.out hb);have n2_:=aM (Kept.below (S:=(fun k_=>P0_ k_)) (by repeat (first | (with_reducible first | exact HK.out | apply Kept.alloc | apply Kept.drewN | apply Kept.drew | refine Kept.setCell ?_ (.inr At9.out) _) | exact HK.out)) hb);have n3_:=aM (below_step (by repeat (first | (with_reducible first | exact HB.out | apply below_alloc | apply pw_below_drewN | apply below_drew1 | refine below_set ?_ u4.out) | exact HB.out)) hb);clear C2;clear M2;clear HK;clear HB;have C2:=n0_;have M2:=n1_;have HK:=n2_;have HB:=n3_;clear n0_ n1_ n2_ n3_;(try clear hb);have p16:0≤(F2:Int):=dT (z1_);have q16:(F2:Int)<((D4.length:Int):Int):=dT (z1_);obtain ⟨Bi8,Ck8,Bv0,Cp7,C47,cl16,Cp8⟩:=Kd.R_form C2.out (by omega);(first | cases Bv0 | (injection Bv0 with ea_ en_ ec_;(first | subst ea_ | (injection ea_ with ea_;subst ea_));subst ec_;clear en_));have C48:=aM Cp7;have GG16:=aM Cp8;clear Cp7 C47 Cp8;have HMgo16:=aM (show (P0_ Bi8∨w.heap.size≤Bi8) from (C2.out.1 _ rfl));(first | simp only [add_plain] at BO0 | skip);obtain ⟨hx16_0,hf16_0⟩:=Kd.R_celln 0 C2.out (F2:Int) p16 q16;replace p16:=eq_true p16;replace q16:=eq_true q16;obtain ⟨hy18_,hz18_⟩:=Kd.R_celln 0 C2.out (F2:Int) (dT (z1_)) (dT (z1_));have CO5:=Kd.R_putg C2.out (F2:Int) (rd D4 D9)) | ((with_reducible refine gate_store (t:=2) (p:=33) rfl ?_);refine store_event (t:=2) (p:=33) (v:=?vo_w19) (w1:=(w17.setCell ⟨Bi8,(F2:Int).toNat,none⟩ (.int .i64 (rd D4 D9)))) ?hg ?ho ?hn ?hr ?_;(case ho=>rfl);(case hg=>rfl);(case hn=>rfl);(case hr=>first | (go_simp;done) | (go_simp;rfl));intro w19 hw;have hg:w17.grownBy w19 (some Bi8):=(by rw [hw];exact CO5.2);have hp_:Kd.R (Kd.int .i64) 2 w19 w0.heap.size (fun k_=>(P0_ k_∨w.heap.size≤k_)) (.slice (some ⟨Bi8,0,none⟩) D4.length co7) CO4:=(by rw [hw,Cp6.out];exact CO5.1);clear CO5;have n0_:=aM (hp_);have n1_:=aM (blk_grown (g:=gb1) (o:=.cells #[.slice AK0 P5.length AK1] 30 (0,0)) (z3_ M2.out) hg (Kd.R_ne C2.out M2.out (by decide)));have n2_:=aM ((by rw [hw];exact below_set (HB.out) C48.out:Below w0.heap.size w0 w19));have n3_:=aM (Kept.of_grown (S:=(fun k_=>P0_ k_)) hg (by repeat (first | (with_reducible first | exact HK.out | apply Kept.alloc | apply Kept.drewN | apply Kept.drew | refine Kept.setCell ?_ (.inr At9.out) _) | exact HK.out)) (fun k_ e_=>(C2.out.1 k_ e_)));clear C2;clear M2;clear HB;clear HK;have C2:=n0_;have M2:=n1_;have HB:=n2_;have HK:=n3_;clear n0_ n1_ n2_ n3_;clear hg hw hp_))
         (try simp only [← AA2])
         go_roundg k1
         case measure=>have:=HK1.out;omega
         case rel=>exact ⟨(CO4),(wrap64 (F2+1)),(wrap64 (D9+1)),(z2_),(z2_),H',⟨by have:=HK1.out;omega⟩,⟨z32_ C2.out⟩,⟨by (try simp only [AA2]);(with_reducible repeat (first | refine blk_drewN ?_ _ | refine blk_drew ?_ | refine blk_alloc ?_ _));exact M2.out⟩,⟨by repeat (first | (with_reducible first | exact HK.out | apply Kept.alloc | apply Kept.drewN | apply Kept.drew | refine Kept.setCell ?_ (.inr At9.out) _) | exact HK.out)⟩,⟨by repeat (first | (with_reducible first | exact HB.out | apply below_alloc | apply pw_below_drewN | apply below_drew1 | refine below_set ?_ u4.out) | exact HB.out)⟩⟩
        ·rw [if_neg c15] at H
         exact nO H
       ·rw [if_neg c14] at H
        exact nO H
     ·rw [if_neg c10] at H
      exact nO H
    ·rw [if_neg c9] at H
     have c9b0:decide (D9<(D4.length:Int))=false:=dF c9
     clear c9
     by_cases c20:0≤F2
     ·rw [if_pos c20] at H
      have c20b0:=eq_true c20
      have c20b1:decide (0≤F2)=true:=dE c20
      clear c20
      by_cases c21:F2≤(D4.length:Int)
      ·rw [if_pos c21] at H
       have c21b0:=eq_true c21
       have c21b1:decide (F2≤(D4.length:Int))=true:=dE c21
       clear c21
       obtain ⟨Cp9,A58⟩:∃ y_:List Int,y_=(D4.take (F2:Int).toNat):=⟨_,rfl⟩
       replace H:(some Cp9)=some r:=by first | (rw [A58];with_reducible exact H) | (have H2_:=(Option.bind_some _ _).symm.trans H;rw [A58];with_reducible exact H2_) | (have H2_:=(Option.bind_some _ _).symm.trans H;with_reducible exact H2_) | with_reducible exact H | (rw [A58];exact H) | exact H
       have CA7:=aM A58
       clear A58
       obtain rfl:=sI H
       have q22:(F2:Int)≤((D4.length:Int):Int):=dT (z1_)
       obtain ⟨i022,Bi9,_,CA8,_⟩:=info_parts info2
       have hge_:(0:Int)≤F2:=dT (z1_)
       have hcutc_:=cut_from (P:=Tryz.prog) 30 2 .i64 Tryz.underlying30 Bi9 1 CA8 Ao7 D4.length co7 F2 hge_ q22
       obtain ⟨wz_,xz_,hclr_,hlz_,htz_,hRz_,hKz_,hBz_⟩:=clear_row (P:=Tryz.prog) (ty:=0) Tryz.underlying30 (fun _=>by kernel_rfl) C2.out (fun _ hk=>hk) hge_ q22 HK.out HB.out
       obtain ⟨Az_,hAz_⟩:∃ A1,A1=(if co7=(F2:Int).toNat then Ao7 else (Ao7:Option Addr).map (·.add ((F2:Int).toNat*1))):=⟨_,rfl⟩
       obtain ⟨cz_,hcz_⟩:∃ c1,c1=co7-(F2:Int).toNat:=⟨_,rfl⟩
       obtain ⟨nz_,hnz_⟩:∃ n1,n1=D4.length-(F2:Int).toNat:=⟨_,rfl⟩
       rw [← hAz_,← hcz_,← hnz_] at hclr_
       rw [Nat.mul_one] at hAz_
       clear hcutc_
       have BU6:=aM hAz_
       have Cq0:=aM hcz_
       have Cq1:=aM hnz_
       clear hAz_ hcz_ hnz_
       have CO6:=cut_to (P:=Tryz.prog) 30 2 .i64 Tryz.underlying30 Bi9 Ao7 D4.length co7 F2 (dT (z1_)) q22 (Kd.R_reads' C2.out).2.1
       have Bj0:=Kd.R_take (m:=(F2:Int).toNat) hRz_ (by rw [hlz_];omega)
       rw [htz_] at Bj0
       have Cq2:Cp9.length=(F2:Int).toNat:=(z34_ CA7.out)
       rw [← CA7.out] at Bj0
       rw [← Cq2] at Bj0 CO6
       clear Cq2 Bi9 CA8 C2
       have Cq3:=aM Bj0
       clear Bj0
       replace q22:=eq_true q22
       go_wp2_with (first | ((with_reducible refine gd_ 38 ?_);refine Kd.event_run ?hg (v:=.slice Az_ nz_ cz_) (w1:=wr) ?hr ?_;(case hg=>rfl);(case hr=>first | (go_simp;done) | (go_simp;rw [BU6.out,Cq0.out,Cq1.out];done) | (rw [BU6.out,Cq0.out,Cq1.out];go_simp;first | done | rfl))) | ((with_reducible refine gate_builtin (b:=.clear) (xs:=#[.tmp 38]) rfl ?_);refine Kd.event_run ?hg (v:=.tuple #[]) (w1:=wz_) ?hr ?_;(case hg=>rfl);(case hr=>first | (go_simp;done) | (go_simp;rfl))))
       clear HB HK
       have HB:=aM hBz_
       have HK:=aM hKz_
       go_ret
       exact ⟨_,z8_,z0_ Cq3.out,by repeat (first | (with_reducible first | exact HB.out | apply below_alloc | apply pw_below_drewN | apply below_drew1 | refine below_set ?_ u4.out) | exact HB.out),by repeat (first | (with_reducible first | exact HK.out | apply Kept.alloc | apply Kept.drewN | apply Kept.drew | refine Kept.setCell ?_ (.inr At9.out) _) | exact HK.out)⟩
      ·rw [if_neg c21] at H
       exact nO H
     ·rw [if_neg c20] at H
      exact nO H

end Go.Proofs.YtelecnmflodkkaaGreatDoor.P
