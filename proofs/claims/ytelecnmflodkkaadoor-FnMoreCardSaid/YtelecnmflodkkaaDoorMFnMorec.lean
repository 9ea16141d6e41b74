/- A drawn ring with one more node: every key goes round the other nodes as before; of the first two owners none is new but the new node; and the program's RingMore, Newcomers are the reference's. No condition. (Part 3 of 5: written by programs of this workplace and by hand, merged.) -/
import Derived.Test.YtelecnmflodkkaaDoorMFnMorea
import Derived.Test.YtelecnmflodkkaaDoorMFnMoreb
set_option linter.unusedVariables false
set_option linter.unusedSimpArgs false
set_option maxHeartbeats 8000000
set_option maxRecDepth 100000

namespace Go.Proofs.YtelecnmflodkkaaDoor.P
open Go.RowKit Go.Proofs.YtelecnmflodkkaaDoorW.PrintWords Go.Proofs.YtelecnmflodkkaaDoorW.PrintLast Go.Proofs.YtelecnmflodkkaaDoorW.PrintMore
attribute [local go_sem] max2_int min2_int max_two min_two max_three min_three max_four min_four   -- for this text's walks alone
set_option linter.unusedVariables false
set_option linter.unusedSimpArgs false

/-! ### Y1: function 107 -/
mutual
def Y1.l0:Nat→List (S77)→Int→Int→Int→Bool→Bool→Option ((List (S77)))
 | 0,_,_,_,_,_,_=>none
 | k+1,x0,x1,x2,x3,x10,x11=>if (wrap64 (x2-x1))≤12 then ((Y2.f k x0 x1 x2).bind fun t224=>(some t224)) else (if x3=0 then ((Y50.f x0 x1 x2).bind fun _=>(some x0)) else (if x10=true then (Y1.j1 k x0 x1 x2 x3 x10 x11 (wrap64 (x2-x1))) else ((Y43.f x0 x1 x2).bind fun _=>(Y1.j1 k x0 x1 x2 (wrap64 (x3-1)) x10 x11 (wrap64 (x2-x1))))))
def Y1.j1:Nat→List (S77)→Int→Int→Int→Bool→Bool→Int→Option ((List (S77)))
 | 0,_,_,_,_,_,_,_=>none
 | k+1,x0,x1,x2,x3,x10,x11,x12=>(Y5.f k x0 x1 x2).bind fun bt225=>(if bt225.2=2 then ((Y44.f x0 x1 x2).bind fun _=>(Y1.j2 k x0 x1 x2 x3 x10 x11 x12 (wrap64 ((wrap64 (x2-1))-(wrap64 (bt225.1-x1)))) 1)) else (Y1.j2 k x0 x1 x2 x3 x10 x11 x12 bt225.1 bt225.2))
def Y1.j2:Nat→List (S77)→Int→Int→Int→Bool→Bool→Int→Int→Int→Option ((List (S77)))
 | 0,_,_,_,_,_,_,_,_,_=>none
 | k+1,x0,x1,x2,x3,x10,x11,x12,x13,x14=>if x10=true then (if x11=true then (Y1.j3 k x0 x1 x2 x3 x10 x11 x12 x13 (x14 == 1)) else (Y1.j3 k x0 x1 x2 x3 x10 x11 x12 x13 false)) else (Y1.j3 k x0 x1 x2 x3 x10 x11 x12 x13 false)
def Y1.j3:Nat→List (S77)→Int→Int→Int→Bool→Bool→Int→Int→Bool→Option ((List (S77)))
 | 0,_,_,_,_,_,_,_,_,_=>none
 | k+1,x0,x1,x2,x3,x10,x11,x12,x13,x75=>if x75=true then ((Y35.f x0 x1 x2).bind fun t227=>(if t227=true then (some x0) else (Y1.j4 k x0 x1 x2 x3 x10 x11 x12 x13))) else (Y1.j4 k x0 x1 x2 x3 x10 x11 x12 x13)
def Y1.j4:Nat→List (S77)→Int→Int→Int→Bool→Bool→Int→Int→Option ((List (S77)))
 | 0,_,_,_,_,_,_,_,_=>none
 | k+1,x0,x1,x2,x3,x10,x11,x12,x13=>if x1>0 then (if 0≤(wrap64 (x1-1)) then (if (wrap64 (x1-1))<(x0.length:Int) then (if 0≤x13 then (if x13<(x0.length:Int) then ((Y30.f k ((rd_T77 x0 (wrap64 (x1-1))).f0) ((rd_T77 x0 (wrap64 (x1-1))).f1) ((rd_T77 x0 x13).f0) ((rd_T77 x0 x13).f1)).bind fun t230=>(Y1.j5 k x0 x1 x2 x3 x10 x11 x12 x13 (!(decide (t230<0))))) else (none)) else (none)) else (none)) else (none)) else (Y1.j5 k x0 x1 x2 x3 x10 x11 x12 x13 false)
def Y1.j5:Nat→List (S77)→Int→Int→Int→Bool→Bool→Int→Int→Bool→Option ((List (S77)))
 | 0,_,_,_,_,_,_,_,_,_=>none
 | k+1,x0,x1,x2,x3,x10,x11,x12,x13,x97=>if x97=true then ((Y42.f x0 x1 x2 x13).bind fun t231=>(Y1.l0 k x0 t231 x2 x3 x10 x11)) else ((Y0.f k x0 x1 x2 x13).bind fun bt232=>(if (wrap64 (bt232.1-x1))<(wrap64 (x2-bt232.1)) then ((Y1.f k bt232.2.2 x1 bt232.1 x3).bind fun t235=>(Y1.l0 k t235 (wrap64 (bt232.1+1)) x2 x3 (decide ((wrap64 (bt232.1-x1))≥(wrap64 (Int.tdiv x12 8)))) bt232.2.1)) else ((Y1.f k bt232.2.2 (wrap64 (bt232.1+1)) x2 x3).bind fun t236=>(Y1.l0 k t236 x1 bt232.1 x3 (decide ((wrap64 (x2-bt232.1))≥(wrap64 (Int.tdiv x12 8)))) bt232.2.1))))
def Y1.f:Nat→List (S77)→Int→Int→Int→Option ((List (S77)))
 | 0,_,_,_,_=>none
 | k+1,l0,a1,a2,a3=>Y1.l0 k l0 a1 a2 a3 true true
end
theorem Y1.mono_l:∀ k,(∀ y0 y1 y2 y3,LeO (Y1.f k y0 y1 y2 y3) (Y1.f (k+1) y0 y1 y2 y3))∧(∀ y0 y1 y2 y3 y4 y5,LeO (Y1.l0 k y0 y1 y2 y3 y4 y5) (Y1.l0 (k+1) y0 y1 y2 y3 y4 y5))∧(∀ y0 y1 y2 y3 y4 y5 y6,LeO (Y1.j1 k y0 y1 y2 y3 y4 y5 y6) (Y1.j1 (k+1) y0 y1 y2 y3 y4 y5 y6))∧(∀ y0 y1 y2 y3 y4 y5 y6 y7 y8,LeO (Y1.j2 k y0 y1 y2 y3 y4 y5 y6 y7 y8) (Y1.j2 (k+1) y0 y1 y2 y3 y4 y5 y6 y7 y8))∧(∀ y0 y1 y2 y3 y4 y5 y6 y7 y8,LeO (Y1.j3 k y0 y1 y2 y3 y4 y5 y6 y7 y8) (Y1.j3 (k+1) y0 y1 y2 y3 y4 y5 y6 y7 y8))∧(∀ y0 y1 y2 y3 y4 y5 y6 y7,LeO (Y1.j4 k y0 y1 y2 y3 y4 y5 y6 y7) (Y1.j4 (k+1) y0 y1 y2 y3 y4 y5 y6 y7))∧(∀ y0 y1 y2 y3 y4 y5 y6 y7 y8,LeO (Y1.j5 k y0 y1 y2 y3 y4 y5 y6 y7 y8) (Y1.j5 (k+1) y0 y1 y2 y3 y4 y5 y6 y7 y8))
 | 0=>by refine ⟨?_,?_,?_,?_,?_,?_,?_⟩ <;> intros <;> exact LeO.none _
 | k+1=>by
  obtain ⟨ih0,ih1,ih2,ih3,ih4,ih5,ih6⟩:=Y1.mono_l k
  have m0:=@Y30.mono
  have m1:=@Y5.mono
  have m2:=@Y2.mono
  have m3:=@Y0.mono
  refine ⟨?_,?_,?_,?_,?_,?_,?_⟩
  ·intros
   unfold Y1.f
   exact mO
  ·intros
   unfold Y1.l0
   exact mO
  ·intros
   unfold Y1.j1
   exact mO
  ·intros
   unfold Y1.j2
   exact mO
  ·intros
   unfold Y1.j3
   exact mO
  ·intros
   unfold Y1.j4
   exact mO
  ·intros
   unfold Y1.j5
   exact mO
theorem Y1.mono:∀ a0 a1 a2 a3 k,LeO (Y1.f k a0 a1 a2 a3) (Y1.f (k+1) a0 a1 a2 a3):=by
 intro a0 a1 a2 a3 k
 obtain ⟨ih0,ih1,ih2,ih3,ih4,ih5,ih6⟩:=Y1.mono_l k
 exact ih0 a0 a1 a2 a3
def Y1.T17:Bool × List (List Nat × List Nat):=(true,[([],[]),([0],[0]),([1],[1]),([2],[2]),([2],[2]),([2],[2]),([5,2],[2,5]),([4,6,2],[2,4,6]),([7,2],[2,7]),([2],[2]),([2],[2]),([9,10,2],[2,9,10]),([11,2],[2,11]),([3,8,12,2,2],[2,3,8,12]),([13,2],[2,13]),([14,2],[2,14]),([2,15],[2,15])])
def Y1.B17:List Nat:=[0,1,3,7,7,7,39,119,247,7,7,1543,3591,8191,16383,32767,65535]
theorem Y1.tab17:rtab .any (opsOf Tryd.f107 17)=Y1.T17:=by kernel_rfl
theorem Y1.bits17:waitsOk Y1.T17.2 Y1.B17=true:=by kernel_rfl
abbrev Y1.q0:Array Bool:=#[O,O,O,O,O,O,O,O,O,O,O,O,O,O,O,O,O]
abbrev Y1.q1:Array Bool:=#[I,O,O,O,O,O,O,O,O,O,O,O,O,O,O,O,O]
abbrev Y1.q2:Array Bool:=#[I,I,O,O,O,O,O,O,O,O,O,O,O,O,O,O,O]
abbrev Y1.q3:Array Bool:=#[I,I,I,O,O,O,O,O,O,O,O,O,O,O,O,O,O]
abbrev Y1.q4:Array Bool:=#[I,I,I,I,O,O,O,O,O,O,O,O,O,O,O,O,O]
abbrev Y1.q5:Array Bool:=#[I,I,I,I,I,O,O,O,O,O,O,O,O,O,O,O,O]
abbrev Y1.q6:Array Bool:=#[I,I,I,I,I,I,O,O,O,O,O,O,O,O,O,O,O]
abbrev Y1.q7:Array Bool:=#[I,I,I,I,I,I,I,O,O,O,O,O,O,O,O,O,O]
abbrev Y1.q8:Array Bool:=#[I,I,I,I,I,I,I,I,O,O,O,O,O,O,O,O,O]
abbrev Y1.q9:Array Bool:=#[I,I,I,I,I,I,I,I,I,I,I,I,O,O,O,O,O]
abbrev Y1.q10:Array Bool:=#[I,I,I,I,I,I,I,I,I,I,I,I,I,O,O,O,O]
abbrev Y1.q11:Array Bool:=#[I,I,I,I,I,I,I,I,I,I,I,I,I,I,O,O,O]
abbrev Y1.q12:Array Bool:=#[I,I,I,I,I,I,I,I,I,I,I,I,I,I,I,O,O]
abbrev Y1.q13:Array Bool:=#[I,I,I,I,I,I,I,I,I,I,I,I,I,I,I,I,O]
abbrev Y1.q14:Array Bool:=#[I,I,I,I,I,I,I,I,I,I,I,I,I,I,I,I,I]
theorem Y1.calls (k:Nat):∀ (P0_:Nat→Prop) (u9000_:Value) (l0:List (S77)) (a1:Int) (a2:Int) (a3:Int)  (r:List (S77)) (w0 w:World) (hB:Below w0.heap.size w0 w) (ho0:Kd.R k77 77 w w0.heap.size P0_ u9000_ l0) (h:Y1.f k l0 a1 a2 a3=some r),
  Calls Tryd.prog 107 #[u9000_,.int .i64 a1,.int .i64 a2,.int .i64 a3,.func (.func 78) #[] #[]] w fun e w'=>e = .returned (.tuple #[])∧Kd.R k77 77 w' w0.heap.size (fun k_=>(P0_ k_∨w.heap.size≤k_)) u9000_ r∧Below w0.heap.size w0 w'∧Kept w w' (fun k_=>P0_ k_):=by
 induction k using Nat.strongRecOn with
 | _ k ih =>
 intro P0_ u9000_ l0 a1 a2 a3 r w0 w hB ho0 h
 cases k with
 | zero=>exact absurd h (by simp [Y1.f])
 | succ k =>
 simp only [Y1.f] at h
 have hu77:=Tryd.underlying77
 have HO0:=aM (show Kd.R k77 77 w w0.heap.size (fun k_=>(P0_ k_∨w.heap.size≤k_)) u9000_ l0 from Kd.R_mono ho0 (fun k_ hk=>(.inl hk)))
 have HK:=aM (Kept.refl w (fun k_=>P0_ k_))
 have HW0:=aM hB.size
 have HB:=aM hB
 clear hB
 have H:(Y1.l0 k l0 a1 a2 a3 true true)=some r:=h
 clear h
 have H':=aM H
 clear H
 go_enter Tryd.func107,Tryd.ntmps107
 go_wp2
 go_loopg [1,2,3,10,11] k (fun kq v1 v2 v3 v10 v11 w'=>∃ (x0_1:List (S77)) (x1_1:Int) (x2_1:Int) (x3_1:Int) (x10_1:Bool) (x11_1:Bool),v1 = .int .i64 x1_1∧v2 = .int .i64 x2_1∧v3 = .int .i64 x3_1∧v10 = .bool x10_1∧v11 = .bool x11_1∧Aside0 (Y1.l0 kq x0_1 x1_1 x2_1 x3_1 x10_1 x11_1=some r)∧Aside0 (kq≤k)∧Aside0 (Kd.R k77 77 w' w0.heap.size (fun k_=>(P0_ k_∨w.heap.size≤k_)) u9000_ x0_1)∧Aside0 (Kept w w' (fun k_=>P0_ k_))∧Aside0 (Below w0.heap.size w0 w'))
 case atStart=>exact ⟨(l0),(a1),(a2),(a3),(true),(true),(z2_),(z2_),(z2_),(z2_),(z2_),H',⟨Nat.le_refl _⟩,⟨z1_ HO0.out⟩,⟨z10_ HK.out⟩,⟨z5_ HB.out⟩⟩
 case round =>
  clear H'
  try clear p2
  obtain ⟨x0_1,x1_1,x2_1,x3_1,x10_1,x11_1,rfl,rfl,rfl,rfl,rfl,HA,HK1,HO_0,HK,HB⟩:=hrel
  cases gk with
  | zero=>exact absurd HA.out (by simp [Y1.l0])
  | succ k1 =>
   have H:=HA.out
   clear HA
   simp only [Y1.l0] at H
   by_cases c6:(wrap64 (x2_1-x1_1))≤12
   ·rw [if_pos c6] at H
    have c6b0:decide ((wrap64 (x2_1-x1_1))≤12)=true:=dE c6
    clear c6
    replace H:=bS H
    obtain ⟨t224,A70,H⟩:=H
    replace H:(some t224)=some r:=H
    have A7:=aM A70
    clear A70
    obtain rfl:=sI H
    obtain ⟨Ao8,co8,eo8⟩:=Kd.R_slice HO_0.out
    subst eo8
    go_wp2_with (first | ((with_reducible refine gc_ 122 ?_);refine gl_ (some 30) Tryd.func122 #[.slice Ao8 x0_1.length co8,.int .i64 x1_1,.int .i64 x2_1,.func (.func 78) #[] #[]] ?_;(with_reducible refine (Y2.calls k1 (fun k_=>some k_=(.slice Ao8 x0_1.length co8:Value).ownBlock) (.slice Ao8 x0_1.length co8) x0_1 x1_1 x2_1  t224 w0 _ ?s1 ?s2 A7.out).mono ?_);(case s1=>repeat (first | (with_reducible first | exact HB.out | apply below_alloc | apply pw_below_drewN | apply below_drew1) | exact HB.out));(case s2=>exact Kd.R_tight rfl HO_0.out);rintro e w9 ⟨rfl,hy0,hb,hkp⟩;refine ⟨_,rfl,?_⟩;have n0_:=aM (Kd.R_reok rfl hy0 (fun k_ e_=>HO_0.out.1 k_ e_));have n1_:=aM (Kept.then_ (S:=(fun k_=>P0_ k_)) (z10_ HK.out) hkp (fun k_ hs_=>(fun e_=>(HO_0.out.1 k_ e_.symm)) hs_));have n2_:=aM (hb);clear HO_0;clear HK;clear HB;have HO_0:=n0_;have HK:=n1_;have HB:=n2_;clear n0_ n1_ n2_;(try clear hb);(try clear hkp);(try clear hy0)))
    first | go_end0 | ((try simp only [Exit.inBlock,Exit.then]);refine bodyPost_ret (results_none rfl _ _ _) rfl ?_)
    exact ⟨z9_,z1_ HO_0.out,z5_ HB.out,z10_ HK.out⟩
   ·rw [if_neg c6] at H
    have c6b0:decide ((wrap64 (x2_1-x1_1))≤12)=false:=dF c6
    clear c6
    by_cases c10:x3_1=0
    ·rw [if_pos c10] at H
     have c10b0:(x3_1 == 0)=true:=beq_iff_eq.mpr c10
     have c10b1:(x3_1 != 0)=false:=bne_eq_false_iff_eq.mpr c10
     clear c10
     replace H:=bS H
     obtain ⟨_,A110,H⟩:=H
     replace H:(some x0_1)=some r:=H
     have A11:=aM A110
     clear A110
     obtain rfl:=sI H
     obtain ⟨Ao12,co12,eo12⟩:=Kd.R_slice HO_0.out
     subst eo12
     go_wp2_with (first | ((with_reducible refine gc_ 123 ?_);refine gl_ (some 37) Tryd.func123 #[.slice Ao12 x0_1.length co12,.int .i64 x1_1,.int .i64 x2_1,.func (.func 78) #[] #[]] ?_;(with_reducible refine (Y50.calls _ _ x0_1 x1_1 x2_1   _ ?s1 ?s2 A11.out).mono ?_);(case s1=>repeat (first | exact (Kd.R_reads' HO_0.out).2.2 | (with_reducible refine Kd.C_alloc ?_ _) | (with_reducible refine Kd.C_drewN ?_ _) | (with_reducible refine Kd.C_drew ?_)));(case s2=>exact (Kd.R_reads' HO_0.out).2.1);rintro e w' ⟨rfl,⟨nd,rfl⟩⟩;refine ⟨_,rfl,?_⟩))
     first | go_end0 | ((try simp only [Exit.inBlock,Exit.then]);refine bodyPost_ret (results_none rfl _ _ _) rfl ?_)
     exact ⟨z9_,z1_ HO_0.out,z5_ HB.out,z10_ HK.out⟩
    ·rw [if_neg c10] at H
     have c10b0:(x3_1 == 0)=false:=beq_eq_false_iff_ne.mpr c10
     have c10b1:(x3_1 != 0)=true:=bne_iff_ne.mpr c10
     have HC13:=aM H
     clear H
     go_upto_if 39 with (fail)
     go_cut [3] (fun v3 wc=>∃ (kq:Nat) (x3_12:Int),v3 = .int .i64 x3_12∧Aside0 (Y1.j1 kq x0_1 x1_1 x2_1 x3_12 x10_1 x11_1 (wrap64 (x2_1-x1_1))=some r)∧Aside0 (kq≤k1)∧Aside0 (Kd.R k77 77 wc w0.heap.size (fun k_=>(P0_ k_∨w.heap.size≤k_)) u9000_ x0_1)∧Aside0 (Kept w wc (fun k_=>P0_ k_))∧Aside0 (Below w0.heap.size w0 wc))
     case first =>
      have H:=HC13.out
      clear HC13
      by_cases c14:x10_1=true
      ·subst c14
       have H1:(Y1.j1 k1 x0_1 x1_1 x2_1 x3_1 true x11_1 (wrap64 (x2_1-x1_1)))=some r:=by rw [if_pos rfl] at H;exact H
       clear H
       have H:=H1
       clear H1
       have H':=aM H
       clear H
       go_wp2
       go_meet
       case rel=>exact ⟨_,(x3_1),(z2_),H',⟨z22_ HK1.out⟩,⟨z1_ HO_0.out⟩,⟨z10_ HK.out⟩,⟨z5_ HB.out⟩⟩
      ·replace c14:=Bool.eq_false_iff.mpr c14
       subst c14
       have H1:((Y43.f x0_1 x1_1 x2_1).bind fun _=>(Y1.j1 k1 x0_1 x1_1 x2_1 (wrap64 (x3_1-1)) false x11_1 (wrap64 (x2_1-x1_1))))=some r:=by rw [if_neg (show ¬ (false=true) by decide)] at H;exact H
       clear H
       have H:=H1
       clear H1
       replace H:=bS H
       obtain ⟨_,A150,H⟩:=H
       replace H:(Y1.j1 k1 x0_1 x1_1 x2_1 (wrap64 (x3_1-1)) false x11_1 (wrap64 (x2_1-x1_1)))=some r:=H
       have A15:=aM A150
       clear A150
       have H':=aM H
       clear H
       obtain ⟨Ao16,co16,eo16⟩:=Kd.R_slice HO_0.out
       subst eo16
       go_wp2_with (first | ((with_reducible refine gc_ 124 ?_);refine gl_ (some 44) Tryd.func124 #[.slice Ao16 x0_1.length co16,.int .i64 x1_1,.int .i64 x2_1,.func (.func 78) #[] #[]] ?_;(with_reducible refine (Y43.calls _ _ x0_1 x1_1 x2_1   _ ?s1 ?s2 A15.out).mono ?_);(case s1=>repeat (first | exact (Kd.R_reads' HO_0.out).2.2 | (with_reducible refine Kd.C_alloc ?_ _) | (with_reducible refine Kd.C_drewN ?_ _) | (with_reducible refine Kd.C_drew ?_)));(case s2=>exact (Kd.R_reads' HO_0.out).2.1);rintro e w' ⟨rfl,⟨nd,rfl⟩⟩;refine ⟨_,rfl,?_⟩))
       go_meet
       case rel=>exact ⟨_,(wrap64 (x3_1-1)),(z2_),H',⟨z22_ HK1.out⟩,⟨z1_ HO_0.out⟩,⟨z10_ HK.out⟩,⟨z5_ HB.out⟩⟩
     case rest =>
      clear HC13
      try clear c1
      try clear p2
      try clear c6
      try clear c6b0
      try clear p6
      try clear c7
      try clear c10
      try clear c10b0
      try clear c10b1
      try clear c14
      try clear p2
      obtain ⟨kq,x3_12,rfl,HA,HJ12,HO_0,HK,HB⟩:=hcut
      cases kq with
      | zero=>exact absurd HA.out (by simp [Y1.j1])
      | succ kj12 =>
       have H:=HA.out
       clear HA
       simp only [Y1.j1] at H
       replace H:=bS H
       obtain ⟨⟨t225,t226⟩,A170,H⟩:=H
       replace H:(if t226=2 then ((Y44.f x0_1 x1_1 x2_1).bind fun _=>(Y1.j2 kj12 x0_1 x1_1 x2_1 x3_12 x10_1 x11_1 (wrap64 (x2_1-x1_1)) (wrap64 ((wrap64 (x2_1-1))-(wrap64 (t225-x1_1)))) 1)) else (Y1.j2 kj12 x0_1 x1_1 x2_1 x3_12 x10_1 x11_1 (wrap64 (x2_1-x1_1)) t225 t226))=some r:=H
       have A17:=aM A170
       clear A170
       have HC18:=aM H
       clear H
       obtain ⟨Ao19,co19,eo19⟩:=Kd.R_slice HO_0.out
       subst eo19
       go_upto_if 56 with (first | ((with_reducible refine gc_ 125 ?_);refine gl_ (some 52) Tryd.func125 #[.slice Ao19 x0_1.length co19,.int .i64 x1_1,.int .i64 x2_1,.func (.func 78) #[] #[]] ?_;(with_reducible refine (Y5.calls kj12 _ _ x0_1 x1_1 x2_1  t225 t226 _ ?s1 ?s2 A17.out).mono ?_);(case s1=>repeat (first | exact (Kd.R_reads' HO_0.out).2.2 | (with_reducible refine Kd.C_alloc ?_ _) | (with_reducible refine Kd.C_drewN ?_ _) | (with_reducible refine Kd.C_drew ?_)));(case s2=>exact (Kd.R_reads' HO_0.out).2.1);rintro e w20 ⟨rfl,hb⟩;refine ⟨_,rfl,?_⟩;have n0_:=aM (Kd.R_below (z1_ HO_0.out) hb);have n1_:=aM (Kept.below (S:=(fun k_=>P0_ k_)) (z10_ HK.out) hb);have n2_:=aM (below_step (z5_ HB.out) hb);clear HO_0;clear HK;clear HB;have HO_0:=n0_;have HK:=n1_;have HB:=n2_;clear n0_ n1_ n2_;(try clear hb)))
       (try simp only [Act.put,sa_,s0_,ss_])
       go_cut [13,14] (fun v13 v14 wc=>∃ (kq:Nat) (x13_17:Int) (x14_17:Int),v13 = .int .i64 x13_17∧v14 = .int .i64 x14_17∧Aside0 (Y1.j2 kq x0_1 x1_1 x2_1 x3_12 x10_1 x11_1 (wrap64 (x2_1-x1_1)) x13_17 x14_17=some r)∧Aside0 (kq≤kj12)∧Aside0 (Kd.R k77 77 wc w0.heap.size (fun k_=>(P0_ k_∨w.heap.size≤k_)) (.slice Ao19 x0_1.length co19) x0_1)∧Aside0 (Kept w wc (fun k_=>P0_ k_))∧Aside0 (Below w0.heap.size w0 wc))
       case first =>
        have H:=HC18.out
        clear HC18
        by_cases c21:t226=2
        ·rw [if_pos c21] at H
         have c21b0:(t226 == 2)=true:=beq_iff_eq.mpr c21
         have c21b1:(t226 != 2)=false:=bne_eq_false_iff_eq.mpr c21
         clear c21
         (first | rw [c21b0] | (simp only [i64_w,i32_w];rw [c21b0]) | skip)
         replace H:=bS H
         obtain ⟨_,A220,H⟩:=H
         replace H:(Y1.j2 kj12 x0_1 x1_1 x2_1 x3_12 x10_1 x11_1 (wrap64 (x2_1-x1_1)) (wrap64 ((wrap64 (x2_1-1))-(wrap64 (t225-x1_1)))) 1)=some r:=H
         have A22:=aM A220
         clear A220
         have H':=aM H
         clear H
         go_wp2_with (first | ((with_reducible refine gc_ 126 ?_);refine gl_ (some 61) Tryd.func126 #[.slice Ao19 x0_1.length co19,.int .i64 x1_1,.int .i64 x2_1,.func (.func 78) #[] #[]] ?_;(with_reducible refine (Y44.calls _ _ x0_1 x1_1 x2_1   _ ?s1 ?s2 A22.out).mono ?_);(case s1=>repeat (first | exact (Kd.R_reads' HO_0.out).2.2 | (with_reducible refine Kd.C_alloc ?_ _) | (with_reducible refine Kd.C_drewN ?_ _) | (with_reducible refine Kd.C_drew ?_)));(case s2=>exact (Kd.R_reads' HO_0.out).2.1);rintro e w' ⟨rfl,⟨nd,rfl⟩⟩;refine ⟨_,rfl,?_⟩))
         go_meet
         case rel=>exact ⟨_,(wrap64 ((wrap64 (x2_1-1))-(wrap64 (t225-x1_1)))),(1),(z2_),(z2_),H',⟨by have:=HK1.out;have:=HJ12.out;first | omega | exact Nat.le_refl _⟩,⟨z1_ HO_0.out⟩,⟨z10_ HK.out⟩,⟨z5_ HB.out⟩⟩
        ·rw [if_neg c21] at H
         have c21b0:(t226 == 2)=false:=beq_eq_false_iff_ne.mpr c21
         have c21b1:(t226 != 2)=true:=bne_iff_ne.mpr c21
         (first | rw [c21b0] | (simp only [i64_w,i32_w];rw [c21b0]) | skip)
         have H':=aM H
         clear H
         go_wp2
         go_meet
         case rel=>exact ⟨_,(t225),(t226),(z2_),(z2_),H',⟨by have:=HK1.out;have:=HJ12.out;first | omega | exact Nat.le_refl _⟩,⟨z1_ HO_0.out⟩,⟨z10_ HK.out⟩,⟨z5_ HB.out⟩⟩
       case rest =>
        clear HC18
        try clear c1
        try clear c2
        try clear p2
        try clear c6
        try clear c6b0
        try clear p6
        try clear c7
        try clear c10
        try clear c10b0
        try clear c10b1
        try clear c14
        try clear c21
        try clear c21b0
        try clear c21b1
        try clear p2
        try clear p6
        obtain ⟨kq,x13_17,x14_17,rfl,rfl,HA,HJ17,HO_0,HK,HB⟩:=hcut
        cases kq with
        | zero=>exact absurd HA.out (by simp [Y1.j2])
        | succ kj17 =>
         have H:=HA.out
         clear HA
         simp only [Y1.j2] at H
         have HC23:=aM H
         clear H
         go_upto_region 15 with (fail)
         go_cut [75] (fun v75 wc=>∃ (kq:Nat) (x75_22:Bool),v75 = .bool x75_22∧Aside0 (Y1.j3 kq x0_1 x1_1 x2_1 x3_12 x10_1 x11_1 (wrap64 (x2_1-x1_1)) x13_17 x75_22=some r)∧Aside0 (kq≤kj17)∧Aside0 (Kd.R k77 77 wc w0.heap.size (fun k_=>(P0_ k_∨w.heap.size≤k_)) (.slice Ao19 x0_1.length co19) x0_1)∧Aside0 (Kept w wc (fun k_=>P0_ k_))∧Aside0 (Below w0.heap.size w0 wc))
         case first =>
          have H:=HC23.out
          clear HC23
          by_cases c24:x10_1=true
          ·subst c24
           have H1:(if x11_1=true then (Y1.j3 kj17 x0_1 x1_1 x2_1 x3_12 true x11_1 (wrap64 (x2_1-x1_1)) x13_17 (x14_17 == 1)) else (Y1.j3 kj17 x0_1 x1_1 x2_1 x3_12 true x11_1 (wrap64 (x2_1-x1_1)) x13_17 false))=some r:=by rw [if_pos rfl] at H;exact H
           clear H
           have H:=H1
           clear H1
           by_cases c25:x11_1=true
           ·subst c25
            have H1:(Y1.j3 kj17 x0_1 x1_1 x2_1 x3_12 true true (wrap64 (x2_1-x1_1)) x13_17 (x14_17 == 1))=some r:=by rw [if_pos rfl] at H;exact H
            clear H
            have H:=H1
            clear H1
            have H':=aM H
            clear H
            go_wp2
            go_meet
            case rel=>exact ⟨_,((x14_17 == 1)),(z2_),H',⟨z27_ HK1.out HJ12.out HJ17.out⟩,⟨z1_ HO_0.out⟩,⟨z10_ HK.out⟩,⟨z5_ HB.out⟩⟩
           ·replace c25:=Bool.eq_false_iff.mpr c25
            subst c25
            have H1:(Y1.j3 kj17 x0_1 x1_1 x2_1 x3_12 true false (wrap64 (x2_1-x1_1)) x13_17 false)=some r:=by rw [if_neg (show ¬ (false=true) by decide)] at H;exact H
            clear H
            have H:=H1
            clear H1
            have H':=aM H
            clear H
            go_wp2
            go_meet
            case rel=>exact ⟨_,(false),(z2_),H',⟨z27_ HK1.out HJ12.out HJ17.out⟩,⟨z1_ HO_0.out⟩,⟨z10_ HK.out⟩,⟨z5_ HB.out⟩⟩
          ·replace c24:=Bool.eq_false_iff.mpr c24
           subst c24
           have H1:(Y1.j3 kj17 x0_1 x1_1 x2_1 x3_12 false x11_1 (wrap64 (x2_1-x1_1)) x13_17 false)=some r:=by rw [if_neg (show ¬ (false=true) by decide)] at H;exact H
           clear H
           have H:=H1
           clear H1
           have H':=aM H
           clear H
           go_wp2
           go_meet
           case rel=>exact ⟨_,(false),(z2_),H',⟨z27_ HK1.out HJ12.out HJ17.out⟩,⟨z1_ HO_0.out⟩,⟨z10_ HK.out⟩,⟨z5_ HB.out⟩⟩
         case rest =>
          clear HC23
          try clear c1
          try clear c2
          try clear p2
          try clear c6
          try clear c6b0
          try clear p6
          try clear c7
          try clear c10
          try clear c10b0
          try clear c10b1
          try clear c14
          try clear c21
          try clear c21b0
          try clear c21b1
          try clear c24
          try clear c25
          try clear p2
          try clear p6
          obtain ⟨kq,x75_22,rfl,HA,HJ22,HO_0,HK,HB⟩:=hcut
          cases kq with
          | zero=>exact absurd HA.out (by simp [Y1.j3])
          | succ kj22 =>
           have H:=HA.out
           clear HA
           simp only [Y1.j3] at H
           have HC26:=aM H
           clear H
           go_upto_if 75 with (fail)
           go_cut [] (fun wc=>∃ (kq:Nat),Aside0 (Y1.j4 kq x0_1 x1_1 x2_1 x3_12 x10_1 x11_1 (wrap64 (x2_1-x1_1)) x13_17=some r)∧Aside0 (kq≤kj22)∧Aside0 (Kd.R k77 77 wc w0.heap.size (fun k_=>(P0_ k_∨w.heap.size≤k_)) (.slice Ao19 x0_1.length co19) x0_1)∧Aside0 (Kept w wc (fun k_=>P0_ k_))∧Aside0 (Below w0.heap.size w0 wc))
           case first =>
            have H:=HC26.out
            clear HC26
            by_cases c27:x75_22=true
            ·subst c27
             have H1:((Y35.f x0_1 x1_1 x2_1).bind fun t227=>(if t227=true then (some x0_1) else (Y1.j4 kj22 x0_1 x1_1 x2_1 x3_12 x10_1 x11_1 (wrap64 (x2_1-x1_1)) x13_17)))=some r:=by rw [if_pos rfl] at H;exact H
             clear H
             have H:=H1
             clear H1
             replace H:=bS H
             obtain ⟨t227,A280,H⟩:=H
             replace H:(if t227=true then (some x0_1) else (Y1.j4 kj22 x0_1 x1_1 x2_1 x3_12 x10_1 x11_1 (wrap64 (x2_1-x1_1)) x13_17))=some r:=H
             have A28:=aM A280
             clear A280
             by_cases c29:t227=true
             ·subst c29
              have H1:(some x0_1)=some r:=by rw [if_pos rfl] at H;exact H
              clear H
              have H:=H1
              clear H1
              obtain rfl:=sI H
              go_wp2_with (first | ((with_reducible refine gc_ 127 ?_);refine gl_ (some 80) Tryd.func127 #[.slice Ao19 x0_1.length co19,.int .i64 x1_1,.int .i64 x2_1,.func (.func 78) #[] #[]] ?_;(with_reducible refine (Y35.calls _ _ x0_1 x1_1 x2_1  true _ ?s1 ?s2 A28.out).mono ?_);(case s1=>repeat (first | exact (Kd.R_reads' HO_0.out).2.2 | (with_reducible refine Kd.C_alloc ?_ _) | (with_reducible refine Kd.C_drewN ?_ _) | (with_reducible refine Kd.C_drew ?_)));(case s2=>exact (Kd.R_reads' HO_0.out).2.1);rintro e w' ⟨rfl,⟨nd,rfl⟩⟩;refine ⟨_,rfl,?_⟩))
              first | go_end0 | ((try simp only [Exit.inBlock,Exit.then]);refine bodyPost_ret (results_none rfl _ _ _) rfl ?_)
              exact ⟨z9_,z1_ HO_0.out,z5_ HB.out,z10_ HK.out⟩
             ·replace c29:=Bool.eq_false_iff.mpr c29
              subst c29
              have H1:(Y1.j4 kj22 x0_1 x1_1 x2_1 x3_12 x10_1 x11_1 (wrap64 (x2_1-x1_1)) x13_17)=some r:=by rw [if_neg (show ¬ (false=true) by decide)] at H;exact H
              clear H
              have H:=H1
              clear H1
              have H':=aM H
              clear H
              go_wp2_with (first | ((with_reducible refine gc_ 127 ?_);refine gl_ (some 80) Tryd.func127 #[.slice Ao19 x0_1.length co19,.int .i64 x1_1,.int .i64 x2_1,.func (.func 78) #[] #[]] ?_;(with_reducible refine (Y35.calls _ _ x0_1 x1_1 x2_1  false _ ?s1 ?s2 A28.out).mono ?_);(case s1=>repeat (first | exact (Kd.R_reads' HO_0.out).2.2 | (with_reducible refine Kd.C_alloc ?_ _) | (with_reducible refine Kd.C_drewN ?_ _) | (with_reducible refine Kd.C_drew ?_)));(case s2=>exact (Kd.R_reads' HO_0.out).2.1);rintro e w' ⟨rfl,⟨nd,rfl⟩⟩;refine ⟨_,rfl,?_⟩))
              go_meet
              case rel=>exact ⟨_,H',⟨by have:=HK1.out;have:=HJ12.out;have:=HJ17.out;have:=HJ22.out;first | omega | exact Nat.le_refl _⟩,⟨z1_ HO_0.out⟩,⟨z10_ HK.out⟩,⟨z5_ HB.out⟩⟩
            ·replace c27:=Bool.eq_false_iff.mpr c27
             subst c27
             have H1:(Y1.j4 kj22 x0_1 x1_1 x2_1 x3_12 x10_1 x11_1 (wrap64 (x2_1-x1_1)) x13_17)=some r:=by rw [if_neg (show ¬ (false=true) by decide)] at H;exact H
             clear H
             have H:=H1
             clear H1
             have H':=aM H
             clear H
             go_wp2
             go_meet
             case rel=>exact ⟨_,H',⟨by have:=HK1.out;have:=HJ12.out;have:=HJ17.out;have:=HJ22.out;first | omega | exact Nat.le_refl _⟩,⟨z1_ HO_0.out⟩,⟨z10_ HK.out⟩,⟨z5_ HB.out⟩⟩
           case rest =>
            clear HC26
            try clear c1
            try clear c2
            try clear p2
            try clear c6
            try clear c6b0
            try clear p6
            try clear c7
            try clear c10
            try clear c10b0
            try clear c10b1
            try clear c14
            try clear c21
            try clear c21b0
            try clear c21b1
            try clear c24
            try clear c25
            try clear c27
            try clear c29
            try clear p2
            try clear p6
            obtain ⟨kq,HA,HJ25,HO_0,HK,HB⟩:=hcut
            cases kq with
            | zero=>exact absurd HA.out (by simp [Y1.j4])
            | succ kj25 =>
             have H:=HA.out
             clear HA
             simp only [Y1.j4] at H
             have HC30:=aM H
             clear H
             go_upto_region 17 with (fail)
             go_cut [97] (fun v97 wc=>∃ (kq:Nat) (x97_29:Bool),v97 = .bool x97_29∧Aside0 (Y1.j5 kq x0_1 x1_1 x2_1 x3_12 x10_1 x11_1 (wrap64 (x2_1-x1_1)) x13_17 x97_29=some r)∧Aside0 (kq≤kj25)∧Aside0 (Kd.R k77 77 wc w0.heap.size (fun k_=>(P0_ k_∨w.heap.size≤k_)) (.slice Ao19 x0_1.length co19) x0_1)∧Aside0 (Kept w wc (fun k_=>P0_ k_))∧Aside0 (Below w0.heap.size w0 wc))
             case first =>
              have H:=HC30.out
              clear HC30
              by_cases c31:x1_1>0
              ·rw [if_pos c31] at H
               have c31b0:decide (0<x1_1)=true:=dE c31
               clear c31
               (first | rw [c31b0] | (simp only [i64_w,i32_w];rw [c31b0]) | skip)
               obtain ⟨ji32,hji32⟩:∃ j_:Int,(wrap64 (x1_1-1))=j_:=⟨_,rfl⟩
               replace H:(if 0≤(ji32) then (if (ji32)<(x0_1.length:Int) then (if 0≤x13_17 then (if x13_17<(x0_1.length:Int) then ((Y30.f kj25 ((rd_T77 x0_1 (ji32)).f0) ((rd_T77 x0_1 (ji32)).f1) ((rd_T77 x0_1 x13_17).f0) ((rd_T77 x0_1 x13_17).f1)).bind fun t230=>(Y1.j5 kj25 x0_1 x1_1 x2_1 x3_12 x10_1 x11_1 (wrap64 (x2_1-x1_1)) x13_17 (!(decide (t230<0))))) else (none)) else (none)) else (none)) else (none))=some r:=by first | (rw [hji32] at H;exact H) | (simp only [hji32] at H ⊢;exact H)
               have hji32w:(IntKind.i64.wrap (x1_1-1))=ji32:=(i64_w _).trans hji32
               by_cases c33:0≤(ji32)
               ·rw [if_pos c33] at H
                have c33b0:decide (0≤(ji32))=true:=dE c33
                clear c33
                by_cases c34:(ji32)<(x0_1.length:Int)
                ·rw [if_pos c34] at H
                 have c34b0:decide ((ji32)<(x0_1.length:Int))=true:=dE c34
                 clear c34
                 by_cases c35:0≤x13_17
                 ·rw [if_pos c35] at H
                  have c35b0:decide (0≤x13_17)=true:=dE c35
                  clear c35
                  by_cases c36:x13_17<(x0_1.length:Int)
                  ·rw [if_pos c36] at H
                   have c36b0:decide (x13_17<(x0_1.length:Int))=true:=dE c36
                   clear c36
                   replace H:=bS H
                   obtain ⟨t230,A370,H⟩:=H
                   replace H:(Y1.j5 kj25 x0_1 x1_1 x2_1 x3_12 x10_1 x11_1 (wrap64 (x2_1-x1_1)) x13_17 (!(decide (t230<0))))=some r:=H
                   have A37:=aM A370
                   clear A370
                   have H':=aM H
                   clear H
                   try go_wp2
                   have n0_:=aM (Kd.R_drew HO_0.out)
                   have n1_:=aM (Kept.drew HK.out)
                   have n2_:=aM (below_drew1 HB.out)
                   clear HO_0
                   clear HK
                   clear HB
                   have HO_0:=n0_
                   have HK:=n1_
                   have HB:=n2_
                   clear n0_ n1_ n2_
                   have p228:0≤((ji32):Int):=dT (z0_)
                   have q228:(ji32)<(x0_1.length:Int):=dT (z0_)
                   obtain ⟨ad228,e228,hx228_0,hx228_1⟩:=at_T77 (Kd.R_reads' HO_0.out).2.2 (ji32) p228 q228
                   cases e228
                   replace p228:=eq_true p228
                   replace q228:=eq_true q228
                   have p229:0≤(x13_17:Int):=dT (z0_)
                   have q229:x13_17<(x0_1.length:Int):=dT (z0_)
                   obtain ⟨ad229,e229,hx229_0,hx229_1⟩:=at_T77 (Kd.R_reads' HO_0.out).2.2 x13_17 p229 q229
                   obtain rfl:ad228=ad229:=(by injection e229)
                   replace p229:=eq_true p229
                   replace q229:=eq_true q229
                   refine start_ (n:=17) (S:=fun w'=>w'.cell? (ad228.add (((ji32)).toNat*2))=some (.int .i64 ((rd_T77 x0_1 (ji32)).f0))∧w'.cell? ⟨(ad228.add (((ji32)).toNat*2)).block,(ad228.add (((ji32)).toNat*2)).off+1,none⟩=some (.int .i64 ((rd_T77 x0_1 (ji32)).f1))∧w'.cell? (ad228.add ((x13_17).toNat*2))=some (.int .i64 ((rd_T77 x0_1 x13_17).f0))∧w'.cell? ⟨(ad228.add ((x13_17).toNat*2)).block,(ad228.add ((x13_17).toNat*2)).off+1,none⟩=some (.int .i64 ((rd_T77 x0_1 x13_17).f1))) (ds:=[]) Y1.q0 (by kernel_rfl) rfl rfl ⟨hx228_0,hx228_1,hx229_0,hx229_1⟩ (fun hHeld=>?_);refine with_tabW Y1.tab17 Y1.bits17 (fun HT_ HW_=>?_)
                   generalize wc.drew=w38 at HO_0 HK HB hx228_0 hx228_1 hx229_0 hx229_1 hHeld ⊢
                   refine pu_ 0 81 Y1.q1 HT_.out ?_
                   refine pu_ 1 82 Y1.q2 HT_.out ?_
                   refine pu_ 2 83 Y1.q3 HT_.out ?_
                   refine pu_ 3 84 Y1.q4 HT_.out ?_
                   refine pu_ 4 85 Y1.q5 HT_.out ?_
                   refine pu_ 5 86 Y1.q6 HT_.out ?_
                   refine pu_ 6 87 Y1.q7 HT_.out ?_
                   refine pu_ 7 88 Y1.q8 HT_.out ?_
                   refine pu_ 9 90 #[I,I,I,I,I,I,I,I,O,I,O,O,O,O,O,O,O] HT_.out ?_
                   refine pu_ 10 91 #[I,I,I,I,I,I,I,I,O,I,I,O,O,O,O,O,O] HT_.out ?_
                   refine pu_ 11 92 #[I,I,I,I,I,I,I,I,O,I,I,I,O,O,O,O,O] HT_.out ?_
                   refine tk4_ 8 89 Y1.q9 HT_.out HW_.out hHeld ?_
                   refine tk4_ 12 93 Y1.q10 HT_.out HW_.out hHeld ?_
                   refine o1_ 13 94 Y1.q11 HT_.out (fun K hK=>?_)
                   refine goesD_ Tryd.func78 (by kernel_rfl) rfl #[.agg #[.int .i64 ((rd_T77 x0_1 (ji32)).f0),.int .i64 ((rd_T77 x0_1 (ji32)).f1)],.agg #[.int .i64 ((rd_T77 x0_1 x13_17).f0),.int .i64 ((rd_T77 x0_1 x13_17).f1)]] (by rfl) rfl rfl (by rfl) (by (try simp only [List.map_toArray,List.map_cons,List.map_nil]);first | done | (simp only [hji32];rfl) | rfl | (simp only [List.length_drop,List.length_take];rfl)) ?_
                   with_reducible refine (Y30.calls kj25 ((rd_T77 x0_1 (ji32)).f0) ((rd_T77 x0_1 (ji32)).f1) ((rd_T77 x0_1 x13_17).f0) ((rd_T77 x0_1 x13_17).f1) t230 _ A37.out).mono ?_
                   rintro e w39 ⟨rfl,hb⟩
                   have HS0_:=(hb.cell (World.block_lt_of_cell? _ _ (hHeld.1))).trans (hHeld.1)
                   have HS1_:=(hb.cell (World.block_lt_of_cell? _ _ (hHeld.2.1))).trans (hHeld.2.1)
                   have HS2_:=(hb.cell (World.block_lt_of_cell? _ _ (hHeld.2.2.1))).trans (hHeld.2.2.1)
                   have HS3_:=(hb.cell (World.block_lt_of_cell? _ _ (hHeld.2.2.2))).trans (hHeld.2.2.2)
                   refine ⟨_,rfl,?_⟩
                   have n0_:=aM (Kd.R_below (z1_ HO_0.out) hb)
                   have n1_:=aM (Kept.below (S:=(fun k_=>P0_ k_)) (z10_ HK.out) hb)
                   have n2_:=aM (below_step (z5_ HB.out) hb)
                   clear HO_0
                   clear HK
                   clear HB
                   have HO_0:=n0_
                   have HK:=n1_
                   have HB:=n2_
                   clear n0_ n1_ n2_
                   (try clear hb)
                   refine hK.out _ _ ⟨HS0_,HS1_,HS2_,HS3_⟩ (fun hHeld=>?_)
                   clear hK K
                   refine nm_ 94 ?_
                   refine pu_ 14 95 Y1.q12 HT_.out ?_
                   refine pu_ 15 96 Y1.q13 HT_.out ?_
                   refine pu_ 16 97 Y1.q14 HT_.out ?_
                   refine done_ (done_of HT_.out (by kernel_rfl)) ?_
                   try go_wp2
                   go_meet
                   case rel=>exact ⟨_,(!(decide (t230<0))),(z2_),H',⟨by have:=HK1.out;have:=HJ12.out;have:=HJ17.out;have:=HJ22.out;have:=HJ25.out;first | omega | exact Nat.le_refl _⟩,⟨z1_ HO_0.out⟩,⟨z10_ HK.out⟩,⟨z5_ HB.out⟩⟩
                  ·rw [if_neg c36] at H
                   exact nO H
                 ·rw [if_neg c35] at H
                  exact nO H
                ·rw [if_neg c34] at H
                 exact nO H
               ·rw [if_neg c33] at H
                exact nO H
              ·rw [if_neg c31] at H
               have c31b0:decide (0<x1_1)=false:=dF c31
               clear c31
               (first | rw [c31b0] | (simp only [i64_w,i32_w];rw [c31b0]) | skip)
               have H':=aM H
               clear H
               try go_wp2
               have n0_:=aM (Kd.R_drew HO_0.out)
               have n1_:=aM (Kept.drew HK.out)
               have n2_:=aM (below_drew1 HB.out)
               clear HO_0
               clear HK
               clear HB
               have HO_0:=n0_
               have HK:=n1_
               have HB:=n2_
               clear n0_ n1_ n2_
               refine start_ (n:=17) (S:=fun w'=>True) (ds:=[]) Y1.q0 (by kernel_rfl) rfl rfl trivial (fun hHeld=>?_);refine with_tabW Y1.tab17 Y1.bits17 (fun HT_ HW_=>?_)
               generalize wc.drew=w40 at HO_0 HK HB hHeld ⊢
               refine pu_ 0 81 Y1.q1 HT_.out ?_
               refine pu_ 1 82 Y1.q2 HT_.out ?_
               refine pu_ 2 83 Y1.q3 HT_.out ?_
               refine pn_ 3 84 Y1.q4 HT_.out ?_
               refine pn_ 4 85 Y1.q5 HT_.out ?_
               refine pn_ 5 86 Y1.q6 HT_.out ?_
               refine pn_ 6 87 Y1.q7 HT_.out ?_
               refine pn_ 7 88 Y1.q8 HT_.out ?_
               refine pn_ 8 89 #[I,I,I,I,I,I,I,I,I,O,O,O,O,O,O,O,O] HT_.out ?_
               refine pn_ 9 90 #[I,I,I,I,I,I,I,I,I,I,O,O,O,O,O,O,O] HT_.out ?_
               refine pn_ 10 91 #[I,I,I,I,I,I,I,I,I,I,I,O,O,O,O,O,O] HT_.out ?_
               refine pn_ 11 92 Y1.q9 HT_.out ?_
               refine pn_ 12 93 Y1.q10 HT_.out ?_
               refine pn_ 13 94 Y1.q11 HT_.out ?_
               refine pn_ 14 95 Y1.q12 HT_.out ?_
               refine pn_ 15 96 Y1.q13 HT_.out ?_
               refine pu_ 16 97 Y1.q14 HT_.out ?_
               refine done_ (done_of HT_.out (by kernel_rfl)) ?_
               try go_wp2
               go_meet
               case rel=>exact ⟨_,(false),(z2_),H',⟨by have:=HK1.out;have:=HJ12.out;have:=HJ17.out;have:=HJ22.out;have:=HJ25.out;first | omega | exact Nat.le_refl _⟩,⟨z1_ HO_0.out⟩,⟨z10_ HK.out⟩,⟨z5_ HB.out⟩⟩
             case rest =>
              clear HC30
              try clear c1
              try clear c2
              try clear p2
              try clear q2
              try clear hx2
              try clear c3
              try clear c6
              try clear c6b0
              try clear p6
              try clear c7
              try clear c10
              try clear c10b0
              try clear c10b1
              try clear c14
              try clear c21
              try clear c21b0
              try clear c21b1
              try clear p22
              try clear q22
              try clear hx22
              try clear c24
              try clear c25
              try clear c27
              try clear c29
              try clear c31
              try clear c31b0
              try clear c33
              try clear c33b0
              try clear c34
              try clear c34b0
              try clear c35
              try clear c35b0
              try clear c36
              try clear c36b0
              try clear hx228_0
              try clear hx228_1
              try clear hx229_0
              try clear hx229_1
              try clear p2
              try clear p228
              try clear p229
              try clear p6
              try clear q228
              try clear q229
              obtain ⟨kq,x97_29,rfl,HA,HJ29,HO_0,HK,HB⟩:=hcut
              cases kq with
              | zero=>exact absurd HA.out (by simp [Y1.j5])
              | succ kj29 =>
               have H:=HA.out
               clear HA
               simp only [Y1.j5] at H
               by_cases c41:x97_29=true
               ·subst c41
                have H1:((Y42.f x0_1 x1_1 x2_1 x13_17).bind fun t231=>(Y1.l0 kj29 x0_1 t231 x2_1 x3_12 x10_1 x11_1))=some r:=by rw [if_pos rfl] at H;exact H
                clear H
                have H:=H1
                clear H1
                replace H:=bS H
                obtain ⟨t231,A420,H⟩:=H
                replace H:(Y1.l0 kj29 x0_1 t231 x2_1 x3_12 x10_1 x11_1)=some r:=H
                have A42:=aM A420
                clear A420
                have H':=aM H
                clear H
                go_wp2_with (first | ((with_reducible refine gc_ 128 ?_);refine gl_ (some 103) Tryd.func128 #[.slice Ao19 x0_1.length co19,.int .i64 x1_1,.int .i64 x2_1,.int .i64 x13_17,.func (.func 78) #[] #[]] ?_;(with_reducible refine (Y42.calls _ _ x0_1 x1_1 x2_1 x13_17  t231 _ ?s1 ?s2 A42.out).mono ?_);(case s1=>repeat (first | exact (Kd.R_reads' HO_0.out).2.2 | (with_reducible refine Kd.C_alloc ?_ _) | (with_reducible refine Kd.C_drewN ?_ _) | (with_reducible refine Kd.C_drew ?_)));(case s2=>exact (Kd.R_reads' HO_0.out).2.1);rintro e w' ⟨rfl,⟨nd,rfl⟩⟩;refine ⟨_,rfl,?_⟩))
                go_roundg kj29
                case measure=>have:=HK1.out;have:=HJ12.out;have:=HJ17.out;have:=HJ22.out;have:=HJ25.out;have:=HJ29.out;omega
                case rel=>exact ⟨(x0_1),(t231),(x2_1),(x3_12),(x10_1),(x11_1),(z2_),(z2_),(z2_),(z2_),(z2_),H',⟨by have:=HK1.out;have:=HJ12.out;have:=HJ17.out;have:=HJ22.out;have:=HJ25.out;have:=HJ29.out;omega⟩,⟨z1_ HO_0.out⟩,⟨z10_ HK.out⟩,⟨z5_ HB.out⟩⟩
               ·replace c41:=Bool.eq_false_iff.mpr c41
                subst c41
                have H1:((Y0.f kj29 x0_1 x1_1 x2_1 x13_17).bind fun bt232=>(if (wrap64 (bt232.1-x1_1))<(wrap64 (x2_1-bt232.1)) then ((Y1.f kj29 bt232.2.2 x1_1 bt232.1 x3_12).bind fun t235=>(Y1.l0 kj29 t235 (wrap64 (bt232.1+1)) x2_1 x3_12 (decide ((wrap64 (bt232.1-x1_1))≥(wrap64 (Int.tdiv (wrap64 (x2_1-x1_1)) 8)))) bt232.2.1)) else ((Y1.f kj29 bt232.2.2 (wrap64 (bt232.1+1)) x2_1 x3_12).bind fun t236=>(Y1.l0 kj29 t236 x1_1 bt232.1 x3_12 (decide ((wrap64 (x2_1-bt232.1))≥(wrap64 (Int.tdiv (wrap64 (x2_1-x1_1)) 8)))) bt232.2.1))))=some r:=by rw [if_neg (show ¬ (false=true) by decide)] at H;exact H
                clear H
                have H:=H1
                clear H1
                replace H:=bS H
                obtain ⟨⟨t232,t233,t234⟩,A430,H⟩:=H
                replace H:(if (wrap64 (t232-x1_1))<(wrap64 (x2_1-t232)) then ((Y1.f kj29 t234 x1_1 t232 x3_12).bind fun t235=>(Y1.l0 kj29 t235 (wrap64 (t232+1)) x2_1 x3_12 (decide ((wrap64 (t232-x1_1))≥(wrap64 (Int.tdiv (wrap64 (x2_1-x1_1)) 8)))) t233)) else ((Y1.f kj29 t234 (wrap64 (t232+1)) x2_1 x3_12).bind fun t236=>(Y1.l0 kj29 t236 x1_1 t232 x3_12 (decide ((wrap64 (x2_1-t232))≥(wrap64 (Int.tdiv (wrap64 (x2_1-x1_1)) 8)))) t233)))=some r:=H
                have A43:=aM A430
                clear A430
                by_cases c44:(wrap64 (t232-x1_1))<(wrap64 (x2_1-t232))
                ·rw [if_pos c44] at H
                 have c44b0:decide ((wrap64 (t232-x1_1))<(wrap64 (x2_1-t232)))=true:=dE c44
                 clear c44
                 replace H:=bS H
                 obtain ⟨t235,A450,H⟩:=H
                 replace H:(Y1.l0 kj29 t235 (wrap64 (t232+1)) x2_1 x3_12 (decide ((wrap64 (t232-x1_1))≥(wrap64 (Int.tdiv (wrap64 (x2_1-x1_1)) 8)))) t233)=some r:=H
                 have A45:=aM A450
                 clear A450
                 have H':=aM H
                 clear H
                 go_wp2_with (first | ((with_reducible refine gc_ 129 ?_);refine gl_ (some 111) Tryd.func129 #[.slice Ao19 x0_1.length co19,.int .i64 x1_1,.int .i64 x2_1,.int .i64 x13_17,.func (.func 78) #[] #[]] ?_;(with_reducible refine (Y0.calls kj29 (fun k_=>some k_=(.slice Ao19 x0_1.length co19:Value).ownBlock) (.slice Ao19 x0_1.length co19) x0_1 x1_1 x2_1 x13_17  t232 t233 t234 w0 _ ?s1 ?s2 A43.out).mono ?_);(case s1=>repeat (first | (with_reducible first | exact HB.out | apply below_alloc | apply pw_below_drewN | apply below_drew1) | exact HB.out));(case s2=>exact Kd.R_tight rfl HO_0.out);rintro e w46 ⟨rfl,hy0,hb,hkp⟩;refine ⟨_,rfl,?_⟩;have n0_:=aM (Kd.R_reok rfl hy0 (fun k_ e_=>HO_0.out.1 k_ e_));have n1_:=aM (Kept.then_ (S:=(fun k_=>P0_ k_)) (z10_ HK.out) hkp (fun k_ hs_=>(fun e_=>(HO_0.out.1 k_ e_.symm)) hs_));have n2_:=aM (hb);clear HO_0;clear HK;clear HB;have HO_0:=n0_;have HK:=n1_;have HB:=n2_;clear n0_ n1_ n2_;(try clear hb);(try clear hkp);(try clear hy0)) | ((with_reducible refine gc_ 107 ?_);refine gl_ (some 134) Tryd.func107 #[.slice Ao19 x0_1.length co19,.int .i64 x1_1,.int .i64 t232,.int .i64 x3_12,.func (.func 78) #[] #[]] ?_;(with_reducible refine (ih kj29 (by have:=HK1.out;have:=HJ12.out;have:=HJ17.out;have:=HJ22.out;have:=HJ25.out;have:=HJ29.out;omega) (fun k_=>some k_=(.slice Ao19 x0_1.length co19:Value).ownBlock) (.slice Ao19 x0_1.length co19) t234 x1_1 t232 x3_12  t235 w0 _ ?s1 ?s2 A45.out).mono ?_);(case s1=>repeat (first | (with_reducible first | exact HB.out | apply below_alloc | apply pw_below_drewN | apply below_drew1) | exact HB.out));(case s2=>exact Kd.R_tight rfl HO_0.out);rintro e w47 ⟨rfl,hy0,hb,hkp⟩;refine ⟨_,rfl,?_⟩;have n0_:=aM (Kd.R_reok rfl hy0 (fun k_ e_=>HO_0.out.1 k_ e_));have n1_:=aM (Kept.then_ (S:=(fun k_=>P0_ k_)) (z10_ HK.out) hkp (fun k_ hs_=>(fun e_=>(HO_0.out.1 k_ e_.symm)) hs_));have n2_:=aM (hb);clear HO_0;clear HK;clear HB;have HO_0:=n0_;have HK:=n1_;have HB:=n2_;clear n0_ n1_ n2_;(try clear hb);(try clear hkp);(try clear hy0)))
                 go_roundg kj29
                 case measure=>have:=HK1.out;have:=HJ12.out;have:=HJ17.out;have:=HJ22.out;have:=HJ25.out;have:=HJ29.out;omega
                 case rel=>exact ⟨(t235),(wrap64 (t232+1)),(x2_1),(x3_12),(decide ((wrap64 (t232-x1_1))≥(wrap64 (Int.tdiv (wrap64 (x2_1-x1_1)) 8)))),(t233),(z2_),(z2_),(z2_),(z2_),(z2_),H',⟨by have:=HK1.out;have:=HJ12.out;have:=HJ17.out;have:=HJ22.out;have:=HJ25.out;have:=HJ29.out;omega⟩,⟨z1_ HO_0.out⟩,⟨z10_ HK.out⟩,⟨z5_ HB.out⟩⟩
                ·rw [if_neg c44] at H
                 have c44b0:decide ((wrap64 (t232-x1_1))<(wrap64 (x2_1-t232)))=false:=dF c44
                 clear c44
                 replace H:=bS H
                 obtain ⟨t236,A480,H⟩:=H
                 replace H:(Y1.l0 kj29 t236 x1_1 t232 x3_12 (decide ((wrap64 (x2_1-t232))≥(wrap64 (Int.tdiv (wrap64 (x2_1-x1_1)) 8)))) t233)=some r:=H
                 have A48:=aM A480
                 clear A480
                 have H':=aM H
                 clear H
                 go_wp2_with (first | ((with_reducible refine gc_ 129 ?_);refine gl_ (some 111) Tryd.func129 #[.slice Ao19 x0_1.length co19,.int .i64 x1_1,.int .i64 x2_1,.int .i64 x13_17,.func (.func 78) #[] #[]] ?_;(with_reducible refine (Y0.calls kj29 (fun k_=>some k_=(.slice Ao19 x0_1.length co19:Value).ownBlock) (.slice Ao19 x0_1.length co19) x0_1 x1_1 x2_1 x13_17  t232 t233 t234 w0 _ ?s1 ?s2 A43.out).mono ?_);(case s1=>repeat (first | (with_reducible first | exact HB.out | apply below_alloc | apply pw_below_drewN | apply below_drew1) | exact HB.out));(case s2=>exact Kd.R_tight rfl HO_0.out);rintro e w49 ⟨rfl,hy0,hb,hkp⟩;refine ⟨_,rfl,?_⟩;have n0_:=aM (Kd.R_reok rfl hy0 (fun k_ e_=>HO_0.out.1 k_ e_));have n1_:=aM (Kept.then_ (S:=(fun k_=>P0_ k_)) (z10_ HK.out) hkp (fun k_ hs_=>(fun e_=>(HO_0.out.1 k_ e_.symm)) hs_));have n2_:=aM (hb);clear HO_0;clear HK;clear HB;have HO_0:=n0_;have HK:=n1_;have HB:=n2_;clear n0_ n1_ n2_;(try clear hb);(try clear hkp);(try clear hy0)) | ((with_reducible refine gc_ 107 ?_);refine gl_ (some 146) Tryd.func107 #[.slice Ao19 x0_1.length co19,.int .i64 (wrap64 (t232+1)),.int .i64 x2_1,.int .i64 x3_12,.func (.func 78) #[] #[]] ?_;(with_reducible refine (ih kj29 (by have:=HK1.out;have:=HJ12.out;have:=HJ17.out;have:=HJ22.out;have:=HJ25.out;have:=HJ29.out;omega) (fun k_=>some k_=(.slice Ao19 x0_1.length co19:Value).ownBlock) (.slice Ao19 x0_1.length co19) t234 (wrap64 (t232+1)) x2_1 x3_12  t236 w0 _ ?s1 ?s2 A48.out).mono ?_);(case s1=>repeat (first | (with_reducible first | exact HB.out | apply below_alloc | apply pw_below_drewN | apply below_drew1) | exact HB.out));(case s2=>exact Kd.R_tight rfl HO_0.out);rintro e w50 ⟨rfl,hy0,hb,hkp⟩;refine ⟨_,rfl,?_⟩;have n0_:=aM (Kd.R_reok rfl hy0 (fun k_ e_=>HO_0.out.1 k_ e_));have n1_:=aM (Kept.then_ (S:=(fun k_=>P0_ k_)) (z10_ HK.out) hkp (fun k_ hs_=>(fun e_=>(HO_0.out.1 k_ e_.symm)) hs_));have n2_:=aM (hb);clear HO_0;clear HK;clear HB;have HO_0:=n0_;have HK:=n1_;have HB:=n2_;clear n0_ n1_ n2_;(try clear hb);(try clear hkp);(try clear hy0)))
                 go_roundg kj29
                 case measure=>have:=HK1.out;have:=HJ12.out;have:=HJ17.out;have:=HJ22.out;have:=HJ25.out;have:=HJ29.out;omega
                 case rel=>exact ⟨(t236),(x1_1),(t232),(x3_12),(decide ((wrap64 (x2_1-t232))≥(wrap64 (Int.tdiv (wrap64 (x2_1-x1_1)) 8)))),(t233),(z2_),(z2_),(z2_),(z2_),(z2_),H',⟨by have:=HK1.out;have:=HJ12.out;have:=HJ17.out;have:=HJ22.out;have:=HJ25.out;have:=HJ29.out;omega⟩,⟨z1_ HO_0.out⟩,⟨z10_ HK.out⟩,⟨z5_ HB.out⟩⟩


/-! ### Y27: function 77 -/
def Y27.f (k:Nat) (l0:List (S77))  : Option ((List (S77))):=(Y82.f k (IntKind.u64.wrap ((l0.length:Int)))).bind fun t237=>((Y1.f k l0 0 (l0.length:Int) t237).bind fun t238=>(some t238))
theorem Y27.mono:∀ a0 k,LeO (Y27.f k a0) (Y27.f (k+1) a0):=by
 intro a0 k
 have m0:=@Y82.mono
 have m1:=@Y1.mono
 unfold Y27.f
 exact mO
theorem Y27.calls (k:Nat) (P0_:Nat→Prop) (u9000_:Value) (l0:List (S77))  (r:List (S77)) (w0 w:World) (hB:Below w0.heap.size w0 w) (ho0:Kd.R k77 77 w w0.heap.size P0_ u9000_ l0) (h:Y27.f k l0=some r) :
  Calls Tryd.prog 77 #[u9000_,.func (.func 78) #[] #[]] w fun e w'=>e = .returned (.tuple #[])∧Kd.R k77 77 w' w0.heap.size (fun k_=>(P0_ k_∨w.heap.size≤k_)) u9000_ r∧Below w0.heap.size w0 w'∧Kept w w' (fun k_=>P0_ k_):=by
 have HO0:=aM (show Kd.R k77 77 w w0.heap.size (fun k_=>(P0_ k_∨w.heap.size≤k_)) u9000_ l0 from Kd.R_mono ho0 (fun k_ hk=>(.inl hk)))
 have HK:=aM (Kept.refl w (fun k_=>P0_ k_))
 have HW0:=aM hB.size
 have HB:=aM hB
 clear hB
 have H:((Y82.f k (IntKind.u64.wrap ((l0.length:Int)))).bind fun t237=>((Y1.f k l0 0 (l0.length:Int) t237).bind fun t238=>(some t238)))=some r:=h
 clear h
 replace H:=bS H
 obtain ⟨t237,A30,H⟩:=H
 replace H:((Y1.f k l0 0 (l0.length:Int) t237).bind fun t238=>(some t238))=some r:=H
 have A3:=aM A30
 clear A30
 replace H:=bS H
 obtain ⟨t238,A40,H⟩:=H
 replace H:(some t238)=some r:=H
 have A4:=aM A40
 clear A40
 obtain rfl:=sI H
 obtain ⟨Ao5,co5,eo5⟩:=Kd.R_slice HO0.out
 subst eo5
 go_enter Tryd.func77,Tryd.ntmps77
 go_wp2_with (first | ((with_reducible refine gc_ 108 ?_);refine gl_ (some 11) Tryd.func108 #[.int .u64 (IntKind.u64.wrap ((l0.length:Int)))] ?_;(with_reducible refine (Y82.calls k (IntKind.u64.wrap ((l0.length:Int))) t237 _ A3.out).mono ?_);rintro e w' ⟨rfl,⟨nd,rfl⟩⟩;refine ⟨_,rfl,?_⟩) | ((with_reducible refine gc_ 107 ?_);refine gl_ (some 13) Tryd.func107 #[.slice Ao5 l0.length co5,.int .i64 0,.int .i64 (l0.length:Int),.int .i64 t237,.func (.func 78) #[] #[]] ?_;(with_reducible refine (Y1.calls k (fun k_=>some k_=(.slice Ao5 l0.length co5:Value).ownBlock) (.slice Ao5 l0.length co5) l0 0 (l0.length:Int) t237  t238 w0 _ ?s1 ?s2 A4.out).mono ?_);(case s1=>repeat (first | (with_reducible first | exact HB.out | apply below_alloc | apply pw_below_drewN | apply below_drew1) | exact HB.out));(case s2=>exact Kd.R_tight rfl HO0.out);rintro e w6 ⟨rfl,hy0,hb,hkp⟩;refine ⟨_,rfl,?_⟩;have n0_:=aM (Kd.R_reok rfl hy0 (fun k_ e_=>HO0.out.1 k_ e_));have n1_:=aM (Kept.then_ (S:=(fun k_=>P0_ k_)) (z10_ HK.out) hkp (fun k_ hs_=>(fun e_=>(HO0.out.1 k_ e_.symm)) hs_));have n2_:=aM (hb);clear HO0;clear HK;clear HB;have HO0:=n0_;have HK:=n1_;have HB:=n2_;clear n0_ n1_ n2_;(try clear hb);(try clear hkp);(try clear hy0)))
 first | go_end0 | ((try simp only [Exit.inBlock,Exit.then]);refine bodyPost_ret (results_none rfl _ _ _) rfl ?_)
 exact ⟨z9_,z1_ HO0.out,z5_ HB.out,z10_ HK.out⟩


/-! ### Y24: function 43 -/
mutual
def Y24.l0:Nat→Int→Int→Int→Int→List (S77)→Option (Int × (List (S77)))
 | 0,_,_,_,_,_=>none
 | k+1,x0,x1,x6,x241000,x241001=>if x6≤x0 then (Y24.l1 k x0 x1 x6 1 x241000 x241001) else ((Y27.f k x241001).bind fun t241=>(some (x241000,t241)))
def Y24.l1:Nat→Int→Int→Int→Int→Int→List (S77)→Option (Int × (List (S77)))
 | 0,_,_,_,_,_,_=>none
 | k+1,x0,x1,x6,x7,x241000,x241001=>if x7≤x1 then ((Y71.f k x6).bind fun t242=>(if t242.size+1≤9223372036854775807 then ((Y71.f k x7).bind fun t243=>(if (t242.size+1)+t243.size≤9223372036854775807 then ((Y48.f k ((t242 ++ (⟨#[45]⟩:ByteArray)) ++ t243)).bind fun t244=>(if x241001.length<8796093022208 then (Y24.l1 k x0 x1 x6 (wrap64 (x7+1)) x241000 (x241001 ++ [(⟨t244,x6⟩:S77)])) else (none))) else (none))) else (none))) else (Y24.l0 k x0 x1 (wrap64 (x6+1)) x241000 x241001)
end
def Y24.f (k:Nat) (a0:Int) (a1:Int):Option (Int × (List (S77))):=Y24.l0 k a0 a1 1 a0 ([]:List (S77))
theorem Y24.mono_l:∀ k,(∀ y0 y1 y2 y3 y4,LeO (Y24.l0 k y0 y1 y2 y3 y4) (Y24.l0 (k+1) y0 y1 y2 y3 y4))∧(∀ y0 y1 y2 y3 y4 y5,LeO (Y24.l1 k y0 y1 y2 y3 y4 y5) (Y24.l1 (k+1) y0 y1 y2 y3 y4 y5))
 | 0=>by refine ⟨?_,?_⟩ <;> intros <;> exact LeO.none _
 | k+1=>by
  obtain ⟨ih0,ih1⟩:=Y24.mono_l k
  have m0:=@Y71.mono
  have m1:=@Y48.mono
  have m2:=@Y27.mono
  refine ⟨?_,?_⟩
  ·intros
   unfold Y24.l0
   exact mO
  ·intros
   unfold Y24.l1
   exact mO
theorem Y24.mono:∀ a0 a1 k,LeO (Y24.f k a0 a1) (Y24.f (k+1) a0 a1):=by
 intro a0 a1 k
 have m0:=@Y71.mono
 have m1:=@Y48.mono
 have m2:=@Y27.mono
 obtain ⟨ih0,ih1⟩:=Y24.mono_l k
 unfold Y24.f
 exact mO
def Y24.T8:Bool × List (List Nat × List Nat):=(true,[([],[]),([0],[0]),([],[]),([2],[2]),([3],[3]),([],[]),([5,3],[5]),([4,6],[4,6]),([7,6],[7]),([],[]),([8,9],[8,9]),([10],[10]),([1,11,8],[1,11]),([0,1,2,3,4,5,6,7,8,9,10,11,12],[]),([13,12,12,0,1,2,3,4,5,6,7,8,9,10,11,12],[12,13])])
def Y24.B8:List Nat:=[0,1,0,4,12,0,44,124,252,0,1020,2044,4095,8191,16383]
theorem Y24.tab8:rtab .any (opsOf Tryd.f43 8)=Y24.T8:=by kernel_rfl
theorem Y24.bits8:waitsOk Y24.T8.2 Y24.B8=true:=by kernel_rfl
theorem Y24.calls (k:Nat) (a0:Int) (a1:Int) (r1:Int) (r2:List (S77)) (w:World) (h:Y24.f k a0 a1=some (r1,r2)) :
  Calls Tryd.prog 43 #[.int .i64 a0,.int .i64 a1] w fun e w'=>∃ v1_:Value,e = .returned (.agg #[.int .i64 r1,v1_])∧Kd.R k77 77 w' w.heap.size (fun _=>True) v1_ r2∧Below w.heap.size w w':=by
 have hu24:=Tryd.underlying24
 have hu77:=Tryd.underlying77
 have HB:=aM (Below.refl w.heap.size w)
 have H:(Y24.l0 k a0 a1 1 a0 ([]:List (S77)))=some (r1,r2):=h
 clear h
 have H':=aM H
 clear H
 go_enter Tryd.func43,Tryd.ntmps43
 go_wp2_with (first | ((with_reducible refine gd_ 4 ?_);refine be_ 4 #[.int .i64 0,.slice none 0 0] 24 ?_;intro gb239 hg w3 hbox hb;have n0_:=aM (below_step (z5_ HB.out) hb);have n1_:=aM (hbox);have n2_:=aM ((z8_ HB.out:w.heap.size≤gb239));have n3_:=aM ((z8_ HB.out:w.heap.size≤gb239));clear HB;have HB:=n0_;have BK239:=n1_;have GW239:=n2_;have GE239:=n3_;clear n0_ n1_ n2_ n3_;clear hb hbox hg) | ((with_reducible refine gd_ 5 ?_);refine be_ 5 #[.int .i64 0,.slice none 0 0] 24 ?_;intro gb240 hg w4 hbox hb;have n0_:=aM (blkB_ BK239.out hb);have n1_:=aM (below_step (z7_ HB.out GE239.out) hb);have n2_:=aM (hbox);have n3_:=aM ((z11_ HB.out GE239.out:w.heap.size≤gb240));have n4_:=aM ((z11_ HB.out GE239.out:w.heap.size≤gb240));have n5_:=aM (neL_ BK239.out hg);have n6_:=aM (neG_ BK239.out hg);clear BK239;clear HB;have BK239:=n0_;have HB:=n1_;have BK240:=n2_;have GW240:=n3_;have GE240:=n4_;have NB239_240:=n5_;have NB240_239:=n6_;clear n0_ n1_ n2_ n3_ n4_ n5_ n6_;clear hb hbox hg;have hnb5:=NB240_239.out;have hnc5:=NB239_240.out;have ⟨hcz6_0,hcz6_1,hfz6_0,hfz6_1⟩:=cz2_ BK240.out))
 go_loopg [6] k (fun kq v6 w'=>∃ (x6_1:Int) (x241001_1:List (S77)) (u241001:Value),v6 = .int .i64 x6_1∧Aside0 (Y24.l0 kq a0 a1 x6_1 a0 x241001_1=some (r1,r2))∧Aside0 (kq≤k)∧Aside0 (Kd.R k77 77 w' w.heap.size (fun _=>True) u241001 x241001_1)∧Aside0 (w'.heap[gb239]? = some (.cells #[.int .i64 0,(.slice none 0 0)] 24 (0,0)))∧Aside0 (w'.heap[gb240]? = some (.cells #[.int .i64 a0,u241001] 24 (0,0)))∧Aside0 (Below w.heap.size w w'))
 case atStart=>exact ⟨(1),(([]:List (S77))),(.slice none 0 0),(z2_),H',⟨Nat.le_refl _⟩,⟨z26_⟩,⟨z19_ NB239_240.out BK239.out⟩,⟨z20_ BK240.out⟩,⟨z4_ HB.out GE239.out GE240.out⟩⟩
 case round =>
  clear H'
  try clear p2
  try clear c4
  try clear c5
  try clear hcz6_0
  try clear hcz6_1
  try clear hfz6_0
  try clear hfz6_1
  obtain ⟨x6_1,x241001_1,u241001,rfl,HA,HK1,HO_241001,BK239,BK240,HB⟩:=hrel
  cases gk with
  | zero=>exact absurd HA.out (by simp [Y24.l0])
  | succ k1 =>
   have H:=HA.out
   clear HA
   simp only [Y24.l0] at H
   by_cases c7:x6_1≤a0
   ·rw [if_pos c7] at H
    have c7b0:decide (x6_1≤a0)=true:=dE c7
    clear c7
    have H':=aM H
    clear H
    go_wp2
    go_loopg [7] k1 (fun kq v7 w'=>∃ (x7_2:Int) (x241001_2:List (S77)) (u241001:Value),v7 = .int .i64 x7_2∧Aside0 (Y24.l1 kq a0 a1 x6_1 x7_2 a0 x241001_2=some (r1,r2))∧Aside0 (kq≤k1)∧Aside0 (Kd.R k77 77 w' w.heap.size (fun _=>True) u241001 x241001_2)∧Aside0 (w'.heap[gb239]? = some (.cells #[.int .i64 0,(.slice none 0 0)] 24 (0,0)))∧Aside0 (w'.heap[gb240]? = some (.cells #[.int .i64 a0,u241001] 24 (0,0)))∧Aside0 (Below w.heap.size w w'))
    case atStart=>exact ⟨(1),(x241001_1),(u241001),(z2_),H',⟨Nat.le_refl _⟩,⟨z1_ HO_241001.out⟩,⟨z3_ BK239.out⟩,⟨z3_ BK240.out⟩,⟨z4_ HB.out GE239.out GE240.out⟩⟩
    case round =>
     clear H'
     try clear p2
     try clear c4
     try clear c5
     try clear c7
     try clear c7b0
     try clear hcz6_0
     try clear hcz6_1
     try clear hfz6_0
     try clear hfz6_1
     try clear p2
     obtain ⟨x7_2,x241001_2,u241001,rfl,HA,HK2,HO_241001,BK239,BK240,HB⟩:=hrel
     cases gk with
     | zero=>exact absurd HA.out (by simp [Y24.l1])
     | succ k2 =>
      have H:=HA.out
      clear HA
      simp only [Y24.l1] at H
      by_cases c8:x7_2≤a1
      ·rw [if_pos c8] at H
       have c8b0:decide (x7_2≤a1)=true:=dE c8
       clear c8
       replace H:=bS H
       obtain ⟨t242,A90,H⟩:=H
       replace H:(if t242.size+1≤9223372036854775807 then ((Y71.f k2 x7_2).bind fun t243=>(if (t242.size+1)+t243.size≤9223372036854775807 then ((Y48.f k2 ((t242 ++ (⟨#[45]⟩:ByteArray)) ++ t243)).bind fun t244=>(if x241001_2.length<8796093022208 then (Y24.l1 k2 a0 a1 x6_1 (wrap64 (x7_2+1)) a0 (x241001_2 ++ [(⟨t244,x6_1⟩:S77)])) else (none))) else (none))) else (none))=some (r1,r2):=H
       have A9:=aM A90
       clear A90
       by_cases c10:t242.size+1≤9223372036854775807
       ·rw [if_pos c10] at H
        have c10b0:=eq_true c10
        have c10b1:decide (t242.size+1≤9223372036854775807)=true:=dE c10
        try have c10b2:(9223372036854775807<t242.size+1)=False:=eq_false (Nat.not_lt.2 c10)
        replace H:=bS H
        obtain ⟨t243,A110,H⟩:=H
        replace H:(if (t242.size+1)+t243.size≤9223372036854775807 then ((Y48.f k2 ((t242 ++ (⟨#[45]⟩:ByteArray)) ++ t243)).bind fun t244=>(if x241001_2.length<8796093022208 then (Y24.l1 k2 a0 a1 x6_1 (wrap64 (x7_2+1)) a0 (x241001_2 ++ [(⟨t244,x6_1⟩:S77)])) else (none))) else (none))=some (r1,r2):=H
        have A11:=aM A110
        clear A110
        by_cases c12:(t242.size+1)+t243.size≤9223372036854775807
        ·rw [if_pos c12] at H
         have c12b0:=eq_true c12
         have c12b1:decide ((t242.size+1)+t243.size≤9223372036854775807)=true:=dE c12
         try have c12b2:(9223372036854775807<(t242.size+1)+t243.size)=False:=eq_false (Nat.not_lt.2 c12)
         replace H:=bS H
         obtain ⟨t244,A130,H⟩:=H
         replace H:(if x241001_2.length<8796093022208 then (Y24.l1 k2 a0 a1 x6_1 (wrap64 (x7_2+1)) a0 (x241001_2 ++ [(⟨t244,x6_1⟩:S77)])) else (none))=some (r1,r2):=H
         have A13:=aM A130
         clear A130
         by_cases c14:x241001_2.length<8796093022208
         ·rw [if_pos c14] at H
          have LMc14:=aM c14
          clear c14
          obtain ⟨y245,hy245⟩:∃ y_:List (S77),y_=(x241001_2 ++ [(⟨t244,x6_1⟩:S77)]):=⟨_,rfl⟩
          replace H:(Y24.l1 k2 a0 a1 x6_1 (wrap64 (x7_2+1)) a0 y245)=some (r1,r2):=by first | (rw [hy245];with_reducible exact H) | (have H2_:=(Option.bind_some _ _).symm.trans H;rw [hy245];with_reducible exact H2_) | (have H2_:=(Option.bind_some _ _).symm.trans H;with_reducible exact H2_) | with_reducible exact H | (rw [hy245];exact H) | exact H
          have Ny245:=aM hy245
          clear hy245
          have H':=aM H
          clear H
          try go_wp2
          have n0_:=aM (Kd.R_drew HO_241001.out)
          have n1_:=aM (blk_drew BK239.out)
          have n2_:=aM (blk_drew BK240.out)
          have n3_:=aM (below_drew1 HB.out)
          clear HO_241001
          clear BK239
          clear BK240
          clear HB
          have HO_241001:=n0_
          have BK239:=n1_
          have BK240:=n2_
          have HB:=n3_
          clear n0_ n1_ n2_ n3_
          refine start_ (n:=15) (S:=fun w'=>w'.cell? ⟨gb240,0,none⟩=some (.int .i64 a0)∧w'.cell? ⟨gb240,1,none⟩=some (u241001)) (ds:=[14]) #[O,O,O,O,O,O,O,O,O,O,O,O,O,O,O] (by kernel_rfl) rfl rfl (cc2_ BK240.out) (fun hHeld=>?_);refine with_tabW Y24.tab8 Y24.bits8 (fun HT_ HW_=>?_)
          generalize wr.drew=w15 at HO_241001 BK239 BK240 HB hHeld ⊢
          refine pu_ 0 20 #[I,O,O,O,O,O,O,O,O,O,O,O,O,O,O] HT_.out ?_
          refine pu_ 2 22 #[I,O,I,O,O,O,O,O,O,O,O,O,O,O,O] HT_.out ?_
          refine pu_ 5 25 #[I,O,I,O,O,I,O,O,O,O,O,O,O,O,O] HT_.out ?_
          refine pu_ 9 29 #[I,O,I,O,O,I,O,O,O,I,O,O,O,O,O] HT_.out ?_
          refine tk2_ 1 21 #[I,I,I,O,O,I,O,O,O,I,O,O,O,O,O] HT_.out HW_.out hHeld ?_
          refine o1_ 3 23 #[I,I,I,I,O,I,O,O,O,I,O,O,O,O,O] HT_.out (fun K hK=>?_)
          refine gs_ Tryd.func76 #[.int .i64 x6_1] ?_
          with_reducible refine (Y71.calls k2 x6_1 t242 _ A9.out).mono ?_
          rintro e w' ⟨rfl,⟨nd,rfl⟩⟩
          refine ⟨_,rfl,?_⟩
          refine hK.out _ _ (cc2_ BK240.out) (fun hHeld=>?_)
          clear hK K
          refine nm_ 23 ?_
          refine pu_ 4 24 #[I,I,I,I,I,I,O,O,O,I,O,O,O,O,O] HT_.out ?_
          refine o1_ 6 26 #[I,I,I,I,I,I,I,O,O,I,O,O,O,O,O] HT_.out (fun K hK=>?_)
          refine gs_ Tryd.func76 #[.int .i64 x7_2] ?_
          with_reducible refine (Y71.calls k2 x7_2 t243 _ A11.out).mono ?_
          rintro e w' ⟨rfl,⟨nd,rfl⟩⟩
          refine ⟨_,rfl,?_⟩
          refine hK.out _ _ (cc2_ BK240.out) (fun hHeld=>?_)
          clear hK K
          refine nm_ 26 ?_
          refine pu_ 7 27 #[I,I,I,I,I,I,I,I,O,I,O,O,O,O,O] HT_.out ?_
          refine o1_ 8 28 #[I,I,I,I,I,I,I,I,I,I,O,O,O,O,O] HT_.out (fun K hK=>?_)
          refine gs_ Tryd.func75 #[.string ((t242 ++ (⟨#[45]⟩:ByteArray)) ++ t243)] ?_
          with_reducible refine (Y48.calls k2 ((t242 ++ (⟨#[45]⟩:ByteArray)) ++ t243) t244 _ A13.out).mono ?_
          rintro e w' ⟨rfl,⟨nd,rfl⟩⟩
          refine ⟨_,rfl,?_⟩
          refine hK.out _ _ (cc2_ BK240.out) (fun hHeld=>?_)
          clear hK K
          refine nm_ 28 ?_
          refine pu_ 10 30 #[I,I,I,I,I,I,I,I,I,I,I,O,O,O,O] HT_.out ?_
          refine o1_ 11 31 #[I,I,I,I,I,I,I,I,I,I,I,I,O,O,O] HT_.out (fun K hK=>?_)
          refine value_ (w1:=?_) (v:=?_) (by rfl) rfl ?_ ?_
          rotate_left 2
          ·go_simp
           constructor
           ·rfl
           ·rfl
          refine hK.out _ _ (cc2_ (blk_alloc BK240.out _)) (fun hHeld=>?_)
          clear hK K
          refine nm_ 31 ?_
          refine o1_ 12 32 #[I,I,I,I,I,I,I,I,I,I,I,I,I,O,O] HT_.out (fun K hK=>?_)
          refine Kd.R_append_step k77 (w0:=w) w.heap.size (by rfl) (.tmp 21) (.tmp 31) 22 77 (.agg #[(.int .i64 0),(.int .i64 0)]) 16 rfl Tryd.underlying22 info77 rfl (by decide) (by omega) u241001 x241001_2 (⟨t244,x6_1⟩:S77) [.int .i64 t244,.int .i64 x6_1] (fun _=>True) (fun _=>False) rfl rfl ?aP (fun _ hk=>hk.elim) ?aF ?aO ?aB ?aS ?aL ?_
          (case aP=>exact k77_mkM _ _ _ (⟨t244,x6_1⟩:S77))
          (case aB=>exact (z4_ HB.out GE239.out GE240.out))
          (case aF=>exact (fun _ _=>trivial))
          (case aO=>exact (z1_ HO_241001.out))
          (case aS=>exact (below_size (z4_ HB.out GE239.out GE240.out)))
          (case aL=>have:=LMc14.out;omega)
          intro v246 w16 ho hb hg hat
          rw [← Ny245.out] at ho
          have n0_:=aM (blk_grown (g:=gb239) (o:=.cells #[.int .i64 0,.slice none 0 0] 24 (0,0)) (z3_ BK239.out) hg (Kd.R_ne HO_241001.out BK239.out (by decide)))
          have n1_:=aM (blk_grown (g:=gb240) (o:=.cells #[.int .i64 a0,u241001] 24 (0,0)) (z3_ BK240.out) hg (Kd.R_ne HO_241001.out BK240.out (by decide)))
          have n2_:=aM (hb)
          have n3_:=aM (ho)
          clear BK239
          clear BK240
          clear HB
          clear HO_241001
          have BK239:=n0_
          have BK240:=n1_
          have HB:=n2_
          have HO247:=n3_
          clear n0_ n1_ n2_ n3_
          clear ho hb hg hat
          obtain ⟨Ao17,co17,eo17⟩:=Kd.R_slice HO247.out
          (first | subst eo17 | (injection eo17 with f1_ f2_ f3_;have f4_:=f1_.symm;have f5_:=f3_.symm;clear f1_ f2_ f3_;subst f4_;subst f5_))
          refine hK.out _ _ (cc2_ BK240.out) (fun hHeld=>?_)
          clear hK K
          refine nm_ 32 ?_
          refine pu_ 13 33 #[I,I,I,I,I,I,I,I,I,I,I,I,I,I,O] HT_.out ?_
          refine last_ (i:=14) (N:=none) #[I,I,I,I,I,I,I,I,I,I,I,I,I,I,I] rfl rfl (one_of HT_.out (by kernel_rfl)) (by decide) (fun K hK=>?_)
          have hs18:w16.cell? ⟨gb240,1,none⟩=some (u241001):=(blk_cell BK240.out 1).trans rfl
          have hfs18:=blk_frozen BK240.out 1
          have hns18_0:=NB239_240.out
          have hms18_0:=NB240_239.out
          refine skip_ (w1:=?_) (by rfl) rfl ?_ ?_
          rotate_left
          ·go_simp
           rfl
          refine hK.out _ _ ?_
          clear hK K
          refine done_ (done_of HT_.out (by kernel_rfl)) ?_
          try go_wp2
          go_roundg k2
          case measure=>have:=HK1.out;have:=HK2.out;omega
          case rel=>exact ⟨(wrap64 (x7_2+1)),(y245),(.slice Ao17 y245.length co17),(z2_),H',⟨z15_ HK1.out HK2.out⟩,⟨by (with_reducible repeat (first | apply Kd.R_alloc | apply Kd.R_drewN | apply Kd.R_drew));exact Kd.R_mono (Kd.R_far (p:=⟨gb240,1,none⟩) (Kd.R_types HO247.out BK240.out (by decide)) (fun _ hk=>hk.2) (.slice Ao17 y245.length co17)) (fun _ hk=>trivial)⟩,⟨z44_ NB239_240.out BK239.out⟩,⟨by (with_reducible repeat (first | refine blk_drewN ?_ _ | refine blk_drew ?_ | refine blk_alloc ?_ _));refine blk_put (cs:=#[.int .i64 a0,u241001]) ?_ 1 _ rfl;(with_reducible repeat (first | refine blk_drewN ?_ _ | refine blk_drew ?_ | refine blk_alloc ?_ _));exact BK240.out⟩,⟨z4_ HB.out GE239.out GE240.out⟩⟩
         ·rw [if_neg c14] at H
          exact nO H
        ·rw [if_neg c12] at H
         exact nO H
       ·rw [if_neg c10] at H
        exact nO H
      ·rw [if_neg c8] at H
       have c8b0:decide (x7_2≤a1)=false:=dF c8
       clear c8
       have H':=aM H
       clear H
       go_wp2
       go_roundg k2
       case measure=>have:=HK1.out;have:=HK2.out;omega
       case rel=>exact ⟨(wrap64 (x6_1+1)),(x241001_2),(u241001),(z2_),H',⟨z15_ HK1.out HK2.out⟩,⟨z1_ HO_241001.out⟩,⟨z3_ BK239.out⟩,⟨z3_ BK240.out⟩,⟨z4_ HB.out GE239.out GE240.out⟩⟩
   ·rw [if_neg c7] at H
    have c7b0:decide (x6_1≤a0)=false:=dF c7
    clear c7
    replace H:=bS H
    obtain ⟨t241,A190,H⟩:=H
    replace H:(some (a0,t241))=some (r1,r2):=H
    have A19:=aM A190
    clear A190
    simp only [Option.some.injEq,Prod.mk.injEq] at H
    obtain ⟨rfl,rfl⟩:=H
    have hnb20:=NB240_239.out
    have hnc20:=NB239_240.out
    have ⟨hcz21_0,hcz21_1,hfz21_0,hfz21_1⟩:=cz2_ BK240.out
    obtain ⟨Ao22,co22,eo22⟩:=Kd.R_slice HO_241001.out
    subst eo22
    go_wp2_with (first | ((with_reducible refine gc_ 77 ?_);refine gl_ (some 36) Tryd.func77 #[.slice Ao22 x241001_1.length co22,.func (.func 78) #[] #[]] ?_;(with_reducible refine (Y27.calls k1 (fun k_=>some k_=(.slice Ao22 x241001_1.length co22:Value).ownBlock) (.slice Ao22 x241001_1.length co22) x241001_1  t241 w _ ?s1 ?s2 A19.out).mono ?_);(case s1=>repeat (first | (with_reducible first | exact HB.out | apply below_alloc | apply pw_below_drewN | apply below_drew1 | refine below_set ?_ GE239.out | refine below_set ?_ GE240.out) | exact HB.out));(case s2=>exact Kd.R_tight rfl HO_241001.out);rintro e w23 ⟨rfl,hy0,hb,hkp⟩;refine ⟨_,rfl,?_⟩;have n0_:=aM (Kd.R_reok rfl hy0 (fun k_ e_=>HO_241001.out.1 k_ e_));have n1_:=aM (blk_kept (z3_ BK239.out) hkp (fun hs_=>(fun e_=>(Kd.R_ne HO_241001.out BK239.out (by decide)) e_) hs_));have n2_:=aM (blk_kept (z3_ BK240.out) hkp (fun hs_=>(fun e_=>(Kd.R_ne HO_241001.out BK240.out (by decide)) e_) hs_));have n3_:=aM (hb);clear HO_241001;clear BK239;clear BK240;clear HB;have HO_241001:=n0_;have BK239:=n1_;have BK240:=n2_;have HB:=n3_;clear n0_ n1_ n2_ n3_;(try clear hb);(try clear hkp);(try clear hy0);have ⟨hcz24_0,hcz24_1,hfz24_0,hfz24_1⟩:=cz2_ BK240.out;have ⟨hcz25_0,hcz25_1,hfz25_0,hfz25_1⟩:=cz2_ BK239.out))
    refine bodyPost_ret (results_cell_row rfl _ _ gb239 24 #[.int .i64 a0,.slice Ao22 x241001_1.length co22] (0,0) _ rfl (z20_ BK239.out) Tryd.underlying24 rfl (by kernel_rfl)) rfl ?_
    exact ⟨_,z9_,z36_ HO_241001.out BK239.out,z4_ HB.out GE239.out GE240.out⟩


/-! ### Y58: function 42 -/
def Y58.f (a0:Int) (a1:Int) (a2:Int):Option (Bool):=if a1≤a0 then (some (decide (a0≤a2))) else (some false)
theorem Y58.calls (a0:Int) (a1:Int) (a2:Int) (r:Bool) (w:World) (h:Y58.f a0 a1 a2=some r) :
  Calls Tryd.prog 42 #[.int .i64 a0,.int .i64 a1,.int .i64 a2] w fun e w'=>e = .returned (.bool r)∧Drawn0 w w':=by
 have H:(if a1≤a0 then (some (decide (a0≤a2))) else (some false))=some r:=h
 clear h
 by_cases c4:a1≤a0
 ·rw [if_pos c4] at H
  have c4b0:decide (a1≤a0)=true:=dE c4
  clear c4
  obtain rfl:=sI H
  go_enter Tryd.func42,Tryd.ntmps42
  go_wp2
  go_ret
  exact ⟨z2_,z6_⟩
 ·rw [if_neg c4] at H
  have c4b0:decide (a1≤a0)=false:=dF c4
  clear c4
  obtain rfl:=sI H
  go_enter Tryd.func42,Tryd.ntmps42
  go_wp2
  go_ret
  exact ⟨z2_,z6_⟩


/-! ### Y65: function 41 -/
def Y65.f (a0:Int):Option (Bool):=(Y58.f a0 1 5).bind fun t144=>(some t144)
theorem Y65.calls (a0:Int) (r:Bool) (w:World) (h:Y65.f a0=some r) :
  Calls Tryd.prog 41 #[.int .i64 a0] w fun e w'=>e = .returned (.bool r)∧Drawn0 w w':=by
 have H:((Y58.f a0 1 5).bind fun t144=>(some t144))=some r:=h
 clear h
 replace H:=bS H
 obtain ⟨t144,A20,H⟩:=H
 replace H:(some t144)=some r:=H
 have A2:=aM A20
 clear A20
 obtain rfl:=sI H
 go_enter Tryd.func41,Tryd.ntmps41
 go_wp2_with (first | ((with_reducible refine gc_ 42 ?_);refine gl_ (some 4) Tryd.func42 #[.int .i64 a0,.int .i64 1,.int .i64 5] ?_;(with_reducible refine (Y58.calls a0 1 5 t144 _ A2.out).mono ?_);rintro e w' ⟨rfl,⟨nd,rfl⟩⟩;refine ⟨_,rfl,?_⟩))
 go_ret
 exact ⟨z2_,z6_⟩


theorem eqA77 (d:Nat) (w:World) (x0 y0:Int) (x1 y1:Int) :
  (Op.equalIn (d+2) 77 (.agg #[.int .i64 x0,.int .i64 x1]) (.agg #[.int .i64 y0,.int .i64 y1])).run Tryd.prog w = .ok (x0 == y0 && (x1 == y1)) w:=by
 refine eqA_of Tryd.underlying77 (by kernel_rfl) ?_
 refine eqf_cons (by rfl) (by go_simp;rfl) (by go_simp;rfl) (by go_simp) ?_
 exact eqf_last (by rfl) (by go_simp;rfl) (by go_simp;rfl) (by go_simp)

attribute [local go_sem high] eqA77
/-! ### Y13: function 82 -/
def Y13.l0:Nat→List (S77)→List (S77)→Int→Int→Option (Bool)
 | 0,_,_,_,_=>none
 | k+1,x0,x1,x12,x13=>if x13<x12 then (if 0≤x13 then (if x13<(x0.length:Int) then (if x13<(x1.length:Int) then (if (!(((rd_T77 x0 x13).f0) == ((rd_T77 x1 x13).f0)) || (!(((rd_T77 x0 x13).f1) == ((rd_T77 x1 x13).f1))))=true then (some false) else (Y13.l0 k x0 x1 x12 (wrap64 (x13+1)))) else (none)) else (none)) else (none)) else (some true)
def Y13.f (k:Nat) (l0:List (S77)) (l1:List (S77)):Option (Bool):=if (l0.length:Int)=(l1.length:Int) then (Y13.l0 k l0 l1 (l0.length:Int) 0) else (some false)
theorem Y13.mono_l:∀ k,(∀ y0 y1 y2 y3,LeO (Y13.l0 k y0 y1 y2 y3) (Y13.l0 (k+1) y0 y1 y2 y3))
 | 0=>by intros <;> exact LeO.none _
 | k+1=>by
  have ih0:=Y13.mono_l k
  ·intros
   unfold Y13.l0
   exact mO
theorem Y13.mono:∀ a0 a1 k,LeO (Y13.f k a0 a1) (Y13.f (k+1) a0 a1):=by
 intro a0 a1 k
 have ih0:=Y13.mono_l k
 unfold Y13.f
 exact mO
theorem Y13.calls (k:Nat) (A0:Option Addr) (c0:Nat) (l0:List (S77)) (A1:Option Addr) (c1:Nat) (l1:List (S77)) (r:Bool) (w:World) (hr0:Kd.C k77 w A0 l0.length l0) (hc0:l0.length≤c0) (hr1:Kd.C k77 w A1 l1.length l1) (hc1:l1.length≤c1) (h:Y13.f k l0 l1=some r) :
  Calls Tryd.prog 82 #[.slice A0 l0.length c0,.slice A1 l1.length c1] w fun e w'=>e = .returned (.bool r)∧Drawn0 w w':=by
 have hu77:=Tryd.underlying77
 have HR0:=aM hr0
 have HC0:=aM hc0
 clear hr0 hc0
 have HR1:=aM hr1
 have HC1:=aM hc1
 clear hr1 hc1
 have H:(if (l0.length:Int)=(l1.length:Int) then (Y13.l0 k l0 l1 (l0.length:Int) 0) else (some false))=some r:=h
 clear h
 by_cases c3:(l0.length:Int)=(l1.length:Int)
 ·rw [if_pos c3] at H
  have c3b0:((l0.length:Int) == (l1.length:Int))=true:=beq_iff_eq.mpr c3
  have c3b1:((l0.length:Int) != (l1.length:Int))=false:=bne_eq_false_iff_eq.mpr c3
  have c3b2:(l0.length == l1.length)=true:=by first | simpa using c3 | (simp at c3 ⊢;omega)
  clear c3
  have H':=aM H
  clear H
  go_enter Tryd.func82,Tryd.ntmps82
  go_wp2
  repeat (go_quiet (fail);try go_wp2)
  go_loopg [13] k (fun kq v13 w'=>∃ (x13_1:Int),v13 = .int .i64 x13_1∧Aside0 (Y13.l0 kq l0 l1 (l0.length:Int) x13_1=some r)∧Aside0 (kq≤k)∧Drawn0 w w')
  case atStart=>exact ⟨(0),(z2_),H',⟨Nat.le_refl _⟩,z6_⟩
  case round =>
   clear H'
   try clear c1
   try clear p2
   try clear c3
   try clear c3b0
   try clear c3b1
   try clear c3b2
   obtain ⟨x13_1,rfl,HA,HK1,⟨m1,rfl⟩⟩:=hrel
   cases gk with
   | zero=>exact absurd HA.out (by simp [Y13.l0])
   | succ k1 =>
    have H:=HA.out
    clear HA
    simp only [Y13.l0] at H
    by_cases c4:x13_1<(l0.length:Int)
    ·rw [if_pos c4] at H
     have c4b0:decide (x13_1<(l0.length:Int))=true:=dE c4
     clear c4
     by_cases c5:0≤x13_1
     ·rw [if_pos c5] at H
      have c5b0:decide (0≤x13_1)=true:=dE c5
      clear c5
      by_cases c6:x13_1<(l0.length:Int)
      ·rw [if_pos c6] at H
       have c6b0:decide (x13_1<(l0.length:Int))=true:=dE c6
       clear c6
       by_cases c7:x13_1<(l1.length:Int)
       ·rw [if_pos c7] at H
        have c7b0:decide (x13_1<(l1.length:Int))=true:=dE c7
        clear c7
        by_cases c8:(!(((rd_T77 l0 x13_1).f0) == ((rd_T77 l1 x13_1).f0)) || (!(((rd_T77 l0 x13_1).f1) == ((rd_T77 l1 x13_1).f1))))=true
        ·rw [if_pos c8] at H
         have c8b0:(!(((rd_T77 l0 x13_1).f0) == ((rd_T77 l1 x13_1).f0)) || (!(((rd_T77 l0 x13_1).f1) == ((rd_T77 l1 x13_1).f1))))=true:=c8
         clear c8
         obtain rfl:=sI H
         have p355:0≤(x13_1:Int):=dT (z0_)
         have q355:x13_1<(l0.length:Int):=dT (z0_)
         obtain ⟨ad355,e355,hx355_0,hx355_1⟩:=at_T77 HR0.out x13_1 p355 q355
         cases e355
         replace p355:=eq_true p355
         replace q355:=eq_true q355
         have p356:0≤(x13_1:Int):=dT (z0_)
         have q356:x13_1<(l1.length:Int):=dT (z0_)
         obtain ⟨ad356,e356,hx356_0,hx356_1⟩:=at_T77 HR1.out x13_1 p356 q356
         cases e356
         replace p356:=eq_true p356
         replace q356:=eq_true q356
         go_wp2
         repeat (go_quiet (fail);try go_wp2)
         go_ret
         exact ⟨z2_,z6_⟩
        ·rw [if_neg c8] at H
         have c8b0:(!(((rd_T77 l0 x13_1).f0) == ((rd_T77 l1 x13_1).f0)) || (!(((rd_T77 l0 x13_1).f1) == ((rd_T77 l1 x13_1).f1))))=false:=by simpa using c8
         clear c8
         have H':=aM H
         clear H
         have p355:0≤(x13_1:Int):=dT (z0_)
         have q355:x13_1<(l0.length:Int):=dT (z0_)
         obtain ⟨ad355,e355,hx355_0,hx355_1⟩:=at_T77 HR0.out x13_1 p355 q355
         cases e355
         replace p355:=eq_true p355
         replace q355:=eq_true q355
         have p356:0≤(x13_1:Int):=dT (z0_)
         have q356:x13_1<(l1.length:Int):=dT (z0_)
         obtain ⟨ad356,e356,hx356_0,hx356_1⟩:=at_T77 HR1.out x13_1 p356 q356
         cases e356
         replace p356:=eq_true p356
         replace q356:=eq_true q356
         go_wp2
         repeat (go_quiet (fail);try go_wp2)
         go_roundg k1
         case measure=>have:=HK1.out;omega
         case rel=>exact ⟨(wrap64 (x13_1+1)),(z2_),H',⟨by have:=HK1.out;omega⟩,z6_⟩
       ·rw [if_neg c7] at H
        exact nO H
      ·rw [if_neg c6] at H
       exact nO H
     ·rw [if_neg c5] at H
      exact nO H
    ·rw [if_neg c4] at H
     have c4b0:decide (x13_1<(l0.length:Int))=false:=dF c4
     clear c4
     obtain rfl:=sI H
     go_wp2
     repeat (go_quiet (fail);try go_wp2)
     go_ret
     exact ⟨z2_,z6_⟩
 ·rw [if_neg c3] at H
  have c3b0:((l0.length:Int) == (l1.length:Int))=false:=beq_eq_false_iff_ne.mpr c3
  have c3b1:((l0.length:Int) != (l1.length:Int))=true:=bne_iff_ne.mpr c3
  have c3b2:(l0.length == l1.length)=false:=by first | simpa using c3 | (simp at c3 ⊢;omega)
  obtain rfl:=sI H
  go_enter Tryd.func82,Tryd.ntmps82
  go_wp2
  repeat (go_quiet (fail);try go_wp2)
  go_ret
  exact ⟨z2_,z6_⟩


/-! ### Y16: function 47 -/
def Y16.f (k:Nat) (a0_0:Int) (l0_1:List (S77)):Option (Bool):=(Y65.f a0_0).bind fun t358=>(if t358=true then (if a0_0=0 then (none) else ((Y58.f (wrap64 ((l0_1.length:Int) / a0_0)) 1 8).bind fun t359=>(if t359=true then ((Y24.f k a0_0 (wrap64 ((l0_1.length:Int) / a0_0))).bind fun bt360=>((Y13.f k l0_1 bt360.2).bind fun t364=>(some t364))) else (some false)))) else (some false))
theorem Y16.mono:∀ a0 a1 k,LeO (Y16.f k a0 a1) (Y16.f (k+1) a0 a1):=by
 intro a0 a1 k
 have m0:=@Y24.mono
 have m1:=@Y13.mono
 unfold Y16.f
 exact mO
def Y16.T4:Bool × List (List Nat × List Nat):=(true,[([],[]),([0],[0]),([1,1],[1]),([2],[2]),([3,2],[2,3]),([2],[2]),([5,2],[2,5]),([2],[2]),([6,7,2,2],[2,6,7]),([8,2],[2,8]),([4,9,8,2],[2,4,9]),([2,10],[2,10]),([11,10,0,1,2,3,4,5,6,7,8,9,10,11],[11])])
def Y16.B4:List Nat:=[0,1,3,7,15,7,39,7,231,487,1023,2047,4095]
theorem Y16.tab4:rtab .any (opsOf Tryd.f47 4)=Y16.T4:=by kernel_rfl
theorem Y16.bits4:waitsOk Y16.T4.2 Y16.B4=true:=by kernel_rfl
abbrev Y16.q0:Array Bool:=#[O,O,O,O,O,O,O,O,O,O,O,O,O]
abbrev Y16.q1:Array Bool:=#[I,O,O,O,O,O,O,O,O,O,O,O,O]
abbrev Y16.q2:Array Bool:=#[I,I,O,O,O,O,O,O,O,O,O,O,O]
abbrev Y16.q3:Array Bool:=#[I,I,I,O,O,O,O,O,O,O,O,O,O]
abbrev Y16.q4:Array Bool:=#[I,I,I,I,O,O,O,O,O,O,O,O,O]
abbrev Y16.q5:Array Bool:=#[I,I,I,I,I,I,I,I,O,O,O,O,O]
abbrev Y16.q6:Array Bool:=#[I,I,I,I,I,I,I,I,I,O,O,O,O]
abbrev Y16.q7:Array Bool:=#[I,I,I,I,I,I,I,I,I,I,O,O,O]
abbrev Y16.q8:Array Bool:=#[I,I,I,I,I,I,I,I,I,I,I,O,O]
abbrev Y16.q9:Array Bool:=#[I,I,I,I,I,I,I,I,I,I,I,I,O]
abbrev Y16.q10:Array Bool:=#[I,I,I,I,I,I,I,I,I,I,I,I,I]
theorem Y16.calls (k:Nat) (a0_0:Int) (A0_1:Option Addr) (c0_1:Nat) (l0_1:List (S77)) (r:Bool) (w:World) (hr0_1:Kd.C k77 w A0_1 l0_1.length l0_1) (hc0_1:l0_1.length≤c0_1) (h:Y16.f k a0_0 l0_1=some r) :
  Calls Tryd.prog 47 #[.agg #[.int .i64 a0_0,.slice A0_1 l0_1.length c0_1]] w fun e w'=>e = .returned (.bool r)∧Below w.heap.size w w':=by
 have hu24:=Tryd.underlying24
 have hfd24:∀ (a:Int) (v:Value) (w:World),(Instr.field 24 (.agg #[.int .i64 a,v]) 1).run Tryd.prog w = .ok v w:=fun _ _ _=>by kernel_rfl
 have HR0_1:=aM hr0_1
 have HC0_1:=aM hc0_1
 clear hr0_1 hc0_1
 have HB:=aM (Below.refl w.heap.size w)
 have H:((Y65.f a0_0).bind fun t358=>(if t358=true then (if a0_0=0 then (none) else ((Y58.f (wrap64 ((l0_1.length:Int) / a0_0)) 1 8).bind fun t359=>(if t359=true then ((Y24.f k a0_0 (wrap64 ((l0_1.length:Int) / a0_0))).bind fun bt360=>((Y13.f k l0_1 bt360.2).bind fun t364=>(some t364))) else (some false)))) else (some false)))=some r:=h
 clear h
 replace H:=bS H
 obtain ⟨t358,A20,H⟩:=H
 replace H:(if t358=true then (if a0_0=0 then (none) else ((Y58.f (wrap64 ((l0_1.length:Int) / a0_0)) 1 8).bind fun t359=>(if t359=true then ((Y24.f k a0_0 (wrap64 ((l0_1.length:Int) / a0_0))).bind fun bt360=>((Y13.f k l0_1 bt360.2).bind fun t364=>(some t364))) else (some false)))) else (some false))=some r:=H
 have A2:=aM A20
 clear A20
 by_cases c3:t358=true
 ·subst c3
  have H1:(if a0_0=0 then (none) else ((Y58.f (wrap64 ((l0_1.length:Int) / a0_0)) 1 8).bind fun t359=>(if t359=true then ((Y24.f k a0_0 (wrap64 ((l0_1.length:Int) / a0_0))).bind fun bt360=>((Y13.f k l0_1 bt360.2).bind fun t364=>(some t364))) else (some false))))=some r:=by rw [if_pos rfl] at H;exact H
  clear H
  have H:=H1
  clear H1
  by_cases c4:a0_0=0
  ·rw [if_pos c4] at H
   exact nO H
  ·rw [if_neg c4] at H
   have c4b0:(a0_0 == 0)=false:=beq_eq_false_iff_ne.mpr c4
   have c4b1:(a0_0 != 0)=true:=bne_iff_ne.mpr c4
   replace H:=bS H
   obtain ⟨t359,A50,H⟩:=H
   replace H:(if t359=true then ((Y24.f k a0_0 (wrap64 ((l0_1.length:Int) / a0_0))).bind fun bt360=>((Y13.f k l0_1 bt360.2).bind fun t364=>(some t364))) else (some false))=some r:=H
   have A5:=aM A50
   clear A50
   by_cases c6:t359=true
   ·subst c6
    have H1:((Y24.f k a0_0 (wrap64 ((l0_1.length:Int) / a0_0))).bind fun bt360=>((Y13.f k l0_1 bt360.2).bind fun t364=>(some t364)))=some r:=by rw [if_pos rfl] at H;exact H
    clear H
    have H:=H1
    clear H1
    replace H:=bS H
    obtain ⟨⟨t360,t361⟩,A70,H⟩:=H
    replace H:((Y13.f k l0_1 t361).bind fun t364=>(some t364))=some r:=H
    have A7:=aM A70
    clear A70
    replace H:=bS H
    obtain ⟨t364,A80,H⟩:=H
    replace H:(some t364)=some r:=H
    have A8:=aM A80
    clear A80
    obtain rfl:=sI H
    go_enter Tryd.func47,Tryd.ntmps47
    try go_wp2_with (first | ((with_reducible refine gd_ 1 ?_);refine be_ 1 #[.int .i64 a0_0,.slice A0_1 l0_1.length c0_1] 24 ?_;intro gb357 hg w9 hbox hb;have n0_:=aM (below_step (z5_ HB.out) hb);have n1_:=aM (hbox);have n2_:=aM ((z8_ HB.out:w.heap.size≤gb357));have n3_:=aM ((z8_ HB.out:w.heap.size≤gb357));clear HB;have HB:=n0_;have BK357:=n1_;have GW357:=n2_;have GE357:=n3_;clear n0_ n1_ n2_ n3_;clear hb hbox hg;have ⟨hcz10_0,hcz10_1,hfz10_0,hfz10_1⟩:=cz2_ BK357.out) | ((with_reducible refine gc_ 41 ?_);refine gl_ (some 6) Tryd.func41 #[.int .i64 a0_0] ?_;(with_reducible refine (Y65.calls a0_0 true _ A2.out).mono ?_);rintro e w' ⟨rfl,⟨nd,rfl⟩⟩;refine ⟨_,rfl,?_⟩))
    (try (rw [drewN_self w9];generalize hq_:World.drewN w9 _=w9;have n0_:Aside0 (w9.heap[gb357]? = some (.cells #[.int .i64 a0_0,.slice A0_1 l0_1.length c0_1] 24 (0,0))):=⟨by rw [← hq_];exact (by (with_reducible repeat (first | refine blk_drewN ?_ _ | refine blk_drew ?_ | refine blk_alloc ?_ _));exact BK357.out)⟩;have n1_:Aside0 (Below w.heap.size w w9):=⟨by rw [← hq_];exact (by repeat (first | (with_reducible first | exact HB.out | apply below_alloc | apply pw_below_drewN | apply below_drew1 | refine below_set ?_ GE357.out) | exact HB.out))⟩;clear BK357 HB hq_;have BK357:=n0_;have HB:=n1_;clear n0_ n1_))
    have n0_:=aM (blk_drew BK357.out)
    have n1_:=aM (below_drew1 HB.out)
    clear BK357
    clear HB
    have BK357:=n0_
    have HB:=n1_
    clear n0_ n1_
    refine start_ (n:=13) (S:=fun w'=>w'.cell? ⟨gb357,0,none⟩=some (.int .i64 a0_0)∧w'.cell? ⟨gb357,1,none⟩=some (.slice A0_1 l0_1.length c0_1)) (ds:=[]) Y16.q0 (by kernel_rfl) rfl rfl (cc2_ BK357.out) (fun hHeld=>?_);refine with_tabW Y16.tab4 Y16.bits4 (fun HT_ HW_=>?_)
    generalize w9.drew=w11 at BK357 HB hHeld ⊢
    refine pu_ 0 14 Y16.q1 HT_.out ?_
    refine o1_ 1 15 Y16.q2 HT_.out (fun K hK=>?_)
    refine gs_ Tryd.func42 #[.int .i64 (wrap64 ((l0_1.length:Int) / a0_0)),.int .i64 1,.int .i64 8] ?_
    with_reducible refine (Y58.calls (wrap64 ((l0_1.length:Int) / a0_0)) 1 8 true _ A5.out).mono ?_
    rintro e w' ⟨rfl,⟨nd,rfl⟩⟩
    refine ⟨_,rfl,?_⟩
    refine hK.out _ _ (cc2_ BK357.out) (fun hHeld=>?_)
    clear hK K
    refine nm_ 15 ?_
    refine pu_ 2 16 Y16.q3 HT_.out ?_
    refine pu_ 3 17 Y16.q4 HT_.out ?_
    refine pu_ 5 19 #[I,I,I,I,O,I,O,O,O,O,O,O,O] HT_.out ?_
    refine pu_ 7 21 #[I,I,I,I,O,I,O,I,O,O,O,O,O] HT_.out ?_
    refine tk2_ 4 18 #[I,I,I,I,I,I,O,I,O,O,O,O,O] HT_.out HW_.out hHeld ?_
    refine tk2_ 6 20 Y16.q5 HT_.out HW_.out hHeld ?_
    refine o1_ 8 22 Y16.q6 HT_.out (fun K hK=>?_)
    refine gs_ Tryd.func43 #[.int .i64 a0_0,.int .i64 (wrap64 ((l0_1.length:Int) / a0_0))] ?_
    with_reducible refine (Y24.calls k a0_0 (wrap64 ((l0_1.length:Int) / a0_0)) t360 t361 _ A7.out).mono ?_
    rintro e w12 ⟨v362,rfl,ho0,hb⟩
    refine ⟨_,rfl,?_⟩
    have n0_:=aM (Kd.R_lower ho0 (below_size (z7_ HB.out GE357.out)))
    have n1_:=aM (blkB_ BK357.out hb)
    have n2_:=aM (below_step (z7_ HB.out GE357.out) hb)
    clear BK357
    clear HB
    have HO363:=n0_
    have BK357:=n1_
    have HB:=n2_
    clear n0_ n1_ n2_
    (try clear hb)
    (try clear ho0)
    obtain ⟨Ao13,co13,eo13⟩:=Kd.R_slice HO363.out
    (first | subst eo13 | (injection eo13 with f1_ f2_ f3_;have f4_:=f1_.symm;have f5_:=f3_.symm;clear f1_ f2_ f3_;subst f4_;subst f5_))
    refine hK.out _ _ (cc2_ BK357.out) (fun hHeld=>?_)
    clear hK K
    refine nm_ 22 ?_
    refine pu_ 9 23 Y16.q7 HT_.out ?_
    refine o1_ 10 24 Y16.q8 HT_.out (fun K hK=>?_)
    refine gs_ Tryd.func82 #[.slice A0_1 l0_1.length c0_1,.slice Ao13 t361.length co13] ?_
    with_reducible refine (Y13.calls k _ _ l0_1 _ _ t361 t364 _ ?s1 ?s2 ?s3 ?s4 A8.out).mono ?_
    (case s1=>repeat (first | exact (Kd.C_below HR0_1.out HB.out) | (with_reducible refine Kd.C_alloc ?_ _) | (with_reducible refine Kd.C_drewN ?_ _) | (with_reducible refine Kd.C_drew ?_)))
    (case s2=>exact HC0_1.out)
    (case s3=>repeat (first | exact (Kd.R_reads' HO363.out).2.2 | (with_reducible refine Kd.C_alloc ?_ _) | (with_reducible refine Kd.C_drewN ?_ _) | (with_reducible refine Kd.C_drew ?_)))
    (case s4=>exact (Kd.R_reads' HO363.out).2.1)
    rintro e w' ⟨rfl,⟨nd,rfl⟩⟩
    refine ⟨_,rfl,?_⟩
    refine hK.out _ _ (cc2_ BK357.out) (fun hHeld=>?_)
    clear hK K
    refine nm_ 24 ?_
    refine pu_ 11 25 Y16.q9 HT_.out ?_
    refine pu_ 12 2 Y16.q10 HT_.out ?_
    refine done_ (done_of HT_.out (by kernel_rfl)) ?_
    try go_wp2
    go_ret
    exact ⟨z9_,z7_ HB.out GE357.out⟩
   ·replace c6:=Bool.eq_false_iff.mpr c6
    subst c6
    have H1:(some false)=some r:=by rw [if_neg (show ¬ (false=true) by decide)] at H;exact H
    clear H
    have H:=H1
    clear H1
    obtain rfl:=sI H
    go_enter Tryd.func47,Tryd.ntmps47
    try go_wp2_with (first | ((with_reducible refine gd_ 1 ?_);refine be_ 1 #[.int .i64 a0_0,.slice A0_1 l0_1.length c0_1] 24 ?_;intro gb357 hg w14 hbox hb;have n0_:=aM (below_step (z5_ HB.out) hb);have n1_:=aM (hbox);have n2_:=aM ((z8_ HB.out:w.heap.size≤gb357));have n3_:=aM ((z8_ HB.out:w.heap.size≤gb357));clear HB;have HB:=n0_;have BK357:=n1_;have GW357:=n2_;have GE357:=n3_;clear n0_ n1_ n2_ n3_;clear hb hbox hg;have ⟨hcz15_0,hcz15_1,hfz15_0,hfz15_1⟩:=cz2_ BK357.out) | ((with_reducible refine gc_ 41 ?_);refine gl_ (some 6) Tryd.func41 #[.int .i64 a0_0] ?_;(with_reducible refine (Y65.calls a0_0 true _ A2.out).mono ?_);rintro e w' ⟨rfl,⟨nd,rfl⟩⟩;refine ⟨_,rfl,?_⟩))
    (try (rw [drewN_self w14];generalize hq_:World.drewN w14 _=w14;have n0_:Aside0 (w14.heap[gb357]? = some (.cells #[.int .i64 a0_0,.slice A0_1 l0_1.length c0_1] 24 (0,0))):=⟨by rw [← hq_];exact (by (with_reducible repeat (first | refine blk_drewN ?_ _ | refine blk_drew ?_ | refine blk_alloc ?_ _));exact BK357.out)⟩;have n1_:Aside0 (Below w.heap.size w w14):=⟨by rw [← hq_];exact (by repeat (first | (with_reducible first | exact HB.out | apply below_alloc | apply pw_below_drewN | apply below_drew1 | refine below_set ?_ GE357.out) | exact HB.out))⟩;clear BK357 HB hq_;have BK357:=n0_;have HB:=n1_;clear n0_ n1_))
    have n0_:=aM (blk_drew BK357.out)
    have n1_:=aM (below_drew1 HB.out)
    clear BK357
    clear HB
    have BK357:=n0_
    have HB:=n1_
    clear n0_ n1_
    refine start_ (n:=13) (S:=fun w'=>True) (ds:=[]) Y16.q0 (by kernel_rfl) rfl rfl trivial (fun hHeld=>?_);refine with_tabW Y16.tab4 Y16.bits4 (fun HT_ HW_=>?_)
    generalize w14.drew=w16 at BK357 HB hHeld ⊢
    refine pu_ 0 14 Y16.q1 HT_.out ?_
    refine o1_ 1 15 Y16.q2 HT_.out (fun K hK=>?_)
    refine gs_ Tryd.func42 #[.int .i64 (wrap64 ((l0_1.length:Int) / a0_0)),.int .i64 1,.int .i64 8] ?_
    with_reducible refine (Y58.calls (wrap64 ((l0_1.length:Int) / a0_0)) 1 8 false _ A5.out).mono ?_
    rintro e w' ⟨rfl,⟨nd,rfl⟩⟩
    refine ⟨_,rfl,?_⟩
    refine hK.out _ _ trivial (fun hHeld=>?_)
    clear hK K
    refine nm_ 15 ?_
    refine pu_ 2 16 Y16.q3 HT_.out ?_
    refine pn_ 3 17 Y16.q4 HT_.out ?_
    refine pn_ 4 18 #[I,I,I,I,I,O,O,O,O,O,O,O,O] HT_.out ?_
    refine pn_ 5 19 #[I,I,I,I,I,I,O,O,O,O,O,O,O] HT_.out ?_
    refine pn_ 6 20 #[I,I,I,I,I,I,I,O,O,O,O,O,O] HT_.out ?_
    refine pn_ 7 21 Y16.q5 HT_.out ?_
    refine pn_ 8 22 Y16.q6 HT_.out ?_
    refine pn_ 9 23 Y16.q7 HT_.out ?_
    refine pn_ 10 24 Y16.q8 HT_.out ?_
    refine pu_ 11 25 Y16.q9 HT_.out ?_
    refine pu_ 12 2 Y16.q10 HT_.out ?_
    refine done_ (done_of HT_.out (by kernel_rfl)) ?_
    try go_wp2
    go_ret
    exact ⟨z9_,z7_ HB.out GE357.out⟩
 ·replace c3:=Bool.eq_false_iff.mpr c3
  subst c3
  have H1:(some false)=some r:=by rw [if_neg (show ¬ (false=true) by decide)] at H;exact H
  clear H
  have H:=H1
  clear H1
  obtain rfl:=sI H
  go_enter Tryd.func47,Tryd.ntmps47
  go_wp2_with (first | ((with_reducible refine gd_ 1 ?_);refine be_ 1 #[.int .i64 a0_0,.slice A0_1 l0_1.length c0_1] 24 ?_;intro gb357 hg w17 hbox hb;have n0_:=aM (below_step (z5_ HB.out) hb);have n1_:=aM (hbox);have n2_:=aM ((z8_ HB.out:w.heap.size≤gb357));have n3_:=aM ((z8_ HB.out:w.heap.size≤gb357));clear HB;have HB:=n0_;have BK357:=n1_;have GW357:=n2_;have GE357:=n3_;clear n0_ n1_ n2_ n3_;clear hb hbox hg;have ⟨hcz18_0,hcz18_1,hfz18_0,hfz18_1⟩:=cz2_ BK357.out) | ((with_reducible refine gc_ 41 ?_);refine gl_ (some 6) Tryd.func41 #[.int .i64 a0_0] ?_;(with_reducible refine (Y65.calls a0_0 false _ A2.out).mono ?_);rintro e w' ⟨rfl,⟨nd,rfl⟩⟩;refine ⟨_,rfl,?_⟩))
  go_ret
  exact ⟨z9_,z7_ HB.out GE357.out⟩


/-! ### Y46: function 14 -/
def Y46.f (k:Nat) (a0_0:Int) (l0_1:List (S77)):Option (Int × (List (S77)) × Int):=(Y16.f k a0_0 l0_1).bind fun t367=>(if t367=true then (if a0_0=5 then (some (0,([]:List (S77)),9)) else (if a0_0=0 then (none) else ((Y24.f k (wrap64 (a0_0+1)) (wrap64 ((l0_1.length:Int) / a0_0))).bind fun bt368=>(some (bt368.1,bt368.2,0))))) else (some (0,([]:List (S77)),1)))
theorem Y46.mono:∀ a0 a1 k,LeO (Y46.f k a0 a1) (Y46.f (k+1) a0 a1):=by
 intro a0 a1 k
 have m0:=@Y16.mono
 have m1:=@Y24.mono
 unfold Y46.f
 exact mO
def Y46.T5:Bool × List (List Nat × List Nat):=(true,[([],[]),([0],[0]),([1],[1]),([],[]),([3],[3]),([4],[4]),([],[]),([6],[6]),([5,7],[5,7]),([2,8],[2,8]),([9],[9]),([10,9,0,1,2,3,4,5,6,7,8,9,10],[10])])
def Y46.B5:List Nat:=[0,1,3,0,8,24,0,64,248,511,1023,2047]
theorem Y46.tab5:rtab .any (opsOf Tryd.f14 5)=Y46.T5:=by kernel_rfl
theorem Y46.bits5:waitsOk Y46.T5.2 Y46.B5=true:=by kernel_rfl
theorem Y46.calls (k:Nat) (a0_0:Int) (A0_1:Option Addr) (c0_1:Nat) (l0_1:List (S77)) (r1:Int) (r2:List (S77)) (r3:Int) (w:World) (hr0_1:Kd.C k77 w A0_1 l0_1.length l0_1) (hc0_1:l0_1.length≤c0_1) (h:Y46.f k a0_0 l0_1=some (r1,r2,r3)) :
  Calls Tryd.prog 14 #[.agg #[.int .i64 a0_0,.slice A0_1 l0_1.length c0_1]] w fun e w'=>∃ v1_:Value,e = .returned (.agg #[.int .i64 r1,v1_,.int .i64 r3])∧Kd.R k77 77 w' w.heap.size (fun _=>True) v1_ r2∧Below w.heap.size w w':=by
 have hu24:=Tryd.underlying24
 have hu26:=Tryd.underlying26
 have HR0_1:=aM hr0_1
 have HC0_1:=aM hc0_1
 clear hr0_1 hc0_1
 have HB:=aM (Below.refl w.heap.size w)
 have H:((Y16.f k a0_0 l0_1).bind fun t367=>(if t367=true then (if a0_0=5 then (some (0,([]:List (S77)),9)) else (if a0_0=0 then (none) else ((Y24.f k (wrap64 (a0_0+1)) (wrap64 ((l0_1.length:Int) / a0_0))).bind fun bt368=>(some (bt368.1,bt368.2,0))))) else (some (0,([]:List (S77)),1))))=some (r1,r2,r3):=h
 clear h
 replace H:=bS H
 obtain ⟨t367,A20,H⟩:=H
 replace H:(if t367=true then (if a0_0=5 then (some (0,([]:List (S77)),9)) else (if a0_0=0 then (none) else ((Y24.f k (wrap64 (a0_0+1)) (wrap64 ((l0_1.length:Int) / a0_0))).bind fun bt368=>(some (bt368.1,bt368.2,0))))) else (some (0,([]:List (S77)),1)))=some (r1,r2,r3):=H
 have A2:=aM A20
 clear A20
 by_cases c3:t367=true
 ·subst c3
  have H1:(if a0_0=5 then (some (0,([]:List (S77)),9)) else (if a0_0=0 then (none) else ((Y24.f k (wrap64 (a0_0+1)) (wrap64 ((l0_1.length:Int) / a0_0))).bind fun bt368=>(some (bt368.1,bt368.2,0)))))=some (r1,r2,r3):=by rw [if_pos rfl] at H;exact H
  clear H
  have H:=H1
  clear H1
  by_cases c4:a0_0=5
  ·rw [if_pos c4] at H
   have c4b0:(a0_0 == 5)=true:=beq_iff_eq.mpr c4
   have c4b1:(a0_0 != 5)=false:=bne_eq_false_iff_eq.mpr c4
   clear c4
   simp only [Option.some.injEq,Prod.mk.injEq] at H
   obtain ⟨rfl,rfl,rfl⟩:=H
   go_enter Tryd.func14,Tryd.ntmps14
   go_wp2_with (first | ((with_reducible refine gd_ 1 ?_);refine be_ 1 #[.int .i64 a0_0,.slice A0_1 l0_1.length c0_1] 24 ?_;intro gb365 hg w5 hbox hb;have n0_:=aM (below_step (z5_ HB.out) hb);have n1_:=aM (hbox);have n2_:=aM ((z8_ HB.out:w.heap.size≤gb365));have n3_:=aM ((z8_ HB.out:w.heap.size≤gb365));clear HB;have HB:=n0_;have BK365:=n1_;have GW365:=n2_;have GE365:=n3_;clear n0_ n1_ n2_ n3_;clear hb hbox hg) | ((with_reducible refine gd_ 2 ?_);refine be_ 2 #[.int .i64 0,.slice none 0 0,.int .i64 0] 26 ?_;intro gb366 hg w6 hbox hb;have n0_:=aM (blkB_ BK365.out hb);have n1_:=aM (below_step (z7_ HB.out GE365.out) hb);have n2_:=aM (hbox);have n3_:=aM ((z11_ HB.out GE365.out:w.heap.size≤gb366));have n4_:=aM ((z11_ HB.out GE365.out:w.heap.size≤gb366));have n5_:=aM (neL_ BK365.out hg);have n6_:=aM (neG_ BK365.out hg);clear BK365;clear HB;have BK365:=n0_;have HB:=n1_;have BK366:=n2_;have GW366:=n3_;have GE366:=n4_;have NB365_366:=n5_;have NB366_365:=n6_;clear n0_ n1_ n2_ n3_ n4_ n5_ n6_;clear hb hbox hg;have hnb7:=NB365_366.out;have hnc7:=NB366_365.out;have ⟨hcz8_0,hcz8_1,hfz8_0,hfz8_1⟩:=cz2_ BK365.out) | ((with_reducible refine gc_ 47 ?_);refine gl_ (some 5) Tryd.func47 #[.agg #[.int .i64 a0_0,.slice A0_1 l0_1.length c0_1]] ?_;(with_reducible refine (Y16.calls k a0_0 _ _ l0_1 true _ ?s1 ?s2 A2.out).mono ?_);(case s1=>repeat (first | exact (Kd.C_below HR0_1.out HB.out) | (with_reducible refine Kd.C_alloc ?_ _) | (with_reducible refine Kd.C_drewN ?_ _) | (with_reducible refine Kd.C_drew ?_)));(case s2=>exact HC0_1.out);rintro e w9 ⟨rfl,hb⟩;refine ⟨_,rfl,?_⟩;have n0_:=aM (blkB_ BK365.out hb);have n1_:=aM (blkB_ BK366.out hb);have n2_:=aM (below_step (z4_ HB.out GE365.out GE366.out) hb);clear BK365;clear BK366;clear HB;have BK365:=n0_;have BK366:=n1_;have HB:=n2_;clear n0_ n1_ n2_;(try clear hb);have ⟨hcz10_0,hcz10_1,hfz10_0,hfz10_1⟩:=cz2_ BK365.out;have ⟨hcz11_0,hcz11_1,hcz11_2,hfz11_0,hfz11_1,hfz11_2⟩:=cz3_ BK366.out))
   refine bodyPost_ret (results_cell_row rfl _ _ gb366 26 #[.int .i64 0,.slice none 0 0,.int .i64 9] (0,0) _ rfl (z33_ BK366.out) Tryd.underlying26 rfl (by kernel_rfl)) rfl ?_
   exact ⟨_,z9_,z26_,z4_ HB.out GE365.out GE366.out⟩
  ·rw [if_neg c4] at H
   have c4b0:(a0_0 == 5)=false:=beq_eq_false_iff_ne.mpr c4
   have c4b1:(a0_0 != 5)=true:=bne_iff_ne.mpr c4
   by_cases c12:a0_0=0
   ·rw [if_pos c12] at H
    exact nO H
   ·rw [if_neg c12] at H
    have c12b0:(a0_0 == 0)=false:=beq_eq_false_iff_ne.mpr c12
    have c12b1:(a0_0 != 0)=true:=bne_iff_ne.mpr c12
    replace H:=bS H
    obtain ⟨⟨t368,t369⟩,A130,H⟩:=H
    replace H:(some (t368,t369,0))=some (r1,r2,r3):=H
    have A13:=aM A130
    clear A130
    simp only [Option.some.injEq,Prod.mk.injEq] at H
    obtain ⟨rfl,rfl,rfl⟩:=H
    go_enter Tryd.func14,Tryd.ntmps14
    try go_wp2_with (first | ((with_reducible refine gd_ 1 ?_);refine be_ 1 #[.int .i64 a0_0,.slice A0_1 l0_1.length c0_1] 24 ?_;intro gb365 hg w14 hbox hb;have n0_:=aM (below_step (z5_ HB.out) hb);have n1_:=aM (hbox);have n2_:=aM ((z8_ HB.out:w.heap.size≤gb365));have n3_:=aM ((z8_ HB.out:w.heap.size≤gb365));clear HB;have HB:=n0_;have BK365:=n1_;have GW365:=n2_;have GE365:=n3_;clear n0_ n1_ n2_ n3_;clear hb hbox hg) | ((with_reducible refine gd_ 2 ?_);refine be_ 2 #[.int .i64 0,.slice none 0 0,.int .i64 0] 26 ?_;intro gb366 hg w15 hbox hb;have n0_:=aM (blkB_ BK365.out hb);have n1_:=aM (below_step (z7_ HB.out GE365.out) hb);have n2_:=aM (hbox);have n3_:=aM ((z11_ HB.out GE365.out:w.heap.size≤gb366));have n4_:=aM ((z11_ HB.out GE365.out:w.heap.size≤gb366));have n5_:=aM (neL_ BK365.out hg);have n6_:=aM (neG_ BK365.out hg);clear BK365;clear HB;have BK365:=n0_;have HB:=n1_;have BK366:=n2_;have GW366:=n3_;have GE366:=n4_;have NB365_366:=n5_;have NB366_365:=n6_;clear n0_ n1_ n2_ n3_ n4_ n5_ n6_;clear hb hbox hg;have hnb16:=NB365_366.out;have hnc16:=NB366_365.out;have ⟨hcz17_0,hcz17_1,hfz17_0,hfz17_1⟩:=cz2_ BK365.out) | ((with_reducible refine gc_ 47 ?_);refine gl_ (some 5) Tryd.func47 #[.agg #[.int .i64 a0_0,.slice A0_1 l0_1.length c0_1]] ?_;(with_reducible refine (Y16.calls k a0_0 _ _ l0_1 true _ ?s1 ?s2 A2.out).mono ?_);(case s1=>repeat (first | exact (Kd.C_below HR0_1.out HB.out) | (with_reducible refine Kd.C_alloc ?_ _) | (with_reducible refine Kd.C_drewN ?_ _) | (with_reducible refine Kd.C_drew ?_)));(case s2=>exact HC0_1.out);rintro e w18 ⟨rfl,hb⟩;refine ⟨_,rfl,?_⟩;have n0_:=aM (blkB_ BK365.out hb);have n1_:=aM (blkB_ BK366.out hb);have n2_:=aM (below_step (z4_ HB.out GE365.out GE366.out) hb);clear BK365;clear BK366;clear HB;have BK365:=n0_;have BK366:=n1_;have HB:=n2_;clear n0_ n1_ n2_;(try clear hb);have ⟨hcz19_0,hcz19_1,hfz19_0,hfz19_1⟩:=cz2_ BK365.out))
    have n0_:=aM (blk_drew BK365.out)
    have n1_:=aM (blk_drew BK366.out)
    have n2_:=aM (below_drew1 HB.out)
    clear BK365
    clear BK366
    clear HB
    have BK365:=n0_
    have BK366:=n1_
    have HB:=n2_
    clear n0_ n1_ n2_
    refine start_ (n:=12) (S:=fun w'=>w'.cell? ⟨gb365,0,none⟩=some (.int .i64 a0_0)∧w'.cell? ⟨gb365,1,none⟩=some (.slice A0_1 l0_1.length c0_1)) (ds:=[]) #[O,O,O,O,O,O,O,O,O,O,O,O] (by kernel_rfl) rfl rfl (cc2_ BK365.out) (fun hHeld=>?_);refine with_tabW Y46.tab5 Y46.bits5 (fun HT_ HW_=>?_)
    generalize w18.drew=w20 at BK365 BK366 HB hHeld ⊢
    refine pu_ 0 13 #[I,O,O,O,O,O,O,O,O,O,O,O] HT_.out ?_
    refine pu_ 3 16 #[I,O,O,I,O,O,O,O,O,O,O,O] HT_.out ?_
    refine pu_ 6 19 #[I,O,O,I,O,O,I,O,O,O,O,O] HT_.out ?_
    refine tk2_ 1 14 #[I,I,O,I,O,O,I,O,O,O,O,O] HT_.out HW_.out hHeld ?_
    refine pu_ 2 15 #[I,I,I,I,O,O,I,O,O,O,O,O] HT_.out ?_
    refine tk2_ 4 17 #[I,I,I,I,I,O,I,O,O,O,O,O] HT_.out HW_.out hHeld ?_
    refine pu_ 5 18 #[I,I,I,I,I,I,I,O,O,O,O,O] HT_.out ?_
    refine tk2_ 7 20 #[I,I,I,I,I,I,I,I,O,O,O,O] HT_.out HW_.out hHeld ?_
    refine pu_ 8 21 #[I,I,I,I,I,I,I,I,I,O,O,O] HT_.out ?_
    refine o1_ 9 22 #[I,I,I,I,I,I,I,I,I,I,O,O] HT_.out (fun K hK=>?_)
    refine gs_ Tryd.func43 #[.int .i64 (wrap64 (a0_0+1)),.int .i64 (wrap64 ((l0_1.length:Int) / a0_0))] ?_
    with_reducible refine (Y24.calls k (wrap64 (a0_0+1)) (wrap64 ((l0_1.length:Int) / a0_0)) t368 t369 _ A13.out).mono ?_
    rintro e w21 ⟨v370,rfl,ho0,hb⟩
    refine ⟨_,rfl,?_⟩
    have n0_:=aM (Kd.R_lower ho0 (below_size (z4_ HB.out GE365.out GE366.out)))
    have n1_:=aM (blkB_ BK365.out hb)
    have n2_:=aM (blkB_ BK366.out hb)
    have n3_:=aM (below_step (z4_ HB.out GE365.out GE366.out) hb)
    clear BK365
    clear BK366
    clear HB
    have HO371:=n0_
    have BK365:=n1_
    have BK366:=n2_
    have HB:=n3_
    clear n0_ n1_ n2_ n3_
    (try clear hb)
    (try clear ho0)
    obtain ⟨Ao22,co22,eo22⟩:=Kd.R_slice HO371.out
    (first | subst eo22 | (injection eo22 with f1_ f2_ f3_;have f4_:=f1_.symm;have f5_:=f3_.symm;clear f1_ f2_ f3_;subst f4_;subst f5_))
    refine hK.out _ _ (cc2_ BK365.out) (fun hHeld=>?_)
    clear hK K
    refine nm_ 22 ?_
    refine pu_ 10 23 #[I,I,I,I,I,I,I,I,I,I,I,O] HT_.out ?_
    refine one_ (i:=11) (N:=none) #[I,I,I,I,I,I,I,I,I,I,I,I] rfl rfl (one_of HT_.out (by kernel_rfl)) (by decide) (fun K hK=>?_)
    have hs23:w21.cell? ⟨gb366,0,none⟩=some (.int .i64 0):=(blk_cell BK366.out 0).trans rfl
    have hfs23:=blk_frozen BK366.out 0
    have hns23_0:=NB365_366.out
    have hms23_0:=NB366_365.out
    have hs24:w21.cell? ⟨gb366,1,none⟩=some (.slice none 0 0):=(blk_cell BK366.out 1).trans rfl
    have hfs24:=blk_frozen BK366.out 1
    have hns24_0:=NB365_366.out
    have hms24_0:=NB366_365.out
    have hs25:w21.cell? ⟨gb366,2,none⟩=some (.int .i64 0):=(blk_cell BK366.out 2).trans rfl
    have hfs25:=blk_frozen BK366.out 2
    have hns25_0:=NB365_366.out
    have hms25_0:=NB366_365.out
    refine skip_ (w1:=?_) (by rfl) rfl ?_ ?_
    rotate_left
    ·go_simp
     rfl
    refine hK.out _ _ ⟨((cell_far (p:=⟨gb366,_,none⟩) NB365_366.out _).trans (((cell_far (p:=⟨gb366,_,none⟩) NB365_366.out _).trans (((cell_far (p:=⟨gb366,_,none⟩) NB365_366.out _).trans (hHeld.1)))))),((cell_far (p:=⟨gb366,_,none⟩) NB365_366.out _).trans (((cell_far (p:=⟨gb366,_,none⟩) NB365_366.out _).trans (((cell_far (p:=⟨gb366,_,none⟩) NB365_366.out _).trans (hHeld.2))))))⟩ (fun hHeld=>?_)
    clear hK K
    refine done_ (done_of HT_.out (by kernel_rfl)) ?_
    try go_wp2
    refine bodyPost_ret (results_cell_row rfl _ _ gb366 26 #[.int .i64 t368,.slice Ao22 t369.length co22,.int .i64 0] (0,0) _ rfl (z33_ BK366.out) Tryd.underlying26 rfl (by kernel_rfl)) rfl ?_
    exact ⟨_,z9_,by (with_reducible repeat (first | apply Kd.R_alloc | apply Kd.R_drewN | apply Kd.R_drew));exact Kd.R_mono (rf3_ (Kd.R_types HO371.out BK366.out (by decide)) (fun _ hk=>hk.2)) (fun _ hk=>trivial),z4_ HB.out GE365.out GE366.out⟩
 ·replace c3:=Bool.eq_false_iff.mpr c3
  subst c3
  have H1:(some (0,([]:List (S77)),1))=some (r1,r2,r3):=by rw [if_neg (show ¬ (false=true) by decide)] at H;exact H
  clear H
  have H:=H1
  clear H1
  simp only [Option.some.injEq,Prod.mk.injEq] at H
  obtain ⟨rfl,rfl,rfl⟩:=H
  go_enter Tryd.func14,Tryd.ntmps14
  go_wp2_with (first | ((with_reducible refine gd_ 1 ?_);refine be_ 1 #[.int .i64 a0_0,.slice A0_1 l0_1.length c0_1] 24 ?_;intro gb365 hg w26 hbox hb;have n0_:=aM (below_step (z5_ HB.out) hb);have n1_:=aM (hbox);have n2_:=aM ((z8_ HB.out:w.heap.size≤gb365));have n3_:=aM ((z8_ HB.out:w.heap.size≤gb365));clear HB;have HB:=n0_;have BK365:=n1_;have GW365:=n2_;have GE365:=n3_;clear n0_ n1_ n2_ n3_;clear hb hbox hg) | ((with_reducible refine gd_ 2 ?_);refine be_ 2 #[.int .i64 0,.slice none 0 0,.int .i64 0] 26 ?_;intro gb366 hg w27 hbox hb;have n0_:=aM (blkB_ BK365.out hb);have n1_:=aM (below_step (z7_ HB.out GE365.out) hb);have n2_:=aM (hbox);have n3_:=aM ((z11_ HB.out GE365.out:w.heap.size≤gb366));have n4_:=aM ((z11_ HB.out GE365.out:w.heap.size≤gb366));have n5_:=aM (neL_ BK365.out hg);have n6_:=aM (neG_ BK365.out hg);clear BK365;clear HB;have BK365:=n0_;have HB:=n1_;have BK366:=n2_;have GW366:=n3_;have GE366:=n4_;have NB365_366:=n5_;have NB366_365:=n6_;clear n0_ n1_ n2_ n3_ n4_ n5_ n6_;clear hb hbox hg;have hnb28:=NB365_366.out;have hnc28:=NB366_365.out;have ⟨hcz29_0,hcz29_1,hfz29_0,hfz29_1⟩:=cz2_ BK365.out) | ((with_reducible refine gc_ 47 ?_);refine gl_ (some 5) Tryd.func47 #[.agg #[.int .i64 a0_0,.slice A0_1 l0_1.length c0_1]] ?_;(with_reducible refine (Y16.calls k a0_0 _ _ l0_1 false _ ?s1 ?s2 A2.out).mono ?_);(case s1=>repeat (first | exact (Kd.C_below HR0_1.out HB.out) | (with_reducible refine Kd.C_alloc ?_ _) | (with_reducible refine Kd.C_drewN ?_ _) | (with_reducible refine Kd.C_drew ?_)));(case s2=>exact HC0_1.out);rintro e w30 ⟨rfl,hb⟩;refine ⟨_,rfl,?_⟩;have n0_:=aM (blkB_ BK365.out hb);have n1_:=aM (blkB_ BK366.out hb);have n2_:=aM (below_step (z4_ HB.out GE365.out GE366.out) hb);clear BK365;clear BK366;clear HB;have BK365:=n0_;have BK366:=n1_;have HB:=n2_;clear n0_ n1_ n2_;(try clear hb);have ⟨hcz31_0,hcz31_1,hcz31_2,hfz31_0,hfz31_1,hfz31_2⟩:=cz3_ BK366.out))
  refine bodyPost_ret (results_cell_row rfl _ _ gb366 26 #[.int .i64 0,.slice none 0 0,.int .i64 1] (0,0) _ rfl (z33_ BK366.out) Tryd.underlying26 rfl (by kernel_rfl)) rfl ?_
  exact ⟨_,z9_,z26_,z4_ HB.out GE365.out GE366.out⟩


/-! ### Y81: function 39 -/
def Y81.f (a0:Int) (a1:Int) (a2:Int):Option (Bool):=if a0≥a1 then (some (decide (a0≤a2))) else (some false)
theorem Y81.calls (a0:Int) (a1:Int) (a2:Int) (r:Bool) (w:World) (h:Y81.f a0 a1 a2=some r) :
  Calls Tryd.prog 39 #[.int .i64 a0,.int .i64 a1,.int .i64 a2] w fun e w'=>e = .returned (.bool r)∧Drawn0 w w':=by
 have H:(if a0≥a1 then (some (decide (a0≤a2))) else (some false))=some r:=h
 clear h
 by_cases c4:a0≥a1
 ·rw [if_pos c4] at H
  have c4b0:decide (a1≤a0)=true:=dE c4
  clear c4
  obtain rfl:=sI H
  go_enter Tryd.func39,Tryd.ntmps39
  go_wp2
  go_ret
  exact ⟨z2_,z6_⟩
 ·rw [if_neg c4] at H
  have c4b0:decide (a1≤a0)=false:=dF c4
  clear c4
  obtain rfl:=sI H
  go_enter Tryd.func39,Tryd.ntmps39
  go_wp2
  go_ret
  exact ⟨z2_,z6_⟩


/-! ### Y52: function 38 -/
def Y52.f (a0:Int):Option (Bool):=(Y81.f a0 1 5).bind fun t101=>(some t101)
theorem Y52.calls (a0:Int) (r:Bool) (w:World) (h:Y52.f a0=some r) :
  Calls Tryd.prog 38 #[.int .i64 a0] w fun e w'=>e = .returned (.bool r)∧Drawn0 w w':=by
 have H:((Y81.f a0 1 5).bind fun t101=>(some t101))=some r:=h
 clear h
 replace H:=bS H
 obtain ⟨t101,A20,H⟩:=H
 replace H:(some t101)=some r:=H
 have A2:=aM A20
 clear A20
 obtain rfl:=sI H
 go_enter Tryd.func38,Tryd.ntmps38
 go_wp2_with (first | ((with_reducible refine gc_ 39 ?_);refine gl_ (some 4) Tryd.func39 #[.int .i64 a0,.int .i64 1,.int .i64 5] ?_;(with_reducible refine (Y81.calls a0 1 5 t101 _ A2.out).mono ?_);rintro e w' ⟨rfl,⟨nd,rfl⟩⟩;refine ⟨_,rfl,?_⟩))
 go_ret
 exact ⟨z2_,z6_⟩


attribute [local go_sem high] eqA77
/-! ### Y11: function 51 -/
mutual
def Y11.j0:Nat→Bool→Int→List (S77)→Option (Bool)
 | 0,_,_,_=>none
 | k+1,x32,x373000,x373001=>if x32=true then (some false) else (if x373000=0 then (none) else ((Y18.f k x373000 (wrap64 ((x373001.length:Int) / x373000))).bind fun bt374=>(Y11.l0 k 0 x373000 x373001 bt374.1 bt374.2)))
def Y11.l0:Nat→Int→Int→List (S77)→Int→List (S77)→Option (Bool)
 | 0,_,_,_,_,_=>none
 | k+1,x4,x373000,x373001,x379000,x379001=>if x4<(x373001.length:Int) then (if 0≤x4 then (if x4<(x379001.length:Int) then (if (!(((rd_T77 x373001 x4).f0) == ((rd_T77 x379001 x4).f0)) || (!(((rd_T77 x373001 x4).f1) == ((rd_T77 x379001 x4).f1))))=true then (some false) else (Y11.l0 k (wrap64 (x4+1)) x373000 x373001 x379000 x379001)) else (none)) else (none)) else (some true)
end
def Y11.f (k:Nat) (a0_0:Int) (l0_1:List (S77)):Option (Bool):=(Y52.f a0_0).bind fun t373=>(if t373=true then (if (l0_1.length:Int)<1 then (Y11.j0 k true a0_0 l0_1) else (if (l0_1.length:Int)>(wrap64 (8*a0_0)) then (Y11.j0 k true a0_0 l0_1) else (if a0_0=0 then (none) else (Y11.j0 k (((l0_1.length:Int) % a0_0) != 0) a0_0 l0_1)))) else (Y11.j0 k true a0_0 l0_1))
theorem Y11.mono_l:∀ k,(∀ y0 y1 y2,LeO (Y11.j0 k y0 y1 y2) (Y11.j0 (k+1) y0 y1 y2))∧(∀ y0 y1 y2 y3 y4,LeO (Y11.l0 k y0 y1 y2 y3 y4) (Y11.l0 (k+1) y0 y1 y2 y3 y4))
 | 0=>by refine ⟨?_,?_⟩ <;> intros <;> exact LeO.none _
 | k+1=>by
  obtain ⟨ih0,ih1⟩:=Y11.mono_l k
  have m0:=@Y18.mono
  refine ⟨?_,?_⟩
  ·intros
   unfold Y11.j0
   exact mO
  ·intros
   unfold Y11.l0
   exact mO
theorem Y11.mono:∀ a0 a1 k,LeO (Y11.f k a0 a1) (Y11.f (k+1) a0 a1):=by
 intro a0 a1 k
 have m0:=@Y18.mono
 obtain ⟨ih0,ih1⟩:=Y11.mono_l k
 unfold Y11.f
 exact mO
def Y11.T3:Bool × List (List Nat × List Nat):=(true,[([],[]),([0],[0]),([],[]),([2],[2]),([3],[3]),([],[]),([5],[5]),([4,6],[4,6]),([1,7],[1,7]),([],[]),([9,8,8,0,1,2,3,4,5,6,7,8,9],[8,9])])
def Y11.B3:List Nat:=[0,1,0,4,12,0,32,124,255,0,1023]
theorem Y11.tab3:rtab .any (opsOf Tryd.f51 3)=Y11.T3:=by kernel_rfl
theorem Y11.bits3:waitsOk Y11.T3.2 Y11.B3=true:=by kernel_rfl
def Y11.T7:Bool × List (List Nat × List Nat):=(true,[([],[]),([0],[0]),([],[]),([1,2],[1,2]),([3],[3]),([],[]),([5],[5]),([],[]),([6,7],[6,7]),([8],[8]),([4,9],[4,9])])
def Y11.B7:List Nat:=[0,1,0,7,15,0,32,0,224,480,1023]
theorem Y11.tab7:rtab .any (opsOf Tryd.f51 7)=Y11.T7:=by kernel_rfl
theorem Y11.bits7:waitsOk Y11.T7.2 Y11.B7=true:=by kernel_rfl
theorem Y11.calls (k:Nat) (a0_0:Int) (A0_1:Option Addr) (c0_1:Nat) (l0_1:List (S77)) (r:Bool) (w:World) (hr0_1:Kd.C k77 w A0_1 l0_1.length l0_1) (hc0_1:l0_1.length≤c0_1) (h:Y11.f k a0_0 l0_1=some r) :
  Calls Tryd.prog 51 #[.agg #[.int .i64 a0_0,.slice A0_1 l0_1.length c0_1]] w fun e w'=>e = .returned (.bool r)∧Below w.heap.size w w':=by
 have hu24:=Tryd.underlying24
 have hu77:=Tryd.underlying77
 have HR0_1:=aM hr0_1
 have HC0_1:=aM hc0_1
 clear hr0_1 hc0_1
 have HB:=aM (Below.refl w.heap.size w)
 have H:((Y52.f a0_0).bind fun t373=>(if t373=true then (if (l0_1.length:Int)<1 then (Y11.j0 k true a0_0 l0_1) else (if (l0_1.length:Int)>(wrap64 (8*a0_0)) then (Y11.j0 k true a0_0 l0_1) else (if a0_0=0 then (none) else (Y11.j0 k (((l0_1.length:Int) % a0_0) != 0) a0_0 l0_1)))) else (Y11.j0 k true a0_0 l0_1)))=some r:=h
 clear h
 have HC2:=aM H
 clear H
 go_enter Tryd.func51,Tryd.ntmps51
 go_upto_region 1 with (first | ((with_reducible refine gd_ 1 ?_);(try (refine gate_guard (by rfl) ?_;dsimp only));refine be_ 1 #[.int .i64 a0_0,.slice A0_1 l0_1.length c0_1] 24 ?_;intro gb372 hg w3 hbox hb;have n0_:=aM (below_step (z5_ HB.out) hb);have n1_:=aM (hbox);have n2_:=aM ((z8_ HB.out:w.heap.size≤gb372));have n3_:=aM ((z8_ HB.out:w.heap.size≤gb372));clear HB;have HB:=n0_;have BK372:=n1_;have GW372:=n2_;have GE372:=n3_;clear n0_ n1_ n2_ n3_;clear hb hbox hg))
 (try simp only [Act.put,sa_,s0_,ss_])
 go_cut [32] (fun v32 wc=>∃ (kq:Nat) (x32_1:Bool),v32 = .bool x32_1∧Aside0 (Y11.j0 kq x32_1 a0_0 l0_1=some r)∧Aside0 (kq≤k)∧Aside0 (wc.heap[gb372]? = some (.cells #[.int .i64 a0_0,(.slice A0_1 l0_1.length c0_1)] 24 (0,0)))∧Aside0 (Below w.heap.size w wc))
 case first =>
  have H:=HC2.out
  clear HC2
  replace H:=bS H
  obtain ⟨t373,A40,H⟩:=H
  replace H:(if t373=true then (if (l0_1.length:Int)<1 then (Y11.j0 k true a0_0 l0_1) else (if (l0_1.length:Int)>(wrap64 (8*a0_0)) then (Y11.j0 k true a0_0 l0_1) else (if a0_0=0 then (none) else (Y11.j0 k (((l0_1.length:Int) % a0_0) != 0) a0_0 l0_1)))) else (Y11.j0 k true a0_0 l0_1))=some r:=H
  have A4:=aM A40
  clear A40
  by_cases c5:t373=true
  ·subst c5
   have H1:(if (l0_1.length:Int)<1 then (Y11.j0 k true a0_0 l0_1) else (if (l0_1.length:Int)>(wrap64 (8*a0_0)) then (Y11.j0 k true a0_0 l0_1) else (if a0_0=0 then (none) else (Y11.j0 k (((l0_1.length:Int) % a0_0) != 0) a0_0 l0_1))))=some r:=by rw [if_pos rfl] at H;exact H
   clear H
   have H:=H1
   clear H1
   by_cases c6:(l0_1.length:Int)<1
   ·rw [if_pos c6] at H
    have c6b0:decide ((l0_1.length:Int)<1)=true:=dE c6
    have c6b1:decide (l0_1.length<1)=true:=dE (by omega)
    clear c6
    (first | rw [c6b0] | (simp only [i64_w,i32_w];rw [c6b0]) | skip)
    have H':=aM H
    clear H
    have ⟨hcz7_0,hcz7_1,hfz7_0,hfz7_1⟩:=cz2_ BK372.out
    go_wp2_with (first | ((with_reducible refine gc_ 38 ?_);refine gl_ (some 7) Tryd.func38 #[.int .i64 a0_0] ?_;(with_reducible refine (Y52.calls a0_0 true _ A4.out).mono ?_);rintro e w' ⟨rfl,⟨nd,rfl⟩⟩;refine ⟨_,rfl,?_⟩))
    go_meet
    case rel=>exact ⟨_,(true),(z2_),H',⟨by first | omega | exact Nat.le_refl _⟩,⟨z3_ BK372.out⟩,⟨z7_ HB.out GE372.out⟩⟩
   ·rw [if_neg c6] at H
    have c6b0:decide ((l0_1.length:Int)<1)=false:=dF c6
    have c6b1:decide (l0_1.length<1)=false:=dF (by omega)
    clear c6
    (first | rw [c6b0] | (simp only [i64_w,i32_w];rw [c6b0]) | skip)
    by_cases c8:(l0_1.length:Int)>(wrap64 (8*a0_0))
    ·rw [if_pos c8] at H
     have c8b0:decide ((wrap64 (8*a0_0))<(l0_1.length:Int))=true:=dE c8
     clear c8
     have H':=aM H
     clear H
     have ⟨hcz9_0,hcz9_1,hfz9_0,hfz9_1⟩:=cz2_ BK372.out
     go_wp2_with (first | ((with_reducible refine gc_ 38 ?_);refine gl_ (some 7) Tryd.func38 #[.int .i64 a0_0] ?_;(with_reducible refine (Y52.calls a0_0 true _ A4.out).mono ?_);rintro e w' ⟨rfl,⟨nd,rfl⟩⟩;refine ⟨_,rfl,?_⟩))
     go_meet
     case rel=>exact ⟨_,(true),(z2_),H',⟨by first | omega | exact Nat.le_refl _⟩,⟨z3_ BK372.out⟩,⟨z7_ HB.out GE372.out⟩⟩
    ·rw [if_neg c8] at H
     have c8b0:decide ((wrap64 (8*a0_0))<(l0_1.length:Int))=false:=dF c8
     clear c8
     by_cases c10:a0_0=0
     ·rw [if_pos c10] at H
      exact nO H
     ·rw [if_neg c10] at H
      have c10b0:(a0_0 == 0)=false:=beq_eq_false_iff_ne.mpr c10
      have c10b1:(a0_0 != 0)=true:=bne_iff_ne.mpr c10
      have H':=aM H
      clear H
      have ⟨hcz11_0,hcz11_1,hfz11_0,hfz11_1⟩:=cz2_ BK372.out
      go_wp2_with (first | ((with_reducible refine gc_ 38 ?_);refine gl_ (some 7) Tryd.func38 #[.int .i64 a0_0] ?_;(with_reducible refine (Y52.calls a0_0 true _ A4.out).mono ?_);rintro e w' ⟨rfl,⟨nd,rfl⟩⟩;refine ⟨_,rfl,?_⟩))
      go_meet
      case rel=>exact ⟨_,((((l0_1.length:Int) % a0_0) != 0)),(z2_),H',⟨by first | omega | exact Nat.le_refl _⟩,⟨z3_ BK372.out⟩,⟨z7_ HB.out GE372.out⟩⟩
  ·replace c5:=Bool.eq_false_iff.mpr c5
   subst c5
   have H1:(Y11.j0 k true a0_0 l0_1)=some r:=by rw [if_neg (show ¬ (false=true) by decide)] at H;exact H
   clear H
   have H:=H1
   clear H1
   have H':=aM H
   clear H
   have ⟨hcz12_0,hcz12_1,hfz12_0,hfz12_1⟩:=cz2_ BK372.out
   go_wp2_with (first | ((with_reducible refine gc_ 38 ?_);refine gl_ (some 7) Tryd.func38 #[.int .i64 a0_0] ?_;(with_reducible refine (Y52.calls a0_0 false _ A4.out).mono ?_);rintro e w' ⟨rfl,⟨nd,rfl⟩⟩;refine ⟨_,rfl,?_⟩))
   go_meet
   case rel=>exact ⟨_,(true),(z2_),H',⟨by first | omega | exact Nat.le_refl _⟩,⟨z3_ BK372.out⟩,⟨z7_ HB.out GE372.out⟩⟩
 case rest =>
  clear HC2
  try clear c1
  try clear p2
  try clear c3
  try clear c5
  try clear c6
  try clear c6b0
  try clear c6b1
  try clear p6
  try clear c8
  try clear c8b0
  try clear c10
  try clear c10b0
  try clear c10b1
  try clear hcz11_0
  try clear hcz11_1
  try clear hcz12_0
  try clear hcz12_1
  try clear hcz7_0
  try clear hcz7_1
  try clear hcz9_0
  try clear hcz9_1
  try clear hfz11_0
  try clear hfz11_1
  try clear hfz12_0
  try clear hfz12_1
  try clear hfz7_0
  try clear hfz7_1
  try clear hfz9_0
  try clear hfz9_1
  obtain ⟨kq,x32_1,rfl,HA,HJ1,BK372,HB⟩:=hcut
  cases kq with
  | zero=>exact absurd HA.out (by simp [Y11.j0])
  | succ kj1 =>
   have H:=HA.out
   clear HA
   simp only [Y11.j0] at H
   by_cases c13:x32_1=true
   ·subst c13
    have H1:(some false)=some r:=by rw [if_pos rfl] at H;exact H
    clear H
    have H:=H1
    clear H1
    obtain rfl:=sI H
    go_wp2
    go_ret
    exact ⟨z9_,z7_ HB.out GE372.out⟩
   ·replace c13:=Bool.eq_false_iff.mpr c13
    subst c13
    have H1:(if a0_0=0 then (none) else ((Y18.f kj1 a0_0 (wrap64 ((l0_1.length:Int) / a0_0))).bind fun bt374=>(Y11.l0 kj1 0 a0_0 l0_1 bt374.1 bt374.2)))=some r:=by rw [if_neg (show ¬ (false=true) by decide)] at H;exact H
    clear H
    have H:=H1
    clear H1
    by_cases c14:a0_0=0
    ·rw [if_pos c14] at H
     exact nO H
    ·rw [if_neg c14] at H
     have c14b0:(a0_0 == 0)=false:=beq_eq_false_iff_ne.mpr c14
     have c14b1:(a0_0 != 0)=true:=bne_iff_ne.mpr c14
     replace H:=bS H
     obtain ⟨⟨t374,t375⟩,A150,H⟩:=H
     replace H:(Y11.l0 kj1 0 a0_0 l0_1 t374 t375)=some r:=H
     have A15:=aM A150
     clear A150
     have H':=aM H
     clear H
     try go_wp2
     have n0_:=aM (blk_drew BK372.out)
     have n1_:=aM (below_drew1 HB.out)
     clear BK372
     clear HB
     have BK372:=n0_
     have HB:=n1_
     clear n0_ n1_
     refine start_ (n:=11) (S:=fun w'=>w'.cell? ⟨gb372,0,none⟩=some (.int .i64 a0_0)∧w'.cell? ⟨gb372,1,none⟩=some (.slice A0_1 l0_1.length c0_1)) (ds:=[]) #[O,O,O,O,O,O,O,O,O,O,O] (by kernel_rfl) rfl rfl (cc2_ BK372.out) (fun hHeld=>?_);refine with_tabW Y11.tab3 Y11.bits3 (fun HT_ HW_=>?_)
     generalize wc.drew=w16 at BK372 HB hHeld ⊢
     refine pu_ 0 33 #[I,O,O,O,O,O,O,O,O,O,O] HT_.out ?_
     refine pu_ 2 35 #[I,O,I,O,O,O,O,O,O,O,O] HT_.out ?_
     refine pu_ 5 38 #[I,O,I,O,O,I,O,O,O,O,O] HT_.out ?_
     refine tk2_ 1 34 #[I,I,I,O,O,I,O,O,O,O,O] HT_.out HW_.out hHeld ?_
     refine tk2_ 3 36 #[I,I,I,I,O,I,O,O,O,O,O] HT_.out HW_.out hHeld ?_
     refine pu_ 4 37 #[I,I,I,I,I,I,O,O,O,O,O] HT_.out ?_
     refine tk2_ 6 39 #[I,I,I,I,I,I,I,O,O,O,O] HT_.out HW_.out hHeld ?_
     refine pu_ 7 40 #[I,I,I,I,I,I,I,I,O,O,O] HT_.out ?_
     refine join_ (σ:=Value × Nat) 1 #[I,I,I,I,I,I,I,I,I,I,O] (fun s_=>[(41,.agg #[.int .i64 t374,s_.1]),(3,.pointer (some ⟨s_.2,0,none⟩))]) (fun s_ w'=>(w'.cell? ⟨gb372,0,none⟩=some (.int .i64 a0_0)∧w'.cell? ⟨gb372,1,none⟩=some (.slice A0_1 l0_1.length c0_1))∧(Kd.R k77 77 w' w.heap.size (fun _=>True) s_.1 t375)∧(w'.heap[gb372]? = some (.cells #[.int .i64 a0_0,.slice A0_1 l0_1.length c0_1] 24 (0,0)))∧(w'.heap[s_.2]? = some (.cells #[.int .i64 0,.slice none 0 0] 24 (0,0)))∧(w.heap.size≤s_.2)∧(w.heap.size≤s_.2)∧(gb372≠s_.2)∧(s_.2≠gb372)∧(Below w.heap.size w w')) ?_ ?_
     rotate_left
     ·intro hCont
      refine o2_ 8 9 41 3 #[I,I,I,I,I,I,I,I,I,O,O] #[I,I,I,I,I,I,I,I,O,I,O] HT_.out (fun K hK=>?_) (fun K hK=>?_)
      ·skip
       refine gs_ Tryd.func40 #[.int .i64 a0_0,.int .i64 (wrap64 ((l0_1.length:Int) / a0_0))] ?_
       with_reducible refine (Y18.calls kj1 a0_0 (wrap64 ((l0_1.length:Int) / a0_0)) t374 t375 _ A15.out).mono ?_
       rintro e w17 ⟨v376,rfl,ho0,hb⟩
       refine ⟨_,rfl,?_⟩
       have n0_:=aM (Kd.R_lower ho0 (below_size (z7_ HB.out GE372.out)))
       have n1_:=aM (blkB_ BK372.out hb)
       have n2_:=aM (below_step (z7_ HB.out GE372.out) hb)
       clear BK372
       clear HB
       have HO377:=n0_
       have BK372:=n1_
       have HB:=n2_
       clear n0_ n1_ n2_
       (try clear hb)
       (try clear ho0)
       refine hK.out _ _ (cc2_ BK372.out) (fun hHeld=>?_)
       clear hK K
       refine nm_ 41 ?_
       refine o1_ 9 3 #[I,I,I,I,I,I,I,I,I,I,O] HT_.out (fun K hK=>?_)
       refine bs_ 3 #[.int .i64 0,.slice none 0 0] 24 ?_
       intro gb378 hg w18 hbox hb
       have n0_:=aM (Kd.R_below (z1_ HO377.out) hb)
       have n1_:=aM (blkB_ BK372.out hb)
       have n2_:=aM (below_step (z7_ HB.out GE372.out) hb)
       have n3_:=aM (hbox)
       have n4_:=aM ((z11_ HB.out GE372.out:w.heap.size≤gb378))
       have n5_:=aM ((z11_ HB.out GE372.out:w.heap.size≤gb378))
       have n6_:=aM (neL_ BK372.out hg)
       have n7_:=aM (neG_ BK372.out hg)
       clear HO377
       clear BK372
       clear HB
       have HO377:=n0_
       have BK372:=n1_
       have HB:=n2_
       have BK378:=n3_
       have GW378:=n4_
       have GE378:=n5_
       have NB372_378:=n6_
       have NB378_372:=n7_
       clear n0_ n1_ n2_ n3_ n4_ n5_ n6_ n7_
       clear hb hbox hg
       refine hK.out _ _ (cc2_ BK372.out) (fun hHeld=>?_)
       clear hK K
       refine nm_ 3 ?_
       exact norm_ (by simp only [putAll,Act.put,List.setIfInBounds_toArray,List.set_cons_zero,List.set_cons_succ]) (hCont (v376,gb378) _ ⟨hHeld,(z1_ HO377.out),(z3_ BK372.out),(z3_ BK378.out),GW378.out,GE378.out,NB372_378.out,NB378_372.out,(z4_ HB.out GE372.out GE378.out)⟩)
      ·skip
       refine bs_ 3 #[.int .i64 0,.slice none 0 0] 24 ?_
       intro gb378 hg w17 hbox hb
       have n0_:=aM (blkB_ BK372.out hb)
       have n1_:=aM (below_step (z7_ HB.out GE372.out) hb)
       have n2_:=aM (hbox)
       have n3_:=aM ((z11_ HB.out GE372.out:w.heap.size≤gb378))
       have n4_:=aM ((z11_ HB.out GE372.out:w.heap.size≤gb378))
       have n5_:=aM (neL_ BK372.out hg)
       have n6_:=aM (neG_ BK372.out hg)
       clear BK372
       clear HB
       have BK372:=n0_
       have HB:=n1_
       have BK378:=n2_
       have GW378:=n3_
       have GE378:=n4_
       have NB372_378:=n5_
       have NB378_372:=n6_
       clear n0_ n1_ n2_ n3_ n4_ n5_ n6_
       clear hb hbox hg
       refine hK.out _ _ (cc2_ BK372.out) (fun hHeld=>?_)
       clear hK K
       refine nm_ 3 ?_
       refine o1_ 8 41 #[I,I,I,I,I,I,I,I,I,I,O] HT_.out (fun K hK=>?_)
       refine gs_ Tryd.func40 #[.int .i64 a0_0,.int .i64 (wrap64 ((l0_1.length:Int) / a0_0))] ?_
       with_reducible refine (Y18.calls kj1 a0_0 (wrap64 ((l0_1.length:Int) / a0_0)) t374 t375 _ A15.out).mono ?_
       rintro e w18 ⟨v376,rfl,ho0,hb⟩
       refine ⟨_,rfl,?_⟩
       have n0_:=aM (Kd.R_lower ho0 (below_size (z4_ HB.out GE372.out GE378.out)))
       have n1_:=aM (blkB_ BK372.out hb)
       have n2_:=aM (blkB_ BK378.out hb)
       have n3_:=aM (below_step (z4_ HB.out GE372.out GE378.out) hb)
       clear BK372
       clear BK378
       clear HB
       have HO377:=n0_
       have BK372:=n1_
       have BK378:=n2_
       have HB:=n3_
       clear n0_ n1_ n2_ n3_
       (try clear hb)
       (try clear ho0)
       refine hK.out _ _ (cc2_ BK372.out) (fun hHeld=>?_)
       clear hK K
       refine nm_ 41 ?_
       exact norm_ (by simp only [putAll,Act.put,List.setIfInBounds_toArray,List.set_cons_zero,List.set_cons_succ]) (hCont (v376,gb378) _ ⟨hHeld,(z1_ HO377.out),(z3_ BK372.out),(z3_ BK378.out),GW378.out,GE378.out,NB372_378.out,NB378_372.out,(z4_ HB.out GE372.out GE378.out)⟩)
     rintro ⟨v376,gb378⟩ w19 ⟨hS_,h0_,h1_,h2_,h3_,h4_,h5_,h6_,h7_⟩
     have n0_:Aside0 (Kd.R k77 77 w19 w.heap.size (fun _=>True) v376 t375):=⟨h0_⟩
     have n1_:Aside0 (w19.heap[gb372]? = some (.cells #[.int .i64 a0_0,.slice A0_1 l0_1.length c0_1] 24 (0,0))):=⟨h1_⟩
     have n2_:Aside0 (w19.heap[gb378]? = some (.cells #[.int .i64 0,.slice none 0 0] 24 (0,0))):=⟨h2_⟩
     have n3_:Aside0 (w.heap.size≤gb378):=⟨h3_⟩
     have n4_:Aside0 (w.heap.size≤gb378):=⟨h4_⟩
     have n5_:Aside0 (gb372≠gb378):=⟨h5_⟩
     have n6_:Aside0 (gb378≠gb372):=⟨h6_⟩
     have n7_:Aside0 (Below w.heap.size w w19):=⟨h7_⟩
     clear BK372
     clear HB
     clear h0_ h1_ h2_ h3_ h4_ h5_ h6_ h7_
     have HO377:=n0_
     have BK372:=n1_
     have BK378:=n2_
     have GW378:=n3_
     have GE378:=n4_
     have NB372_378:=n5_
     have NB378_372:=n6_
     have HB:=n7_
     clear n0_ n1_ n2_ n3_ n4_ n5_ n6_ n7_
     have hHeld:w19.cell? ⟨gb372,0,none⟩=some (.int .i64 a0_0)∧w19.cell? ⟨gb372,1,none⟩=some (.slice A0_1 l0_1.length c0_1):=hS_
     obtain ⟨Ao21,co21,eo21⟩:=Kd.R_slice HO377.out
     (first | subst eo21 | (injection eo21 with f1_ f2_ f3_;have f4_:=f1_.symm;have f5_:=f3_.symm;clear f1_ f2_ f3_;subst f4_;subst f5_))
     refine norm_ (a':=?_) ?_ ?_
     rotate_left
     ·simp only [putAll,Act.put,List.setIfInBounds_toArray,List.set_cons_zero,List.set_cons_succ]
      rfl
     refine one_ (i:=10) (N:=none) #[I,I,I,I,I,I,I,I,I,I,I] rfl rfl (one_of HT_.out (by kernel_rfl)) (by decide) (fun K hK=>?_)
     have hs20:w19.cell? ⟨gb378,0,none⟩=some (.int .i64 0):=(blk_cell BK378.out 0).trans rfl
     have hfs20:=blk_frozen BK378.out 0
     have hns20_0:=NB372_378.out
     have hms20_0:=NB378_372.out
     have hs22:w19.cell? ⟨gb378,1,none⟩=some (.slice none 0 0):=(blk_cell BK378.out 1).trans rfl
     have hfs22:=blk_frozen BK378.out 1
     have hns22_0:=NB372_378.out
     have hms22_0:=NB378_372.out
     refine skip_ (w1:=?_) (by rfl) rfl ?_ ?_
     rotate_left
     ·go_simp
      rfl
     refine hK.out _ _ ⟨((cell_far (p:=⟨gb378,_,none⟩) NB372_378.out _).trans (((cell_far (p:=⟨gb378,_,none⟩) NB372_378.out _).trans (hHeld.1)))),((cell_far (p:=⟨gb378,_,none⟩) NB372_378.out _).trans (((cell_far (p:=⟨gb378,_,none⟩) NB372_378.out _).trans (hHeld.2))))⟩ (fun hHeld=>?_)
     clear hK K
     refine done_ (done_of HT_.out (by kernel_rfl)) ?_
     try go_wp2
     go_loopg [4] kj1 (fun kq v4 w'=>∃ (x4_2:Int),v4 = .int .i64 x4_2∧Aside0 (Y11.l0 kq x4_2 a0_0 l0_1 t374 t375=some r)∧Aside0 (kq≤kj1)∧Aside0 (Kd.R k77 77 w' w.heap.size (fun _=>True) (.slice Ao21 t375.length co21) t375)∧Aside0 (w'.heap[gb372]? = some (.cells #[.int .i64 a0_0,(.slice A0_1 l0_1.length c0_1)] 24 (0,0)))∧Aside0 (w'.heap[gb378]? = some (.cells #[.int .i64 t374,(.slice Ao21 t375.length co21)] 24 (0,0)))∧Aside0 (Below w.heap.size w w'))
     case atStart=>exact ⟨(0),(z2_),H',⟨Nat.le_refl _⟩,⟨z36_ HO377.out BK378.out⟩,⟨z19_ NB372_378.out BK372.out⟩,⟨z20_ BK378.out⟩,⟨z4_ HB.out GE372.out GE378.out⟩⟩
     case round =>
      clear H'
      try clear c1
      try clear p2
      try clear c3
      try clear c4
      try clear c5
      try clear c6
      try clear c6b0
      try clear c6b1
      try clear p6
      try clear c8
      try clear c8b0
      try clear c10
      try clear c10b0
      try clear c10b1
      try clear c13
      try clear c14
      try clear c14b0
      try clear c14b1
      try clear hcz11_0
      try clear hcz11_1
      try clear hcz12_0
      try clear hcz12_1
      try clear hcz7_0
      try clear hcz7_1
      try clear hcz9_0
      try clear hcz9_1
      try clear hfz11_0
      try clear hfz11_1
      try clear hfz12_0
      try clear hfz12_1
      try clear hfz7_0
      try clear hfz7_1
      try clear hfz9_0
      try clear hfz9_1
      try clear p2
      try clear p6
      obtain ⟨x4_2,rfl,HA,HK2,HO_379001,BK372,BK378,HB⟩:=hrel
      cases gk with
      | zero=>exact absurd HA.out (by simp [Y11.l0])
      | succ k2 =>
       have H:=HA.out
       clear HA
       simp only [Y11.l0] at H
       by_cases c23:x4_2<(l0_1.length:Int)
       ·rw [if_pos c23] at H
        have c23b0:decide (x4_2<(l0_1.length:Int))=true:=dE c23
        clear c23
        by_cases c24:0≤x4_2
        ·rw [if_pos c24] at H
         have c24b0:decide (0≤x4_2)=true:=dE c24
         clear c24
         by_cases c25:x4_2<(t375.length:Int)
         ·rw [if_pos c25] at H
          have c25b0:decide (x4_2<(t375.length:Int))=true:=dE c25
          clear c25
          by_cases c26:(!(((rd_T77 l0_1 x4_2).f0) == ((rd_T77 t375 x4_2).f0)) || (!(((rd_T77 l0_1 x4_2).f1) == ((rd_T77 t375 x4_2).f1))))=true
          ·rw [if_pos c26] at H
           have c26b0:(!(((rd_T77 l0_1 x4_2).f0) == ((rd_T77 t375 x4_2).f0)) || (!(((rd_T77 l0_1 x4_2).f1) == ((rd_T77 t375 x4_2).f1))))=true:=c26
           clear c26
           obtain rfl:=sI H
           have hnb27:=NB372_378.out
           have hnc27:=NB378_372.out
           have ⟨hcz28_0,hcz28_1,hfz28_0,hfz28_1⟩:=cz2_ BK372.out
           try go_wp2
           have n0_:=aM (Kd.R_drew HO_379001.out)
           have n1_:=aM (blk_drew BK372.out)
           have n2_:=aM (blk_drew BK378.out)
           have n3_:=aM (below_drew1 HB.out)
           clear HO_379001
           clear BK372
           clear BK378
           clear HB
           have HO_379001:=n0_
           have BK372:=n1_
           have BK378:=n2_
           have HB:=n3_
           clear n0_ n1_ n2_ n3_
           have p379:0≤(x4_2:Int):=dT (z0_)
           have q379:x4_2<(l0_1.length:Int):=dT (z0_)
           obtain ⟨ad379,e379,hx379_0,hx379_1⟩:=at_T77 HR0_1.out x4_2 p379 q379
           have hw379_1:=hx379_1
           have hw379_0:=hx379_0
           cases e379
           replace hx379_0:=(HB.out.cell (World.block_lt_of_cell? w _ hx379_0)).trans hx379_0
           replace hx379_1:=(HB.out.cell (World.block_lt_of_cell? w _ hx379_1)).trans hx379_1
           replace p379:=eq_true p379
           replace q379:=eq_true q379
           have p380:0≤(x4_2:Int):=dT (z0_)
           have q380:x4_2<(t375.length:Int):=dT (z0_)
           obtain ⟨ad380,e380,hx380_0,hx380_1⟩:=at_T77 (Kd.R_reads' HO_379001.out).2.2 x4_2 p380 q380
           cases e380
           replace p380:=eq_true p380
           replace q380:=eq_true q380
           refine start_ (n:=11) (S:=fun w'=>w'.cell? ⟨gb372,0,none⟩=some (.int .i64 a0_0)∧w'.cell? ⟨gb372,1,none⟩=some (.slice (some ad379) l0_1.length c0_1)∧w'.cell? ⟨gb378,0,none⟩=some (.int .i64 t374)∧w'.cell? ⟨gb378,1,none⟩=some (.slice (some ad380) t375.length co21)∧w'.cell? (ad379.add ((x4_2).toNat*2))=some (.int .i64 ((rd_T77 l0_1 x4_2).f0))∧w'.cell? ⟨(ad379.add ((x4_2).toNat*2)).block,(ad379.add ((x4_2).toNat*2)).off+1,none⟩=some (.int .i64 ((rd_T77 l0_1 x4_2).f1))∧w'.cell? (ad380.add ((x4_2).toNat*2))=some (.int .i64 ((rd_T77 t375 x4_2).f0))∧w'.cell? ⟨(ad380.add ((x4_2).toNat*2)).block,(ad380.add ((x4_2).toNat*2)).off+1,none⟩=some (.int .i64 ((rd_T77 t375 x4_2).f1))) (ds:=[]) #[O,O,O,O,O,O,O,O,O,O,O] (by kernel_rfl) rfl rfl (cj2_ BK372.out (cj2_ BK378.out ⟨((HB.out.cell (World.block_lt_of_cell? w _ hw379_0)).trans hw379_0),⟨((HB.out.cell (World.block_lt_of_cell? w _ hw379_1)).trans hw379_1),⟨hx380_0,hx380_1⟩⟩⟩)) (fun hHeld=>?_);refine with_tabW Y11.tab7 Y11.bits7 (fun HT_ HW_=>?_)
           generalize wr.drew=w29 at HO_379001 BK372 BK378 HB hx379_0 hx379_1 hx380_0 hx380_1 hHeld ⊢
           refine pu_ 0 49 #[I,O,O,O,O,O,O,O,O,O,O] HT_.out ?_
           refine pu_ 2 51 #[I,O,I,O,O,O,O,O,O,O,O] HT_.out ?_
           refine pu_ 5 54 #[I,O,I,O,O,I,O,O,O,O,O] HT_.out ?_
           refine pu_ 7 56 #[I,O,I,O,O,I,O,I,O,O,O] HT_.out ?_
           refine tk8_ 1 50 #[I,I,I,O,O,I,O,I,O,O,O] HT_.out HW_.out hHeld ?_
           refine pu_ 3 52 #[I,I,I,I,O,I,O,I,O,O,O] HT_.out ?_
           refine tk8_ 4 53 #[I,I,I,I,I,I,O,I,O,O,O] HT_.out HW_.out hHeld ?_
           refine tk8_ 6 55 #[I,I,I,I,I,I,I,I,O,O,O] HT_.out HW_.out hHeld ?_
           refine pu_ 8 57 #[I,I,I,I,I,I,I,I,I,O,O] HT_.out ?_
           refine tk8_ 9 58 #[I,I,I,I,I,I,I,I,I,I,O] HT_.out HW_.out hHeld ?_
           refine pu_ 10 59 #[I,I,I,I,I,I,I,I,I,I,I] HT_.out ?_
           refine done_ (done_of HT_.out (by kernel_rfl)) ?_
           try go_wp2
           go_ret
           exact ⟨z9_,z4_ HB.out GE372.out GE378.out⟩
          ·rw [if_neg c26] at H
           have c26b0:(!(((rd_T77 l0_1 x4_2).f0) == ((rd_T77 t375 x4_2).f0)) || (!(((rd_T77 l0_1 x4_2).f1) == ((rd_T77 t375 x4_2).f1))))=false:=by simpa using c26
           clear c26
           have H':=aM H
           clear H
           have hnb30:=NB372_378.out
           have hnc30:=NB378_372.out
           have ⟨hcz31_0,hcz31_1,hfz31_0,hfz31_1⟩:=cz2_ BK372.out
           try go_wp2
           have n0_:=aM (Kd.R_drew HO_379001.out)
           have n1_:=aM (blk_drew BK372.out)
           have n2_:=aM (blk_drew BK378.out)
           have n3_:=aM (below_drew1 HB.out)
           clear HO_379001
           clear BK372
           clear BK378
           clear HB
           have HO_379001:=n0_
           have BK372:=n1_
           have BK378:=n2_
           have HB:=n3_
           clear n0_ n1_ n2_ n3_
           have p379:0≤(x4_2:Int):=dT (z0_)
           have q379:x4_2<(l0_1.length:Int):=dT (z0_)
           obtain ⟨ad379,e379,hx379_0,hx379_1⟩:=at_T77 HR0_1.out x4_2 p379 q379
           have hw379_1:=hx379_1
           have hw379_0:=hx379_0
           cases e379
           replace hx379_0:=(HB.out.cell (World.block_lt_of_cell? w _ hx379_0)).trans hx379_0
           replace hx379_1:=(HB.out.cell (World.block_lt_of_cell? w _ hx379_1)).trans hx379_1
           replace p379:=eq_true p379
           replace q379:=eq_true q379
           have p380:0≤(x4_2:Int):=dT (z0_)
           have q380:x4_2<(t375.length:Int):=dT (z0_)
           obtain ⟨ad380,e380,hx380_0,hx380_1⟩:=at_T77 (Kd.R_reads' HO_379001.out).2.2 x4_2 p380 q380
           cases e380
           replace p380:=eq_true p380
           replace q380:=eq_true q380
           refine start_ (n:=11) (S:=fun w'=>w'.cell? ⟨gb372,0,none⟩=some (.int .i64 a0_0)∧w'.cell? ⟨gb372,1,none⟩=some (.slice (some ad379) l0_1.length c0_1)∧w'.cell? ⟨gb378,0,none⟩=some (.int .i64 t374)∧w'.cell? ⟨gb378,1,none⟩=some (.slice (some ad380) t375.length co21)∧w'.cell? (ad379.add ((x4_2).toNat*2))=some (.int .i64 ((rd_T77 l0_1 x4_2).f0))∧w'.cell? ⟨(ad379.add ((x4_2).toNat*2)).block,(ad379.add ((x4_2).toNat*2)).off+1,none⟩=some (.int .i64 ((rd_T77 l0_1 x4_2).f1))∧w'.cell? (ad380.add ((x4_2).toNat*2))=some (.int .i64 ((rd_T77 t375 x4_2).f0))∧w'.cell? ⟨(ad380.add ((x4_2).toNat*2)).block,(ad380.add ((x4_2).toNat*2)).off+1,none⟩=some (.int .i64 ((rd_T77 t375 x4_2).f1))) (ds:=[]) #[O,O,O,O,O,O,O,O,O,O,O] (by kernel_rfl) rfl rfl (cj2_ BK372.out (cj2_ BK378.out ⟨((HB.out.cell (World.block_lt_of_cell? w _ hw379_0)).trans hw379_0),⟨((HB.out.cell (World.block_lt_of_cell? w _ hw379_1)).trans hw379_1),⟨hx380_0,hx380_1⟩⟩⟩)) (fun hHeld=>?_);refine with_tabW Y11.tab7 Y11.bits7 (fun HT_ HW_=>?_)
           generalize wr.drew=w32 at HO_379001 BK372 BK378 HB hx379_0 hx379_1 hx380_0 hx380_1 hHeld ⊢
           refine pu_ 0 49 #[I,O,O,O,O,O,O,O,O,O,O] HT_.out ?_
           refine pu_ 2 51 #[I,O,I,O,O,O,O,O,O,O,O] HT_.out ?_
           refine pu_ 5 54 #[I,O,I,O,O,I,O,O,O,O,O] HT_.out ?_
           refine pu_ 7 56 #[I,O,I,O,O,I,O,I,O,O,O] HT_.out ?_
           refine tk8_ 1 50 #[I,I,I,O,O,I,O,I,O,O,O] HT_.out HW_.out hHeld ?_
           refine pu_ 3 52 #[I,I,I,I,O,I,O,I,O,O,O] HT_.out ?_
           refine tk8_ 4 53 #[I,I,I,I,I,I,O,I,O,O,O] HT_.out HW_.out hHeld ?_
           refine tk8_ 6 55 #[I,I,I,I,I,I,I,I,O,O,O] HT_.out HW_.out hHeld ?_
           refine pu_ 8 57 #[I,I,I,I,I,I,I,I,I,O,O] HT_.out ?_
           refine tk8_ 9 58 #[I,I,I,I,I,I,I,I,I,I,O] HT_.out HW_.out hHeld ?_
           refine pu_ 10 59 #[I,I,I,I,I,I,I,I,I,I,I] HT_.out ?_
           refine done_ (done_of HT_.out (by kernel_rfl)) ?_
           try go_wp2
           go_roundg k2
           case measure=>have:=HJ1.out;have:=HK2.out;omega
           case rel=>exact ⟨(wrap64 (x4_2+1)),(z2_),H',⟨z15_ HJ1.out HK2.out⟩,⟨z1_ HO_379001.out⟩,⟨z3_ BK372.out⟩,⟨z3_ BK378.out⟩,⟨z4_ HB.out GE372.out GE378.out⟩⟩
         ·rw [if_neg c25] at H
          exact nO H
        ·rw [if_neg c24] at H
         exact nO H
       ·rw [if_neg c23] at H
        have c23b0:decide (x4_2<(l0_1.length:Int))=false:=dF c23
        clear c23
        obtain rfl:=sI H
        have hnb33:=NB372_378.out
        have hnc33:=NB378_372.out
        have ⟨hcz34_0,hcz34_1,hfz34_0,hfz34_1⟩:=cz2_ BK372.out
        go_wp2
        go_ret
        exact ⟨z9_,z4_ HB.out GE372.out GE378.out⟩


/-! ### Y37: function 17 -/
def Y37.f (k:Nat) (a0_0:Int) (l0_1:List (S77)):Option (Int × (List (S77)) × Int):=(Y11.f k a0_0 l0_1).bind fun t383=>(if t383=true then (if a0_0≥5 then (some (0,([]:List (S77)),9)) else (if a0_0=0 then (none) else ((Y18.f k (wrap64 (a0_0+1)) (wrap64 ((l0_1.length:Int) / a0_0))).bind fun bt384=>(some (bt384.1,bt384.2,0))))) else (some (0,([]:List (S77)),1)))
theorem Y37.mono:∀ a0 a1 k,LeO (Y37.f k a0 a1) (Y37.f (k+1) a0 a1):=by
 intro a0 a1 k
 have m0:=@Y11.mono
 have m1:=@Y18.mono
 unfold Y37.f
 exact mO
def Y37.T5:Bool × List (List Nat × List Nat):=(true,[([],[]),([0],[0]),([1],[1]),([],[]),([3],[3]),([4],[4]),([],[]),([6],[6]),([5,7],[5,7]),([2,8],[2,8]),([9],[9]),([10,9,0,1,2,3,4,5,6,7,8,9,10],[10])])
def Y37.B5:List Nat:=[0,1,3,0,8,24,0,64,248,511,1023,2047]
theorem Y37.tab5:rtab .any (opsOf Tryd.f17 5)=Y37.T5:=by kernel_rfl
theorem Y37.bits5:waitsOk Y37.T5.2 Y37.B5=true:=by kernel_rfl
theorem Y37.calls (k:Nat) (a0_0:Int) (A0_1:Option Addr) (c0_1:Nat) (l0_1:List (S77)) (r1:Int) (r2:List (S77)) (r3:Int) (w:World) (hr0_1:Kd.C k77 w A0_1 l0_1.length l0_1) (hc0_1:l0_1.length≤c0_1) (h:Y37.f k a0_0 l0_1=some (r1,r2,r3)) :
  Calls Tryd.prog 17 #[.agg #[.int .i64 a0_0,.slice A0_1 l0_1.length c0_1]] w fun e w'=>∃ v1_:Value,e = .returned (.agg #[.int .i64 r1,v1_,.int .i64 r3])∧Kd.R k77 77 w' w.heap.size (fun _=>True) v1_ r2∧Below w.heap.size w w':=by
 have hu24:=Tryd.underlying24
 have hu26:=Tryd.underlying26
 have HR0_1:=aM hr0_1
 have HC0_1:=aM hc0_1
 clear hr0_1 hc0_1
 have HB:=aM (Below.refl w.heap.size w)
 have H:((Y11.f k a0_0 l0_1).bind fun t383=>(if t383=true then (if a0_0≥5 then (some (0,([]:List (S77)),9)) else (if a0_0=0 then (none) else ((Y18.f k (wrap64 (a0_0+1)) (wrap64 ((l0_1.length:Int) / a0_0))).bind fun bt384=>(some (bt384.1,bt384.2,0))))) else (some (0,([]:List (S77)),1))))=some (r1,r2,r3):=h
 clear h
 replace H:=bS H
 obtain ⟨t383,A20,H⟩:=H
 replace H:(if t383=true then (if a0_0≥5 then (some (0,([]:List (S77)),9)) else (if a0_0=0 then (none) else ((Y18.f k (wrap64 (a0_0+1)) (wrap64 ((l0_1.length:Int) / a0_0))).bind fun bt384=>(some (bt384.1,bt384.2,0))))) else (some (0,([]:List (S77)),1)))=some (r1,r2,r3):=H
 have A2:=aM A20
 clear A20
 by_cases c3:t383=true
 ·subst c3
  have H1:(if a0_0≥5 then (some (0,([]:List (S77)),9)) else (if a0_0=0 then (none) else ((Y18.f k (wrap64 (a0_0+1)) (wrap64 ((l0_1.length:Int) / a0_0))).bind fun bt384=>(some (bt384.1,bt384.2,0)))))=some (r1,r2,r3):=by rw [if_pos rfl] at H;exact H
  clear H
  have H:=H1
  clear H1
  by_cases c4:a0_0≥5
  ·rw [if_pos c4] at H
   have c4b0:decide (5≤a0_0)=true:=dE c4
   clear c4
   simp only [Option.some.injEq,Prod.mk.injEq] at H
   obtain ⟨rfl,rfl,rfl⟩:=H
   go_enter Tryd.func17,Tryd.ntmps17
   go_wp2_with (first | ((with_reducible refine gd_ 1 ?_);refine be_ 1 #[.int .i64 a0_0,.slice A0_1 l0_1.length c0_1] 24 ?_;intro gb381 hg w5 hbox hb;have n0_:=aM (below_step (z5_ HB.out) hb);have n1_:=aM (hbox);have n2_:=aM ((z8_ HB.out:w.heap.size≤gb381));have n3_:=aM ((z8_ HB.out:w.heap.size≤gb381));clear HB;have HB:=n0_;have BK381:=n1_;have GW381:=n2_;have GE381:=n3_;clear n0_ n1_ n2_ n3_;clear hb hbox hg) | ((with_reducible refine gd_ 2 ?_);refine be_ 2 #[.int .i64 0,.slice none 0 0,.int .i64 0] 26 ?_;intro gb382 hg w6 hbox hb;have n0_:=aM (blkB_ BK381.out hb);have n1_:=aM (below_step (z7_ HB.out GE381.out) hb);have n2_:=aM (hbox);have n3_:=aM ((z11_ HB.out GE381.out:w.heap.size≤gb382));have n4_:=aM ((z11_ HB.out GE381.out:w.heap.size≤gb382));have n5_:=aM (neL_ BK381.out hg);have n6_:=aM (neG_ BK381.out hg);clear BK381;clear HB;have BK381:=n0_;have HB:=n1_;have BK382:=n2_;have GW382:=n3_;have GE382:=n4_;have NB381_382:=n5_;have NB382_381:=n6_;clear n0_ n1_ n2_ n3_ n4_ n5_ n6_;clear hb hbox hg;have hnb7:=NB381_382.out;have hnc7:=NB382_381.out;have ⟨hcz8_0,hcz8_1,hfz8_0,hfz8_1⟩:=cz2_ BK381.out) | ((with_reducible refine gc_ 51 ?_);refine gl_ (some 4) Tryd.func51 #[.agg #[.int .i64 a0_0,.slice A0_1 l0_1.length c0_1]] ?_;(with_reducible refine (Y11.calls k a0_0 _ _ l0_1 true _ ?s1 ?s2 A2.out).mono ?_);(case s1=>repeat (first | exact (Kd.C_below HR0_1.out HB.out) | (with_reducible refine Kd.C_alloc ?_ _) | (with_reducible refine Kd.C_drewN ?_ _) | (with_reducible refine Kd.C_drew ?_)));(case s2=>exact HC0_1.out);rintro e w9 ⟨rfl,hb⟩;refine ⟨_,rfl,?_⟩;have n0_:=aM (blkB_ BK381.out hb);have n1_:=aM (blkB_ BK382.out hb);have n2_:=aM (below_step (z4_ HB.out GE381.out GE382.out) hb);clear BK381;clear BK382;clear HB;have BK381:=n0_;have BK382:=n1_;have HB:=n2_;clear n0_ n1_ n2_;(try clear hb);have ⟨hcz10_0,hcz10_1,hfz10_0,hfz10_1⟩:=cz2_ BK381.out;have ⟨hcz11_0,hcz11_1,hcz11_2,hfz11_0,hfz11_1,hfz11_2⟩:=cz3_ BK382.out))
   refine bodyPost_ret (results_cell_row rfl _ _ gb382 26 #[.int .i64 0,.slice none 0 0,.int .i64 9] (0,0) _ rfl (z33_ BK382.out) Tryd.underlying26 rfl (by kernel_rfl)) rfl ?_
   exact ⟨_,z9_,z26_,z4_ HB.out GE381.out GE382.out⟩
  ·rw [if_neg c4] at H
   have c4b0:decide (5≤a0_0)=false:=dF c4
   clear c4
   by_cases c12:a0_0=0
   ·rw [if_pos c12] at H
    exact nO H
   ·rw [if_neg c12] at H
    have c12b0:(a0_0 == 0)=false:=beq_eq_false_iff_ne.mpr c12
    have c12b1:(a0_0 != 0)=true:=bne_iff_ne.mpr c12
    replace H:=bS H
    obtain ⟨⟨t384,t385⟩,A130,H⟩:=H
    replace H:(some (t384,t385,0))=some (r1,r2,r3):=H
    have A13:=aM A130
    clear A130
    simp only [Option.some.injEq,Prod.mk.injEq] at H
    obtain ⟨rfl,rfl,rfl⟩:=H
    go_enter Tryd.func17,Tryd.ntmps17
    try go_wp2_with (first | ((with_reducible refine gd_ 1 ?_);refine be_ 1 #[.int .i64 a0_0,.slice A0_1 l0_1.length c0_1] 24 ?_;intro gb381 hg w14 hbox hb;have n0_:=aM (below_step (z5_ HB.out) hb);have n1_:=aM (hbox);have n2_:=aM ((z8_ HB.out:w.heap.size≤gb381));have n3_:=aM ((z8_ HB.out:w.heap.size≤gb381));clear HB;have HB:=n0_;have BK381:=n1_;have GW381:=n2_;have GE381:=n3_;clear n0_ n1_ n2_ n3_;clear hb hbox hg) | ((with_reducible refine gd_ 2 ?_);refine be_ 2 #[.int .i64 0,.slice none 0 0,.int .i64 0] 26 ?_;intro gb382 hg w15 hbox hb;have n0_:=aM (blkB_ BK381.out hb);have n1_:=aM (below_step (z7_ HB.out GE381.out) hb);have n2_:=aM (hbox);have n3_:=aM ((z11_ HB.out GE381.out:w.heap.size≤gb382));have n4_:=aM ((z11_ HB.out GE381.out:w.heap.size≤gb382));have n5_:=aM (neL_ BK381.out hg);have n6_:=aM (neG_ BK381.out hg);clear BK381;clear HB;have BK381:=n0_;have HB:=n1_;have BK382:=n2_;have GW382:=n3_;have GE382:=n4_;have NB381_382:=n5_;have NB382_381:=n6_;clear n0_ n1_ n2_ n3_ n4_ n5_ n6_;clear hb hbox hg;have hnb16:=NB381_382.out;have hnc16:=NB382_381.out;have ⟨hcz17_0,hcz17_1,hfz17_0,hfz17_1⟩:=cz2_ BK381.out) | ((with_reducible refine gc_ 51 ?_);refine gl_ (some 4) Tryd.func51 #[.agg #[.int .i64 a0_0,.slice A0_1 l0_1.length c0_1]] ?_;(with_reducible refine (Y11.calls k a0_0 _ _ l0_1 true _ ?s1 ?s2 A2.out).mono ?_);(case s1=>repeat (first | exact (Kd.C_below HR0_1.out HB.out) | (with_reducible refine Kd.C_alloc ?_ _) | (with_reducible refine Kd.C_drewN ?_ _) | (with_reducible refine Kd.C_drew ?_)));(case s2=>exact HC0_1.out);rintro e w18 ⟨rfl,hb⟩;refine ⟨_,rfl,?_⟩;have n0_:=aM (blkB_ BK381.out hb);have n1_:=aM (blkB_ BK382.out hb);have n2_:=aM (below_step (z4_ HB.out GE381.out GE382.out) hb);clear BK381;clear BK382;clear HB;have BK381:=n0_;have BK382:=n1_;have HB:=n2_;clear n0_ n1_ n2_;(try clear hb);have ⟨hcz19_0,hcz19_1,hfz19_0,hfz19_1⟩:=cz2_ BK381.out))
    have n0_:=aM (blk_drew BK381.out)
    have n1_:=aM (blk_drew BK382.out)
    have n2_:=aM (below_drew1 HB.out)
    clear BK381
    clear BK382
    clear HB
    have BK381:=n0_
    have BK382:=n1_
    have HB:=n2_
    clear n0_ n1_ n2_
    refine start_ (n:=12) (S:=fun w'=>w'.cell? ⟨gb381,0,none⟩=some (.int .i64 a0_0)∧w'.cell? ⟨gb381,1,none⟩=some (.slice A0_1 l0_1.length c0_1)) (ds:=[]) #[O,O,O,O,O,O,O,O,O,O,O,O] (by kernel_rfl) rfl rfl (cc2_ BK381.out) (fun hHeld=>?_);refine with_tabW Y37.tab5 Y37.bits5 (fun HT_ HW_=>?_)
    generalize w18.drew=w20 at BK381 BK382 HB hHeld ⊢
    refine pu_ 0 11 #[I,O,O,O,O,O,O,O,O,O,O,O] HT_.out ?_
    refine pu_ 3 14 #[I,O,O,I,O,O,O,O,O,O,O,O] HT_.out ?_
    refine pu_ 6 17 #[I,O,O,I,O,O,I,O,O,O,O,O] HT_.out ?_
    refine tk2_ 1 12 #[I,I,O,I,O,O,I,O,O,O,O,O] HT_.out HW_.out hHeld ?_
    refine pu_ 2 13 #[I,I,I,I,O,O,I,O,O,O,O,O] HT_.out ?_
    refine tk2_ 4 15 #[I,I,I,I,I,O,I,O,O,O,O,O] HT_.out HW_.out hHeld ?_
    refine pu_ 5 16 #[I,I,I,I,I,I,I,O,O,O,O,O] HT_.out ?_
    refine tk2_ 7 18 #[I,I,I,I,I,I,I,I,O,O,O,O] HT_.out HW_.out hHeld ?_
    refine pu_ 8 19 #[I,I,I,I,I,I,I,I,I,O,O,O] HT_.out ?_
    refine o1_ 9 20 #[I,I,I,I,I,I,I,I,I,I,O,O] HT_.out (fun K hK=>?_)
    refine gs_ Tryd.func40 #[.int .i64 (wrap64 (a0_0+1)),.int .i64 (wrap64 ((l0_1.length:Int) / a0_0))] ?_
    with_reducible refine (Y18.calls k (wrap64 (a0_0+1)) (wrap64 ((l0_1.length:Int) / a0_0)) t384 t385 _ A13.out).mono ?_
    rintro e w21 ⟨v386,rfl,ho0,hb⟩
    refine ⟨_,rfl,?_⟩
    have n0_:=aM (Kd.R_lower ho0 (below_size (z4_ HB.out GE381.out GE382.out)))
    have n1_:=aM (blkB_ BK381.out hb)
    have n2_:=aM (blkB_ BK382.out hb)
    have n3_:=aM (below_step (z4_ HB.out GE381.out GE382.out) hb)
    clear BK381
    clear BK382
    clear HB
    have HO387:=n0_
    have BK381:=n1_
    have BK382:=n2_
    have HB:=n3_
    clear n0_ n1_ n2_ n3_
    (try clear hb)
    (try clear ho0)
    obtain ⟨Ao22,co22,eo22⟩:=Kd.R_slice HO387.out
    (first | subst eo22 | (injection eo22 with f1_ f2_ f3_;have f4_:=f1_.symm;have f5_:=f3_.symm;clear f1_ f2_ f3_;subst f4_;subst f5_))
    refine hK.out _ _ (cc2_ BK381.out) (fun hHeld=>?_)
    clear hK K
    refine nm_ 20 ?_
    refine pu_ 10 21 #[I,I,I,I,I,I,I,I,I,I,I,O] HT_.out ?_
    refine one_ (i:=11) (N:=none) #[I,I,I,I,I,I,I,I,I,I,I,I] rfl rfl (one_of HT_.out (by kernel_rfl)) (by decide) (fun K hK=>?_)
    have hs23:w21.cell? ⟨gb382,0,none⟩=some (.int .i64 0):=(blk_cell BK382.out 0).trans rfl
    have hfs23:=blk_frozen BK382.out 0
    have hns23_0:=NB381_382.out
    have hms23_0:=NB382_381.out
    have hs24:w21.cell? ⟨gb382,1,none⟩=some (.slice none 0 0):=(blk_cell BK382.out 1).trans rfl
    have hfs24:=blk_frozen BK382.out 1
    have hns24_0:=NB381_382.out
    have hms24_0:=NB382_381.out
    have hs25:w21.cell? ⟨gb382,2,none⟩=some (.int .i64 0):=(blk_cell BK382.out 2).trans rfl
    have hfs25:=blk_frozen BK382.out 2
    have hns25_0:=NB381_382.out
    have hms25_0:=NB382_381.out
    refine skip_ (w1:=?_) (by rfl) rfl ?_ ?_
    rotate_left
    ·go_simp
     rfl
    refine hK.out _ _ ⟨((cell_far (p:=⟨gb382,_,none⟩) NB381_382.out _).trans (((cell_far (p:=⟨gb382,_,none⟩) NB381_382.out _).trans (((cell_far (p:=⟨gb382,_,none⟩) NB381_382.out _).trans (hHeld.1)))))),((cell_far (p:=⟨gb382,_,none⟩) NB381_382.out _).trans (((cell_far (p:=⟨gb382,_,none⟩) NB381_382.out _).trans (((cell_far (p:=⟨gb382,_,none⟩) NB381_382.out _).trans (hHeld.2))))))⟩ (fun hHeld=>?_)
    clear hK K
    refine done_ (done_of HT_.out (by kernel_rfl)) ?_
    try go_wp2
    refine bodyPost_ret (results_cell_row rfl _ _ gb382 26 #[.int .i64 t384,.slice Ao22 t385.length co22,.int .i64 0] (0,0) _ rfl (z33_ BK382.out) Tryd.underlying26 rfl (by kernel_rfl)) rfl ?_
    exact ⟨_,z9_,by (with_reducible repeat (first | apply Kd.R_alloc | apply Kd.R_drewN | apply Kd.R_drew));exact Kd.R_mono (rf3_ (Kd.R_types HO387.out BK382.out (by decide)) (fun _ hk=>hk.2)) (fun _ hk=>trivial),z4_ HB.out GE381.out GE382.out⟩
 ·replace c3:=Bool.eq_false_iff.mpr c3
  subst c3
  have H1:(some (0,([]:List (S77)),1))=some (r1,r2,r3):=by rw [if_neg (show ¬ (false=true) by decide)] at H;exact H
  clear H
  have H:=H1
  clear H1
  simp only [Option.some.injEq,Prod.mk.injEq] at H
  obtain ⟨rfl,rfl,rfl⟩:=H
  go_enter Tryd.func17,Tryd.ntmps17
  go_wp2_with (first | ((with_reducible refine gd_ 1 ?_);refine be_ 1 #[.int .i64 a0_0,.slice A0_1 l0_1.length c0_1] 24 ?_;intro gb381 hg w26 hbox hb;have n0_:=aM (below_step (z5_ HB.out) hb);have n1_:=aM (hbox);have n2_:=aM ((z8_ HB.out:w.heap.size≤gb381));have n3_:=aM ((z8_ HB.out:w.heap.size≤gb381));clear HB;have HB:=n0_;have BK381:=n1_;have GW381:=n2_;have GE381:=n3_;clear n0_ n1_ n2_ n3_;clear hb hbox hg) | ((with_reducible refine gd_ 2 ?_);refine be_ 2 #[.int .i64 0,.slice none 0 0,.int .i64 0] 26 ?_;intro gb382 hg w27 hbox hb;have n0_:=aM (blkB_ BK381.out hb);have n1_:=aM (below_step (z7_ HB.out GE381.out) hb);have n2_:=aM (hbox);have n3_:=aM ((z11_ HB.out GE381.out:w.heap.size≤gb382));have n4_:=aM ((z11_ HB.out GE381.out:w.heap.size≤gb382));have n5_:=aM (neL_ BK381.out hg);have n6_:=aM (neG_ BK381.out hg);clear BK381;clear HB;have BK381:=n0_;have HB:=n1_;have BK382:=n2_;have GW382:=n3_;have GE382:=n4_;have NB381_382:=n5_;have NB382_381:=n6_;clear n0_ n1_ n2_ n3_ n4_ n5_ n6_;clear hb hbox hg;have hnb28:=NB381_382.out;have hnc28:=NB382_381.out;have ⟨hcz29_0,hcz29_1,hfz29_0,hfz29_1⟩:=cz2_ BK381.out) | ((with_reducible refine gc_ 51 ?_);refine gl_ (some 4) Tryd.func51 #[.agg #[.int .i64 a0_0,.slice A0_1 l0_1.length c0_1]] ?_;(with_reducible refine (Y11.calls k a0_0 _ _ l0_1 false _ ?s1 ?s2 A2.out).mono ?_);(case s1=>repeat (first | exact (Kd.C_below HR0_1.out HB.out) | (with_reducible refine Kd.C_alloc ?_ _) | (with_reducible refine Kd.C_drewN ?_ _) | (with_reducible refine Kd.C_drew ?_)));(case s2=>exact HC0_1.out);rintro e w30 ⟨rfl,hb⟩;refine ⟨_,rfl,?_⟩;have n0_:=aM (blkB_ BK381.out hb);have n1_:=aM (blkB_ BK382.out hb);have n2_:=aM (below_step (z4_ HB.out GE381.out GE382.out) hb);clear BK381;clear BK382;clear HB;have BK381:=n0_;have BK382:=n1_;have HB:=n2_;clear n0_ n1_ n2_;(try clear hb);have ⟨hcz31_0,hcz31_1,hcz31_2,hfz31_0,hfz31_1,hfz31_2⟩:=cz3_ BK382.out))
  refine bodyPost_ret (results_cell_row rfl _ _ gb382 26 #[.int .i64 0,.slice none 0 0,.int .i64 1] (0,0) _ rfl (z33_ BK382.out) Tryd.underlying26 rfl (by kernel_rfl)) rfl ?_
  exact ⟨_,z9_,z26_,z4_ HB.out GE381.out GE382.out⟩


/-! ### Y32: function 49 -/
def Y32.l0:Nat→ByteArray→Int→List Int→Int→Int→Int→Option (ByteArray × Int × Int × Int)
 | 0,_,_,_,_,_,_=>none
 | k+1,x3,x4,x1000,x1001,x1002,x1003=>if x4>0 then ((Y3.f x1000 x1001 x1002 x1003 10).bind fun bt399=>(if 0≤bt399.1 then (if bt399.1<10 then ((some (([bt (⟨#[97,98,99,100,101,102,48,49,57,95]⟩:ByteArray) bt399.1]:List Int):List Int)).bind fun y403=>(if x3.size+(strOfNums y403).size≤9223372036854775807 then (Y32.l0 k (x3 ++ (strOfNums y403)) (wrap64 (x4-1)) x1000 bt399.2.1 bt399.2.2.1 bt399.2.2.2) else (none))) else (none)) else (none))) else (some (x3,x1001,x1002,x1003))
def Y32.f (k:Nat) (s0_0:List Int) (s0_1:Int) (s0_2:Int) (s0_3:Int):Option (ByteArray × Int × Int × Int):=(Y3.f s0_0 s0_1 s0_2 s0_3 6).bind fun bt388=>((Y3.f s0_0 bt388.2.1 bt388.2.2.1 bt388.2.2.2 4).bind fun bt395=>(Y32.l0 k (strOfNums (([(wrap64 (97+bt388.1)) % 256]:List Int))) bt395.1 s0_0 bt395.2.1 bt395.2.2.1 bt395.2.2.2))
theorem Y32.mono_l:∀ k,(∀ y0 y1 y2 y3 y4 y5,LeO (Y32.l0 k y0 y1 y2 y3 y4 y5) (Y32.l0 (k+1) y0 y1 y2 y3 y4 y5))
 | 0=>by intros <;> exact LeO.none _
 | k+1=>by
  have ih0:=Y32.mono_l k
  ·intros
   unfold Y32.l0
   exact mO
theorem Y32.mono:∀ a0 a1 a2 a3 k,LeO (Y32.f k a0 a1 a2 a3) (Y32.f (k+1) a0 a1 a2 a3):=by
 intro a0 a1 a2 a3 k
 have ih0:=Y32.mono_l k
 unfold Y32.f
 exact mO
theorem Y32.calls (k:Nat) (g:Nat) (s0_0:List Int) (s0_1:Int) (s0_2:Int) (s0_3:Int) (r1:ByteArray) (r2:Int) (r3:Int) (r4:Int) (w0 w:World) (hI:IsS108 w0 w g s0_0 s0_1 s0_2 s0_3) (hB:Below w0.heap.size w0 w) (h:Y32.f k s0_0 s0_1 s0_2 s0_3=some (r1,r2,r3,r4)) :
  Calls Tryd.prog 49 #[.pointer (some ⟨g,0,none⟩)] w fun e w'=>e = .returned (.string r1)∧IsS108 w0 w' g s0_0 r2 r3 r4∧Below w0.heap.size w0 w'∧KeepBut w w' g none:=by
 have HI0:=aM hI
 have HK:=aM (KeepBut.refl w g none)
 have HL:=aM hB.size
 clear hI
 have HW0:=aM hB.size
 have HB:=aM hB
 clear hB
 have H:((Y3.f s0_0 s0_1 s0_2 s0_3 6).bind fun bt388=>((Y3.f s0_0 bt388.2.1 bt388.2.2.1 bt388.2.2.2 4).bind fun bt395=>(Y32.l0 k (strOfNums (([(wrap64 (97+bt388.1)) % 256]:List Int))) bt395.1 s0_0 bt395.2.1 bt395.2.2.1 bt395.2.2.2)))=some (r1,r2,r3,r4):=h
 clear h
 replace H:=bS H
 obtain ⟨⟨t388,t389,t390,t391⟩,A20,H⟩:=H
 replace H:((Y3.f s0_0 t389 t390 t391 4).bind fun bt395=>(Y32.l0 k (strOfNums (([(wrap64 (97+t388)) % 256]:List Int))) bt395.1 s0_0 bt395.2.1 bt395.2.2.1 bt395.2.2.2))=some (r1,r2,r3,r4):=H
 have A2:=aM A20
 clear A20
 obtain ⟨y392,hy392⟩:∃ y_:List Int,y_=(([(wrap64 (97+t388)) % 256]:List Int)):=⟨_,rfl⟩
 replace H:((Y3.f s0_0 t389 t390 t391 4).bind fun bt395=>(Y32.l0 k (strOfNums y392) bt395.1 s0_0 bt395.2.1 bt395.2.2.1 bt395.2.2.2))=some (r1,r2,r3,r4):=by first | (rw [hy392];with_reducible exact H) | (have H2_:=(Option.bind_some _ _).symm.trans H;rw [hy392];with_reducible exact H2_) | (have H2_:=(Option.bind_some _ _).symm.trans H;with_reducible exact H2_) | with_reducible exact H | (rw [hy392];exact H) | exact H
 have Ny392:=aM hy392
 clear hy392
 replace H:=bS H
 obtain ⟨⟨t395,t396,t397,t398⟩,A30,H⟩:=H
 replace H:(Y32.l0 k (strOfNums y392) t395 s0_0 t396 t397 t398)=some (r1,r2,r3,r4):=H
 have A3:=aM A30
 clear A30
 have H':=aM H
 clear H
 go_enter Tryd.func49,Tryd.ntmps49
 go_wp2_with (first | ((with_reducible refine gc_ 50 ?_);refine gl_ (some 6) Tryd.func50 #[.pointer (some ⟨g,0,none⟩),.int .i64 6] ?_;(with_reducible refine (Y3.calls g s0_0 s0_1 s0_2 s0_3 6 t388 t389 t390 t391 w0 _ ?s1 ?s2 A2.out).mono ?_);(case s1=>repeat (first | (with_reducible first | exact HI0.out | apply IsS108.alloc | apply IsS108.drewN | apply IsS108.drew | apply IsS108.set_1 | apply IsS108.set_2 | apply IsS108.set_3) | exact HI0.out));(case s2=>repeat (first | (with_reducible first | exact HB.out | apply below_alloc | apply pw_below_drewN | apply below_drew1 | refine below_set ?_ (IsS108.ge HI0.out)) | exact HB.out));rintro e w4 ⟨rfl,hi,hb,hk⟩;refine ⟨_,rfl,?_⟩;have n0_:=aM (KeepBut.trans (z12_ HK.out) hk (.inl rfl));have n1_:=aM (hb);have n2_:=aM (hi);clear HK;clear HB;clear HI0;have HK:=n0_;have HB:=n1_;have HI0:=n2_;clear n0_ n1_ n2_;(try clear hb);(try clear hk);(try clear hi)) | ((with_reducible refine gd_ 9 ?_);refine Kd.R_lit (Kd.int .u8) _ 5 ?hg (N:=9) ?hd (xs:=([(wrap64 (97+t388)) % 256]:List Int)) (inner:=[.int .u8 ((wrap64 (97+t388)) % 256)]) (ok:=fun _=>True) (okp:=fun _=>True) ?hr ?hp (fun _ hk=>hk) trivial (Below.refl _ _) (Nat.le_refl _) (by simp) ?_;(case hd=>rfl);(case hg=>rfl);(case hr=>first | (go_simp;done) | (go_simp;rfl));(case hp=>exact (Reps.one (show Kd.M (Kd.int .u8) _ _ _ ((wrap64 (97+t388)) % 256) [.int .u8 ((wrap64 (97+t388)) % 256)] from rfl) (Reps.none _ _)));intro v393 w5 ho6 hb hg_ hnew_;clear hg_ hnew_;(first | rw [← Ny392.out] at ho6 | (simp only [Int.reduceToNat] at ho6;rw [← Ny392.out] at ho6));have n0_:=aM (Kd.R_lower ho6 (keep_size (w:=w) (g:=g) (row:=none) (z12_ HK.out)));have n1_:=aM (IsS108.below (z16_ HI0.out) hb);have n2_:=aM (KeepBut.trans (z12_ HK.out) (KeepBut.of_below hb g none) (.inl rfl));have n3_:=aM (below_step (z17_ HB.out HI0.out) hb);clear HI0;clear HK;clear HB;have HO394:=n0_;have HI0:=n1_;have HK:=n2_;have HB:=n3_;clear n0_ n1_ n2_ n3_;clear hb ho6;have hcv7:=own_string (P:=Tryd.prog) Tryd.underlying31 Tryd.underlying5 Tryd.underlying9 (Kd.own_of_R HO394.out)) | ((with_reducible refine gc_ 50 ?_);refine gl_ (some 12) Tryd.func50 #[.pointer (some ⟨g,0,none⟩),.int .i64 4] ?_;(with_reducible refine (Y3.calls g s0_0 t389 t390 t391 4 t395 t396 t397 t398 w0 _ ?s1 ?s2 A3.out).mono ?_);(case s1=>repeat (first | (with_reducible first | exact HI0.out | apply IsS108.alloc | apply IsS108.drewN | apply IsS108.drew | apply IsS108.set_1 | apply IsS108.set_2 | apply IsS108.set_3) | exact HI0.out));(case s2=>repeat (first | (with_reducible first | exact HB.out | apply below_alloc | apply pw_below_drewN | apply below_drew1 | refine below_set ?_ (IsS108.ge HI0.out)) | exact HB.out));rintro e w8 ⟨rfl,hi,hb,hk⟩;refine ⟨_,rfl,?_⟩;have n0_:=aM (Kd.R_mono (Kd.R_keep (IsS108.apart (show IsS108 w0 _ g s0_0 t389 t390 t391 from by repeat (first | (with_reducible first | exact HI0.out | apply IsS108.alloc | apply IsS108.drewN | apply IsS108.drew | apply IsS108.set_1 | apply IsS108.set_2 | apply IsS108.set_3) | exact HI0.out)) (z1_ HO394.out) (by decide)) hk (fun _ h=>h.2)) (fun _ h=>h.1));have n1_:=aM (KeepBut.trans (z12_ HK.out) hk (.inl rfl));have n2_:=aM (hb);have n3_:=aM (hi);clear HO394;clear HK;clear HB;clear HI0;have HO394:=n0_;have HK:=n1_;have HB:=n2_;have HI0:=n3_;clear n0_ n1_ n2_ n3_;(try clear hb);(try clear hk);(try clear hi)))
 go_loopg [3,4] k (fun kq v3 v4 w'=>∃ (x3_1:ByteArray) (x4_1:Int) (x1001_1:Int) (x1002_1:Int) (x1003_1:Int),v3 = .string x3_1∧v4 = .int .i64 x4_1∧Aside0 (Y32.l0 kq x3_1 x4_1 s0_0 x1001_1 x1002_1 x1003_1=some (r1,r2,r3,r4))∧Aside0 (kq≤k)∧Aside0 (IsS108 w0 w' g s0_0 x1001_1 x1002_1 x1003_1)∧Aside0 (KeepBut w w' g none)∧Aside0 (Below w0.heap.size w0 w'))
 case atStart=>exact ⟨(strOfNums y392),(t395),(t396),(t397),(t398),(z2_),(z2_),H',⟨Nat.le_refl _⟩,⟨z16_ HI0.out⟩,⟨z12_ HK.out⟩,⟨z17_ HB.out HI0.out⟩⟩
 case round =>
  clear H'
  try clear p2
  try clear c4
  try clear c5
  try clear p6
  try clear hcv7
  obtain ⟨x3_1,x4_1,x1001_1,x1002_1,x1003_1,rfl,rfl,HA,HK1,HI0,HK,HB⟩:=hrel
  cases gk with
  | zero=>exact absurd HA.out (by simp [Y32.l0])
  | succ k1 =>
   have H:=HA.out
   clear HA
   simp only [Y32.l0] at H
   by_cases c9:x4_1>0
   ·rw [if_pos c9] at H
    have c9b0:decide (0<x4_1)=true:=dE c9
    clear c9
    replace H:=bS H
    obtain ⟨⟨t399,t400,t401,t402⟩,A100,H⟩:=H
    replace H:(if 0≤t399 then (if t399<10 then ((some (([bt (⟨#[97,98,99,100,101,102,48,49,57,95]⟩:ByteArray) t399]:List Int):List Int)).bind fun y403=>(if x3_1.size+(strOfNums y403).size≤9223372036854775807 then (Y32.l0 k1 (x3_1 ++ (strOfNums y403)) (wrap64 (x4_1-1)) s0_0 t400 t401 t402) else (none))) else (none)) else (none))=some (r1,r2,r3,r4):=H
    have A10:=aM A100
    clear A100
    by_cases c11:0≤t399
    ·rw [if_pos c11] at H
     have c11b0:decide (0≤t399)=true:=dE c11
     clear c11
     by_cases c12:t399<10
     ·rw [if_pos c12] at H
      have c12b0:decide (t399<10)=true:=dE c12
      clear c12
      obtain ⟨y403,hy403⟩:∃ y_:List Int,y_=(([bt (⟨#[97,98,99,100,101,102,48,49,57,95]⟩:ByteArray) t399]:List Int)):=⟨_,rfl⟩
      replace H:(if x3_1.size+(strOfNums y403).size≤9223372036854775807 then (Y32.l0 k1 (x3_1 ++ (strOfNums y403)) (wrap64 (x4_1-1)) s0_0 t400 t401 t402) else (none))=some (r1,r2,r3,r4):=by first | (rw [hy403];with_reducible exact H) | (have H2_:=(Option.bind_some _ _).symm.trans H;rw [hy403];with_reducible exact H2_) | (have H2_:=(Option.bind_some _ _).symm.trans H;with_reducible exact H2_) | with_reducible exact H | (rw [hy403];exact H) | exact H
      have Ny403:=aM hy403
      clear hy403
      by_cases c14:x3_1.size+(strOfNums y403).size≤9223372036854775807
      ·rw [if_pos c14] at H
       have c14b0:=eq_true c14
       have c14b1:decide (x3_1.size+(strOfNums y403).size≤9223372036854775807)=true:=dE c14
       try have c14b2:(9223372036854775807<x3_1.size+(strOfNums y403).size)=False:=eq_false (Nat.not_lt.2 c14)
       have H':=aM H
       clear H
       go_wp2_with (first | ((with_reducible refine gc_ 50 ?_);refine gl_ (some 19) Tryd.func50 #[.pointer (some ⟨g,0,none⟩),.int .i64 10] ?_;(with_reducible refine (Y3.calls g s0_0 x1001_1 x1002_1 x1003_1 10 t399 t400 t401 t402 w0 _ ?s1 ?s2 A10.out).mono ?_);(case s1=>repeat (first | (with_reducible first | exact HI0.out | apply IsS108.alloc | apply IsS108.drewN | apply IsS108.drew | apply IsS108.set_1 | apply IsS108.set_2 | apply IsS108.set_3) | exact HI0.out));(case s2=>repeat (first | (with_reducible first | exact HB.out | apply below_alloc | apply pw_below_drewN | apply below_drew1 | refine below_set ?_ (IsS108.ge HI0.out)) | exact HB.out));rintro e w15 ⟨rfl,hi,hb,hk⟩;refine ⟨_,rfl,?_⟩;have n0_:=aM (KeepBut.trans (z12_ HK.out) hk (.inl rfl));have n1_:=aM (hb);have n2_:=aM (hi);clear HK;clear HB;clear HI0;have HK:=n0_;have HB:=n1_;have HI0:=n2_;clear n0_ n1_ n2_;(try clear hb);(try clear hk);(try clear hi);have p13:0≤(t399:Int):=dT (z0_);have q13:t399<(10:Int):=dT (z0_);have hx13:=bt_at (⟨#[97,98,99,100,101,102,48,49,57,95]⟩:ByteArray) t399;replace p13:=eq_true p13;replace q13:=eq_true q13) | ((with_reducible refine gd_ 21 ?_);refine Kd.R_lit (Kd.int .u8) _ 5 ?hg (N:=21) ?hd (xs:=([bt (⟨#[97,98,99,100,101,102,48,49,57,95]⟩:ByteArray) t399]:List Int)) (inner:=[.int .u8 (bt (⟨#[97,98,99,100,101,102,48,49,57,95]⟩:ByteArray) t399)]) (ok:=fun _=>True) (okp:=fun _=>True) ?hr ?hp (fun _ hk=>hk) trivial (Below.refl _ _) (Nat.le_refl _) (by simp) ?_;(case hd=>rfl);(case hg=>rfl);(case hr=>first | (go_simp;done) | (go_simp;rfl));(case hp=>exact (Reps.one (show Kd.M (Kd.int .u8) _ _ _ (bt (⟨#[97,98,99,100,101,102,48,49,57,95]⟩:ByteArray) t399) [.int .u8 (bt (⟨#[97,98,99,100,101,102,48,49,57,95]⟩:ByteArray) t399)] from rfl) (Reps.none _ _)));intro v404 w16 ho17 hb hg_ hnew_;clear hg_ hnew_;(first | rw [← Ny403.out] at ho17 | (simp only [Int.reduceToNat] at ho17;rw [← Ny403.out] at ho17));have n0_:=aM (Kd.R_lower ho17 (keep_size (w:=w) (g:=g) (row:=none) (z12_ HK.out)));have n1_:=aM (IsS108.below (z16_ HI0.out) hb);have n2_:=aM (KeepBut.trans (z12_ HK.out) (KeepBut.of_below hb g none) (.inl rfl));have n3_:=aM (below_step (z17_ HB.out HI0.out) hb);clear HI0;clear HK;clear HB;have HO405:=n0_;have HI0:=n1_;have HK:=n2_;have HB:=n3_;clear n0_ n1_ n2_ n3_;clear hb ho17;have hcv18:=own_string (P:=Tryd.prog) Tryd.underlying31 Tryd.underlying5 Tryd.underlying9 (Kd.own_of_R HO405.out)))
       go_roundg k1
       case measure=>have:=HK1.out;omega
       case rel=>exact ⟨(x3_1 ++ (strOfNums y403)),(wrap64 (x4_1-1)),(t400),(t401),(t402),(z2_),(z2_),H',⟨by have:=HK1.out;omega⟩,⟨z16_ HI0.out⟩,⟨z12_ HK.out⟩,⟨z17_ HB.out HI0.out⟩⟩
      ·rw [if_neg c14] at H
       exact nO H
     ·rw [if_neg c12] at H
      exact nO H
    ·rw [if_neg c11] at H
     exact nO H
   ·rw [if_neg c9] at H
    have c9b0:decide (0<x4_1)=false:=dF c9
    clear c9
    simp only [Option.some.injEq,Prod.mk.injEq] at H
    obtain ⟨rfl,rfl,rfl,rfl⟩:=H
    go_wp2
    go_ret
    exact ⟨z9_,z16_ HI0.out,z17_ HB.out HI0.out,z12_ HK.out⟩


/-! ### Y20: function 15 -/
def Y20.j0:Nat→List Int→Int→Int→Int→Int→List (S77)→Int→List (S77)→Option (Int × (List (S77)) × Int × (List (S77)) × ByteArray × Int)
 | 0,_,_,_,_,_,_,_,_=>none
 | k+1,x413000,x413001,x413002,x413003,x421000,x421001,x427000,x427001=>(Y32.f k x413000 x413001 x413002 x413003).bind fun bt438=>((Y3.f x413000 bt438.2.1 bt438.2.2.1 bt438.2.2.2 7).bind fun bt442=>(some (x421000,x421001,x427000,x427001,bt438.1,bt442.1)))
def Y20.f (k:Nat) (l0:List Int):Option (Int × (List (S77)) × Int × (List (S77)) × ByteArray × Int):=(Y22.f k l0).bind fun bt408=>((Y34.f k bt408.1 bt408.2.1 bt408.2.2.1 bt408.2.2.2).bind fun bt413=>((Y37.f k bt413.1 bt413.2.1).bind fun bt421=>((Y49.f bt408.1 bt413.2.2.1 bt413.2.2.2.1 bt413.2.2.2.2 4).bind fun bt427=>(if bt427.1=true then ((Y34.f k bt408.1 bt427.2.1 bt427.2.2.1 bt427.2.2.2).bind fun bt431=>(Y20.j0 k bt408.1 bt431.2.2.1 bt431.2.2.2.1 bt431.2.2.2.2 bt413.1 bt413.2.1 bt431.1 bt431.2.1)) else (Y20.j0 k bt408.1 bt427.2.1 bt427.2.2.1 bt427.2.2.2 bt413.1 bt413.2.1 bt421.1 bt421.2.1)))))
theorem Y20.mono_l:∀ k,(∀ y0 y1 y2 y3 y4 y5 y6 y7,LeO (Y20.j0 k y0 y1 y2 y3 y4 y5 y6 y7) (Y20.j0 (k+1) y0 y1 y2 y3 y4 y5 y6 y7))
 | 0=>by intros <;> exact LeO.none _
 | k+1=>by
  have ih0:=Y20.mono_l k
  have m0:=@Y37.mono
  have m1:=@Y22.mono
  have m2:=@Y34.mono
  have m3:=@Y32.mono
  ·intros
   unfold Y20.j0
   exact mO
theorem Y20.mono:∀ a0 k,LeO (Y20.f k a0) (Y20.f (k+1) a0):=by
 intro a0 k
 have m0:=@Y37.mono
 have m1:=@Y22.mono
 have m2:=@Y34.mono
 have m3:=@Y32.mono
 have ih0:=Y20.mono_l k
 unfold Y20.f
 exact mO
def Y20.T6:Bool × List (List Nat × List Nat):=(true,[([],[]),([],[]),([],[]),([2],[2]),([],[]),([4,3],[4]),([0,5,0],[0]),([1,6,0,1,6],[1]),([3,7,0,1,2,3,6,7],[3]),([5,8,0,1,2,3,4,5,6,7,8],[5])])
def Y20.B6:List Nat:=[0,0,0,4,0,28,61,127,255,511]
theorem Y20.tab6:rtab .any (opsOf Tryd.f15 6)=Y20.T6:=by kernel_rfl
theorem Y20.bits6:waitsOk Y20.T6.2 Y20.B6=true:=by kernel_rfl
theorem Y20.calls (k:Nat) (A0:Option Addr) (c0:Nat) (l0:List Int) (r1:Int) (r2:List (S77)) (r3:Int) (r4:List (S77)) (r5:ByteArray) (r6:Int) (w:World) (hr0:Kd.C (Kd.int .u8) w A0 l0.length l0) (hc0:l0.length≤c0) (h:Y20.f k l0=some (r1,r2,r3,r4,r5,r6)) :
  Calls Tryd.prog 15 #[.slice A0 l0.length c0] w fun e w'=>∃ v1_ v3_:Value,e = .returned (.tuple #[.agg #[.int .i64 r1,v1_],.agg #[.int .i64 r3,v3_],.string r5,.int .i64 r6])∧Kd.R k77 77 w' w.heap.size (fun k_=>some k_≠(v3_:Value).ownBlock) v1_ r2∧Kd.R k77 77 w' w.heap.size (fun k_=>some k_≠(v1_:Value).ownBlock) v3_ r4∧Below w.heap.size w w':=by
 have hfd26_0:∀ (y0:Int) (y1:Value) (y2:Int) (w:World),(Instr.field 26 (.agg #[.int .i64 y0,y1,.int .i64 y2]) 0).run Tryd.prog w = .ok (.agg #[.int .i64 y0,y1]) w:=fun _ _ _ _=>by kernel_rfl
 have hu24:=Tryd.underlying24
 have HR0:=aM hr0
 have HC0:=aM hc0
 clear hr0 hc0
 have HB:=aM (Below.refl w.heap.size w)
 have H:((Y22.f k l0).bind fun bt408=>((Y34.f k bt408.1 bt408.2.1 bt408.2.2.1 bt408.2.2.2).bind fun bt413=>((Y37.f k bt413.1 bt413.2.1).bind fun bt421=>((Y49.f bt408.1 bt413.2.2.1 bt413.2.2.2.1 bt413.2.2.2.2 4).bind fun bt427=>(if bt427.1=true then ((Y34.f k bt408.1 bt427.2.1 bt427.2.2.1 bt427.2.2.2).bind fun bt431=>(Y20.j0 k bt408.1 bt431.2.2.1 bt431.2.2.2.1 bt431.2.2.2.2 bt413.1 bt413.2.1 bt431.1 bt431.2.1)) else (Y20.j0 k bt408.1 bt427.2.1 bt427.2.2.1 bt427.2.2.2 bt413.1 bt413.2.1 bt421.1 bt421.2.1))))))=some (r1,r2,r3,r4,r5,r6):=h
 clear h
 replace H:=bS H
 obtain ⟨⟨t408,t409,t410,t411⟩,A20,H⟩:=H
 replace H:((Y34.f k t408 t409 t410 t411).bind fun bt413=>((Y37.f k bt413.1 bt413.2.1).bind fun bt421=>((Y49.f t408 bt413.2.2.1 bt413.2.2.2.1 bt413.2.2.2.2 4).bind fun bt427=>(if bt427.1=true then ((Y34.f k t408 bt427.2.1 bt427.2.2.1 bt427.2.2.2).bind fun bt431=>(Y20.j0 k t408 bt431.2.2.1 bt431.2.2.2.1 bt431.2.2.2.2 bt413.1 bt413.2.1 bt431.1 bt431.2.1)) else (Y20.j0 k t408 bt427.2.1 bt427.2.2.1 bt427.2.2.2 bt413.1 bt413.2.1 bt421.1 bt421.2.1)))))=some (r1,r2,r3,r4,r5,r6):=H
 have A2:=aM A20
 clear A20
 replace H:=bS H
 obtain ⟨⟨t413,t414,t417,t418,t419⟩,A30,H⟩:=H
 replace H:((Y37.f k t413 t414).bind fun bt421=>((Y49.f t408 t417 t418 t419 4).bind fun bt427=>(if bt427.1=true then ((Y34.f k t408 bt427.2.1 bt427.2.2.1 bt427.2.2.2).bind fun bt431=>(Y20.j0 k t408 bt431.2.2.1 bt431.2.2.2.1 bt431.2.2.2.2 t413 t414 bt431.1 bt431.2.1)) else (Y20.j0 k t408 bt427.2.1 bt427.2.2.1 bt427.2.2.2 t413 t414 bt421.1 bt421.2.1))))=some (r1,r2,r3,r4,r5,r6):=H
 have A3:=aM A30
 clear A30
 replace H:=bS H
 obtain ⟨⟨t421,t422,t425⟩,A40,H⟩:=H
 replace H:((Y49.f t408 t417 t418 t419 4).bind fun bt427=>(if bt427.1=true then ((Y34.f k t408 bt427.2.1 bt427.2.2.1 bt427.2.2.2).bind fun bt431=>(Y20.j0 k t408 bt431.2.2.1 bt431.2.2.2.1 bt431.2.2.2.2 t413 t414 bt431.1 bt431.2.1)) else (Y20.j0 k t408 bt427.2.1 bt427.2.2.1 bt427.2.2.2 t413 t414 t421 t422)))=some (r1,r2,r3,r4,r5,r6):=H
 have A4:=aM A40
 clear A40
 replace H:=bS H
 obtain ⟨⟨t427,t428,t429,t430⟩,A50,H⟩:=H
 replace H:(if t427=true then ((Y34.f k t408 t428 t429 t430).bind fun bt431=>(Y20.j0 k t408 bt431.2.2.1 bt431.2.2.2.1 bt431.2.2.2.2 t413 t414 bt431.1 bt431.2.1)) else (Y20.j0 k t408 t428 t429 t430 t413 t414 t421 t422))=some (r1,r2,r3,r4,r5,r6):=H
 have A5:=aM A50
 clear A50
 have HC6:=aM H
 clear H
 go_enter Tryd.func15,Tryd.ntmps15
 go_upto_if 17 with (first | ((with_reducible refine gd_ 2 ?_);refine be_ 2 #[.int .i64 0,.slice none 0 0] 24 ?_;intro gb406 hg w7 hbox hb;have n0_:=aM (below_step (z5_ HB.out) hb);have n1_:=aM (hbox);have n2_:=aM ((z8_ HB.out:w.heap.size≤gb406));have n3_:=aM ((z8_ HB.out:w.heap.size≤gb406));clear HB;have HB:=n0_;have BK406:=n1_;have GW406:=n2_;have GE406:=n3_;clear n0_ n1_ n2_ n3_;clear hb hbox hg) | ((with_reducible refine gd_ 3 ?_);refine be_ 3 #[.int .i64 0,.slice none 0 0] 24 ?_;intro gb407 hg w8 hbox hb;have n0_:=aM (blkB_ BK406.out hb);have n1_:=aM (below_step (z7_ HB.out GE406.out) hb);have n2_:=aM (hbox);have n3_:=aM ((z11_ HB.out GE406.out:w.heap.size≤gb407));have n4_:=aM ((z11_ HB.out GE406.out:w.heap.size≤gb407));have n5_:=aM (neL_ BK406.out hg);have n6_:=aM (neG_ BK406.out hg);clear BK406;clear HB;have BK406:=n0_;have HB:=n1_;have BK407:=n2_;have GW407:=n3_;have GE407:=n4_;have NB406_407:=n5_;have NB407_406:=n6_;clear n0_ n1_ n2_ n3_ n4_ n5_ n6_;clear hb hbox hg) | ((with_reducible refine gc_ 45 ?_);refine gl_ (some 10) Tryd.func45 #[.slice A0 l0.length c0] ?_;(with_reducible refine (Y22.calls k _ _ l0 t408 t409 t410 t411 w _ ?s1 ?s2 ?s3 A2.out).mono ?_);(case s1=>repeat (first | (with_reducible first | exact HB.out | apply below_alloc | apply pw_below_drewN | apply below_drew1 | refine below_set ?_ GE406.out | refine below_set ?_ GE407.out) | exact HB.out));(case s2=>exact HR0.out);(case s3=>exact HC0.out);rintro e w9 ⟨g412,rfl,hi,hb,hb2⟩;refine ⟨_,rfl,?_⟩;have n0_:=aM (blk_below (g:=gb406) (o:=.cells #[.int .i64 0,.slice none 0 0] 24 (0,0)) (z3_ BK406.out) hb2);have n1_:=aM (blk_below (g:=gb407) (o:=.cells #[.int .i64 0,.slice none 0 0] 24 (0,0)) (z3_ BK407.out) hb2);have n2_:=aM (hb);have n3_:=aM (hi);have n4_:=aM (IsS108.ne_blk hi (blk_below (g:=gb406) (o:=.cells #[.int .i64 0,.slice none 0 0] 24 (0,0)) (z3_ BK406.out) hb2) (by decide));have n5_:=aM (Ne.symm (IsS108.ne_blk hi (blk_below (g:=gb406) (o:=.cells #[.int .i64 0,.slice none 0 0] 24 (0,0)) (z3_ BK406.out) hb2) (by decide)));have n6_:=aM (IsS108.ne_blk hi (blk_below (g:=gb407) (o:=.cells #[.int .i64 0,.slice none 0 0] 24 (0,0)) (z3_ BK407.out) hb2) (by decide));have n7_:=aM (Ne.symm (IsS108.ne_blk hi (blk_below (g:=gb407) (o:=.cells #[.int .i64 0,.slice none 0 0] 24 (0,0)) (z3_ BK407.out) hb2) (by decide)));clear BK406;clear BK407;clear HB;have BK406:=n0_;have BK407:=n1_;have HB:=n2_;have HI412:=n3_;have NB412_406:=n4_;have NB406_412:=n5_;have NB412_407:=n6_;have NB407_412:=n7_;clear n0_ n1_ n2_ n3_ n4_ n5_ n6_ n7_;(try clear hb);(try clear hb2);(try clear hi)) | ((with_reducible refine gc_ 46 ?_);refine gl_ (some 12) Tryd.func46 #[.pointer (some ⟨g412,0,none⟩)] ?_;(with_reducible refine (Y34.calls k g412 t408 t409 t410 t411 t413 t414 t417 t418 t419 w _ ?s1 ?s2 A3.out).mono ?_);(case s1=>repeat (first | (with_reducible first | exact HI412.out | apply IsS108.alloc | apply IsS108.drewN | apply IsS108.drew | apply IsS108.set_1 | apply IsS108.set_2 | apply IsS108.set_3 | refine IsS108.far ?_ (by exact NB412_406.out) _ | refine IsS108.far ?_ (by exact NB412_407.out) _) | exact HI412.out));(case s2=>repeat (first | (with_reducible first | exact HB.out | apply below_alloc | apply pw_below_drewN | apply below_drew1 | refine below_set ?_ (IsS108.ge HI412.out) | refine below_set ?_ GE406.out | refine below_set ?_ GE407.out) | exact HB.out));rintro e w10 ⟨v415,rfl,ho0,hi,hb,hk⟩;refine ⟨_,rfl,?_⟩;have n0_:=aM (KeepBut.blk hk (g':=gb406) (o:=.cells #[.int .i64 0,.slice none 0 0] 24 (0,0)) (z3_ BK406.out) NB406_412.out (by simp));have n1_:=aM (KeepBut.blk hk (g':=gb407) (o:=.cells #[.int .i64 0,.slice none 0 0] 24 (0,0)) (z3_ BK407.out) NB407_412.out (by simp));have n2_:=aM (Kd.R_lower ho0 (below_size (z45_ HB.out HI412.out GE406.out GE407.out)));have n3_:=aM (hb);have n4_:=aM (hi);clear BK406;clear BK407;clear HB;clear HI412;have BK406:=n0_;have BK407:=n1_;have HO416:=n2_;have HB:=n3_;have HI412:=n4_;clear n0_ n1_ n2_ n3_ n4_;(try clear hb);(try clear hk);(try clear hi);(try clear ho0)) | ((with_reducible refine gd_ 7 ?_);refine be_ 7 #[.int .i64 0,.slice none 0 0] 24 ?_;intro gb420 hg w11 hbox hb;have n0_:=aM (Kd.R_below (z1_ HO416.out) hb);have n1_:=aM (blkB_ BK406.out hb);have n2_:=aM (blkB_ BK407.out hb);have n3_:=aM (IsS108.below (z47_ HI412.out NB412_406.out NB412_407.out) hb);have n4_:=aM (below_step (z45_ HB.out HI412.out GE406.out GE407.out) hb);have n5_:=aM (hbox);have n6_:=aM ((by rw [hg];exact (below_size (by repeat (first | (with_reducible first | exact HB.out | apply below_alloc | apply pw_below_drewN | apply below_drew1 | refine below_set ?_ (IsS108.ge HI412.out) | refine below_set ?_ GE406.out | refine below_set ?_ GE407.out) | exact HB.out))):w.heap.size≤gb420));have n7_:=aM ((by rw [hg];exact (below_size (by repeat (first | (with_reducible first | exact HB.out | apply below_alloc | apply pw_below_drewN | apply below_drew1 | refine below_set ?_ (IsS108.ge HI412.out) | refine below_set ?_ GE406.out | refine below_set ?_ GE407.out) | exact HB.out))):w.heap.size≤gb420));have n8_:=aM (neL_ BK406.out hg);have n9_:=aM (neG_ BK406.out hg);have n10_:=aM (neL_ BK407.out hg);have n11_:=aM (neG_ BK407.out hg);have n12_:=aM ((by rw [hg];exact Nat.ne_of_lt (IsS108.lt (show IsS108 w _ g412 t408 t417 t418 t419 from by repeat (first | (with_reducible first | exact HI412.out | apply IsS108.alloc | apply IsS108.drewN | apply IsS108.drew | apply IsS108.set_1 | apply IsS108.set_2 | apply IsS108.set_3 | refine IsS108.far ?_ (by exact NB412_406.out) _ | refine IsS108.far ?_ (by exact NB412_407.out) _) | exact HI412.out))):g412≠gb420));have n13_:=aM ((by rw [hg];exact Nat.ne_of_gt (IsS108.lt (show IsS108 w _ g412 t408 t417 t418 t419 from by repeat (first | (with_reducible first | exact HI412.out | apply IsS108.alloc | apply IsS108.drewN | apply IsS108.drew | apply IsS108.set_1 | apply IsS108.set_2 | apply IsS108.set_3 | refine IsS108.far ?_ (by exact NB412_406.out) _ | refine IsS108.far ?_ (by exact NB412_407.out) _) | exact HI412.out))):gb420≠g412));clear HO416;clear BK406;clear BK407;clear HI412;clear HB;have HO416:=n0_;have BK406:=n1_;have BK407:=n2_;have HI412:=n3_;have HB:=n4_;have BK420:=n5_;have GW420:=n6_;have GE420:=n7_;have NB406_420:=n8_;have NB420_406:=n9_;have NB407_420:=n10_;have NB420_407:=n11_;have NB412_420:=n12_;have NB420_412:=n13_;clear n0_ n1_ n2_ n3_ n4_ n5_ n6_ n7_ n8_ n9_ n10_ n11_ n12_ n13_;clear hb hbox hg;have hnb12:=NB420_406.out;have hnc12:=NB406_420.out;have hnb13:=NB420_407.out;have hnc13:=NB407_420.out;have hnb14:=NB420_412.out;have hnc14:=NB412_420.out;have ⟨hcz15_0,hcz15_1,hfz15_0,hfz15_1⟩:=cz2_ BK420.out;obtain ⟨Ao16,co16,eo16⟩:=Kd.R_slice HO416.out;subst eo16) | ((with_reducible refine gc_ 17 ?_);refine gl_ (some 14) Tryd.func17 #[.agg #[.int .i64 t413,.slice Ao16 t414.length co16]] ?_;(with_reducible refine (Y37.calls k t413 _ _ t414 t421 t422 t425 _ ?s1 ?s2 A4.out).mono ?_);(case s1=>refine (Kd.R_reads' (e:=77) (base:=w.heap.size) (ok:=fun k_=>True) (n:=t414.length) (c:=co16) ?_).2.2;exact (z23_ HO416.out BK420.out));(case s2=>exact (Kd.R_reads' HO416.out).2.1);rintro e w17 ⟨v423,rfl,ho0,hb⟩;refine ⟨_,rfl,?_⟩;have n0_:=aM (Kd.R_elder' (z23_ HO416.out BK420.out) (Kd.R_base ho0) hb);have n1_:=aM (Kd.R_lower (Kd.R_new' ho0 (Kd.R_lt (z23_ HO416.out BK420.out))) (below_size (z56_ HB.out HI412.out GE406.out GE407.out GE420.out)));have n2_:=aM (blk_below (g:=gb406) (o:=.cells #[.int .i64 0,.slice none 0 0] 24 (0,0)) (z19_ NB406_420.out BK406.out) hb);have n3_:=aM (blk_below (g:=gb407) (o:=.cells #[.int .i64 0,.slice none 0 0] 24 (0,0)) (z19_ NB407_420.out BK407.out) hb);have n4_:=aM (IsS108.below (show IsS108 w ((w11.setCell ⟨gb420,0,none⟩ (.int .i64 t413)).setCell ⟨gb420,1,none⟩ (.slice Ao16 t414.length co16)) g412 t408 t417 t418 t419 from by repeat (first | (with_reducible first | exact HI412.out | apply IsS108.alloc | apply IsS108.drewN | apply IsS108.drew | apply IsS108.set_1 | apply IsS108.set_2 | apply IsS108.set_3 | refine IsS108.far ?_ (by exact NB412_406.out) _ | refine IsS108.far ?_ (by exact NB412_407.out) _ | refine IsS108.far ?_ (by exact NB412_420.out) _) | exact HI412.out)) hb);have n5_:=aM (blk_below (g:=gb420) (o:=.cells #[.int .i64 t413,.slice Ao16 t414.length co16] 24 (0,0)) (z20_ BK420.out) hb);have n6_:=aM (below_step (z56_ HB.out HI412.out GE406.out GE407.out GE420.out) hb);clear HO416;clear BK406;clear BK407;clear HI412;clear BK420;clear HB;have HO416:=n0_;have HO424:=n1_;have BK406:=n2_;have BK407:=n3_;have HI412:=n4_;have BK420:=n5_;have HB:=n6_;clear n0_ n1_ n2_ n3_ n4_ n5_ n6_;(try clear hb);(try clear hk);(try clear ho0)) | ((with_reducible refine gd_ 8 ?_);refine be_ 8 #[.int .i64 0,.slice none 0 0] 24 ?_;intro gb426 hg w18 hbox hb;have n0_:=aM (Kd.R_below (z1_ HO416.out) hb);have n1_:=aM (Kd.R_below (z1_ HO424.out) hb);have n2_:=aM (blkB_ BK406.out hb);have n3_:=aM (blkB_ BK407.out hb);have n4_:=aM (IsS108.below (by repeat (first | (with_reducible first | exact HI412.out | apply IsS108.alloc | apply IsS108.drewN | apply IsS108.drew | apply IsS108.set_1 | apply IsS108.set_2 | apply IsS108.set_3 | refine IsS108.far ?_ (by exact NB412_406.out) _ | refine IsS108.far ?_ (by exact NB412_407.out) _ | refine IsS108.far ?_ (by exact NB412_420.out) _) | exact HI412.out)) hb);have n5_:=aM (blkB_ BK420.out hb);have n6_:=aM (below_step (z56_ HB.out HI412.out GE406.out GE407.out GE420.out) hb);have n7_:=aM (hbox);have n8_:=aM ((by rw [hg];exact (below_size (by repeat (first | (with_reducible first | exact HB.out | apply below_alloc | apply pw_below_drewN | apply below_drew1 | refine below_set ?_ (IsS108.ge HI412.out) | refine below_set ?_ GE406.out | refine below_set ?_ GE407.out | refine below_set ?_ GE420.out) | exact HB.out))):w.heap.size≤gb426));have n9_:=aM ((by rw [hg];exact (below_size (by repeat (first | (with_reducible first | exact HB.out | apply below_alloc | apply pw_below_drewN | apply below_drew1 | refine below_set ?_ (IsS108.ge HI412.out) | refine below_set ?_ GE406.out | refine below_set ?_ GE407.out | refine below_set ?_ GE420.out) | exact HB.out))):w.heap.size≤gb426));have n10_:=aM (neL_ BK406.out hg);have n11_:=aM (neG_ BK406.out hg);have n12_:=aM (neL_ BK407.out hg);have n13_:=aM (neG_ BK407.out hg);have n14_:=aM (neL_ BK420.out hg);have n15_:=aM (neG_ BK420.out hg);have n16_:=aM ((by rw [hg];exact Nat.ne_of_lt (IsS108.lt (show IsS108 w _ g412 t408 t417 t418 t419 from by repeat (first | (with_reducible first | exact HI412.out | apply IsS108.alloc | apply IsS108.drewN | apply IsS108.drew | apply IsS108.set_1 | apply IsS108.set_2 | apply IsS108.set_3 | refine IsS108.far ?_ (by exact NB412_406.out) _ | refine IsS108.far ?_ (by exact NB412_407.out) _ | refine IsS108.far ?_ (by exact NB412_420.out) _) | exact HI412.out))):g412≠gb426));have n17_:=aM ((by rw [hg];exact Nat.ne_of_gt (IsS108.lt (show IsS108 w _ g412 t408 t417 t418 t419 from by repeat (first | (with_reducible first | exact HI412.out | apply IsS108.alloc | apply IsS108.drewN | apply IsS108.drew | apply IsS108.set_1 | apply IsS108.set_2 | apply IsS108.set_3 | refine IsS108.far ?_ (by exact NB412_406.out) _ | refine IsS108.far ?_ (by exact NB412_407.out) _ | refine IsS108.far ?_ (by exact NB412_420.out) _) | exact HI412.out))):gb426≠g412));clear HO416;clear HO424;clear BK406;clear BK407;clear HI412;clear BK420;clear HB;have HO416:=n0_;have HO424:=n1_;have BK406:=n2_;have BK407:=n3_;have HI412:=n4_;have BK420:=n5_;have HB:=n6_;have BK426:=n7_;have GW426:=n8_;have GE426:=n9_;have NB406_426:=n10_;have NB426_406:=n11_;have NB407_426:=n12_;have NB426_407:=n13_;have NB420_426:=n14_;have NB426_420:=n15_;have NB412_426:=n16_;have NB426_412:=n17_;clear n0_ n1_ n2_ n3_ n4_ n5_ n6_ n7_ n8_ n9_ n10_ n11_ n12_ n13_ n14_ n15_ n16_ n17_;clear hb hbox hg;have hnb19:=NB426_406.out;have hnc19:=NB406_426.out;have hnb20:=NB426_407.out;have hnc20:=NB407_426.out;have hnb21:=NB426_420.out;have hnc21:=NB420_426.out;have hnb22:=NB426_412.out;have hnc22:=NB412_426.out;have ⟨hcz23_0,hcz23_1,hfz23_0,hfz23_1⟩:=cz2_ BK426.out;obtain ⟨Ao24,co24,eo24⟩:=Kd.R_slice HO424.out;subst eo24) | ((with_reducible refine gc_ 48 ?_);refine gl_ (some 17) Tryd.func48 #[.pointer (some ⟨g412,0,none⟩),.int .i64 4] ?_;(with_reducible refine (Y49.calls g412 t408 t417 t418 t419 4 t427 t428 t429 t430 w _ ?s1 ?s2 A5.out).mono ?_);(case s1=>repeat (first | (with_reducible first | exact HI412.out | apply IsS108.alloc | apply IsS108.drewN | apply IsS108.drew | apply IsS108.set_1 | apply IsS108.set_2 | apply IsS108.set_3 | refine IsS108.far ?_ (by exact NB412_406.out) _ | refine IsS108.far ?_ (by exact NB412_407.out) _ | refine IsS108.far ?_ (by exact NB412_420.out) _ | refine IsS108.far ?_ (by exact NB412_426.out) _) | exact HI412.out));(case s2=>repeat (first | (with_reducible first | exact HB.out | apply below_alloc | apply pw_below_drewN | apply below_drew1 | refine below_set ?_ (IsS108.ge HI412.out) | refine below_set ?_ GE406.out | refine below_set ?_ GE407.out | refine below_set ?_ GE420.out | refine below_set ?_ GE426.out) | exact HB.out));rintro e w25 ⟨rfl,hi,hb,hk⟩;refine ⟨_,rfl,?_⟩;have n0_:=aM (KeepBut.blk hk (g':=gb406) (o:=.cells #[.int .i64 0,.slice none 0 0] 24 (0,0)) (z19_ NB406_426.out BK406.out) NB406_412.out (by simp));have n1_:=aM (KeepBut.blk hk (g':=gb407) (o:=.cells #[.int .i64 0,.slice none 0 0] 24 (0,0)) (z19_ NB407_426.out BK407.out) NB407_412.out (by simp));have n2_:=aM (Kd.R_mono (Kd.R_keep (IsS108.apart (show IsS108 w _ g412 t408 t417 t418 t419 from by repeat (first | (with_reducible first | exact HI412.out | apply IsS108.alloc | apply IsS108.drewN | apply IsS108.drew | apply IsS108.set_1 | apply IsS108.set_2 | apply IsS108.set_3 | refine IsS108.far ?_ (by exact NB412_406.out) _ | refine IsS108.far ?_ (by exact NB412_407.out) _ | refine IsS108.far ?_ (by exact NB412_420.out) _ | refine IsS108.far ?_ (by exact NB412_426.out) _) | exact HI412.out)) (z23_ HO416.out BK426.out) (by decide)) hk (fun _ h=>h.2)) (fun _ h=>h.1));have n3_:=aM (KeepBut.blk hk (g':=gb420) (o:=.cells #[.int .i64 t413,.slice Ao16 t414.length co16] 24 (0,0)) (z19_ NB420_426.out BK420.out) NB420_412.out (by simp));have n4_:=aM (Kd.R_mono (Kd.R_keep (IsS108.apart (show IsS108 w _ g412 t408 t417 t418 t419 from by repeat (first | (with_reducible first | exact HI412.out | apply IsS108.alloc | apply IsS108.drewN | apply IsS108.drew | apply IsS108.set_1 | apply IsS108.set_2 | apply IsS108.set_3 | refine IsS108.far ?_ (by exact NB412_406.out) _ | refine IsS108.far ?_ (by exact NB412_407.out) _ | refine IsS108.far ?_ (by exact NB412_420.out) _ | refine IsS108.far ?_ (by exact NB412_426.out) _) | exact HI412.out)) (z23_ HO424.out BK426.out) (by decide)) hk (fun _ h=>h.2)) (fun _ h=>h.1));have n5_:=aM (KeepBut.blk hk (g':=gb426) (o:=.cells #[.int .i64 t421,.slice Ao24 t422.length co24] 24 (0,0)) (z20_ BK426.out) NB426_412.out (by simp));have n6_:=aM (hb);have n7_:=aM (hi);clear BK406;clear BK407;clear HO416;clear BK420;clear HO424;clear BK426;clear HB;clear HI412;have BK406:=n0_;have BK407:=n1_;have HO416:=n2_;have BK420:=n3_;have HO424:=n4_;have BK426:=n5_;have HB:=n6_;have HI412:=n7_;clear n0_ n1_ n2_ n3_ n4_ n5_ n6_ n7_;(try clear hb);(try clear hk);(try clear hi)))
 (try simp only [Act.put,sa_,s0_,ss_])
 go_cut [] (fun wc=>∃ (kq:Nat) (x413001_5:Int) (x413002_5:Int) (x413003_5:Int) (x427000_5:Int) (x427001_5:List (S77)) (u427001:Value),Aside0 (Y20.j0 kq t408 x413001_5 x413002_5 x413003_5 t413 t414 x427000_5 x427001_5=some (r1,r2,r3,r4,r5,r6))∧Aside0 (kq≤k)∧Aside0 (Kd.R k77 77 wc w.heap.size (fun k_=>some k_≠(u427001:Value).ownBlock) (.slice Ao16 t414.length co16) t414)∧Aside0 (Kd.R k77 77 wc w.heap.size (fun k_=>some k_≠((.slice Ao16 t414.length co16):Value).ownBlock) u427001 x427001_5)∧Aside0 (wc.heap[gb406]? = some (.cells #[.int .i64 0,(.slice none 0 0)] 24 (0,0)))∧Aside0 (wc.heap[gb407]? = some (.cells #[.int .i64 0,(.slice none 0 0)] 24 (0,0)))∧Aside0 (wc.heap[gb420]? = some (.cells #[.int .i64 t413,(.slice Ao16 t414.length co16)] 24 (0,0)))∧Aside0 (wc.heap[gb426]? = some (.cells #[.int .i64 x427000_5,u427001] 24 (0,0)))∧Aside0 (IsS108 w wc g412 t408 x413001_5 x413002_5 x413003_5)∧Aside0 (Below w.heap.size w wc))
 case first =>
  have H:=HC6.out
  clear HC6
  by_cases c26:t427=true
  ·subst c26
   have H1:((Y34.f k t408 t428 t429 t430).bind fun bt431=>(Y20.j0 k t408 bt431.2.2.1 bt431.2.2.2.1 bt431.2.2.2.2 t413 t414 bt431.1 bt431.2.1))=some (r1,r2,r3,r4,r5,r6):=by rw [if_pos rfl] at H;exact H
   clear H
   have H:=H1
   clear H1
   replace H:=bS H
   obtain ⟨⟨t431,t432,t435,t436,t437⟩,A270,H⟩:=H
   replace H:(Y20.j0 k t408 t435 t436 t437 t413 t414 t431 t432)=some (r1,r2,r3,r4,r5,r6):=H
   have A27:=aM A270
   clear A270
   have H':=aM H
   clear H
   go_wp2_with (first | ((with_reducible refine gc_ 46 ?_);refine gl_ (some 19) Tryd.func46 #[.pointer (some ⟨g412,0,none⟩)] ?_;(with_reducible refine (Y34.calls k g412 t408 t428 t429 t430 t431 t432 t435 t436 t437 w _ ?s1 ?s2 A27.out).mono ?_);(case s1=>repeat (first | (with_reducible first | exact HI412.out | apply IsS108.alloc | apply IsS108.drewN | apply IsS108.drew | apply IsS108.set_1 | apply IsS108.set_2 | apply IsS108.set_3 | refine IsS108.far ?_ (by exact NB412_406.out) _ | refine IsS108.far ?_ (by exact NB412_407.out) _ | refine IsS108.far ?_ (by exact NB412_420.out) _ | refine IsS108.far ?_ (by exact NB412_426.out) _) | exact HI412.out));(case s2=>repeat (first | (with_reducible first | exact HB.out | apply below_alloc | apply pw_below_drewN | apply below_drew1 | refine below_set ?_ (IsS108.ge HI412.out) | refine below_set ?_ GE406.out | refine below_set ?_ GE407.out | refine below_set ?_ GE420.out | refine below_set ?_ GE426.out) | exact HB.out));rintro e w28 ⟨v433,rfl,ho0,hi,hb,hk⟩;refine ⟨_,rfl,?_⟩;have n0_:=aM (KeepBut.blk hk (g':=gb406) (o:=.cells #[.int .i64 0,.slice none 0 0] 24 (0,0)) (z3_ BK406.out) NB406_412.out (by simp));have n1_:=aM (KeepBut.blk hk (g':=gb407) (o:=.cells #[.int .i64 0,.slice none 0 0] 24 (0,0)) (z3_ BK407.out) NB407_412.out (by simp));have n2_:=aM (Kd.R_mono (Kd.R_told (Kd.R_oldK (IsS108.apart (show IsS108 w _ g412 t408 t428 t429 t430 from by repeat (first | (with_reducible first | exact HI412.out | apply IsS108.alloc | apply IsS108.drewN | apply IsS108.drew | apply IsS108.set_1 | apply IsS108.set_2 | apply IsS108.set_3 | refine IsS108.far ?_ (by exact NB412_406.out) _ | refine IsS108.far ?_ (by exact NB412_407.out) _ | refine IsS108.far ?_ (by exact NB412_420.out) _ | refine IsS108.far ?_ (by exact NB412_426.out) _) | exact HI412.out)) (z1_ HO416.out) (by decide)) hk) (Kd.R_base ho0)) (fun _ h_=>h_.1));have n3_:=aM (KeepBut.blk hk (g':=gb420) (o:=.cells #[.int .i64 t413,.slice Ao16 t414.length co16] 24 (0,0)) (z3_ BK420.out) NB420_412.out (by simp));have n4_:=aM (Kd.R_mono (Kd.R_told (Kd.R_oldK (IsS108.apart (show IsS108 w _ g412 t408 t428 t429 t430 from by repeat (first | (with_reducible first | exact HI412.out | apply IsS108.alloc | apply IsS108.drewN | apply IsS108.drew | apply IsS108.set_1 | apply IsS108.set_2 | apply IsS108.set_3 | refine IsS108.far ?_ (by exact NB412_406.out) _ | refine IsS108.far ?_ (by exact NB412_407.out) _ | refine IsS108.far ?_ (by exact NB412_420.out) _ | refine IsS108.far ?_ (by exact NB412_426.out) _) | exact HI412.out)) (z1_ HO424.out) (by decide)) hk) (Kd.R_base ho0)) (fun _ h_=>h_.1));have n5_:=aM (KeepBut.blk hk (g':=gb426) (o:=.cells #[.int .i64 t421,.slice Ao24 t422.length co24] 24 (0,0)) (z3_ BK426.out) NB426_412.out (by simp));have n6_:=aM (Kd.R_lower (Kd.R_new' (Kd.R_new' ho0 (Kd.R_lt (z1_ HO416.out))) (Kd.R_lt (z1_ HO424.out))) (below_size (z50_ HB.out HI412.out GE406.out GE407.out GE420.out GE426.out)));have n7_:=aM (hb);have n8_:=aM (hi);clear BK406;clear BK407;clear HO416;clear BK420;clear HO424;clear BK426;clear HB;clear HI412;have BK406:=n0_;have BK407:=n1_;have HO416:=n2_;have BK420:=n3_;have HO424:=n4_;have BK426:=n5_;have HO434:=n6_;have HB:=n7_;have HI412:=n8_;clear n0_ n1_ n2_ n3_ n4_ n5_ n6_ n7_ n8_;(try clear hb);(try clear hk);(try clear hi);(try clear ho0);have hnb29:=NB426_406.out;have hnc29:=NB406_426.out;have hnb30:=NB426_407.out;have hnc30:=NB407_426.out;have hnb31:=NB426_420.out;have hnc31:=NB420_426.out;have hnb32:=NB426_412.out;have hnc32:=NB412_426.out;have ⟨hcz33_0,hcz33_1,hfz33_0,hfz33_1⟩:=cz2_ BK426.out;obtain ⟨Ao34,co34,eo34⟩:=Kd.R_slice HO434.out;subst eo34))
   go_meet
   case rel=>exact ⟨_,(t435),(t436),(t437),(t431),(t432),(.slice Ao34 t432.length co34),H',⟨by first | omega | exact Nat.le_refl _⟩,⟨by (with_reducible repeat (first | apply Kd.R_alloc | apply Kd.R_drewN | apply Kd.R_drew));exact Kd.R_mono (rf2_ (Kd.R_types HO416.out BK426.out (by decide)) (fun _ hk=>hk.2)) (fun _ hk=>hk.1.2)⟩,⟨by (with_reducible repeat (first | apply Kd.R_alloc | apply Kd.R_drewN | apply Kd.R_drew));exact Kd.R_mono (rf2_ (Kd.R_types HO434.out BK426.out (by decide)) (fun _ hk=>hk.2)) (fun _ hk=>hk.1.1.2)⟩,⟨z19_ NB406_426.out BK406.out⟩,⟨z19_ NB407_426.out BK407.out⟩,⟨z19_ NB420_426.out BK420.out⟩,⟨z20_ BK426.out⟩,⟨by repeat (first | (with_reducible first | exact HI412.out | apply IsS108.alloc | apply IsS108.drewN | apply IsS108.drew | apply IsS108.set_1 | apply IsS108.set_2 | apply IsS108.set_3 | refine IsS108.far ?_ (by exact NB412_406.out) _ | refine IsS108.far ?_ (by exact NB412_407.out) _ | refine IsS108.far ?_ (by exact NB412_420.out) _ | refine IsS108.far ?_ (by exact NB412_426.out) _) | exact HI412.out)⟩,⟨z50_ HB.out HI412.out GE406.out GE407.out GE420.out GE426.out⟩⟩
  ·replace c26:=Bool.eq_false_iff.mpr c26
   subst c26
   have H1:(Y20.j0 k t408 t428 t429 t430 t413 t414 t421 t422)=some (r1,r2,r3,r4,r5,r6):=by rw [if_neg (show ¬ (false=true) by decide)] at H;exact H
   clear H
   have H:=H1
   clear H1
   have H':=aM H
   clear H
   go_wp2
   go_meet
   case rel=>exact ⟨_,(t428),(t429),(t430),(t421),(t422),(.slice Ao24 t422.length co24),H',⟨by first | omega | exact Nat.le_refl _⟩,⟨z46_ HO416.out⟩,⟨z46_ HO424.out⟩,⟨z3_ BK406.out⟩,⟨z3_ BK407.out⟩,⟨z3_ BK420.out⟩,⟨z3_ BK426.out⟩,⟨by repeat (first | (with_reducible first | exact HI412.out | apply IsS108.alloc | apply IsS108.drewN | apply IsS108.drew | apply IsS108.set_1 | apply IsS108.set_2 | apply IsS108.set_3 | refine IsS108.far ?_ (by exact NB412_406.out) _ | refine IsS108.far ?_ (by exact NB412_407.out) _ | refine IsS108.far ?_ (by exact NB412_420.out) _ | refine IsS108.far ?_ (by exact NB412_426.out) _) | exact HI412.out)⟩,⟨z50_ HB.out HI412.out GE406.out GE407.out GE420.out GE426.out⟩⟩
 case rest =>
  clear HC6
  try clear c1
  try clear c2
  try clear p2
  try clear c3
  try clear c4
  try clear c12
  try clear c13
  try clear c14
  try clear c15
  try clear c17
  try clear c19
  try clear c20
  try clear c21
  try clear c22
  try clear c26
  try clear c29
  try clear c30
  try clear c31
  try clear c32
  try clear hcz15_0
  try clear hcz15_1
  try clear hcz23_0
  try clear hcz23_1
  try clear hcz33_0
  try clear hcz33_1
  try clear hfz15_0
  try clear hfz15_1
  try clear hfz23_0
  try clear hfz23_1
  try clear hfz33_0
  try clear hfz33_1
  obtain ⟨kq,x413001_5,x413002_5,x413003_5,x427000_5,x427001_5,u427001,HA,HJ5,HO_421001,HO_427001,BK406,BK407,BK420,BK426,HI412,HB⟩:=hcut
  cases kq with
  | zero=>exact absurd HA.out (by simp [Y20.j0])
  | succ kj5 =>
   have H:=HA.out
   clear HA
   simp only [Y20.j0] at H
   replace H:=bS H
   obtain ⟨⟨t438,t439,t440,t441⟩,A350,H⟩:=H
   replace H:((Y3.f t408 t439 t440 t441 7).bind fun bt442=>(some (t413,t414,x427000_5,x427001_5,t438,bt442.1)))=some (r1,r2,r3,r4,r5,r6):=H
   have A35:=aM A350
   clear A350
   replace H:=bS H
   obtain ⟨⟨t442,t443,t444,t445⟩,A360,H⟩:=H
   replace H:(some (t413,t414,x427000_5,x427001_5,t438,t442))=some (r1,r2,r3,r4,r5,r6):=H
   have A36:=aM A360
   clear A360
   simp only [Option.some.injEq,Prod.mk.injEq] at H
   obtain ⟨rfl,rfl,rfl,rfl,rfl,rfl⟩:=H
   try go_wp2
   have n0_:=aM (Kd.R_drew HO_421001.out)
   have n1_:=aM (Kd.R_drew HO_427001.out)
   have n2_:=aM (blk_drew BK406.out)
   have n3_:=aM (blk_drew BK407.out)
   have n4_:=aM (blk_drew BK420.out)
   have n5_:=aM (blk_drew BK426.out)
   have n6_:=aM (IsS108.drew HI412.out)
   have n7_:=aM (below_drew1 HB.out)
   clear HO_421001
   clear HO_427001
   clear BK406
   clear BK407
   clear BK420
   clear BK426
   clear HI412
   clear HB
   have HO_421001:=n0_
   have HO_427001:=n1_
   have BK406:=n2_
   have BK407:=n3_
   have BK420:=n4_
   have BK426:=n5_
   have HI412:=n6_
   have HB:=n7_
   clear n0_ n1_ n2_ n3_ n4_ n5_ n6_ n7_
   refine start_ (n:=10) (S:=fun w'=>w'.cell? ⟨gb420,0,none⟩=some (.int .i64 t413)∧w'.cell? ⟨gb420,1,none⟩=some (.slice Ao16 t414.length co16)∧w'.cell? ⟨gb426,0,none⟩=some (.int .i64 x427000_5)∧w'.cell? ⟨gb426,1,none⟩=some (u427001)) (ds:=[]) #[O,O,O,O,O,O,O,O,O,O] (by kernel_rfl) rfl rfl (cj2_ BK420.out (cc2_ BK426.out)) (fun hHeld=>?_);refine with_tabW Y20.tab6 Y20.bits6 (fun HT_ HW_=>?_)
   generalize wc.drew=w37 at HO_421001 HO_427001 BK406 BK407 BK420 BK426 HI412 HB hHeld ⊢
   refine pu_ 2 22 #[O,O,I,O,O,O,O,O,O,O] HT_.out ?_
   refine pu_ 4 24 #[O,O,I,O,I,O,O,O,O,O] HT_.out ?_
   refine tk4_ 0 20 #[I,O,I,O,I,O,O,O,O,O] HT_.out HW_.out hHeld ?_
   refine tk4_ 1 21 #[I,I,I,O,I,O,O,O,O,O] HT_.out HW_.out hHeld ?_
   refine o1_ 3 23 #[I,I,I,I,I,O,O,O,O,O] HT_.out (fun K hK=>?_)
   refine gs_ Tryd.func49 #[.pointer (some ⟨g412,0,none⟩)] ?_
   with_reducible refine (Y32.calls kj5 g412 t408 x413001_5 x413002_5 x413003_5 t438 t439 t440 t441 w _ ?s1 ?s2 A35.out).mono ?_
   (case s1=>repeat (first | (with_reducible first | exact HI412.out | apply IsS108.alloc | apply IsS108.drewN | apply IsS108.drew | apply IsS108.set_1 | apply IsS108.set_2 | apply IsS108.set_3 | refine IsS108.far ?_ (by exact NB412_406.out) _ | refine IsS108.far ?_ (by exact NB412_407.out) _ | refine IsS108.far ?_ (by exact NB412_420.out) _ | refine IsS108.far ?_ (by exact NB412_426.out) _) | exact HI412.out))
   (case s2=>repeat (first | (with_reducible first | exact HB.out | apply below_alloc | apply pw_below_drewN | apply below_drew1 | refine below_set ?_ (IsS108.ge HI412.out) | refine below_set ?_ GE406.out | refine below_set ?_ GE407.out | refine below_set ?_ GE420.out | refine below_set ?_ GE426.out) | exact HB.out))
   rintro e w38 ⟨rfl,hi,hb,hk⟩
   refine ⟨_,rfl,?_⟩
   have n0_:=aM (Kd.R_mono (Kd.R_keep (IsS108.apart (show IsS108 w _ g412 t408 x413001_5 x413002_5 x413003_5 from by repeat (first | (with_reducible first | exact HI412.out | apply IsS108.alloc | apply IsS108.drewN | apply IsS108.drew | apply IsS108.set_1 | apply IsS108.set_2 | apply IsS108.set_3 | refine IsS108.far ?_ (by exact NB412_406.out) _ | refine IsS108.far ?_ (by exact NB412_407.out) _ | refine IsS108.far ?_ (by exact NB412_420.out) _ | refine IsS108.far ?_ (by exact NB412_426.out) _) | exact HI412.out)) (z1_ HO_421001.out) (by decide)) hk (fun _ h=>h.2)) (fun _ h=>h.1))
   have n1_:=aM (Kd.R_mono (Kd.R_keep (IsS108.apart (show IsS108 w _ g412 t408 x413001_5 x413002_5 x413003_5 from by repeat (first | (with_reducible first | exact HI412.out | apply IsS108.alloc | apply IsS108.drewN | apply IsS108.drew | apply IsS108.set_1 | apply IsS108.set_2 | apply IsS108.set_3 | refine IsS108.far ?_ (by exact NB412_406.out) _ | refine IsS108.far ?_ (by exact NB412_407.out) _ | refine IsS108.far ?_ (by exact NB412_420.out) _ | refine IsS108.far ?_ (by exact NB412_426.out) _) | exact HI412.out)) (z1_ HO_427001.out) (by decide)) hk (fun _ h=>h.2)) (fun _ h=>h.1))
   have n2_:=aM (KeepBut.blk hk (g':=gb406) (o:=.cells #[.int .i64 0,.slice none 0 0] 24 (0,0)) (z3_ BK406.out) NB406_412.out (by simp))
   have n3_:=aM (KeepBut.blk hk (g':=gb407) (o:=.cells #[.int .i64 0,.slice none 0 0] 24 (0,0)) (z3_ BK407.out) NB407_412.out (by simp))
   have n4_:=aM (KeepBut.blk hk (g':=gb420) (o:=.cells #[.int .i64 t413,.slice Ao16 t414.length co16] 24 (0,0)) (z3_ BK420.out) NB420_412.out (by simp))
   have n5_:=aM (KeepBut.blk hk (g':=gb426) (o:=.cells #[.int .i64 x427000_5,u427001] 24 (0,0)) (z3_ BK426.out) NB426_412.out (by simp))
   have n6_:=aM (hb)
   have n7_:=aM (hi)
   clear HO_421001
   clear HO_427001
   clear BK406
   clear BK407
   clear BK420
   clear BK426
   clear HB
   clear HI412
   have HO_421001:=n0_
   have HO_427001:=n1_
   have BK406:=n2_
   have BK407:=n3_
   have BK420:=n4_
   have BK426:=n5_
   have HB:=n6_
   have HI412:=n7_
   clear n0_ n1_ n2_ n3_ n4_ n5_ n6_ n7_
   (try clear hb)
   (try clear hk)
   (try clear hi)
   refine hK.out _ _ (cj2_ BK420.out (cc2_ BK426.out)) (fun hHeld=>?_)
   clear hK K
   refine nm_ 23 ?_
   refine o1_ 5 25 #[I,I,I,I,I,I,O,O,O,O] HT_.out (fun K hK=>?_)
   refine gs_ Tryd.func50 #[.pointer (some ⟨g412,0,none⟩),.int .i64 7] ?_
   with_reducible refine (Y3.calls g412 t408 t439 t440 t441 7 t442 t443 t444 t445 w _ ?s1 ?s2 A36.out).mono ?_
   (case s1=>repeat (first | (with_reducible first | exact HI412.out | apply IsS108.alloc | apply IsS108.drewN | apply IsS108.drew | apply IsS108.set_1 | apply IsS108.set_2 | apply IsS108.set_3 | refine IsS108.far ?_ (by exact NB412_406.out) _ | refine IsS108.far ?_ (by exact NB412_407.out) _ | refine IsS108.far ?_ (by exact NB412_420.out) _ | refine IsS108.far ?_ (by exact NB412_426.out) _) | exact HI412.out))
   (case s2=>repeat (first | (with_reducible first | exact HB.out | apply below_alloc | apply pw_below_drewN | apply below_drew1 | refine below_set ?_ (IsS108.ge HI412.out) | refine below_set ?_ GE406.out | refine below_set ?_ GE407.out | refine below_set ?_ GE420.out | refine below_set ?_ GE426.out) | exact HB.out))
   rintro e w39 ⟨rfl,hi,hb,hk⟩
   refine ⟨_,rfl,?_⟩
   have n0_:=aM (Kd.R_mono (Kd.R_keep (IsS108.apart (show IsS108 w _ g412 t408 t439 t440 t441 from by repeat (first | (with_reducible first | exact HI412.out | apply IsS108.alloc | apply IsS108.drewN | apply IsS108.drew | apply IsS108.set_1 | apply IsS108.set_2 | apply IsS108.set_3 | refine IsS108.far ?_ (by exact NB412_406.out) _ | refine IsS108.far ?_ (by exact NB412_407.out) _ | refine IsS108.far ?_ (by exact NB412_420.out) _ | refine IsS108.far ?_ (by exact NB412_426.out) _) | exact HI412.out)) (z1_ HO_421001.out) (by decide)) hk (fun _ h=>h.2)) (fun _ h=>h.1))
   have n1_:=aM (Kd.R_mono (Kd.R_keep (IsS108.apart (show IsS108 w _ g412 t408 t439 t440 t441 from by repeat (first | (with_reducible first | exact HI412.out | apply IsS108.alloc | apply IsS108.drewN | apply IsS108.drew | apply IsS108.set_1 | apply IsS108.set_2 | apply IsS108.set_3 | refine IsS108.far ?_ (by exact NB412_406.out) _ | refine IsS108.far ?_ (by exact NB412_407.out) _ | refine IsS108.far ?_ (by exact NB412_420.out) _ | refine IsS108.far ?_ (by exact NB412_426.out) _) | exact HI412.out)) (z1_ HO_427001.out) (by decide)) hk (fun _ h=>h.2)) (fun _ h=>h.1))
   have n2_:=aM (KeepBut.blk hk (g':=gb406) (o:=.cells #[.int .i64 0,.slice none 0 0] 24 (0,0)) (z3_ BK406.out) NB406_412.out (by simp))
   have n3_:=aM (KeepBut.blk hk (g':=gb407) (o:=.cells #[.int .i64 0,.slice none 0 0] 24 (0,0)) (z3_ BK407.out) NB407_412.out (by simp))
   have n4_:=aM (KeepBut.blk hk (g':=gb420) (o:=.cells #[.int .i64 t413,.slice Ao16 t414.length co16] 24 (0,0)) (z3_ BK420.out) NB420_412.out (by simp))
   have n5_:=aM (KeepBut.blk hk (g':=gb426) (o:=.cells #[.int .i64 x427000_5,u427001] 24 (0,0)) (z3_ BK426.out) NB426_412.out (by simp))
   have n6_:=aM (hb)
   have n7_:=aM (hi)
   clear HO_421001
   clear HO_427001
   clear BK406
   clear BK407
   clear BK420
   clear BK426
   clear HB
   clear HI412
   have HO_421001:=n0_
   have HO_427001:=n1_
   have BK406:=n2_
   have BK407:=n3_
   have BK420:=n4_
   have BK426:=n5_
   have HB:=n6_
   have HI412:=n7_
   clear n0_ n1_ n2_ n3_ n4_ n5_ n6_ n7_
   (try clear hb)
   (try clear hk)
   (try clear hi)
   obtain ⟨Ao43,co43,eo43⟩:=Kd.R_slice HO_427001.out
   (first | subst eo43 | (injection eo43 with f1_ f2_ f3_;have f4_:=f1_.symm;have f5_:=f3_.symm;clear f1_ f2_ f3_;subst f4_;subst f5_))
   refine hK.out _ _ (cj2_ BK420.out (cc2_ BK426.out)) (fun hHeld=>?_)
   clear hK K
   refine nm_ 25 ?_
   refine one_ (i:=6) (N:=none) #[I,I,I,I,I,I,I,O,O,O] rfl rfl (one_of HT_.out (by kernel_rfl)) (by decide) (fun K hK=>?_)
   have hs40:w39.cell? ⟨gb406,0,none⟩=some (.int .i64 0):=(blk_cell BK406.out 0).trans rfl
   have hfs40:=blk_frozen BK406.out 0
   have hns40_1:=NB407_406.out
   have hns40_2:=NB420_406.out
   have hns40_3:=NB426_406.out
   have hms40_1:=NB406_407.out
   have hms40_2:=NB406_420.out
   have hms40_3:=NB406_426.out
   have hs41:w39.cell? ⟨gb406,1,none⟩=some (.slice none 0 0):=(blk_cell BK406.out 1).trans rfl
   have hfs41:=blk_frozen BK406.out 1
   have hns41_1:=NB407_406.out
   have hns41_2:=NB420_406.out
   have hns41_3:=NB426_406.out
   have hms41_1:=NB406_407.out
   have hms41_2:=NB406_420.out
   have hms41_3:=NB406_426.out
   refine skip_ (w1:=?_) (by rfl) rfl ?_ ?_
   rotate_left
   ·go_simp
    rfl
   refine hK.out _ _ ⟨((cell_far (p:=⟨gb406,_,none⟩) NB420_406.out _).trans (((cell_far (p:=⟨gb406,_,none⟩) NB420_406.out _).trans (hHeld.1)))),((cell_far (p:=⟨gb406,_,none⟩) NB420_406.out _).trans (((cell_far (p:=⟨gb406,_,none⟩) NB420_406.out _).trans (hHeld.2.1)))),((cell_far (p:=⟨gb406,_,none⟩) NB426_406.out _).trans (((cell_far (p:=⟨gb406,_,none⟩) NB426_406.out _).trans (hHeld.2.2.1)))),((cell_far (p:=⟨gb406,_,none⟩) NB426_406.out _).trans (((cell_far (p:=⟨gb406,_,none⟩) NB426_406.out _).trans (hHeld.2.2.2))))⟩ (fun hHeld=>?_)
   clear hK K
   refine one_ (i:=7) (N:=none) #[I,I,I,I,I,I,I,I,O,O] rfl rfl (one_of HT_.out (by kernel_rfl)) (by decide) (fun K hK=>?_)
   have hs42:w39.cell? ⟨gb407,0,none⟩=some (.int .i64 0):=(blk_cell BK407.out 0).trans rfl
   have hfs42:=blk_frozen BK407.out 0
   have hns42_0:=NB406_407.out
   have hns42_2:=NB420_407.out
   have hns42_3:=NB426_407.out
   have hms42_0:=NB407_406.out
   have hms42_2:=NB407_420.out
   have hms42_3:=NB407_426.out
   have hs44:w39.cell? ⟨gb407,1,none⟩=some (.slice none 0 0):=(blk_cell BK407.out 1).trans rfl
   have hfs44:=blk_frozen BK407.out 1
   have hns44_0:=NB406_407.out
   have hns44_2:=NB420_407.out
   have hns44_3:=NB426_407.out
   have hms44_0:=NB407_406.out
   have hms44_2:=NB407_420.out
   have hms44_3:=NB407_426.out
   refine skip_ (w1:=?_) (by rfl) rfl ?_ ?_
   rotate_left
   ·go_simp
    rfl
   refine hK.out _ _ ⟨((cell_far (p:=⟨gb407,_,none⟩) NB420_407.out _).trans (((cell_far (p:=⟨gb407,_,none⟩) NB420_407.out _).trans (hHeld.1)))),((cell_far (p:=⟨gb407,_,none⟩) NB420_407.out _).trans (((cell_far (p:=⟨gb407,_,none⟩) NB420_407.out _).trans (hHeld.2.1)))),((cell_far (p:=⟨gb407,_,none⟩) NB426_407.out _).trans (((cell_far (p:=⟨gb407,_,none⟩) NB426_407.out _).trans (hHeld.2.2.1)))),((cell_far (p:=⟨gb407,_,none⟩) NB426_407.out _).trans (((cell_far (p:=⟨gb407,_,none⟩) NB426_407.out _).trans (hHeld.2.2.2))))⟩ (fun hHeld=>?_)
   clear hK K
   refine pu_ 8 4 #[I,I,I,I,I,I,I,I,I,O] HT_.out ?_
   refine pu_ 9 5 #[I,I,I,I,I,I,I,I,I,I] HT_.out ?_
   refine done_ (done_of HT_.out (by kernel_rfl)) ?_
   try go_wp2
   refine bodyPost_ret (results_list (rs:=[.cell 2 24,.cell 3 24,.tmp 4,.tmp 5]) rfl (by simp) (.cell gb406 24 #[.int .i64 t413,.slice Ao16 t414.length co16] (0,0) _ rfl (by (with_reducible repeat (first | refine blk_drewN ?_ _ | refine blk_drew ?_ | refine blk_alloc ?_ _));refine blk_far ?_ NB406_407.out _;(with_reducible repeat (first | refine blk_drewN ?_ _ | refine blk_drew ?_ | refine blk_alloc ?_ _));refine blk_far ?_ NB406_407.out _;(with_reducible repeat (first | refine blk_drewN ?_ _ | refine blk_drew ?_ | refine blk_alloc ?_ _));apply put2_;(with_reducible repeat (first | refine blk_drewN ?_ _ | refine blk_drew ?_ | refine blk_alloc ?_ _));exact BK406.out) Tryd.underlying24 rfl (by kernel_rfl) (.cell gb407 24 #[.int .i64 x427000_5,.slice Ao43 x427001_5.length co43] (0,0) _ rfl (by (with_reducible repeat (first | refine blk_drewN ?_ _ | refine blk_drew ?_ | refine blk_alloc ?_ _));apply put2_;(with_reducible repeat (first | refine blk_drewN ?_ _ | refine blk_drew ?_ | refine blk_alloc ?_ _));refine blk_far ?_ NB407_406.out _;(with_reducible repeat (first | refine blk_drewN ?_ _ | refine blk_drew ?_ | refine blk_alloc ?_ _));refine blk_far ?_ NB407_406.out _;(with_reducible repeat (first | refine blk_drewN ?_ _ | refine blk_drew ?_ | refine blk_alloc ?_ _));exact BK407.out) Tryd.underlying24 rfl (by kernel_rfl) (.tmp (.tmp .nil))))) rfl ?_
   exact ⟨_,_,z9_,by (with_reducible repeat (first | apply Kd.R_alloc | apply Kd.R_drewN | apply Kd.R_drew));exact Kd.R_mono (rf2_ (Kd.R_far (p:=⟨gb406,1,none⟩) (Kd.R_far (p:=⟨gb406,0,none⟩) (Kd.R_types (Kd.R_types HO_421001.out BK406.out (by decide)) BK407.out (by decide)) (fun _ hk=>hk.1.2) (.int .i64 t413)) (fun _ hk=>hk.1.2) (.slice Ao16 t414.length co16)) (fun _ hk=>hk.2)) (fun _ hk=>hk.1.1),by (with_reducible repeat (first | apply Kd.R_alloc | apply Kd.R_drewN | apply Kd.R_drew));exact Kd.R_mono (rf2_ (Kd.R_far (p:=⟨gb406,1,none⟩) (Kd.R_far (p:=⟨gb406,0,none⟩) (Kd.R_types (Kd.R_types HO_427001.out BK406.out (by decide)) BK407.out (by decide)) (fun _ hk=>hk.1.2) (.int .i64 t413)) (fun _ hk=>hk.1.2) (.slice Ao16 t414.length co16)) (fun _ hk=>hk.2)) (fun _ hk=>hk.1.1),z50_ HB.out HI412.out GE406.out GE407.out GE420.out GE426.out⟩


attribute [local go_sem high] eqA77
/-! ### Y40: function 16 -/
def Y40.l0:Nat→Int→Int→List (S77)→Int→Int→List (S77)→Int→Option (Bool)
 | 0,_,_,_,_,_,_,_=>none
 | k+1,x5,x447000,x447001,x447002,x448000,x448001,x448002=>if x5<(x447001.length:Int) then (if 0≤x5 then (if x5<(x448001.length:Int) then (if (!(((rd_T77 x447001 x5).f0) == ((rd_T77 x448001 x5).f0)) || (!(((rd_T77 x447001 x5).f1) == ((rd_T77 x448001 x5).f1))))=true then (none) else (Y40.l0 k (wrap64 (x5+1)) x447000 x447001 x447002 x448000 x448001 x448002)) else (none)) else (none)) else (some true)
def Y40.f (k:Nat) (a0_0:Int) (l0_1:List (S77)) (a0_2:Int) (a1_0:Int) (l1_1:List (S77)) (a1_2:Int):Option (Bool):=if a0_2=a1_2 then (if a0_0=a1_0 then (if (l0_1.length:Int)=(l1_1.length:Int) then (Y40.l0 k 0 a0_0 l0_1 a0_2 a1_0 l1_1 a1_2) else (none)) else (none)) else (none)
theorem Y40.mono_l:∀ k,(∀ y0 y1 y2 y3 y4 y5 y6,LeO (Y40.l0 k y0 y1 y2 y3 y4 y5 y6) (Y40.l0 (k+1) y0 y1 y2 y3 y4 y5 y6))
 | 0=>by intros <;> exact LeO.none _
 | k+1=>by
  have ih0:=Y40.mono_l k
  ·intros
   unfold Y40.l0
   exact mO
theorem Y40.mono:∀ a0 a1 a2 a3 a4 a5 k,LeO (Y40.f k a0 a1 a2 a3 a4 a5) (Y40.f (k+1) a0 a1 a2 a3 a4 a5):=by
 intro a0 a1 a2 a3 a4 a5 k
 have ih0:=Y40.mono_l k
 unfold Y40.f
 exact mO
theorem Y40.calls (k:Nat) (a0_0:Int) (A0_1:Option Addr) (c0_1:Nat) (l0_1:List (S77)) (a0_2:Int) (a1_0:Int) (A1_1:Option Addr) (c1_1:Nat) (l1_1:List (S77)) (a1_2:Int) (r:Bool) (w:World) (hr0_1:Kd.C k77 w A0_1 l0_1.length l0_1) (hc0_1:l0_1.length≤c0_1) (hr1_1:Kd.C k77 w A1_1 l1_1.length l1_1) (hc1_1:l1_1.length≤c1_1) (h:Y40.f k a0_0 l0_1 a0_2 a1_0 l1_1 a1_2=some r) :
  Calls Tryd.prog 16 #[.agg #[.int .i64 a0_0,.slice A0_1 l0_1.length c0_1,.int .i64 a0_2],.agg #[.int .i64 a1_0,.slice A1_1 l1_1.length c1_1,.int .i64 a1_2]] w fun e w'=>e = .returned (.bool r)∧Below w.heap.size w w':=by
 have hu26:=Tryd.underlying26
 have hu77:=Tryd.underlying77
 have HR0_1:=aM hr0_1
 have HC0_1:=aM hc0_1
 clear hr0_1 hc0_1
 have HR1_1:=aM hr1_1
 have HC1_1:=aM hc1_1
 clear hr1_1 hc1_1
 have HB:=aM (Below.refl w.heap.size w)
 have H:(if a0_2=a1_2 then (if a0_0=a1_0 then (if (l0_1.length:Int)=(l1_1.length:Int) then (Y40.l0 k 0 a0_0 l0_1 a0_2 a1_0 l1_1 a1_2) else (none)) else (none)) else (none))=some r:=h
 clear h
 by_cases c3:a0_2=a1_2
 ·rw [if_pos c3] at H
  have c3b0:(a0_2 == a1_2)=true:=beq_iff_eq.mpr c3
  have c3b1:(a0_2 != a1_2)=false:=bne_eq_false_iff_eq.mpr c3
  clear c3
  by_cases c4:a0_0=a1_0
  ·rw [if_pos c4] at H
   have c4b0:(a0_0 == a1_0)=true:=beq_iff_eq.mpr c4
   have c4b1:(a0_0 != a1_0)=false:=bne_eq_false_iff_eq.mpr c4
   clear c4
   by_cases c5:(l0_1.length:Int)=(l1_1.length:Int)
   ·rw [if_pos c5] at H
    have c5b0:((l0_1.length:Int) == (l1_1.length:Int))=true:=beq_iff_eq.mpr c5
    have c5b1:((l0_1.length:Int) != (l1_1.length:Int))=false:=bne_eq_false_iff_eq.mpr c5
    have c5b2:(l0_1.length == l1_1.length)=true:=by first | simpa using c5 | (simp at c5 ⊢;omega)
    clear c5
    have H':=aM H
    clear H
    go_enter Tryd.func16,Tryd.ntmps16
    go_wp2_with (first | ((with_reducible refine gd_ 2 ?_);(try (refine gate_guard (by rfl) ?_;dsimp only));refine be_ 2 #[.int .i64 a0_0,.slice A0_1 l0_1.length c0_1,.int .i64 a0_2] 26 ?_;intro gb446 hg w6 hbox hb;have n0_:=aM (below_step (z5_ HB.out) hb);have n1_:=aM (hbox);have n2_:=aM ((z8_ HB.out:w.heap.size≤gb446));have n3_:=aM ((z8_ HB.out:w.heap.size≤gb446));clear HB;have HB:=n0_;have BK446:=n1_;have GW446:=n2_;have GE446:=n3_;clear n0_ n1_ n2_ n3_;clear hb hbox hg) | ((with_reducible refine gd_ 3 ?_);(try (refine gate_guard (by rfl) ?_;dsimp only));refine be_ 3 #[.int .i64 a1_0,.slice A1_1 l1_1.length c1_1,.int .i64 a1_2] 26 ?_;intro gb447 hg w7 hbox hb;have n0_:=aM (blkB_ BK446.out hb);have n1_:=aM (below_step (z7_ HB.out GE446.out) hb);have n2_:=aM (hbox);have n3_:=aM ((z11_ HB.out GE446.out:w.heap.size≤gb447));have n4_:=aM ((z11_ HB.out GE446.out:w.heap.size≤gb447));have n5_:=aM (neL_ BK446.out hg);have n6_:=aM (neG_ BK446.out hg);clear BK446;clear HB;have BK446:=n0_;have HB:=n1_;have BK447:=n2_;have GW447:=n3_;have GE447:=n4_;have NB446_447:=n5_;have NB447_446:=n6_;clear n0_ n1_ n2_ n3_ n4_ n5_ n6_;clear hb hbox hg;have hnb8:=NB446_447.out;have hnc8:=NB447_446.out;have ⟨hcz9_0,hcz9_1,hcz9_2,hfz9_0,hfz9_1,hfz9_2⟩:=cz3_ BK446.out;have ⟨hcz10_0,hcz10_1,hcz10_2,hfz10_0,hfz10_1,hfz10_2⟩:=cz3_ BK447.out))
    repeat (go_quiet (first | ((with_reducible refine gd_ 2 ?_);(try (refine gate_guard (by rfl) ?_;dsimp only));refine be_ 2 #[.int .i64 a0_0,.slice A0_1 l0_1.length c0_1,.int .i64 a0_2] 26 ?_;intro gb446 hg w6 hbox hb;have n0_:=aM (below_step (z5_ HB.out) hb);have n1_:=aM (hbox);have n2_:=aM ((z8_ HB.out:w.heap.size≤gb446));have n3_:=aM ((z8_ HB.out:w.heap.size≤gb446));clear HB;have HB:=n0_;have BK446:=n1_;have GW446:=n2_;have GE446:=n3_;clear n0_ n1_ n2_ n3_;clear hb hbox hg) | ((with_reducible refine gd_ 3 ?_);(try (refine gate_guard (by rfl) ?_;dsimp only));refine be_ 3 #[.int .i64 a1_0,.slice A1_1 l1_1.length c1_1,.int .i64 a1_2] 26 ?_;intro gb447 hg w7 hbox hb;have n0_:=aM (blkB_ BK446.out hb);have n1_:=aM (below_step (z7_ HB.out GE446.out) hb);have n2_:=aM (hbox);have n3_:=aM ((z11_ HB.out GE446.out:w.heap.size≤gb447));have n4_:=aM ((z11_ HB.out GE446.out:w.heap.size≤gb447));have n5_:=aM (neL_ BK446.out hg);have n6_:=aM (neG_ BK446.out hg);clear BK446;clear HB;have BK446:=n0_;have HB:=n1_;have BK447:=n2_;have GW447:=n3_;have GE447:=n4_;have NB446_447:=n5_;have NB447_446:=n6_;clear n0_ n1_ n2_ n3_ n4_ n5_ n6_;clear hb hbox hg;have hnb8:=NB446_447.out;have hnc8:=NB447_446.out;have ⟨hcz9_0,hcz9_1,hcz9_2,hfz9_0,hfz9_1,hfz9_2⟩:=cz3_ BK446.out;have ⟨hcz10_0,hcz10_1,hcz10_2,hfz10_0,hfz10_1,hfz10_2⟩:=cz3_ BK447.out));try go_wp2_with (first | ((with_reducible refine gd_ 2 ?_);(try (refine gate_guard (by rfl) ?_;dsimp only));refine be_ 2 #[.int .i64 a0_0,.slice A0_1 l0_1.length c0_1,.int .i64 a0_2] 26 ?_;intro gb446 hg w6 hbox hb;have n0_:=aM (below_step (z5_ HB.out) hb);have n1_:=aM (hbox);have n2_:=aM ((z8_ HB.out:w.heap.size≤gb446));have n3_:=aM ((z8_ HB.out:w.heap.size≤gb446));clear HB;have HB:=n0_;have BK446:=n1_;have GW446:=n2_;have GE446:=n3_;clear n0_ n1_ n2_ n3_;clear hb hbox hg) | ((with_reducible refine gd_ 3 ?_);(try (refine gate_guard (by rfl) ?_;dsimp only));refine be_ 3 #[.int .i64 a1_0,.slice A1_1 l1_1.length c1_1,.int .i64 a1_2] 26 ?_;intro gb447 hg w7 hbox hb;have n0_:=aM (blkB_ BK446.out hb);have n1_:=aM (below_step (z7_ HB.out GE446.out) hb);have n2_:=aM (hbox);have n3_:=aM ((z11_ HB.out GE446.out:w.heap.size≤gb447));have n4_:=aM ((z11_ HB.out GE446.out:w.heap.size≤gb447));have n5_:=aM (neL_ BK446.out hg);have n6_:=aM (neG_ BK446.out hg);clear BK446;clear HB;have BK446:=n0_;have HB:=n1_;have BK447:=n2_;have GW447:=n3_;have GE447:=n4_;have NB446_447:=n5_;have NB447_446:=n6_;clear n0_ n1_ n2_ n3_ n4_ n5_ n6_;clear hb hbox hg;have hnb8:=NB446_447.out;have hnc8:=NB447_446.out;have ⟨hcz9_0,hcz9_1,hcz9_2,hfz9_0,hfz9_1,hfz9_2⟩:=cz3_ BK446.out;have ⟨hcz10_0,hcz10_1,hcz10_2,hfz10_0,hfz10_1,hfz10_2⟩:=cz3_ BK447.out)))
    go_loopg [5] k (fun kq v5 w'=>∃ (x5_1:Int),v5 = .int .i64 x5_1∧Aside0 (Y40.l0 kq x5_1 a0_0 l0_1 a0_2 a1_0 l1_1 a1_2=some r)∧Aside0 (kq≤k)∧Aside0 (w'.heap[gb446]? = some (.cells #[.int .i64 a0_0,(.slice A0_1 l0_1.length c0_1),.int .i64 a0_2] 26 (0,0)))∧Aside0 (w'.heap[gb447]? = some (.cells #[.int .i64 a1_0,(.slice A1_1 l1_1.length c1_1),.int .i64 a1_2] 26 (0,0)))∧Aside0 (Below w.heap.size w w'))
    case atStart=>exact ⟨(0),(z2_),H',⟨Nat.le_refl _⟩,⟨z3_ BK446.out⟩,⟨z3_ BK447.out⟩,⟨z4_ HB.out GE446.out GE447.out⟩⟩
    case round =>
     clear H'
     try clear c1
     try clear p2
     try clear c3
     try clear c3b0
     try clear c3b1
     try clear c4
     try clear c4b0
     try clear c4b1
     try clear c5
     try clear c5b0
     try clear c5b1
     try clear c5b2
     try clear c8
     try clear hcz10_0
     try clear hcz10_1
     try clear hcz10_2
     try clear hcz9_0
     try clear hcz9_1
     try clear hcz9_2
     try clear hfz10_0
     try clear hfz10_1
     try clear hfz10_2
     try clear hfz9_0
     try clear hfz9_1
     try clear hfz9_2
     obtain ⟨x5_1,rfl,HA,HK1,BK446,BK447,HB⟩:=hrel
     cases gk with
     | zero=>exact absurd HA.out (by simp [Y40.l0])
     | succ k1 =>
      have H:=HA.out
      clear HA
      simp only [Y40.l0] at H
      by_cases c11:x5_1<(l0_1.length:Int)
      ·rw [if_pos c11] at H
       have c11b0:decide (x5_1<(l0_1.length:Int))=true:=dE c11
       clear c11
       by_cases c12:0≤x5_1
       ·rw [if_pos c12] at H
        have c12b0:decide (0≤x5_1)=true:=dE c12
        clear c12
        by_cases c13:x5_1<(l1_1.length:Int)
        ·rw [if_pos c13] at H
         have c13b0:decide (x5_1<(l1_1.length:Int))=true:=dE c13
         clear c13
         by_cases c14:(!(((rd_T77 l0_1 x5_1).f0) == ((rd_T77 l1_1 x5_1).f0)) || (!(((rd_T77 l0_1 x5_1).f1) == ((rd_T77 l1_1 x5_1).f1))))=true
         ·rw [if_pos c14] at H
          exact nO H
         ·rw [if_neg c14] at H
          have c14b0:(!(((rd_T77 l0_1 x5_1).f0) == ((rd_T77 l1_1 x5_1).f0)) || (!(((rd_T77 l0_1 x5_1).f1) == ((rd_T77 l1_1 x5_1).f1))))=false:=by simpa using c14
          clear c14
          have H':=aM H
          clear H
          have hnb15:=NB446_447.out
          have hnc15:=NB447_446.out
          have ⟨hcz16_0,hcz16_1,hcz16_2,hfz16_0,hfz16_1,hfz16_2⟩:=cz3_ BK446.out
          have p448:0≤(x5_1:Int):=dT (z0_)
          have q448:x5_1<(l0_1.length:Int):=dT (z0_)
          obtain ⟨ad448,e448,hx448_0,hx448_1⟩:=at_T77 HR0_1.out x5_1 p448 q448
          cases e448
          replace hx448_0:=(HB.out.cell (World.block_lt_of_cell? w _ hx448_0)).trans hx448_0
          replace hx448_1:=(HB.out.cell (World.block_lt_of_cell? w _ hx448_1)).trans hx448_1
          replace p448:=eq_true p448
          replace q448:=eq_true q448
          have ⟨hcz17_0,hcz17_1,hcz17_2,hfz17_0,hfz17_1,hfz17_2⟩:=cz3_ BK447.out
          have p449:0≤(x5_1:Int):=dT (z0_)
          have q449:x5_1<(l1_1.length:Int):=dT (z0_)
          obtain ⟨ad449,e449,hx449_0,hx449_1⟩:=at_T77 HR1_1.out x5_1 p449 q449
          cases e449
          replace hx449_0:=(HB.out.cell (World.block_lt_of_cell? w _ hx449_0)).trans hx449_0
          replace hx449_1:=(HB.out.cell (World.block_lt_of_cell? w _ hx449_1)).trans hx449_1
          replace p449:=eq_true p449
          replace q449:=eq_true q449
          go_wp2
          repeat (go_quiet (fail);try go_wp2)
          go_roundg k1
          case measure=>have:=HK1.out;omega
          case rel=>exact ⟨(wrap64 (x5_1+1)),(z2_),H',⟨by have:=HK1.out;omega⟩,⟨z3_ BK446.out⟩,⟨z3_ BK447.out⟩,⟨z4_ HB.out GE446.out GE447.out⟩⟩
        ·rw [if_neg c13] at H
         exact nO H
       ·rw [if_neg c12] at H
        exact nO H
      ·rw [if_neg c11] at H
       have c11b0:decide (x5_1<(l0_1.length:Int))=false:=dF c11
       clear c11
       obtain rfl:=sI H
       have hnb18:=NB446_447.out
       have hnc18:=NB447_446.out
       have ⟨hcz19_0,hcz19_1,hcz19_2,hfz19_0,hfz19_1,hfz19_2⟩:=cz3_ BK446.out
       go_wp2
       repeat (go_quiet (fail);try go_wp2)
       go_ret
       exact ⟨z9_,z4_ HB.out GE446.out GE447.out⟩
   ·rw [if_neg c5] at H
    exact nO H
  ·rw [if_neg c4] at H
   exact nO H
 ·rw [if_neg c3] at H
  exact nO H


/-! ### Y36: function 18 -/
def Y36.l0:Nat→List Int→List Int→Int→Option (Bool)
 | 0,_,_,_=>none
 | k+1,x0,x1,x5=>if x5<(x0.length:Int) then (if 0≤x5 then (if x5<(x1.length:Int) then (if (rd x0 x5)=(rd x1 x5) then (Y36.l0 k x0 x1 (wrap64 (x5+1))) else (none)) else (none)) else (none)) else (some true)
def Y36.f (k:Nat) (l0:List Int) (l1:List Int):Option (Bool):=if (l0.length:Int)=(l1.length:Int) then (Y36.l0 k l0 l1 0) else (none)
theorem Y36.mono_l:∀ k,(∀ y0 y1 y2,LeO (Y36.l0 k y0 y1 y2) (Y36.l0 (k+1) y0 y1 y2))
 | 0=>by intros <;> exact LeO.none _
 | k+1=>by
  have ih0:=Y36.mono_l k
  ·intros
   unfold Y36.l0
   exact mO
theorem Y36.mono:∀ a0 a1 k,LeO (Y36.f k a0 a1) (Y36.f (k+1) a0 a1):=by
 intro a0 a1 k
 have ih0:=Y36.mono_l k
 unfold Y36.f
 exact mO
theorem Y36.calls (k:Nat) (A0:Option Addr) (c0:Nat) (l0:List Int) (A1:Option Addr) (c1:Nat) (l1:List Int) (r:Bool) (w:World) (hr0:Kd.C (Kd.int .i64) w A0 l0.length l0) (hc0:l0.length≤c0) (hr1:Kd.C (Kd.int .i64) w A1 l1.length l1) (hc1:l1.length≤c1) (h:Y36.f k l0 l1=some r) :
  Calls Tryd.prog 18 #[.slice A0 l0.length c0,.slice A1 l1.length c1] w fun e w'=>e = .returned (.bool r)∧Drawn0 w w':=by
 have HR0:=aM hr0
 have HC0:=aM hc0
 clear hr0 hc0
 have HR1:=aM hr1
 have HC1:=aM hc1
 clear hr1 hc1
 have H:(if (l0.length:Int)=(l1.length:Int) then (Y36.l0 k l0 l1 0) else (none))=some r:=h
 clear h
 by_cases c3:(l0.length:Int)=(l1.length:Int)
 ·rw [if_pos c3] at H
  have c3b0:((l0.length:Int) == (l1.length:Int))=true:=beq_iff_eq.mpr c3
  have c3b1:((l0.length:Int) != (l1.length:Int))=false:=bne_eq_false_iff_eq.mpr c3
  have c3b2:(l0.length == l1.length)=true:=by first | simpa using c3 | (simp at c3 ⊢;omega)
  clear c3
  have H':=aM H
  clear H
  go_enter Tryd.func18,Tryd.ntmps18
  go_wp2
  repeat (go_quiet (fail);try go_wp2)
  go_loopg [5] k (fun kq v5 w'=>∃ (x5_1:Int),v5 = .int .i64 x5_1∧Aside0 (Y36.l0 kq l0 l1 x5_1=some r)∧Aside0 (kq≤k)∧Drawn0 w w')
  case atStart=>exact ⟨(0),(z2_),H',⟨Nat.le_refl _⟩,z6_⟩
  case round =>
   clear H'
   try clear c1
   try clear p2
   try clear c3
   try clear c3b0
   try clear c3b1
   try clear c3b2
   obtain ⟨x5_1,rfl,HA,HK1,⟨m1,rfl⟩⟩:=hrel
   cases gk with
   | zero=>exact absurd HA.out (by simp [Y36.l0])
   | succ k1 =>
    have H:=HA.out
    clear HA
    simp only [Y36.l0] at H
    by_cases c4:x5_1<(l0.length:Int)
    ·rw [if_pos c4] at H
     have c4b0:decide (x5_1<(l0.length:Int))=true:=dE c4
     clear c4
     by_cases c5:0≤x5_1
     ·rw [if_pos c5] at H
      have c5b0:decide (0≤x5_1)=true:=dE c5
      clear c5
      by_cases c6:x5_1<(l1.length:Int)
      ·rw [if_pos c6] at H
       have c6b0:decide (x5_1<(l1.length:Int))=true:=dE c6
       clear c6
       by_cases c7:(rd l0 x5_1)=(rd l1 x5_1)
       ·rw [if_pos c7] at H
        have c7b0:((rd l0 x5_1) == (rd l1 x5_1))=true:=beq_iff_eq.mpr c7
        have c7b1:((rd l0 x5_1) != (rd l1 x5_1))=false:=bne_eq_false_iff_eq.mpr c7
        clear c7
        have H':=aM H
        clear H
        have p450:0≤(x5_1:Int):=dT (z0_)
        have q450:x5_1<(l0.length:Int):=dT (z0_)
        obtain ⟨ad450,e450,hx450_0⟩:=Kd.at_int HR0.out x5_1 p450 q450
        cases e450
        replace p450:=eq_true p450
        replace q450:=eq_true q450
        have p451:0≤(x5_1:Int):=dT (z0_)
        have q451:x5_1<(l1.length:Int):=dT (z0_)
        obtain ⟨ad451,e451,hx451_0⟩:=Kd.at_int HR1.out x5_1 p451 q451
        cases e451
        replace p451:=eq_true p451
        replace q451:=eq_true q451
        go_wp2
        repeat (go_quiet (fail);try go_wp2)
        go_roundg k1
        case measure=>have:=HK1.out;omega
        case rel=>exact ⟨(wrap64 (x5_1+1)),(z2_),H',⟨by have:=HK1.out;omega⟩,z6_⟩
       ·rw [if_neg c7] at H
        exact nO H
      ·rw [if_neg c6] at H
       exact nO H
     ·rw [if_neg c5] at H
      exact nO H
    ·rw [if_neg c4] at H
     have c4b0:decide (x5_1<(l0.length:Int))=false:=dF c4
     clear c4
     obtain rfl:=sI H
     go_wp2
     repeat (go_quiet (fail);try go_wp2)
     go_ret
     exact ⟨z2_,z6_⟩
 ·rw [if_neg c3] at H
  exact nO H


/-! ### Y77: function 111 -/
def Y77.f (a0:ByteArray):Option (Bool):=some (decide ((a0.size:Int)>8000))
theorem Y77.calls (a0:ByteArray) (r:Bool) (w:World) (h:Y77.f a0=some r) :
  Calls Tryd.prog 111 #[.string a0] w fun e w'=>e = .returned (.bool r)∧Drawn0 w w':=by
 have H:(some (decide ((a0.size:Int)>8000)))=some r:=h
 clear h
 obtain rfl:=sI H
 go_enter Tryd.func111,Tryd.ntmps111
 go_wp2
 go_ret
 exact ⟨z2_,z6_⟩


/-! ### Y10: function 132 -/
def Y10.l0:Nat→List ByteArray→Int→Int→Option (Int)
 | 0,_,_,_=>none
 | k+1,x0,x7,x8=>if x8<x7 then (if 0≤x8 then (if x8<(x0.length:Int) then ((Y77.f (rdOf ByteArray.empty x0 x8)).bind fun t453=>(if t453=true then (some x8) else (Y10.l0 k x0 x7 (wrap64 (x8+1))))) else (none)) else (none)) else (some (-1))
def Y10.f (k:Nat) (l0:List ByteArray)  : Option (Int):=Y10.l0 k l0 (l0.length:Int) 0
theorem Y10.mono_l:∀ k,(∀ y0 y1 y2,LeO (Y10.l0 k y0 y1 y2) (Y10.l0 (k+1) y0 y1 y2))
 | 0=>by intros <;> exact LeO.none _
 | k+1=>by
  have ih0:=Y10.mono_l k
  ·intros
   unfold Y10.l0
   exact mO
theorem Y10.mono:∀ a0 k,LeO (Y10.f k a0) (Y10.f (k+1) a0):=by
 intro a0 k
 have ih0:=Y10.mono_l k
 unfold Y10.f
 exact mO
theorem Y10.calls (k:Nat) (A0:Option Addr) (c0:Nat) (l0:List ByteArray)  (r:Int) (w:World) (hr0:Kd.C Kd.string w A0 l0.length l0) (hc0:l0.length≤c0) (h:Y10.f k l0=some r) :
  Calls Tryd.prog 132 #[.slice A0 l0.length c0,.func (.func 111) #[] #[]] w fun e w'=>e = .returned (.int .i64 r)∧Drawn0 w w':=by
 have HR0:=aM hr0
 have HC0:=aM hc0
 clear hr0 hc0
 have H:(Y10.l0 k l0 (l0.length:Int) 0)=some r:=h
 clear h
 have H':=aM H
 clear H
 go_enter Tryd.func132,Tryd.ntmps132
 go_wp2
 go_loopg [8] k (fun kq v8 w'=>∃ (x8_1:Int),v8 = .int .i64 x8_1∧Aside0 (Y10.l0 kq l0 (l0.length:Int) x8_1=some r)∧Aside0 (kq≤k)∧Drawn0 w w')
 case atStart=>exact ⟨(0),(z2_),H',⟨Nat.le_refl _⟩,z6_⟩
 case round =>
  clear H'
  try clear p2
  obtain ⟨x8_1,rfl,HA,HK1,⟨m1,rfl⟩⟩:=hrel
  cases gk with
  | zero=>exact absurd HA.out (by simp [Y10.l0])
  | succ k1 =>
   have H:=HA.out
   clear HA
   simp only [Y10.l0] at H
   by_cases c3:x8_1<(l0.length:Int)
   ·rw [if_pos c3] at H
    have c3b0:decide (x8_1<(l0.length:Int))=true:=dE c3
    clear c3
    by_cases c4:0≤x8_1
    ·rw [if_pos c4] at H
     have c4b0:decide (0≤x8_1)=true:=dE c4
     clear c4
     by_cases c5:x8_1<(l0.length:Int)
     ·rw [if_pos c5] at H
      have c5b0:decide (x8_1<(l0.length:Int))=true:=dE c5
      clear c5
      replace H:=bS H
      obtain ⟨t453,A60,H⟩:=H
      replace H:(if t453=true then (some x8_1) else (Y10.l0 k1 l0 (l0.length:Int) (wrap64 (x8_1+1))))=some r:=H
      have A6:=aM A60
      clear A60
      by_cases c7:t453=true
      ·subst c7
       have H1:(some x8_1)=some r:=by rw [if_pos rfl] at H;exact H
       clear H
       have H:=H1
       clear H1
       obtain rfl:=sI H
       have p452:0≤(x8_1:Int):=dT (z0_)
       have q452:x8_1<(l0.length:Int):=dT (z0_)
       obtain ⟨ad452,e452,hx452_0⟩:=Kd.at_string HR0.out x8_1 p452 q452
       cases e452
       replace p452:=eq_true p452
       replace q452:=eq_true q452
       go_wp2_with (first | (go_at_call 111;(with_reducible refine (Y77.calls (rdOf ByteArray.empty l0 x8_1) true _ A6.out).mono ?_);rintro e w' ⟨rfl,⟨nd,rfl⟩⟩))
       go_ret
       exact ⟨z2_,z6_⟩
      ·replace c7:=Bool.eq_false_iff.mpr c7
       subst c7
       have H1:(Y10.l0 k1 l0 (l0.length:Int) (wrap64 (x8_1+1)))=some r:=by rw [if_neg (show ¬ (false=true) by decide)] at H;exact H
       clear H
       have H:=H1
       clear H1
       have H':=aM H
       clear H
       have p452:0≤(x8_1:Int):=dT (z0_)
       have q452:x8_1<(l0.length:Int):=dT (z0_)
       obtain ⟨ad452,e452,hx452_0⟩:=Kd.at_string HR0.out x8_1 p452 q452
       cases e452
       replace p452:=eq_true p452
       replace q452:=eq_true q452
       go_wp2_with (first | (go_at_call 111;(with_reducible refine (Y77.calls (rdOf ByteArray.empty l0 x8_1) false _ A6.out).mono ?_);rintro e w' ⟨rfl,⟨nd,rfl⟩⟩))
       go_roundg k1
       case measure=>have:=HK1.out;omega
       case rel=>exact ⟨(wrap64 (x8_1+1)),(z2_),H',⟨by have:=HK1.out;omega⟩,z6_⟩
     ·rw [if_neg c5] at H
      exact nO H
    ·rw [if_neg c4] at H
     exact nO H
   ·rw [if_neg c3] at H
    have c3b0:decide (x8_1<(l0.length:Int))=false:=dF c3
    clear c3
    obtain rfl:=sI H
    go_wp2
    go_ret
    exact ⟨z2_,z6_⟩


/-! ### Y28: function 110 -/
def Y28.f (k:Nat) (l0:List ByteArray)  : Option (Bool):=(Y10.f k l0).bind fun t454=>(some (decide (t454≥0)))
theorem Y28.mono:∀ a0 k,LeO (Y28.f k a0) (Y28.f (k+1) a0):=by
 intro a0 k
 have m0:=@Y10.mono
 unfold Y28.f
 exact mO
theorem Y28.calls (k:Nat) (A0:Option Addr) (c0:Nat) (l0:List ByteArray)  (r:Bool) (w:World) (hr0:Kd.C Kd.string w A0 l0.length l0) (hc0:l0.length≤c0) (h:Y28.f k l0=some r) :
  Calls Tryd.prog 110 #[.slice A0 l0.length c0,.func (.func 111) #[] #[]] w fun e w'=>e = .returned (.bool r)∧Drawn0 w w':=by
 have HR0:=aM hr0
 have HC0:=aM hc0
 clear hr0 hc0
 have H:((Y10.f k l0).bind fun t454=>(some (decide (t454≥0))))=some r:=h
 clear h
 replace H:=bS H
 obtain ⟨t454,A30,H⟩:=H
 replace H:(some (decide (t454≥0)))=some r:=H
 have A3:=aM A30
 clear A30
 obtain rfl:=sI H
 go_enter Tryd.func110,Tryd.ntmps110
 go_wp2_with (first | ((with_reducible refine gc_ 132 ?_);refine gl_ (some 7) Tryd.func132 #[.slice A0 l0.length c0,.func (.func 111) #[] #[]] ?_;(with_reducible refine (Y10.calls k _ _ l0  t454 _ ?s1 ?s2 A3.out).mono ?_);(case s1=>repeat (first | exact HR0.out | (with_reducible refine Kd.C_alloc ?_ _) | (with_reducible refine Kd.C_drewN ?_ _) | (with_reducible refine Kd.C_drew ?_)));(case s2=>exact HC0.out);rintro e w' ⟨rfl,⟨nd,rfl⟩⟩;refine ⟨_,rfl,?_⟩))
 go_ret
 exact ⟨z2_,z6_⟩


/-! ### Y66: function 83 -/
def Y66.f (k:Nat) (l0:List ByteArray):Option (Bool):=(Y28.f k l0).bind fun t455=>(some t455)
theorem Y66.mono:∀ a0 k,LeO (Y66.f k a0) (Y66.f (k+1) a0):=by
 intro a0 k
 have m0:=@Y28.mono
 unfold Y66.f
 exact mO
theorem Y66.calls (k:Nat) (A0:Option Addr) (c0:Nat) (l0:List ByteArray) (r:Bool) (w:World) (hr0:Kd.C Kd.string w A0 l0.length l0) (hc0:l0.length≤c0) (h:Y66.f k l0=some r) :
  Calls Tryd.prog 83 #[.slice A0 l0.length c0] w fun e w'=>e = .returned (.bool r)∧Drawn0 w w':=by
 have HR0:=aM hr0
 have HC0:=aM hc0
 clear hr0 hc0
 have H:((Y28.f k l0).bind fun t455=>(some t455))=some r:=h
 clear h
 replace H:=bS H
 obtain ⟨t455,A20,H⟩:=H
 replace H:(some t455)=some r:=H
 have A2:=aM A20
 clear A20
 obtain rfl:=sI H
 go_enter Tryd.func83,Tryd.ntmps83
 go_wp2_with (first | ((with_reducible refine gc_ 110 ?_);refine gl_ (some 4) Tryd.func110 #[.slice A0 l0.length c0,.func (.func 111) #[] #[]] ?_;(with_reducible refine (Y28.calls k _ _ l0  t455 _ ?s1 ?s2 A2.out).mono ?_);(case s1=>repeat (first | exact HR0.out | (with_reducible refine Kd.C_alloc ?_ _) | (with_reducible refine Kd.C_drewN ?_ _) | (with_reducible refine Kd.C_drew ?_)));(case s2=>exact HC0.out);rintro e w' ⟨rfl,⟨nd,rfl⟩⟩;refine ⟨_,rfl,?_⟩))
 go_ret
 exact ⟨z2_,z6_⟩


/-! ### Y86: function 112 -/
def Y86.f (a0:ByteArray):Option (Int):=some (a0.size:Int)
theorem Y86.calls (a0:ByteArray) (r:Int) (w:World) (h:Y86.f a0=some r) :
  Calls Tryd.prog 112 #[.string a0] w fun e w'=>e = .returned (.int .i64 r)∧Drawn0 w w':=by
 have H:(some (a0.size:Int))=some r:=h
 clear h
 obtain rfl:=sI H
 go_enter Tryd.func112,Tryd.ntmps112
 go_wp2
 go_ret
 exact ⟨z2_,z6_⟩


/-! ### Y19: function 84 -/
mutual
def Y19.j0:Nat→ByteArray→Bool→Option (Bool)
 | 0,_,_=>none
 | k+1,x0,x18=>if x18=true then (some false) else (Y19.l0 k x0 (x0.size:Int) 0)
def Y19.l0:Nat→ByteArray→Int→Int→Option (Bool)
 | 0,_,_,_=>none
 | k+1,x0,x20,x21=>if x21<x20 then (if 0≤x21 then (if x21<(x0.size:Int) then (if (bt x0 x21)≥97 then (if (bt x0 x21)≤122 then (Y19.l0 k x0 x20 (wrap64 (x21+1))) else (if (bt x0 x21)≥48 then (if (bt x0 x21)≤57 then (Y19.l0 k x0 x20 (wrap64 (x21+1))) else (if ((bt x0 x21)=95) then (Y19.l0 k x0 x20 (wrap64 (x21+1))) else (some false))) else (if ((bt x0 x21)=95) then (Y19.l0 k x0 x20 (wrap64 (x21+1))) else (some false)))) else (if (bt x0 x21)≥48 then (if (bt x0 x21)≤57 then (Y19.l0 k x0 x20 (wrap64 (x21+1))) else (if ((bt x0 x21)=95) then (Y19.l0 k x0 x20 (wrap64 (x21+1))) else (some false))) else (if ((bt x0 x21)=95) then (Y19.l0 k x0 x20 (wrap64 (x21+1))) else (some false)))) else (none)) else (none)) else (some true)
end
def Y19.f (k:Nat) (a0:ByteArray):Option (Bool):=(Y86.f a0).bind fun t456=>((Y58.f t456 1 20).bind fun t457=>(if t457=true then (if 0<(a0.size:Int) then (if (bt a0 0)<97 then (Y19.j0 k a0 true) else (Y19.j0 k a0 (decide ((bt a0 0)>122)))) else (none)) else (Y19.j0 k a0 true)))
theorem Y19.mono_l:∀ k,(∀ y0 y1,LeO (Y19.j0 k y0 y1) (Y19.j0 (k+1) y0 y1))∧(∀ y0 y1 y2,LeO (Y19.l0 k y0 y1 y2) (Y19.l0 (k+1) y0 y1 y2))
 | 0=>by refine ⟨?_,?_⟩ <;> intros <;> exact LeO.none _
 | k+1=>by
  obtain ⟨ih0,ih1⟩:=Y19.mono_l k
  refine ⟨?_,?_⟩
  ·intros
   unfold Y19.j0
   exact mO
  ·intros
   unfold Y19.l0
   exact mO
theorem Y19.mono:∀ a0 k,LeO (Y19.f k a0) (Y19.f (k+1) a0):=by
 intro a0 k
 obtain ⟨ih0,ih1⟩:=Y19.mono_l k
 unfold Y19.f
 exact mO
theorem Y19.calls (k:Nat) (a0:ByteArray) (r:Bool) (w:World) (h:Y19.f k a0=some r) :
  Calls Tryd.prog 84 #[.string a0] w fun e w'=>e = .returned (.bool r)∧Drawn0 w w':=by
 have H:((Y86.f a0).bind fun t456=>((Y58.f t456 1 20).bind fun t457=>(if t457=true then (if 0<(a0.size:Int) then (if (bt a0 0)<97 then (Y19.j0 k a0 true) else (Y19.j0 k a0 (decide ((bt a0 0)>122)))) else (none)) else (Y19.j0 k a0 true))))=some r:=h
 clear h
 have HC2:=aM H
 clear H
 go_enter Tryd.func84,Tryd.ntmps84
 go_upto_region 1 with (fail)
 go_cut [18] (fun v18 wc=>∃ (kq:Nat) (x18_1:Bool),v18 = .bool x18_1∧Aside0 (Y19.j0 kq a0 x18_1=some r)∧Aside0 (kq≤k)∧Drawn0 w wc)
 case first =>
  have H:=HC2.out
  clear HC2
  replace H:=bS H
  obtain ⟨t456,A30,H⟩:=H
  replace H:((Y58.f t456 1 20).bind fun t457=>(if t457=true then (if 0<(a0.size:Int) then (if (bt a0 0)<97 then (Y19.j0 k a0 true) else (Y19.j0 k a0 (decide ((bt a0 0)>122)))) else (none)) else (Y19.j0 k a0 true)))=some r:=H
  have A3:=aM A30
  clear A30
  replace H:=bS H
  obtain ⟨t457,A40,H⟩:=H
  replace H:(if t457=true then (if 0<(a0.size:Int) then (if (bt a0 0)<97 then (Y19.j0 k a0 true) else (Y19.j0 k a0 (decide ((bt a0 0)>122)))) else (none)) else (Y19.j0 k a0 true))=some r:=H
  have A4:=aM A40
  clear A40
  by_cases c5:t457=true
  ·subst c5
   have H1:(if 0<(a0.size:Int) then (if (bt a0 0)<97 then (Y19.j0 k a0 true) else (Y19.j0 k a0 (decide ((bt a0 0)>122)))) else (none))=some r:=by rw [if_pos rfl] at H;exact H
   clear H
   have H:=H1
   clear H1
   by_cases c6:0<(a0.size:Int)
   ·rw [if_pos c6] at H
    have c6b0:decide (0<(a0.size:Int))=true:=dE c6
    have c6b1:decide (0<a0.size)=true:=dE (by omega)
    clear c6
    (first | rw [c6b0] | (simp only [i64_w,i32_w];rw [c6b0]) | skip)
    by_cases c8:(bt a0 0)<97
    ·rw [if_pos c8] at H
     have c8b0:decide ((bt a0 0)<97)=true:=dE c8
     clear c8
     have H':=aM H
     clear H
     go_wp2_with (first | ((with_reducible refine gc_ 112 ?_);refine gl_ (some 6) Tryd.func112 #[.string a0] ?_;(with_reducible refine (Y86.calls a0 t456 _ A3.out).mono ?_);rintro e w' ⟨rfl,⟨nd,rfl⟩⟩;refine ⟨_,rfl,?_⟩) | ((with_reducible refine gc_ 42 ?_);refine gl_ (some 7) Tryd.func42 #[.int .i64 t456,.int .i64 1,.int .i64 20] ?_;(with_reducible refine (Y58.calls t456 1 20 true _ A4.out).mono ?_);rintro e w' ⟨rfl,⟨nd,rfl⟩⟩;refine ⟨_,rfl,?_⟩;have p7:0≤(0:Int):=(by omega);have q7:0<a0.size:=(z57_);have hx7:∀ h:0<a0.size,((a0[0]'h).toNat:Int)=bt a0 0:=bt_at a0 0;clear p7;have qi7:(0<(a0.size:Int))=True:=eq_true (dT (z0_));replace q7:=eq_true q7))
     go_meet
     case rel=>exact ⟨_,(true),(z2_),H',⟨by first | omega | exact Nat.le_refl _⟩,z6_⟩
    ·rw [if_neg c8] at H
     have c8b0:decide ((bt a0 0)<97)=false:=dF c8
     clear c8
     have H':=aM H
     clear H
     go_wp2_with (first | ((with_reducible refine gc_ 112 ?_);refine gl_ (some 6) Tryd.func112 #[.string a0] ?_;(with_reducible refine (Y86.calls a0 t456 _ A3.out).mono ?_);rintro e w' ⟨rfl,⟨nd,rfl⟩⟩;refine ⟨_,rfl,?_⟩) | ((with_reducible refine gc_ 42 ?_);refine gl_ (some 7) Tryd.func42 #[.int .i64 t456,.int .i64 1,.int .i64 20] ?_;(with_reducible refine (Y58.calls t456 1 20 true _ A4.out).mono ?_);rintro e w' ⟨rfl,⟨nd,rfl⟩⟩;refine ⟨_,rfl,?_⟩;have p7:0≤(0:Int):=(by omega);have q7:0<a0.size:=(z57_);have hx7:∀ h:0<a0.size,((a0[0]'h).toNat:Int)=bt a0 0:=bt_at a0 0;clear p7;have qi7:(0<(a0.size:Int))=True:=eq_true (dT (z0_));replace q7:=eq_true q7;have p9:0≤(0:Int):=(by omega);have q9:0<a0.size:=(z57_);have hx9:∀ h:0<a0.size,((a0[0]'h).toNat:Int)=bt a0 0:=bt_at a0 0;clear p9;have qi9:(0<(a0.size:Int))=True:=eq_true (dT (z0_));replace q9:=eq_true q9))
     go_meet
     case rel=>exact ⟨_,(decide ((bt a0 0)>122)),(z2_),H',⟨by first | omega | exact Nat.le_refl _⟩,z6_⟩
   ·rw [if_neg c6] at H
    exact nO H
  ·replace c5:=Bool.eq_false_iff.mpr c5
   subst c5
   have H1:(Y19.j0 k a0 true)=some r:=by rw [if_neg (show ¬ (false=true) by decide)] at H;exact H
   clear H
   have H:=H1
   clear H1
   have H':=aM H
   clear H
   go_wp2_with (first | ((with_reducible refine gc_ 112 ?_);refine gl_ (some 6) Tryd.func112 #[.string a0] ?_;(with_reducible refine (Y86.calls a0 t456 _ A3.out).mono ?_);rintro e w' ⟨rfl,⟨nd,rfl⟩⟩;refine ⟨_,rfl,?_⟩) | ((with_reducible refine gc_ 42 ?_);refine gl_ (some 7) Tryd.func42 #[.int .i64 t456,.int .i64 1,.int .i64 20] ?_;(with_reducible refine (Y58.calls t456 1 20 false _ A4.out).mono ?_);rintro e w' ⟨rfl,⟨nd,rfl⟩⟩;refine ⟨_,rfl,?_⟩))
   go_meet
   case rel=>exact ⟨_,(true),(z2_),H',⟨by first | omega | exact Nat.le_refl _⟩,z6_⟩
 case rest =>
  clear HC2
  try clear c1
  try clear p2
  try clear c4
  try clear c5
  try clear c6
  try clear c6b0
  try clear c6b1
  try clear p7
  try clear q7
  try clear hx7
  try clear qi7
  try clear c8
  try clear c8b0
  try clear p9
  try clear q9
  try clear hx9
  try clear qi9
  try clear p7
  try clear p9
  try clear q7
  try clear q9
  obtain ⟨kq,x18_1,rfl,HA,HJ1,⟨mc1,rfl⟩⟩:=hcut
  cases kq with
  | zero=>exact absurd HA.out (by simp [Y19.j0])
  | succ kj1 =>
   have H:=HA.out
   clear HA
   simp only [Y19.j0] at H
   by_cases c10:x18_1=true
   ·subst c10
    have H1:(some false)=some r:=by rw [if_pos rfl] at H;exact H
    clear H
    have H:=H1
    clear H1
    obtain rfl:=sI H
    go_wp2
    go_ret
    exact ⟨z2_,z6_⟩
   ·replace c10:=Bool.eq_false_iff.mpr c10
    subst c10
    have H1:(Y19.l0 kj1 a0 (a0.size:Int) 0)=some r:=by rw [if_neg (show ¬ (false=true) by decide)] at H;exact H
    clear H
    have H:=H1
    clear H1
    have H':=aM H
    clear H
    go_wp2
    go_loopg [21] kj1 (fun kq v21 w'=>∃ (x21_2:Int),v21 = .int .i64 x21_2∧Aside0 (Y19.l0 kq a0 (a0.size:Int) x21_2=some r)∧Aside0 (kq≤kj1)∧Drawn0 w w')
    case atStart=>exact ⟨(0),(z2_),H',⟨Nat.le_refl _⟩,z6_⟩
    case round =>
     clear H'
     try clear c1
     try clear p2
     try clear c4
     try clear c5
     try clear c6
     try clear c6b0
     try clear c6b1
     try clear p7
     try clear q7
     try clear hx7
     try clear qi7
     try clear c8
     try clear c8b0
     try clear p9
     try clear q9
     try clear hx9
     try clear qi9
     try clear c10
     try clear p2
     try clear p7
     try clear p9
     try clear q7
     try clear q9
     obtain ⟨x21_2,rfl,HA,HK2,⟨m2,rfl⟩⟩:=hrel
     cases gk with
     | zero=>exact absurd HA.out (by simp [Y19.l0])
     | succ k2 =>
      have H:=HA.out
      clear HA
      simp only [Y19.l0] at H
      by_cases c11:x21_2<(a0.size:Int)
      ·rw [if_pos c11] at H
       have c11b0:decide (x21_2<(a0.size:Int))=true:=dE c11
       clear c11
       by_cases c12:0≤x21_2
       ·rw [if_pos c12] at H
        have c12b0:decide (0≤x21_2)=true:=dE c12
        clear c12
        by_cases c13:x21_2<(a0.size:Int)
        ·rw [if_pos c13] at H
         have c13b0:decide (x21_2<(a0.size:Int))=true:=dE c13
         clear c13
         by_cases c15:(bt a0 x21_2)≥97
         ·rw [if_pos c15] at H
          have c15b0:decide (97≤(bt a0 x21_2))=true:=dE c15
          clear c15
          by_cases c16:(bt a0 x21_2)≤122
          ·rw [if_pos c16] at H
           have c16b0:decide ((bt a0 x21_2)≤122)=true:=dE c16
           clear c16
           have H':=aM H
           clear H
           have p14:0≤(x21_2:Int):=dT (z0_)
           have q14:x21_2<(a0.size:Int):=dT (z0_)
           have hx14:=bt_at a0 x21_2
           replace p14:=eq_true p14
           replace q14:=eq_true q14
           go_wp2
           go_roundg k2
           case measure=>have:=HJ1.out;have:=HK2.out;omega
           case rel=>exact ⟨(wrap64 (x21_2+1)),(z2_),H',⟨z15_ HJ1.out HK2.out⟩,z6_⟩
          ·rw [if_neg c16] at H
           have c16b0:decide ((bt a0 x21_2)≤122)=false:=dF c16
           clear c16
           by_cases c17:(bt a0 x21_2)≥48
           ·rw [if_pos c17] at H
            have c17b0:decide (48≤(bt a0 x21_2))=true:=dE c17
            clear c17
            by_cases c18:(bt a0 x21_2)≤57
            ·rw [if_pos c18] at H
             have c18b0:decide ((bt a0 x21_2)≤57)=true:=dE c18
             clear c18
             have H':=aM H
             clear H
             have p14:0≤(x21_2:Int):=dT (z0_)
             have q14:x21_2<(a0.size:Int):=dT (z0_)
             have hx14:=bt_at a0 x21_2
             replace p14:=eq_true p14
             replace q14:=eq_true q14
             go_wp2
             go_roundg k2
             case measure=>have:=HJ1.out;have:=HK2.out;omega
             case rel=>exact ⟨(wrap64 (x21_2+1)),(z2_),H',⟨z15_ HJ1.out HK2.out⟩,z6_⟩
            ·rw [if_neg c18] at H
             have c18b0:decide ((bt a0 x21_2)≤57)=false:=dF c18
             clear c18
             by_cases c19:((bt a0 x21_2)=95)
             ·rw [if_pos c19] at H
              have c19b0:((bt a0 x21_2) == 95)=true:=beq_iff_eq.mpr c19
              have c19b1:((bt a0 x21_2) != 95)=false:=bne_eq_false_iff_eq.mpr c19
              clear c19
              have H':=aM H
              clear H
              have p14:0≤(x21_2:Int):=dT (z0_)
              have q14:x21_2<(a0.size:Int):=dT (z0_)
              have hx14:=bt_at a0 x21_2
              replace p14:=eq_true p14
              replace q14:=eq_true q14
              go_wp2
              go_roundg k2
              case measure=>have:=HJ1.out;have:=HK2.out;omega
              case rel=>exact ⟨(wrap64 (x21_2+1)),(z2_),H',⟨z15_ HJ1.out HK2.out⟩,z6_⟩
             ·rw [if_neg c19] at H
              have c19b0:((bt a0 x21_2) == 95)=false:=beq_eq_false_iff_ne.mpr c19
              have c19b1:((bt a0 x21_2) != 95)=true:=bne_iff_ne.mpr c19
              obtain rfl:=sI H
              have p14:0≤(x21_2:Int):=dT (z0_)
              have q14:x21_2<(a0.size:Int):=dT (z0_)
              have hx14:=bt_at a0 x21_2
              replace p14:=eq_true p14
              replace q14:=eq_true q14
              go_wp2
              go_ret
              exact ⟨z2_,z6_⟩
           ·rw [if_neg c17] at H
            have c17b0:decide (48≤(bt a0 x21_2))=false:=dF c17
            clear c17
            by_cases c20:((bt a0 x21_2)=95)
            ·rw [if_pos c20] at H
             have c20b0:((bt a0 x21_2) == 95)=true:=beq_iff_eq.mpr c20
             have c20b1:((bt a0 x21_2) != 95)=false:=bne_eq_false_iff_eq.mpr c20
             clear c20
             have H':=aM H
             clear H
             have p14:0≤(x21_2:Int):=dT (z0_)
             have q14:x21_2<(a0.size:Int):=dT (z0_)
             have hx14:=bt_at a0 x21_2
             replace p14:=eq_true p14
             replace q14:=eq_true q14
             go_wp2
             go_roundg k2
             case measure=>have:=HJ1.out;have:=HK2.out;omega
             case rel=>exact ⟨(wrap64 (x21_2+1)),(z2_),H',⟨z15_ HJ1.out HK2.out⟩,z6_⟩
            ·rw [if_neg c20] at H
             have c20b0:((bt a0 x21_2) == 95)=false:=beq_eq_false_iff_ne.mpr c20
             have c20b1:((bt a0 x21_2) != 95)=true:=bne_iff_ne.mpr c20
             obtain rfl:=sI H
             have p14:0≤(x21_2:Int):=dT (z0_)
             have q14:x21_2<(a0.size:Int):=dT (z0_)
             have hx14:=bt_at a0 x21_2
             replace p14:=eq_true p14
             replace q14:=eq_true q14
             go_wp2
             go_ret
             exact ⟨z2_,z6_⟩
         ·rw [if_neg c15] at H
          have c15b0:decide (97≤(bt a0 x21_2))=false:=dF c15
          clear c15
          by_cases c21:(bt a0 x21_2)≥48
          ·rw [if_pos c21] at H
           have c21b0:decide (48≤(bt a0 x21_2))=true:=dE c21
           clear c21
           by_cases c22:(bt a0 x21_2)≤57
           ·rw [if_pos c22] at H
            have c22b0:decide ((bt a0 x21_2)≤57)=true:=dE c22
            clear c22
            have H':=aM H
            clear H
            have p14:0≤(x21_2:Int):=dT (z0_)
            have q14:x21_2<(a0.size:Int):=dT (z0_)
            have hx14:=bt_at a0 x21_2
            replace p14:=eq_true p14
            replace q14:=eq_true q14
            go_wp2
            go_roundg k2
            case measure=>have:=HJ1.out;have:=HK2.out;omega
            case rel=>exact ⟨(wrap64 (x21_2+1)),(z2_),H',⟨z15_ HJ1.out HK2.out⟩,z6_⟩
           ·rw [if_neg c22] at H
            have c22b0:decide ((bt a0 x21_2)≤57)=false:=dF c22
            clear c22
            by_cases c23:((bt a0 x21_2)=95)
            ·rw [if_pos c23] at H
             have c23b0:((bt a0 x21_2) == 95)=true:=beq_iff_eq.mpr c23
             have c23b1:((bt a0 x21_2) != 95)=false:=bne_eq_false_iff_eq.mpr c23
             clear c23
             have H':=aM H
             clear H
             have p14:0≤(x21_2:Int):=dT (z0_)
             have q14:x21_2<(a0.size:Int):=dT (z0_)
             have hx14:=bt_at a0 x21_2
             replace p14:=eq_true p14
             replace q14:=eq_true q14
             go_wp2
             go_roundg k2
             case measure=>have:=HJ1.out;have:=HK2.out;omega
             case rel=>exact ⟨(wrap64 (x21_2+1)),(z2_),H',⟨z15_ HJ1.out HK2.out⟩,z6_⟩
            ·rw [if_neg c23] at H
             have c23b0:((bt a0 x21_2) == 95)=false:=beq_eq_false_iff_ne.mpr c23
             have c23b1:((bt a0 x21_2) != 95)=true:=bne_iff_ne.mpr c23
             obtain rfl:=sI H
             have p14:0≤(x21_2:Int):=dT (z0_)
             have q14:x21_2<(a0.size:Int):=dT (z0_)
             have hx14:=bt_at a0 x21_2
             replace p14:=eq_true p14
             replace q14:=eq_true q14
             go_wp2
             go_ret
             exact ⟨z2_,z6_⟩
          ·rw [if_neg c21] at H
           have c21b0:decide (48≤(bt a0 x21_2))=false:=dF c21
           clear c21
           by_cases c24:((bt a0 x21_2)=95)
           ·rw [if_pos c24] at H
            have c24b0:((bt a0 x21_2) == 95)=true:=beq_iff_eq.mpr c24
            have c24b1:((bt a0 x21_2) != 95)=false:=bne_eq_false_iff_eq.mpr c24
            clear c24
            have H':=aM H
            clear H
            have p14:0≤(x21_2:Int):=dT (z0_)
            have q14:x21_2<(a0.size:Int):=dT (z0_)
            have hx14:=bt_at a0 x21_2
            replace p14:=eq_true p14
            replace q14:=eq_true q14
            go_wp2
            go_roundg k2
            case measure=>have:=HJ1.out;have:=HK2.out;omega
            case rel=>exact ⟨(wrap64 (x21_2+1)),(z2_),H',⟨z15_ HJ1.out HK2.out⟩,z6_⟩
           ·rw [if_neg c24] at H
            have c24b0:((bt a0 x21_2) == 95)=false:=beq_eq_false_iff_ne.mpr c24
            have c24b1:((bt a0 x21_2) != 95)=true:=bne_iff_ne.mpr c24
            obtain rfl:=sI H
            have p14:0≤(x21_2:Int):=dT (z0_)
            have q14:x21_2<(a0.size:Int):=dT (z0_)
            have hx14:=bt_at a0 x21_2
            replace p14:=eq_true p14
            replace q14:=eq_true q14
            go_wp2
            go_ret
            exact ⟨z2_,z6_⟩
        ·rw [if_neg c13] at H
         exact nO H
       ·rw [if_neg c12] at H
        exact nO H
      ·rw [if_neg c11] at H
       have c11b0:decide (x21_2<(a0.size:Int))=false:=dF c11
       clear c11
       obtain rfl:=sI H
       go_wp2
       go_ret
       exact ⟨z2_,z6_⟩


/-! ### Y53: function 52 -/
def Y53.f (k:Nat) (a0_0:Int) (l0_1:List (S77)) (a1:ByteArray):Option (Bool):=(Y66.f k (([a1]:List ByteArray))).bind fun t462=>(if t462=true then (some false) else ((Y16.f k a0_0 l0_1).bind fun t463=>(if t463=true then ((Y19.f k a1).bind fun t464=>(some t464)) else (some false))))
theorem Y53.mono:∀ a0 a1 a2 k,LeO (Y53.f k a0 a1 a2) (Y53.f (k+1) a0 a1 a2):=by
 intro a0 a1 a2 k
 have m0:=@Y19.mono
 have m1:=@Y16.mono
 have m2:=@Y66.mono
 unfold Y53.f
 exact mO
theorem Y53.calls (k:Nat) (a0_0:Int) (A0_1:Option Addr) (c0_1:Nat) (l0_1:List (S77)) (a1:ByteArray) (r:Bool) (w:World) (hr0_1:Kd.C k77 w A0_1 l0_1.length l0_1) (hc0_1:l0_1.length≤c0_1) (h:Y53.f k a0_0 l0_1 a1=some r) :
  Calls Tryd.prog 52 #[.agg #[.int .i64 a0_0,.slice A0_1 l0_1.length c0_1],.string a1] w fun e w'=>e = .returned (.bool r)∧Below w.heap.size w w':=by
 have hu24:=Tryd.underlying24
 have HR0_1:=aM hr0_1
 have HC0_1:=aM hc0_1
 clear hr0_1 hc0_1
 have HB:=aM (Below.refl w.heap.size w)
 have H:((Y66.f k (([a1]:List ByteArray))).bind fun t462=>(if t462=true then (some false) else ((Y16.f k a0_0 l0_1).bind fun t463=>(if t463=true then ((Y19.f k a1).bind fun t464=>(some t464)) else (some false)))))=some r:=h
 clear h
 obtain ⟨y459,hy459⟩:∃ y_:List ByteArray,y_=(([a1]:List ByteArray)):=⟨_,rfl⟩
 replace H:((Y66.f k y459).bind fun t462=>(if t462=true then (some false) else ((Y16.f k a0_0 l0_1).bind fun t463=>(if t463=true then ((Y19.f k a1).bind fun t464=>(some t464)) else (some false)))))=some r:=by first | (rw [hy459];with_reducible exact H) | (have H2_:=(Option.bind_some _ _).symm.trans H;rw [hy459];with_reducible exact H2_) | (have H2_:=(Option.bind_some _ _).symm.trans H;with_reducible exact H2_) | with_reducible exact H | (rw [hy459];exact H) | exact H
 have Ny459:=aM hy459
 clear hy459
 replace H:=bS H
 obtain ⟨t462,A30,H⟩:=H
 replace H:(if t462=true then (some false) else ((Y16.f k a0_0 l0_1).bind fun t463=>(if t463=true then ((Y19.f k a1).bind fun t464=>(some t464)) else (some false))))=some r:=H
 have A3:=aM A30
 clear A30
 by_cases c4:t462=true
 ·subst c4
  have H1:(some false)=some r:=by rw [if_pos rfl] at H;exact H
  clear H
  have H:=H1
  clear H1
  obtain rfl:=sI H
  go_enter Tryd.func52,Tryd.ntmps52
  go_wp2_with (first | ((with_reducible refine gd_ 2 ?_);refine be_ 2 #[.int .i64 a0_0,.slice A0_1 l0_1.length c0_1] 24 ?_;intro gb458 hg w5 hbox hb;have n0_:=aM (below_step (z5_ HB.out) hb);have n1_:=aM (hbox);have n2_:=aM ((z8_ HB.out:w.heap.size≤gb458));have n3_:=aM ((z8_ HB.out:w.heap.size≤gb458));clear HB;have HB:=n0_;have BK458:=n1_;have GW458:=n2_;have GE458:=n3_;clear n0_ n1_ n2_ n3_;clear hb hbox hg) | ((with_reducible refine gd_ 6 ?_);refine Kd.R_lit Kd.string _ 9 ?hg (N:=6) ?hd (xs:=([a1]:List ByteArray)) (inner:=[.string a1]) (ok:=fun _=>True) (okp:=fun _=>True) ?hr ?hp (fun _ hk=>hk) trivial (Below.refl _ _) (Nat.le_refl _) (by simp) ?_;(case hd=>rfl);(case hg=>rfl);(case hr=>first | (go_simp;done) | (go_simp;rfl));(case hp=>exact (Reps.one (show Kd.M Kd.string _ _ _ a1 [.string a1] from rfl) (Reps.none _ _)));intro v460 w6 ho7 hb hg_ hnew_;clear hg_ hnew_;(first | rw [← Ny459.out] at ho7 | (simp only [Int.reduceToNat] at ho7;rw [← Ny459.out] at ho7));have n0_:=aM (Kd.R_lower ho7 (below_size (z7_ HB.out GE458.out)));have n1_:=aM (blkB_ BK458.out hb);have n2_:=aM (below_step (z7_ HB.out GE458.out) hb);clear BK458;clear HB;have HO461:=n0_;have BK458:=n1_;have HB:=n2_;clear n0_ n1_ n2_;clear hb ho7;obtain ⟨Ao8,co8,eo8⟩:=Kd.R_slice HO461.out;subst eo8) | ((with_reducible refine gc_ 83 ?_);refine gl_ (some 7) Tryd.func83 #[.slice Ao8 y459.length co8] ?_;(with_reducible refine (Y66.calls k _ _ y459 true _ ?s1 ?s2 A3.out).mono ?_);(case s1=>repeat (first | exact (Kd.R_reads' HO461.out).2.2 | (with_reducible refine Kd.C_alloc ?_ _) | (with_reducible refine Kd.C_drewN ?_ _) | (with_reducible refine Kd.C_drew ?_)));(case s2=>exact (Kd.R_reads' HO461.out).2.1);rintro e w' ⟨rfl,⟨nd,rfl⟩⟩;refine ⟨_,rfl,?_⟩))
  go_ret
  exact ⟨z9_,z7_ HB.out GE458.out⟩
 ·replace c4:=Bool.eq_false_iff.mpr c4
  subst c4
  have H1:((Y16.f k a0_0 l0_1).bind fun t463=>(if t463=true then ((Y19.f k a1).bind fun t464=>(some t464)) else (some false)))=some r:=by rw [if_neg (show ¬ (false=true) by decide)] at H;exact H
  clear H
  have H:=H1
  clear H1
  replace H:=bS H
  obtain ⟨t463,A90,H⟩:=H
  replace H:(if t463=true then ((Y19.f k a1).bind fun t464=>(some t464)) else (some false))=some r:=H
  have A9:=aM A90
  clear A90
  by_cases c10:t463=true
  ·subst c10
   have H1:((Y19.f k a1).bind fun t464=>(some t464))=some r:=by rw [if_pos rfl] at H;exact H
   clear H
   have H:=H1
   clear H1
   replace H:=bS H
   obtain ⟨t464,A110,H⟩:=H
   replace H:(some t464)=some r:=H
   have A11:=aM A110
   clear A110
   obtain rfl:=sI H
   go_enter Tryd.func52,Tryd.ntmps52
   go_wp2_with (first | ((with_reducible refine gd_ 2 ?_);refine be_ 2 #[.int .i64 a0_0,.slice A0_1 l0_1.length c0_1] 24 ?_;intro gb458 hg w12 hbox hb;have n0_:=aM (below_step (z5_ HB.out) hb);have n1_:=aM (hbox);have n2_:=aM ((z8_ HB.out:w.heap.size≤gb458));have n3_:=aM ((z8_ HB.out:w.heap.size≤gb458));clear HB;have HB:=n0_;have BK458:=n1_;have GW458:=n2_;have GE458:=n3_;clear n0_ n1_ n2_ n3_;clear hb hbox hg) | ((with_reducible refine gd_ 6 ?_);refine Kd.R_lit Kd.string _ 9 ?hg (N:=6) ?hd (xs:=([a1]:List ByteArray)) (inner:=[.string a1]) (ok:=fun _=>True) (okp:=fun _=>True) ?hr ?hp (fun _ hk=>hk) trivial (Below.refl _ _) (Nat.le_refl _) (by simp) ?_;(case hd=>rfl);(case hg=>rfl);(case hr=>first | (go_simp;done) | (go_simp;rfl));(case hp=>exact (Reps.one (show Kd.M Kd.string _ _ _ a1 [.string a1] from rfl) (Reps.none _ _)));intro v460 w13 ho14 hb hg_ hnew_;clear hg_ hnew_;(first | rw [← Ny459.out] at ho14 | (simp only [Int.reduceToNat] at ho14;rw [← Ny459.out] at ho14));have n0_:=aM (Kd.R_lower ho14 (below_size (z7_ HB.out GE458.out)));have n1_:=aM (blkB_ BK458.out hb);have n2_:=aM (below_step (z7_ HB.out GE458.out) hb);clear BK458;clear HB;have HO461:=n0_;have BK458:=n1_;have HB:=n2_;clear n0_ n1_ n2_;clear hb ho14;obtain ⟨Ao15,co15,eo15⟩:=Kd.R_slice HO461.out;subst eo15) | ((with_reducible refine gc_ 83 ?_);refine gl_ (some 7) Tryd.func83 #[.slice Ao15 y459.length co15] ?_;(with_reducible refine (Y66.calls k _ _ y459 false _ ?s1 ?s2 A3.out).mono ?_);(case s1=>repeat (first | exact (Kd.R_reads' HO461.out).2.2 | (with_reducible refine Kd.C_alloc ?_ _) | (with_reducible refine Kd.C_drewN ?_ _) | (with_reducible refine Kd.C_drew ?_)));(case s2=>exact (Kd.R_reads' HO461.out).2.1);rintro e w' ⟨rfl,⟨nd,rfl⟩⟩;refine ⟨_,rfl,?_⟩;have ⟨hcz16_0,hcz16_1,hfz16_0,hfz16_1⟩:=cz2_ BK458.out) | (go_at_call 47;(with_reducible refine (Y16.calls k a0_0 _ _ l0_1 true _ ?s1 ?s2 A9.out).mono ?_);(case s1=>repeat (first | exact (Kd.C_below HR0_1.out (z7_ HB.out GE458.out)) | (with_reducible refine Kd.C_alloc ?_ _) | (with_reducible refine Kd.C_drewN ?_ _) | (with_reducible refine Kd.C_drew ?_)));(case s2=>exact HC0_1.out);rintro e w17 ⟨rfl,hb⟩;have n0_:=aM (Kd.R_below (z1_ HO461.out) hb);have n1_:=aM (blkB_ BK458.out hb);have n2_:=aM (below_step (z7_ HB.out GE458.out) hb);clear HO461;clear BK458;clear HB;have HO461:=n0_;have BK458:=n1_;have HB:=n2_;clear n0_ n1_ n2_;(try clear hb)) | (go_at_call 84;(with_reducible refine (Y19.calls k a1 t464 _ A11.out).mono ?_);rintro e w' ⟨rfl,⟨nd,rfl⟩⟩))
   go_ret
   exact ⟨z9_,z7_ HB.out GE458.out⟩
  ·replace c10:=Bool.eq_false_iff.mpr c10
   subst c10
   have H1:(some false)=some r:=by rw [if_neg (show ¬ (false=true) by decide)] at H;exact H
   clear H
   have H:=H1
   clear H1
   obtain rfl:=sI H
   go_enter Tryd.func52,Tryd.ntmps52
   go_wp2_with (first | ((with_reducible refine gd_ 2 ?_);refine be_ 2 #[.int .i64 a0_0,.slice A0_1 l0_1.length c0_1] 24 ?_;intro gb458 hg w18 hbox hb;have n0_:=aM (below_step (z5_ HB.out) hb);have n1_:=aM (hbox);have n2_:=aM ((z8_ HB.out:w.heap.size≤gb458));have n3_:=aM ((z8_ HB.out:w.heap.size≤gb458));clear HB;have HB:=n0_;have BK458:=n1_;have GW458:=n2_;have GE458:=n3_;clear n0_ n1_ n2_ n3_;clear hb hbox hg) | ((with_reducible refine gd_ 6 ?_);refine Kd.R_lit Kd.string _ 9 ?hg (N:=6) ?hd (xs:=([a1]:List ByteArray)) (inner:=[.string a1]) (ok:=fun _=>True) (okp:=fun _=>True) ?hr ?hp (fun _ hk=>hk) trivial (Below.refl _ _) (Nat.le_refl _) (by simp) ?_;(case hd=>rfl);(case hg=>rfl);(case hr=>first | (go_simp;done) | (go_simp;rfl));(case hp=>exact (Reps.one (show Kd.M Kd.string _ _ _ a1 [.string a1] from rfl) (Reps.none _ _)));intro v460 w19 ho20 hb hg_ hnew_;clear hg_ hnew_;(first | rw [← Ny459.out] at ho20 | (simp only [Int.reduceToNat] at ho20;rw [← Ny459.out] at ho20));have n0_:=aM (Kd.R_lower ho20 (below_size (z7_ HB.out GE458.out)));have n1_:=aM (blkB_ BK458.out hb);have n2_:=aM (below_step (z7_ HB.out GE458.out) hb);clear BK458;clear HB;have HO461:=n0_;have BK458:=n1_;have HB:=n2_;clear n0_ n1_ n2_;clear hb ho20;obtain ⟨Ao21,co21,eo21⟩:=Kd.R_slice HO461.out;subst eo21) | ((with_reducible refine gc_ 83 ?_);refine gl_ (some 7) Tryd.func83 #[.slice Ao21 y459.length co21] ?_;(with_reducible refine (Y66.calls k _ _ y459 false _ ?s1 ?s2 A3.out).mono ?_);(case s1=>repeat (first | exact (Kd.R_reads' HO461.out).2.2 | (with_reducible refine Kd.C_alloc ?_ _) | (with_reducible refine Kd.C_drewN ?_ _) | (with_reducible refine Kd.C_drew ?_)));(case s2=>exact (Kd.R_reads' HO461.out).2.1);rintro e w' ⟨rfl,⟨nd,rfl⟩⟩;refine ⟨_,rfl,?_⟩;have ⟨hcz22_0,hcz22_1,hfz22_0,hfz22_1⟩:=cz2_ BK458.out) | (go_at_call 47;(with_reducible refine (Y16.calls k a0_0 _ _ l0_1 false _ ?s1 ?s2 A9.out).mono ?_);(case s1=>repeat (first | exact (Kd.C_below HR0_1.out (z7_ HB.out GE458.out)) | (with_reducible refine Kd.C_alloc ?_ _) | (with_reducible refine Kd.C_drewN ?_ _) | (with_reducible refine Kd.C_drew ?_)));(case s2=>exact HC0_1.out);rintro e w23 ⟨rfl,hb⟩;have n0_:=aM (Kd.R_below (z1_ HO461.out) hb);have n1_:=aM (blkB_ BK458.out hb);have n2_:=aM (below_step (z7_ HB.out GE458.out) hb);clear HO461;clear BK458;clear HB;have HO461:=n0_;have BK458:=n1_;have HB:=n2_;clear n0_ n1_ n2_;(try clear hb)))
   go_ret
   exact ⟨z9_,z7_ HB.out GE458.out⟩


/-! ### Y25: function 114 -/
def Y25.l0:Nat→List Int→Int→Int→Int→Option (Int)
 | 0,_,_,_,_=>none
 | k+1,x0,x1,x7,x8=>if x8<x7 then (if 0≤x8 then (if x8<(x0.length:Int) then (if x1=(rd x0 x8) then (some x8) else (Y25.l0 k x0 x1 x7 (wrap64 (x8+1)))) else (none)) else (none)) else (some (-1))
def Y25.f (k:Nat) (l0:List Int) (a1:Int):Option (Int):=Y25.l0 k l0 a1 (l0.length:Int) 0
theorem Y25.mono_l:∀ k,(∀ y0 y1 y2 y3,LeO (Y25.l0 k y0 y1 y2 y3) (Y25.l0 (k+1) y0 y1 y2 y3))
 | 0=>by intros <;> exact LeO.none _
 | k+1=>by
  have ih0:=Y25.mono_l k
  ·intros
   unfold Y25.l0
   exact mO
theorem Y25.mono:∀ a0 a1 k,LeO (Y25.f k a0 a1) (Y25.f (k+1) a0 a1):=by
 intro a0 a1 k
 have ih0:=Y25.mono_l k
 unfold Y25.f
 exact mO
theorem Y25.calls (k:Nat) (A0:Option Addr) (c0:Nat) (l0:List Int) (a1:Int) (r:Int) (w:World) (hr0:Kd.C (Kd.int .i64) w A0 l0.length l0) (hc0:l0.length≤c0) (h:Y25.f k l0 a1=some r) :
  Calls Tryd.prog 114 #[.slice A0 l0.length c0,.int .i64 a1] w fun e w'=>e = .returned (.int .i64 r)∧Drawn0 w w':=by
 have HR0:=aM hr0
 have HC0:=aM hc0
 clear hr0 hc0
 have H:(Y25.l0 k l0 a1 (l0.length:Int) 0)=some r:=h
 clear h
 have H':=aM H
 clear H
 go_enter Tryd.func114,Tryd.ntmps114
 go_wp2
 go_loopg [8] k (fun kq v8 w'=>∃ (x8_1:Int),v8 = .int .i64 x8_1∧Aside0 (Y25.l0 kq l0 a1 (l0.length:Int) x8_1=some r)∧Aside0 (kq≤k)∧Drawn0 w w')
 case atStart=>exact ⟨(0),(z2_),H',⟨Nat.le_refl _⟩,z6_⟩
 case round =>
  clear H'
  try clear c1
  try clear p2
  obtain ⟨x8_1,rfl,HA,HK1,⟨m1,rfl⟩⟩:=hrel
  cases gk with
  | zero=>exact absurd HA.out (by simp [Y25.l0])
  | succ k1 =>
   have H:=HA.out
   clear HA
   simp only [Y25.l0] at H
   by_cases c3:x8_1<(l0.length:Int)
   ·rw [if_pos c3] at H
    have c3b0:decide (x8_1<(l0.length:Int))=true:=dE c3
    clear c3
    by_cases c4:0≤x8_1
    ·rw [if_pos c4] at H
     have c4b0:decide (0≤x8_1)=true:=dE c4
     clear c4
     by_cases c5:x8_1<(l0.length:Int)
     ·rw [if_pos c5] at H
      have c5b0:decide (x8_1<(l0.length:Int))=true:=dE c5
      clear c5
      by_cases c6:a1=(rd l0 x8_1)
      ·rw [if_pos c6] at H
       have c6b0:(a1 == (rd l0 x8_1))=true:=beq_iff_eq.mpr c6
       have c6b1:(a1 != (rd l0 x8_1))=false:=bne_eq_false_iff_eq.mpr c6
       clear c6
       obtain rfl:=sI H
       have p465:0≤(x8_1:Int):=dT (z0_)
       have q465:x8_1<(l0.length:Int):=dT (z0_)
       obtain ⟨ad465,e465,hx465_0⟩:=Kd.at_int HR0.out x8_1 p465 q465
       cases e465
       replace p465:=eq_true p465
       replace q465:=eq_true q465
       go_wp2
       go_ret
       exact ⟨z2_,z6_⟩
      ·rw [if_neg c6] at H
       have c6b0:(a1 == (rd l0 x8_1))=false:=beq_eq_false_iff_ne.mpr c6
       have c6b1:(a1 != (rd l0 x8_1))=true:=bne_iff_ne.mpr c6
       have H':=aM H
       clear H
       have p465:0≤(x8_1:Int):=dT (z0_)
       have q465:x8_1<(l0.length:Int):=dT (z0_)
       obtain ⟨ad465,e465,hx465_0⟩:=Kd.at_int HR0.out x8_1 p465 q465
       cases e465
       replace p465:=eq_true p465
       replace q465:=eq_true q465
       go_wp2
       go_roundg k1
       case measure=>have:=HK1.out;omega
       case rel=>exact ⟨(wrap64 (x8_1+1)),(z2_),H',⟨by have:=HK1.out;omega⟩,z6_⟩
     ·rw [if_neg c5] at H
      exact nO H
    ·rw [if_neg c4] at H
     exact nO H
   ·rw [if_neg c3] at H
    have c3b0:decide (x8_1<(l0.length:Int))=false:=dF c3
    clear c3
    obtain rfl:=sI H
    go_wp2
    go_ret
    exact ⟨z2_,z6_⟩


/-! ### Y26: function 89 -/
def Y26.f (k:Nat) (l0:List Int) (a1:Int):Option (Bool):=(Y25.f k l0 a1).bind fun t466=>(some (decide (t466≥0)))
theorem Y26.mono:∀ a0 a1 k,LeO (Y26.f k a0 a1) (Y26.f (k+1) a0 a1):=by
 intro a0 a1 k
 have m0:=@Y25.mono
 unfold Y26.f
 exact mO
theorem Y26.calls (k:Nat) (A0:Option Addr) (c0:Nat) (l0:List Int) (a1:Int) (r:Bool) (w:World) (hr0:Kd.C (Kd.int .i64) w A0 l0.length l0) (hc0:l0.length≤c0) (h:Y26.f k l0 a1=some r) :
  Calls Tryd.prog 89 #[.slice A0 l0.length c0,.int .i64 a1] w fun e w'=>e = .returned (.bool r)∧Drawn0 w w':=by
 have HR0:=aM hr0
 have HC0:=aM hc0
 clear hr0 hc0
 have H:((Y25.f k l0 a1).bind fun t466=>(some (decide (t466≥0))))=some r:=h
 clear h
 replace H:=bS H
 obtain ⟨t466,A30,H⟩:=H
 replace H:(some (decide (t466≥0)))=some r:=H
 have A3:=aM A30
 clear A30
 obtain rfl:=sI H
 go_enter Tryd.func89,Tryd.ntmps89
 go_wp2_with (first | ((with_reducible refine gc_ 114 ?_);refine gl_ (some 7) Tryd.func114 #[.slice A0 l0.length c0,.int .i64 a1] ?_;(with_reducible refine (Y25.calls k _ _ l0 a1 t466 _ ?s1 ?s2 A3.out).mono ?_);(case s1=>repeat (first | exact HR0.out | (with_reducible refine Kd.C_alloc ?_ _) | (with_reducible refine Kd.C_drewN ?_ _) | (with_reducible refine Kd.C_drew ?_)));(case s2=>exact HC0.out);rintro e w' ⟨rfl,⟨nd,rfl⟩⟩;refine ⟨_,rfl,?_⟩))
 go_ret
 exact ⟨z2_,z6_⟩


/-! ### Y76: function 93 -/
def Y76.f (a0_0:Int) (a0_1:Int) (a1_0:Int):Option (Bool):=some (decide (a0_0≥a1_0))
theorem Y76.calls (a0_0:Int) (a0_1:Int) (gb1:Nat) (a1_0:Int) (r:Bool) (w:World) (hk1:w.heap[gb1]? = some (.cells #[.int .i64 a1_0] 2 (0,0))) (h:Y76.f a0_0 a0_1 a1_0=some r) :
  Calls Tryd.prog 93 #[.agg #[.int .i64 a0_0,.int .i64 a0_1],.pointer (some ⟨gb1,0,none⟩)] w fun e w'=>e = .returned (.bool r)∧Below w.heap.size w w':=by
 have hu77:=Tryd.underlying77
 have BK61:=aM hk1
 clear hk1
 have HB:=aM (Below.refl w.heap.size w)
 have H:(some (decide (a0_0≥a1_0)))=some r:=h
 clear h
 obtain rfl:=sI H
 go_enter Tryd.func93,Tryd.ntmps93
 go_wp2_with (first | ((with_reducible refine gd_ 2 ?_);refine be_ 2 #[.int .i64 a0_0,.int .i64 a0_1] 77 ?_;intro gb467 hg w3 hbox hb;have n0_:=aM (blkB_ BK61.out hb);have n1_:=aM (below_step (by repeat (first | (with_reducible first | exact HB.out | apply below_alloc | apply pw_below_drewN | apply below_drew1 | refine below_set ?_ GE61.out) | exact HB.out)) hb);have n2_:=aM (hbox);have n3_:=aM ((by rw [hg];exact (below_size (by repeat (first | (with_reducible first | exact HB.out | apply below_alloc | apply pw_below_drewN | apply below_drew1 | refine below_set ?_ GE61.out) | exact HB.out))):w.heap.size≤gb467));have n4_:=aM ((by rw [hg];exact (below_size (by repeat (first | (with_reducible first | exact HB.out | apply below_alloc | apply pw_below_drewN | apply below_drew1 | refine below_set ?_ GE61.out) | exact HB.out))):w.heap.size≤gb467));have n5_:=aM (neL_ BK61.out hg);have n6_:=aM (neG_ BK61.out hg);clear BK61;clear HB;have BK61:=n0_;have HB:=n1_;have BK467:=n2_;have GW467:=n3_;have GE467:=n4_;have NB61_467:=n5_;have NB467_61:=n6_;clear n0_ n1_ n2_ n3_ n4_ n5_ n6_;clear hb hbox hg;have hnb4:=NB467_61.out;have hnc4:=NB61_467.out;have ⟨hcz5_0,hcz5_1,hfz5_0,hfz5_1⟩:=cz2_ BK467.out;have ⟨hcz6_0,hfz6_0⟩:=cz1_ BK61.out))
 go_ret
 exact ⟨z9_,by repeat (first | (with_reducible first | exact HB.out | apply below_alloc | apply pw_below_drewN | apply below_drew1 | refine below_set ?_ GE61.out | refine below_set ?_ GE467.out) | exact HB.out)⟩


/-! ### Y4: function 92 -/
def Y4.l0:Nat→List (S77)→Int→Int→Int→Option (Int)
 | 0,_,_,_,_=>none
 | k+1,x0,x7,x8,x62000=>if x8<x7 then (if 0≤x8 then (if x8<(x0.length:Int) then ((Y76.f ((rd_T77 x0 x8).f0) ((rd_T77 x0 x8).f1) x62000).bind fun t469=>(if t469=true then (some x8) else (Y4.l0 k x0 x7 (wrap64 (x8+1)) x62000))) else (none)) else (none)) else (some (-1))
def Y4.f (k:Nat) (l0:List (S77)) (a1_0:Int):Option (Int):=Y4.l0 k l0 (l0.length:Int) 0 a1_0
theorem Y4.mono_l:∀ k,(∀ y0 y1 y2 y3,LeO (Y4.l0 k y0 y1 y2 y3) (Y4.l0 (k+1) y0 y1 y2 y3))
 | 0=>by intros <;> exact LeO.none _
 | k+1=>by
  have ih0:=Y4.mono_l k
  ·intros
   unfold Y4.l0
   exact mO
theorem Y4.mono:∀ a0 a1 k,LeO (Y4.f k a0 a1) (Y4.f (k+1) a0 a1):=by
 intro a0 a1 k
 have ih0:=Y4.mono_l k
 unfold Y4.f
 exact mO
theorem Y4.calls (k:Nat) (A0:Option Addr) (c0:Nat) (l0:List (S77)) (gb1:Nat) (a1_0:Int) (r:Int) (w:World) (hr0:Kd.C k77 w A0 l0.length l0) (hc0:l0.length≤c0) (hk1:w.heap[gb1]? = some (.cells #[.int .i64 a1_0] 2 (0,0))) (h:Y4.f k l0 a1_0=some r) :
  Calls Tryd.prog 92 #[.slice A0 l0.length c0,.func (.func 93) #[] #[.pointer (some ⟨gb1,0,none⟩)]] w fun e w'=>e = .returned (.int .i64 r)∧Below w.heap.size w w':=by
 have hu77:=Tryd.underlying77
 have HR0:=aM hr0
 have HC0:=aM hc0
 clear hr0 hc0
 have BK61:=aM hk1
 clear hk1
 have HB:=aM (Below.refl w.heap.size w)
 have H:(Y4.l0 k l0 (l0.length:Int) 0 a1_0)=some r:=h
 clear h
 have H':=aM H
 clear H
 go_enter Tryd.func92,Tryd.ntmps92
 go_wp2
 go_loopg [8] k (fun kq v8 w'=>∃ (x8_1:Int),v8 = .int .i64 x8_1∧Aside0 (Y4.l0 kq l0 (l0.length:Int) x8_1 a1_0=some r)∧Aside0 (kq≤k)∧Aside0 (w'.heap[gb1]? = some (.cells #[.int .i64 a1_0] 2 (0,0)))∧Aside0 (Below w.heap.size w w'))
 case atStart=>exact ⟨(0),(z2_),H',⟨Nat.le_refl _⟩,⟨z3_ BK61.out⟩,⟨by repeat (first | (with_reducible first | exact HB.out | apply below_alloc | apply pw_below_drewN | apply below_drew1 | refine below_set ?_ GE61.out) | exact HB.out)⟩⟩
 case round =>
  clear H'
  try clear p2
  obtain ⟨x8_1,rfl,HA,HK1,BK61,HB⟩:=hrel
  cases gk with
  | zero=>exact absurd HA.out (by simp [Y4.l0])
  | succ k1 =>
   have H:=HA.out
   clear HA
   simp only [Y4.l0] at H
   by_cases c3:x8_1<(l0.length:Int)
   ·rw [if_pos c3] at H
    have c3b0:decide (x8_1<(l0.length:Int))=true:=dE c3
    clear c3
    by_cases c4:0≤x8_1
    ·rw [if_pos c4] at H
     have c4b0:decide (0≤x8_1)=true:=dE c4
     clear c4
     by_cases c5:x8_1<(l0.length:Int)
     ·rw [if_pos c5] at H
      have c5b0:decide (x8_1<(l0.length:Int))=true:=dE c5
      clear c5
      replace H:=bS H
      obtain ⟨t469,A60,H⟩:=H
      replace H:(if t469=true then (some x8_1) else (Y4.l0 k1 l0 (l0.length:Int) (wrap64 (x8_1+1)) a1_0))=some r:=H
      have A6:=aM A60
      clear A60
      by_cases c7:t469=true
      ·subst c7
       have H1:(some x8_1)=some r:=by rw [if_pos rfl] at H;exact H
       clear H
       have H:=H1
       clear H1
       obtain rfl:=sI H
       have p468:0≤(x8_1:Int):=dT (z0_)
       have q468:x8_1<(l0.length:Int):=dT (z0_)
       obtain ⟨ad468,e468,hx468_0,hx468_1⟩:=at_T77 HR0.out x8_1 p468 q468
       cases e468
       replace hx468_0:=(HB.out.cell (World.block_lt_of_cell? w _ hx468_0)).trans hx468_0
       replace hx468_1:=(HB.out.cell (World.block_lt_of_cell? w _ hx468_1)).trans hx468_1
       replace p468:=eq_true p468
       replace q468:=eq_true q468
       go_wp2_with (first | (go_at_call 93;(with_reducible refine (Y76.calls ((rd_T77 l0 x8_1).f0) ((rd_T77 l0 x8_1).f1) gb1 a1_0 true _ ?s1 A6.out).mono ?_);(case s1=>(with_reducible repeat (first | refine blk_drewN ?_ _ | refine blk_drew ?_ | refine blk_alloc ?_ _));exact BK61.out);rintro e w8 ⟨rfl,hb⟩;have n0_:=aM (blkB_ BK61.out hb);have n1_:=aM (below_step (by repeat (first | (with_reducible first | exact HB.out | apply below_alloc | apply pw_below_drewN | apply below_drew1 | refine below_set ?_ GE61.out) | exact HB.out)) hb);clear BK61;clear HB;have BK61:=n0_;have HB:=n1_;clear n0_ n1_;(try clear hb)))
       go_ret
       exact ⟨z9_,by repeat (first | (with_reducible first | exact HB.out | apply below_alloc | apply pw_below_drewN | apply below_drew1 | refine below_set ?_ GE61.out) | exact HB.out)⟩
      ·replace c7:=Bool.eq_false_iff.mpr c7
       subst c7
       have H1:(Y4.l0 k1 l0 (l0.length:Int) (wrap64 (x8_1+1)) a1_0)=some r:=by rw [if_neg (show ¬ (false=true) by decide)] at H;exact H
       clear H
       have H:=H1
       clear H1
       have H':=aM H
       clear H
       have p468:0≤(x8_1:Int):=dT (z0_)
       have q468:x8_1<(l0.length:Int):=dT (z0_)
       obtain ⟨ad468,e468,hx468_0,hx468_1⟩:=at_T77 HR0.out x8_1 p468 q468
       cases e468
       replace hx468_0:=(HB.out.cell (World.block_lt_of_cell? w _ hx468_0)).trans hx468_0
       replace hx468_1:=(HB.out.cell (World.block_lt_of_cell? w _ hx468_1)).trans hx468_1
       replace p468:=eq_true p468
       replace q468:=eq_true q468
       go_wp2_with (first | (go_at_call 93;(with_reducible refine (Y76.calls ((rd_T77 l0 x8_1).f0) ((rd_T77 l0 x8_1).f1) gb1 a1_0 false _ ?s1 A6.out).mono ?_);(case s1=>(with_reducible repeat (first | refine blk_drewN ?_ _ | refine blk_drew ?_ | refine blk_alloc ?_ _));exact BK61.out);rintro e w9 ⟨rfl,hb⟩;have n0_:=aM (blkB_ BK61.out hb);have n1_:=aM (below_step (by repeat (first | (with_reducible first | exact HB.out | apply below_alloc | apply pw_below_drewN | apply below_drew1 | refine below_set ?_ GE61.out) | exact HB.out)) hb);clear BK61;clear HB;have BK61:=n0_;have HB:=n1_;clear n0_ n1_;(try clear hb)))
       go_roundg k1
       case measure=>have:=HK1.out;omega
       case rel=>exact ⟨(wrap64 (x8_1+1)),(z2_),H',⟨by have:=HK1.out;omega⟩,⟨z3_ BK61.out⟩,⟨by repeat (first | (with_reducible first | exact HB.out | apply below_alloc | apply pw_below_drewN | apply below_drew1 | refine below_set ?_ GE61.out) | exact HB.out)⟩⟩
     ·rw [if_neg c5] at H
      exact nO H
    ·rw [if_neg c4] at H
     exact nO H
   ·rw [if_neg c3] at H
    have c3b0:decide (x8_1<(l0.length:Int))=false:=dF c3
    clear c3
    obtain rfl:=sI H
    go_wp2
    go_ret
    exact ⟨z9_,by repeat (first | (with_reducible first | exact HB.out | apply below_alloc | apply pw_below_drewN | apply below_drew1 | refine below_set ?_ GE61.out) | exact HB.out)⟩

end Go.Proofs.YtelecnmflodkkaaDoor.P
