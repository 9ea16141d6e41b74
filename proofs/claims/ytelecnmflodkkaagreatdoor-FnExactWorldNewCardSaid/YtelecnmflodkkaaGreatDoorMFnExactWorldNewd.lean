/- For all numbers the program's WorldNew and the reference's return the same, of memory of its own. No condition. (Part 4 of 4: written by programs of this workplace and by hand, merged.) -/
import Derived.Test.YtelecnmflodkkaaGreatDoorMFnExactWorldNewa
import Derived.Test.YtelecnmflodkkaaGreatDoorMFnExactWorldNewc
import Derived.Test.YtelecnmflodkkaaGreatDoorMFnExactWorldNewWWords
import Derived.ChangeArms
import Derived.ChangeSlices
import Derived.WideShapes
import Derived.Test.YtelecnmflodkkaaGreatDoorMFnExactWorldNewWMore
import Derived.Laws.BitsLemmas
import Derived.Test.YtelecnmflodkkaaGreatDoorRows
import Derived.Test.YtelecnmflodkkaaGreatDoorTie
import Derived.Test.YtelecnmflodkkaaGreatDoorCards
import Derived.WalkKit
import Derived.ProofKit
import Derived.OpenShut
import Derived.ShutString
import Derived.ChangeOld
import Derived.Below
import Derived.SizedLaws
import Derived.LaidMore
import Derived.Lay
import Derived.LaidOnce
import Derived.SevenTiedAt
import Derived.LaidLaws
import Derived.ChangeSame
import Derived.ChangeVars
import Derived.JoinedOf
set_option linter.unusedVariables false
set_option linter.unusedSimpArgs false
set_option maxHeartbeats 8000000
set_option maxRecDepth 100000

namespace Go.Proofs.YtelecnmflodkkaaGreatDoor.P
open Go.RowKit Go.Proofs.YtelecnmflodkkaaGreatDoorW.PrintWords Go.Proofs.YtelecnmflodkkaaGreatDoorW.PrintLast Go.Proofs.YtelecnmflodkkaaGreatDoorW.PrintMore
attribute [local go_sem] max2_int min2_int max_two min_two max_three min_three max_four min_four   -- for this text's walks alone
set_option linter.unusedVariables false
set_option linter.unusedSimpArgs false

/-! ### Y35: function 96 -/
def Y35.l0:Nat→Int→Int→Option (Int)
 | 0,_,_=>none
 | k+1,x1,x5=>if x5<0 then (none) else (some x1)
def Y35.f (k:Nat) (a0:Int) (a1:Int):Option (Int):=Y35.l0 k a1 0
theorem Y35.mono_l:∀ k,(∀ y0 y1,LeO (Y35.l0 k y0 y1) (Y35.l0 (k+1) y0 y1))
 | 0=>by intros <;> exact LeO.none _
 | k+1=>by
  have ih0:=Y35.mono_l k
  ·intros
   unfold Y35.l0
   exact mO
theorem Y35.mono:∀ a0 a1 k,LeO (Y35.f k a0 a1) (Y35.f (k+1) a0 a1):=by
 intro a0 a1 k
 have ih0:=Y35.mono_l k
 unfold Y35.f
 exact mO
theorem Y35.calls (k:Nat) (a0:Int) (a1:Int) (r:Int) (w:World) (h:Y35.f k a0 a1=some r) :
  Calls Tryz.prog 96 #[.slice none 0 0,.int .i64 a1] w fun e w'=>e = .returned (.int .i64 r)∧Drawn0 w w':=by
 have H:(Y35.l0 k a1 0)=some r:=h
 clear h
 have H':=aM H
 clear H
 go_enter Tryz.func96,Tryz.ntmps96
 go_wp2
 go_loopg [1,5] k (fun kq v1 v5 w'=>∃ (x1_1:Int) (x5_1:Int),v1 = .int .i64 x1_1∧v5 = .int .i64 x5_1∧Aside0 (Y35.l0 kq x1_1 x5_1=some r)∧Aside0 (kq≤k)∧Drawn0 w w')
 case atStart=>exact ⟨(a1),(0),(z1_),(z1_),H',⟨Nat.le_refl _⟩,z5_⟩
 case round =>
  clear H'
  try clear p2
  obtain ⟨x1_1,x5_1,rfl,rfl,HA,HK1,⟨m1,rfl⟩⟩:=hrel
  cases gk with
  | zero=>exact absurd HA.out (by simp [Y35.l0])
  | succ k1 =>
   have H:=HA.out
   clear HA
   simp only [Y35.l0] at H
   by_cases c3:x5_1<0
   ·rw [if_pos c3] at H
    exact nO H
   ·rw [if_neg c3] at H
    have c3b0:decide (x5_1<0)=false:=dF c3
    clear c3
    obtain rfl:=sI H
    go_wp2
    go_ret
    exact ⟨z1_,z5_⟩


/-! ### Y32: function 97 -/
def Y32.l0:Nat→Int→Int→Option (Int)
 | 0,_,_=>none
 | k+1,x1,x5=>if x5<0 then (none) else (some x1)
def Y32.f (k:Nat) (a0:Int) (a1:Int):Option (Int):=Y32.l0 k a1 0
theorem Y32.mono_l:∀ k,(∀ y0 y1,LeO (Y32.l0 k y0 y1) (Y32.l0 (k+1) y0 y1))
 | 0=>by intros <;> exact LeO.none _
 | k+1=>by
  have ih0:=Y32.mono_l k
  ·intros
   unfold Y32.l0
   exact mO
theorem Y32.mono:∀ a0 a1 k,LeO (Y32.f k a0 a1) (Y32.f (k+1) a0 a1):=by
 intro a0 a1 k
 have ih0:=Y32.mono_l k
 unfold Y32.f
 exact mO
theorem Y32.calls (k:Nat) (a0:Int) (a1:Int) (r:Int) (w:World) (h:Y32.f k a0 a1=some r) :
  Calls Tryz.prog 97 #[.slice none 0 0,.int .i64 a1] w fun e w'=>e = .returned (.int .i64 r)∧Drawn0 w w':=by
 have H:(Y32.l0 k a1 0)=some r:=h
 clear h
 have H':=aM H
 clear H
 go_enter Tryz.func97,Tryz.ntmps97
 go_wp2
 go_loopg [1,5] k (fun kq v1 v5 w'=>∃ (x1_1:Int) (x5_1:Int),v1 = .int .i64 x1_1∧v5 = .int .i64 x5_1∧Aside0 (Y32.l0 kq x1_1 x5_1=some r)∧Aside0 (kq≤k)∧Drawn0 w w')
 case atStart=>exact ⟨(a1),(0),(z1_),(z1_),H',⟨Nat.le_refl _⟩,z5_⟩
 case round =>
  clear H'
  try clear p2
  obtain ⟨x1_1,x5_1,rfl,rfl,HA,HK1,⟨m1,rfl⟩⟩:=hrel
  cases gk with
  | zero=>exact absurd HA.out (by simp [Y32.l0])
  | succ k1 =>
   have H:=HA.out
   clear HA
   simp only [Y32.l0] at H
   by_cases c3:x5_1<0
   ·rw [if_pos c3] at H
    exact nO H
   ·rw [if_neg c3] at H
    have c3b0:decide (x5_1<0)=false:=dF c3
    clear c3
    obtain rfl:=sI H
    go_wp2
    go_ret
    exact ⟨z1_,z5_⟩


/-! ### Y27: function 98 -/
def Y27.l0:Nat→Int→Int→Option (Int)
 | 0,_,_=>none
 | k+1,x1,x5=>if x5<0 then (none) else (some x1)
def Y27.f (k:Nat) (a0:Int) (a1:Int):Option (Int):=Y27.l0 k a1 0
theorem Y27.mono_l:∀ k,(∀ y0 y1,LeO (Y27.l0 k y0 y1) (Y27.l0 (k+1) y0 y1))
 | 0=>by intros <;> exact LeO.none _
 | k+1=>by
  have ih0:=Y27.mono_l k
  ·intros
   unfold Y27.l0
   exact mO
theorem Y27.mono:∀ a0 a1 k,LeO (Y27.f k a0 a1) (Y27.f (k+1) a0 a1):=by
 intro a0 a1 k
 have ih0:=Y27.mono_l k
 unfold Y27.f
 exact mO
theorem Y27.calls (k:Nat) (a0:Int) (a1:Int) (r:Int) (w:World) (h:Y27.f k a0 a1=some r) :
  Calls Tryz.prog 98 #[.slice none 0 0,.int .i64 a1] w fun e w'=>e = .returned (.int .i64 r)∧Drawn0 w w':=by
 have H:(Y27.l0 k a1 0)=some r:=h
 clear h
 have H':=aM H
 clear H
 go_enter Tryz.func98,Tryz.ntmps98
 go_wp2
 go_loopg [1,5] k (fun kq v1 v5 w'=>∃ (x1_1:Int) (x5_1:Int),v1 = .int .i64 x1_1∧v5 = .int .i64 x5_1∧Aside0 (Y27.l0 kq x1_1 x5_1=some r)∧Aside0 (kq≤k)∧Drawn0 w w')
 case atStart=>exact ⟨(a1),(0),(z1_),(z1_),H',⟨Nat.le_refl _⟩,z5_⟩
 case round =>
  clear H'
  try clear p2
  obtain ⟨x1_1,x5_1,rfl,rfl,HA,HK1,⟨m1,rfl⟩⟩:=hrel
  cases gk with
  | zero=>exact absurd HA.out (by simp [Y27.l0])
  | succ k1 =>
   have H:=HA.out
   clear HA
   simp only [Y27.l0] at H
   by_cases c3:x5_1<0
   ·rw [if_pos c3] at H
    exact nO H
   ·rw [if_neg c3] at H
    have c3b0:decide (x5_1<0)=false:=dF c3
    clear c3
    obtain rfl:=sI H
    go_wp2
    go_ret
    exact ⟨z1_,z5_⟩


/-! ### Y66: function 62 -/
def Y66.f (k:Nat) (a0_0:Int) (l0_1:List (S78)) (l0_2:List (S115)) (l0_3:List Int) (a0_4:Int) (a0_5:Int) (a0_6:Int) (l0_7:List Int) (a0_8:Int) (a0_9:Int) (a0_10:Int) (a0_11:Int) (a1:Int):Option (Int):=(Y62.f k a0_0 l0_1 l0_2 l0_3 a0_4 a0_5 a0_6 a1).bind fun t935=>(if t935<0 then (none) else ((Y20.f k l0_7 t935).bind fun t936=>(if t936<0 then (none) else ((Y41.f k a0_8 t936).bind fun t937=>(if t937<0 then (none) else ((Y35.f k a0_9 t937).bind fun t938=>(if t938<0 then (none) else ((Y32.f k a0_10 t938).bind fun t939=>(if t939<0 then (none) else ((Y27.f k a0_11 t939).bind fun t940=>(if t940<0 then (none) else (some t940))))))))))))
theorem Y66.mono:∀ a0 a1 a2 a3 a4 a5 a6 a7 a8 a9 a10 a11 a12 k,LeO (Y66.f k a0 a1 a2 a3 a4 a5 a6 a7 a8 a9 a10 a11 a12) (Y66.f (k+1) a0 a1 a2 a3 a4 a5 a6 a7 a8 a9 a10 a11 a12):=by
 intro a0 a1 a2 a3 a4 a5 a6 a7 a8 a9 a10 a11 a12 k
 have m0:=@Y62.mono
 have m1:=@Y27.mono
 have m2:=@Y20.mono
 have m3:=@Y41.mono
 have m4:=@Y35.mono
 have m5:=@Y32.mono
 unfold Y66.f
 exact mO
theorem Y66.calls (k:Nat) (a0_0:Int) (A0_1:Option Addr) (c0_1:Nat) (l0_1:List (S78)) (A0_2:Option Addr) (c0_2:Nat) (l0_2:List (S115)) (A0_3:Option Addr) (c0_3:Nat) (l0_3:List Int) (a0_4:Int) (a0_5:Int) (a0_6:Int) (A0_7:Option Addr) (c0_7:Nat) (l0_7:List Int) (a0_8:Int) (a0_9:Int) (a0_10:Int) (a0_11:Int) (a1:Int) (r:Int) (w:World) (hr0_1:Kd.C k78 w A0_1 l0_1.length l0_1) (hc0_1:l0_1.length≤c0_1) (hr0_2:Kd.C k115 w A0_2 l0_2.length l0_2) (hc0_2:l0_2.length≤c0_2) (hr0_3:Kd.C (Kd.int .i64) w A0_3 l0_3.length l0_3) (hc0_3:l0_3.length≤c0_3) (hr0_7:Kd.C (Kd.int .i64) w A0_7 l0_7.length l0_7) (hc0_7:l0_7.length≤c0_7) (h:Y66.f k a0_0 l0_1 l0_2 l0_3 a0_4 a0_5 a0_6 l0_7 a0_8 a0_9 a0_10 a0_11 a1=some r) :
  Calls Tryz.prog 62 #[.agg #[.int .i64 a0_0,.slice A0_1 l0_1.length c0_1,.slice A0_2 l0_2.length c0_2,.slice A0_3 l0_3.length c0_3,.int .i64 a0_4,.int .i64 a0_5,.int .i64 a0_6,.slice A0_7 l0_7.length c0_7,.slice none 0 0,.slice none 0 0,.slice none 0 0,.slice none 0 0],.int .i64 a1] w fun e w'=>e = .returned (.int .i64 r)∧Below w.heap.size w w':=by
 have hu56:=Tryz.underlying56
 have hu50:=Tryz.underlying50
 have HR0_1:=aM hr0_1
 have HC0_1:=aM hc0_1
 clear hr0_1 hc0_1
 have HR0_2:=aM hr0_2
 have HC0_2:=aM hc0_2
 clear hr0_2 hc0_2
 have HR0_3:=aM hr0_3
 have HC0_3:=aM hc0_3
 clear hr0_3 hc0_3
 have HR0_7:=aM hr0_7
 have HC0_7:=aM hc0_7
 clear hr0_7 hc0_7
 have HB:=aM (Below.refl w.heap.size w)
 have H:((Y62.f k a0_0 l0_1 l0_2 l0_3 a0_4 a0_5 a0_6 a1).bind fun t935=>(if t935<0 then (none) else ((Y20.f k l0_7 t935).bind fun t936=>(if t936<0 then (none) else ((Y41.f k a0_8 t936).bind fun t937=>(if t937<0 then (none) else ((Y35.f k a0_9 t937).bind fun t938=>(if t938<0 then (none) else ((Y32.f k a0_10 t938).bind fun t939=>(if t939<0 then (none) else ((Y27.f k a0_11 t939).bind fun t940=>(if t940<0 then (none) else (some t940)))))))))))))=some r:=h
 clear h
 replace H:=bS H
 obtain ⟨t935,A30,H⟩:=H
 replace H:(if t935<0 then (none) else ((Y20.f k l0_7 t935).bind fun t936=>(if t936<0 then (none) else ((Y41.f k a0_8 t936).bind fun t937=>(if t937<0 then (none) else ((Y35.f k a0_9 t937).bind fun t938=>(if t938<0 then (none) else ((Y32.f k a0_10 t938).bind fun t939=>(if t939<0 then (none) else ((Y27.f k a0_11 t939).bind fun t940=>(if t940<0 then (none) else (some t940))))))))))))=some r:=H
 have A3:=aM A30
 clear A30
 by_cases c4:t935<0
 ·rw [if_pos c4] at H
  exact nO H
 ·rw [if_neg c4] at H
  have c4b0:decide (t935<0)=false:=dF c4
  clear c4
  replace H:=bS H
  obtain ⟨t936,A50,H⟩:=H
  replace H:(if t936<0 then (none) else ((Y41.f k a0_8 t936).bind fun t937=>(if t937<0 then (none) else ((Y35.f k a0_9 t937).bind fun t938=>(if t938<0 then (none) else ((Y32.f k a0_10 t938).bind fun t939=>(if t939<0 then (none) else ((Y27.f k a0_11 t939).bind fun t940=>(if t940<0 then (none) else (some t940))))))))))=some r:=H
  have A5:=aM A50
  clear A50
  by_cases c6:t936<0
  ·rw [if_pos c6] at H
   exact nO H
  ·rw [if_neg c6] at H
   have c6b0:decide (t936<0)=false:=dF c6
   clear c6
   replace H:=bS H
   obtain ⟨t937,A70,H⟩:=H
   replace H:(if t937<0 then (none) else ((Y35.f k a0_9 t937).bind fun t938=>(if t938<0 then (none) else ((Y32.f k a0_10 t938).bind fun t939=>(if t939<0 then (none) else ((Y27.f k a0_11 t939).bind fun t940=>(if t940<0 then (none) else (some t940))))))))=some r:=H
   have A7:=aM A70
   clear A70
   by_cases c8:t937<0
   ·rw [if_pos c8] at H
    exact nO H
   ·rw [if_neg c8] at H
    have c8b0:decide (t937<0)=false:=dF c8
    clear c8
    replace H:=bS H
    obtain ⟨t938,A90,H⟩:=H
    replace H:(if t938<0 then (none) else ((Y32.f k a0_10 t938).bind fun t939=>(if t939<0 then (none) else ((Y27.f k a0_11 t939).bind fun t940=>(if t940<0 then (none) else (some t940))))))=some r:=H
    have A9:=aM A90
    clear A90
    by_cases c10:t938<0
    ·rw [if_pos c10] at H
     exact nO H
    ·rw [if_neg c10] at H
     have c10b0:decide (t938<0)=false:=dF c10
     clear c10
     replace H:=bS H
     obtain ⟨t939,A110,H⟩:=H
     replace H:(if t939<0 then (none) else ((Y27.f k a0_11 t939).bind fun t940=>(if t940<0 then (none) else (some t940))))=some r:=H
     have A11:=aM A110
     clear A110
     by_cases c12:t939<0
     ·rw [if_pos c12] at H
      exact nO H
     ·rw [if_neg c12] at H
      have c12b0:decide (t939<0)=false:=dF c12
      clear c12
      replace H:=bS H
      obtain ⟨t940,A130,H⟩:=H
      replace H:(if t940<0 then (none) else (some t940))=some r:=H
      have A13:=aM A130
      clear A130
      by_cases c14:t940<0
      ·rw [if_pos c14] at H
       exact nO H
      ·rw [if_neg c14] at H
       have c14b0:decide (t940<0)=false:=dF c14
       clear c14
       obtain rfl:=sI H
       go_enter Tryz.func62,Tryz.ntmps62
       go_wp2_with (first | ((with_reducible refine gd_ 2 ?_);refine be_ 2 #[.int .i64 a0_0,.slice A0_1 l0_1.length c0_1,.slice A0_2 l0_2.length c0_2,.slice A0_3 l0_3.length c0_3,.int .i64 a0_4,.int .i64 a0_5,.int .i64 a0_6,.slice A0_7 l0_7.length c0_7,.slice none 0 0,.slice none 0 0,.slice none 0 0,.slice none 0 0] 56 ?_;intro gb934 hg w15 hbox hb;have n0_:=aM (below_step (z3_ HB.out) hb);have n1_:=aM (hbox);have n2_:=aM ((z9_ HB.out:w.heap.size≤gb934));have n3_:=aM ((z9_ HB.out:w.heap.size≤gb934));clear HB;have HB:=n0_;have BK934:=n1_;have GW934:=n2_;have GE934:=n3_;clear n0_ n1_ n2_ n3_;clear hb hbox hg;have ⟨hcz16_0,hcz16_1,hcz16_2,hcz16_3,hcz16_4,hcz16_5,hcz16_6,hcz16_7,hcz16_8,hcz16_9,hcz16_10,hcz16_11,hfz16_0,hfz16_1,hfz16_2,hfz16_3,hfz16_4,hfz16_5,hfz16_6,hfz16_7,hfz16_8,hfz16_9,hfz16_10,hfz16_11⟩:=cz12_ BK934.out) | ((with_reducible refine gc_ 93 ?_);refine gl_ (some 8) Tryz.func93 #[.agg #[.int .i64 a0_0,.slice A0_1 l0_1.length c0_1,.slice A0_2 l0_2.length c0_2,.slice A0_3 l0_3.length c0_3,.int .i64 a0_4,.int .i64 a0_5,.int .i64 a0_6],.int .i64 a1] ?_;(with_reducible refine (Y62.calls k a0_0 _ _ l0_1 _ _ l0_2 _ _ l0_3 a0_4 a0_5 a0_6 a1 t935 _ ?s1 ?s2 ?s3 ?s4 ?s5 ?s6 A3.out).mono ?_);(case s1=>repeat (first | exact (Kd.C_below HR0_1.out HB.out) | (with_reducible refine Kd.C_alloc ?_ _) | (with_reducible refine Kd.C_drewN ?_ _) | (with_reducible refine Kd.C_drew ?_)));(case s2=>exact HC0_1.out);(case s3=>repeat (first | exact (Kd.C_below HR0_2.out HB.out) | (with_reducible refine Kd.C_alloc ?_ _) | (with_reducible refine Kd.C_drewN ?_ _) | (with_reducible refine Kd.C_drew ?_)));(case s4=>exact HC0_2.out);(case s5=>repeat (first | exact (Kd.C_below HR0_3.out HB.out) | (with_reducible refine Kd.C_alloc ?_ _) | (with_reducible refine Kd.C_drewN ?_ _) | (with_reducible refine Kd.C_drew ?_)));(case s6=>exact HC0_3.out);rintro e w17 ⟨rfl,hb⟩;refine ⟨_,rfl,?_⟩;have n0_:=aM (blkB_ BK934.out hb);have n1_:=aM (below_step (z7_ HB.out GE934.out) hb);clear BK934;clear HB;have BK934:=n0_;have HB:=n1_;clear n0_ n1_;(try clear hb);have ⟨hcz18_0,hcz18_1,hcz18_2,hcz18_3,hcz18_4,hcz18_5,hcz18_6,hcz18_7,hcz18_8,hcz18_9,hcz18_10,hcz18_11,hfz18_0,hfz18_1,hfz18_2,hfz18_3,hfz18_4,hfz18_5,hfz18_6,hfz18_7,hfz18_8,hfz18_9,hfz18_10,hfz18_11⟩:=cz12_ BK934.out) | ((with_reducible refine gc_ 94 ?_);refine gl_ (some 14) Tryz.func94 #[.slice A0_7 l0_7.length c0_7,.int .i64 t935] ?_;(with_reducible refine (Y20.calls k _ _ l0_7 t935 t936 _ ?s1 ?s2 A5.out).mono ?_);(case s1=>repeat (first | exact (Kd.C_below HR0_7.out HB.out) | (with_reducible refine Kd.C_alloc ?_ _) | (with_reducible refine Kd.C_drewN ?_ _) | (with_reducible refine Kd.C_drew ?_)));(case s2=>exact HC0_7.out);rintro e w' ⟨rfl,⟨nd,rfl⟩⟩;refine ⟨_,rfl,?_⟩) | ((with_reducible refine gc_ 95 ?_);refine gl_ (some 20) Tryz.func95 #[.slice none 0 0,.int .i64 t936] ?_;(with_reducible refine (Y41.calls k a0_8 t936 t937 _ A7.out).mono ?_);rintro e w' ⟨rfl,⟨nd,rfl⟩⟩;refine ⟨_,rfl,?_⟩) | ((with_reducible refine gc_ 96 ?_);refine gl_ (some 26) Tryz.func96 #[.slice none 0 0,.int .i64 t937] ?_;(with_reducible refine (Y35.calls k a0_9 t937 t938 _ A9.out).mono ?_);rintro e w' ⟨rfl,⟨nd,rfl⟩⟩;refine ⟨_,rfl,?_⟩) | ((with_reducible refine gc_ 97 ?_);refine gl_ (some 32) Tryz.func97 #[.slice none 0 0,.int .i64 t938] ?_;(with_reducible refine (Y32.calls k a0_10 t938 t939 _ A11.out).mono ?_);rintro e w' ⟨rfl,⟨nd,rfl⟩⟩;refine ⟨_,rfl,?_⟩) | ((with_reducible refine gc_ 98 ?_);refine gl_ (some 38) Tryz.func98 #[.slice none 0 0,.int .i64 t939] ?_;(with_reducible refine (Y27.calls k a0_11 t939 t940 _ A13.out).mono ?_);rintro e w' ⟨rfl,⟨nd,rfl⟩⟩;refine ⟨_,rfl,?_⟩))
       go_ret
       exact ⟨z10_,z7_ HB.out GE934.out⟩


/-! ### Y23: function 29 -/
def Y23.f (k:Nat) (a0_0:Int) (l0_1:List (S78)) (l0_2:List (S115)) (l0_3:List Int) (a0_4:Int) (a0_5:Int) (a0_6:Int) (l0_7:List Int) (a0_8:Int) (a0_9:Int) (a0_10:Int) (a0_11:Int) (a0_12:Int) (a0_13:Int) (a1:Int):Option (Int):=(Y66.f k a0_0 l0_1 l0_2 l0_3 a0_4 a0_5 a0_6 l0_7 a0_8 a0_9 a0_10 a0_11 a1).bind fun t942=>(if t942<0 then (none) else (some t942))
theorem Y23.mono:∀ a0 a1 a2 a3 a4 a5 a6 a7 a8 a9 a10 a11 a12 a13 a14 k,LeO (Y23.f k a0 a1 a2 a3 a4 a5 a6 a7 a8 a9 a10 a11 a12 a13 a14) (Y23.f (k+1) a0 a1 a2 a3 a4 a5 a6 a7 a8 a9 a10 a11 a12 a13 a14):=by
 intro a0 a1 a2 a3 a4 a5 a6 a7 a8 a9 a10 a11 a12 a13 a14 k
 have m0:=@Y66.mono
 unfold Y23.f
 exact mO
theorem Y23.calls (k:Nat) (a0_0:Int) (A0_1:Option Addr) (c0_1:Nat) (l0_1:List (S78)) (A0_2:Option Addr) (c0_2:Nat) (l0_2:List (S115)) (A0_3:Option Addr) (c0_3:Nat) (l0_3:List Int) (a0_4:Int) (a0_5:Int) (a0_6:Int) (A0_7:Option Addr) (c0_7:Nat) (l0_7:List Int) (a0_8:Int) (a0_9:Int) (a0_10:Int) (a0_11:Int) (a0_12:Int) (a0_13:Int) (a1:Int) (r:Int) (w:World) (hr0_1:Kd.C k78 w A0_1 l0_1.length l0_1) (hc0_1:l0_1.length≤c0_1) (hr0_2:Kd.C k115 w A0_2 l0_2.length l0_2) (hc0_2:l0_2.length≤c0_2) (hr0_3:Kd.C (Kd.int .i64) w A0_3 l0_3.length l0_3) (hc0_3:l0_3.length≤c0_3) (hr0_7:Kd.C (Kd.int .i64) w A0_7 l0_7.length l0_7) (hc0_7:l0_7.length≤c0_7) (h:Y23.f k a0_0 l0_1 l0_2 l0_3 a0_4 a0_5 a0_6 l0_7 a0_8 a0_9 a0_10 a0_11 a0_12 a0_13 a1=some r) :
  Calls Tryz.prog 29 #[.agg #[.int .i64 a0_0,.slice A0_1 l0_1.length c0_1,.slice A0_2 l0_2.length c0_2,.slice A0_3 l0_3.length c0_3,.int .i64 a0_4,.int .i64 a0_5,.int .i64 a0_6,.slice A0_7 l0_7.length c0_7,.slice none 0 0,.slice none 0 0,.slice none 0 0,.slice none 0 0,.int .i64 a0_12,.int .i64 a0_13],.int .i64 a1] w fun e w'=>e = .returned (.int .i64 r)∧Below w.heap.size w w':=by
 have hu58:=Tryz.underlying58
 have hu56:=Tryz.underlying56
 have HR0_1:=aM hr0_1
 have HC0_1:=aM hc0_1
 clear hr0_1 hc0_1
 have HR0_2:=aM hr0_2
 have HC0_2:=aM hc0_2
 clear hr0_2 hc0_2
 have HR0_3:=aM hr0_3
 have HC0_3:=aM hc0_3
 clear hr0_3 hc0_3
 have HR0_7:=aM hr0_7
 have HC0_7:=aM hc0_7
 clear hr0_7 hc0_7
 have HB:=aM (Below.refl w.heap.size w)
 have H:((Y66.f k a0_0 l0_1 l0_2 l0_3 a0_4 a0_5 a0_6 l0_7 a0_8 a0_9 a0_10 a0_11 a1).bind fun t942=>(if t942<0 then (none) else (some t942)))=some r:=h
 clear h
 replace H:=bS H
 obtain ⟨t942,A30,H⟩:=H
 replace H:(if t942<0 then (none) else (some t942))=some r:=H
 have A3:=aM A30
 clear A30
 by_cases c4:t942<0
 ·rw [if_pos c4] at H
  exact nO H
 ·rw [if_neg c4] at H
  have c4b0:decide (t942<0)=false:=dF c4
  clear c4
  obtain rfl:=sI H
  go_enter Tryz.func29,Tryz.ntmps29
  go_wp2_with (first | ((with_reducible refine gd_ 2 ?_);refine be_ 2 #[.int .i64 a0_0,.slice A0_1 l0_1.length c0_1,.slice A0_2 l0_2.length c0_2,.slice A0_3 l0_3.length c0_3,.int .i64 a0_4,.int .i64 a0_5,.int .i64 a0_6,.slice A0_7 l0_7.length c0_7,.slice none 0 0,.slice none 0 0,.slice none 0 0,.slice none 0 0,.int .i64 a0_12,.int .i64 a0_13] 58 ?_;intro gb941 hg w5 hbox hb;have n0_:=aM (below_step (z3_ HB.out) hb);have n1_:=aM (hbox);have n2_:=aM ((z9_ HB.out:w.heap.size≤gb941));have n3_:=aM ((z9_ HB.out:w.heap.size≤gb941));clear HB;have HB:=n0_;have BK941:=n1_;have GW941:=n2_;have GE941:=n3_;clear n0_ n1_ n2_ n3_;clear hb hbox hg;have hcz6_0:w5.cell? ⟨gb941,0,none⟩=some (.int .i64 a0_0):=(blk_cell BK941.out 0).trans rfl;have hcz6_1:w5.cell? ⟨gb941,1,none⟩=some (.slice A0_1 l0_1.length c0_1):=(blk_cell BK941.out 1).trans rfl;have hcz6_2:w5.cell? ⟨gb941,2,none⟩=some (.slice A0_2 l0_2.length c0_2):=(blk_cell BK941.out 2).trans rfl;have hcz6_3:w5.cell? ⟨gb941,3,none⟩=some (.slice A0_3 l0_3.length c0_3):=(blk_cell BK941.out 3).trans rfl;have hcz6_4:w5.cell? ⟨gb941,4,none⟩=some (.int .i64 a0_4):=(blk_cell BK941.out 4).trans rfl;have hcz6_5:w5.cell? ⟨gb941,5,none⟩=some (.int .i64 a0_5):=(blk_cell BK941.out 5).trans rfl;have hcz6_6:w5.cell? ⟨gb941,6,none⟩=some (.int .i64 a0_6):=(blk_cell BK941.out 6).trans rfl;have hcz6_7:w5.cell? ⟨gb941,7,none⟩=some (.slice A0_7 l0_7.length c0_7):=(blk_cell BK941.out 7).trans rfl;have hcz6_8:w5.cell? ⟨gb941,8,none⟩=some (.slice none 0 0):=(blk_cell BK941.out 8).trans rfl;have hcz6_9:w5.cell? ⟨gb941,9,none⟩=some (.slice none 0 0):=(blk_cell BK941.out 9).trans rfl;have hcz6_10:w5.cell? ⟨gb941,10,none⟩=some (.slice none 0 0):=(blk_cell BK941.out 10).trans rfl;have hcz6_11:w5.cell? ⟨gb941,11,none⟩=some (.slice none 0 0):=(blk_cell BK941.out 11).trans rfl;have hcz6_12:w5.cell? ⟨gb941,12,none⟩=some (.int .i64 a0_12):=(blk_cell BK941.out 12).trans rfl;have hcz6_13:w5.cell? ⟨gb941,13,none⟩=some (.int .i64 a0_13):=(blk_cell BK941.out 13).trans rfl;have hfz6_0:=blk_frozen BK941.out 0;have hfz6_1:=blk_frozen BK941.out 1;have hfz6_2:=blk_frozen BK941.out 2;have hfz6_3:=blk_frozen BK941.out 3;have hfz6_4:=blk_frozen BK941.out 4;have hfz6_5:=blk_frozen BK941.out 5;have hfz6_6:=blk_frozen BK941.out 6;have hfz6_7:=blk_frozen BK941.out 7;have hfz6_8:=blk_frozen BK941.out 8;have hfz6_9:=blk_frozen BK941.out 9;have hfz6_10:=blk_frozen BK941.out 10;have hfz6_11:=blk_frozen BK941.out 11;have hfz6_12:=blk_frozen BK941.out 12;have hfz6_13:=blk_frozen BK941.out 13) | ((with_reducible refine gc_ 62 ?_);refine gl_ (some 8) Tryz.func62 #[.agg #[.int .i64 a0_0,.slice A0_1 l0_1.length c0_1,.slice A0_2 l0_2.length c0_2,.slice A0_3 l0_3.length c0_3,.int .i64 a0_4,.int .i64 a0_5,.int .i64 a0_6,.slice A0_7 l0_7.length c0_7,.slice none 0 0,.slice none 0 0,.slice none 0 0,.slice none 0 0],.int .i64 a1] ?_;(with_reducible refine (Y66.calls k a0_0 _ _ l0_1 _ _ l0_2 _ _ l0_3 a0_4 a0_5 a0_6 _ _ l0_7 a0_8 a0_9 a0_10 a0_11 a1 t942 _ ?s1 ?s2 ?s3 ?s4 ?s5 ?s6 ?s7 ?s8 A3.out).mono ?_);(case s1=>repeat (first | exact (Kd.C_below HR0_1.out HB.out) | (with_reducible refine Kd.C_alloc ?_ _) | (with_reducible refine Kd.C_drewN ?_ _) | (with_reducible refine Kd.C_drew ?_)));(case s2=>exact HC0_1.out);(case s3=>repeat (first | exact (Kd.C_below HR0_2.out HB.out) | (with_reducible refine Kd.C_alloc ?_ _) | (with_reducible refine Kd.C_drewN ?_ _) | (with_reducible refine Kd.C_drew ?_)));(case s4=>exact HC0_2.out);(case s5=>repeat (first | exact (Kd.C_below HR0_3.out HB.out) | (with_reducible refine Kd.C_alloc ?_ _) | (with_reducible refine Kd.C_drewN ?_ _) | (with_reducible refine Kd.C_drew ?_)));(case s6=>exact HC0_3.out);(case s7=>repeat (first | exact (Kd.C_below HR0_7.out HB.out) | (with_reducible refine Kd.C_alloc ?_ _) | (with_reducible refine Kd.C_drewN ?_ _) | (with_reducible refine Kd.C_drew ?_)));(case s8=>exact HC0_7.out);rintro e w7 ⟨rfl,hb⟩;refine ⟨_,rfl,?_⟩;have n0_:=aM (blkB_ BK941.out hb);have n1_:=aM (below_step (z7_ HB.out GE941.out) hb);clear BK941;clear HB;have BK941:=n0_;have HB:=n1_;clear n0_ n1_;(try clear hb)))
  go_ret
  exact ⟨z10_,z7_ HB.out GE941.out⟩


/-! ### Y57: function 4 -/
def Y57.f (k:Nat) (a0:Int) (a1:Int) (a2:Int) (a3:Int):Option (Bool):=(Y70.f k a0 a1 a2 a3).bind fun bt943=>((Y53.f k a0 a1 a2 a3).bind fun bt966=>((Y42.f k bt966.1 bt966.2.1 bt966.2.2.1 bt966.2.2.2.1 bt966.2.2.2.2.1 bt966.2.2.2.2.2.1 bt966.2.2.2.2.2.2.1 bt966.2.2.2.2.2.2.2.1 bt966.2.2.2.2.2.2.2.2.1 bt966.2.2.2.2.2.2.2.2.2.1 bt966.2.2.2.2.2.2.2.2.2.2.1 bt966.2.2.2.2.2.2.2.2.2.2.2.1 bt966.2.2.2.2.2.2.2.2.2.2.2.2.1 bt966.2.2.2.2.2.2.2.2.2.2.2.2.2 bt943.1 bt943.2.1 bt943.2.2.1 bt943.2.2.2.1 bt943.2.2.2.2.1 bt943.2.2.2.2.2.1 bt943.2.2.2.2.2.2.1 bt943.2.2.2.2.2.2.2.1 bt943.2.2.2.2.2.2.2.2.1 bt943.2.2.2.2.2.2.2.2.2.1 bt943.2.2.2.2.2.2.2.2.2.2.1 bt943.2.2.2.2.2.2.2.2.2.2.2.1 bt943.2.2.2.2.2.2.2.2.2.2.2.2.1 bt943.2.2.2.2.2.2.2.2.2.2.2.2.2).bind fun t989=>(if t989=true then ((Y54.f k bt966.1 bt966.2.1 bt966.2.2.1 bt966.2.2.2.1 bt966.2.2.2.2.1 bt966.2.2.2.2.2.1 bt966.2.2.2.2.2.2.1 bt966.2.2.2.2.2.2.2.1 bt966.2.2.2.2.2.2.2.2.1 bt966.2.2.2.2.2.2.2.2.2.1 bt966.2.2.2.2.2.2.2.2.2.2.1 bt966.2.2.2.2.2.2.2.2.2.2.2.1 bt966.2.2.2.2.2.2.2.2.2.2.2.2.1 bt966.2.2.2.2.2.2.2.2.2.2.2.2.2 1).bind fun bt990=>((Y23.f k bt966.1 bt990.2.1 bt990.2.2.1 bt990.2.2.2.1 bt966.2.2.2.2.1 bt966.2.2.2.2.2.1 bt966.2.2.2.2.2.2.1 bt990.2.2.2.2 bt966.2.2.2.2.2.2.2.2.1 bt966.2.2.2.2.2.2.2.2.2.1 bt966.2.2.2.2.2.2.2.2.2.2.1 bt966.2.2.2.2.2.2.2.2.2.2.2.1 bt966.2.2.2.2.2.2.2.2.2.2.2.2.1 bt966.2.2.2.2.2.2.2.2.2.2.2.2.2 1).bind fun t995=>(if t995<0 then (none) else (if t995=bt990.1 then ((Y53.f k a0 a1 a2 a3).bind fun bt996=>((Y42.f k bt996.1 bt996.2.1 bt996.2.2.1 bt996.2.2.2.1 bt996.2.2.2.2.1 bt996.2.2.2.2.2.1 bt996.2.2.2.2.2.2.1 bt996.2.2.2.2.2.2.2.1 bt996.2.2.2.2.2.2.2.2.1 bt996.2.2.2.2.2.2.2.2.2.1 bt996.2.2.2.2.2.2.2.2.2.2.1 bt996.2.2.2.2.2.2.2.2.2.2.2.1 bt996.2.2.2.2.2.2.2.2.2.2.2.2.1 bt996.2.2.2.2.2.2.2.2.2.2.2.2.2 bt943.1 bt943.2.1 bt943.2.2.1 bt943.2.2.2.1 bt943.2.2.2.2.1 bt943.2.2.2.2.2.1 bt943.2.2.2.2.2.2.1 bt943.2.2.2.2.2.2.2.1 bt943.2.2.2.2.2.2.2.2.1 bt943.2.2.2.2.2.2.2.2.2.1 bt943.2.2.2.2.2.2.2.2.2.2.1 bt943.2.2.2.2.2.2.2.2.2.2.2.1 bt943.2.2.2.2.2.2.2.2.2.2.2.2.1 bt943.2.2.2.2.2.2.2.2.2.2.2.2.2).bind fun t1019=>(if t1019=true then ((Y23.f k bt966.1 bt990.2.1 bt990.2.2.1 bt990.2.2.2.1 bt966.2.2.2.2.1 bt966.2.2.2.2.2.1 bt966.2.2.2.2.2.2.1 bt990.2.2.2.2 bt966.2.2.2.2.2.2.2.2.1 bt966.2.2.2.2.2.2.2.2.2.1 bt966.2.2.2.2.2.2.2.2.2.2.1 bt966.2.2.2.2.2.2.2.2.2.2.2.1 bt966.2.2.2.2.2.2.2.2.2.2.2.2.1 bt966.2.2.2.2.2.2.2.2.2.2.2.2.2 1).bind fun t1020=>(if t1020<0 then (none) else (if t1020=bt990.1 then (some true) else (none)))) else (none)))) else (none))))) else (none))))
theorem Y57.mono:∀ a0 a1 a2 a3 k,LeO (Y57.f k a0 a1 a2 a3) (Y57.f (k+1) a0 a1 a2 a3):=by
 intro a0 a1 a2 a3 k
 have m0:=@Y53.mono
 have m1:=@Y42.mono
 have m2:=@Y23.mono
 have m3:=@Y54.mono
 have m4:=@Y70.mono
 unfold Y57.f
 exact mO
theorem Y57.calls (k:Nat) (a0:Int) (a1:Int) (a2:Int) (a3:Int) (r:Bool) (w:World) (h:Y57.f k a0 a1 a2 a3=some r) :
  Calls Tryz.prog 4 #[.int .i64 a0,.int .i64 a1,.int .i64 a2,.int .i64 a3] w fun e w'=>e = .returned (.bool r)∧Below w.heap.size w w':=by
 have hu58:=Tryz.underlying58
 have HB:=aM (Below.refl w.heap.size w)
 have H:((Y70.f k a0 a1 a2 a3).bind fun bt943=>((Y53.f k a0 a1 a2 a3).bind fun bt966=>((Y42.f k bt966.1 bt966.2.1 bt966.2.2.1 bt966.2.2.2.1 bt966.2.2.2.2.1 bt966.2.2.2.2.2.1 bt966.2.2.2.2.2.2.1 bt966.2.2.2.2.2.2.2.1 bt966.2.2.2.2.2.2.2.2.1 bt966.2.2.2.2.2.2.2.2.2.1 bt966.2.2.2.2.2.2.2.2.2.2.1 bt966.2.2.2.2.2.2.2.2.2.2.2.1 bt966.2.2.2.2.2.2.2.2.2.2.2.2.1 bt966.2.2.2.2.2.2.2.2.2.2.2.2.2 bt943.1 bt943.2.1 bt943.2.2.1 bt943.2.2.2.1 bt943.2.2.2.2.1 bt943.2.2.2.2.2.1 bt943.2.2.2.2.2.2.1 bt943.2.2.2.2.2.2.2.1 bt943.2.2.2.2.2.2.2.2.1 bt943.2.2.2.2.2.2.2.2.2.1 bt943.2.2.2.2.2.2.2.2.2.2.1 bt943.2.2.2.2.2.2.2.2.2.2.2.1 bt943.2.2.2.2.2.2.2.2.2.2.2.2.1 bt943.2.2.2.2.2.2.2.2.2.2.2.2.2).bind fun t989=>(if t989=true then ((Y54.f k bt966.1 bt966.2.1 bt966.2.2.1 bt966.2.2.2.1 bt966.2.2.2.2.1 bt966.2.2.2.2.2.1 bt966.2.2.2.2.2.2.1 bt966.2.2.2.2.2.2.2.1 bt966.2.2.2.2.2.2.2.2.1 bt966.2.2.2.2.2.2.2.2.2.1 bt966.2.2.2.2.2.2.2.2.2.2.1 bt966.2.2.2.2.2.2.2.2.2.2.2.1 bt966.2.2.2.2.2.2.2.2.2.2.2.2.1 bt966.2.2.2.2.2.2.2.2.2.2.2.2.2 1).bind fun bt990=>((Y23.f k bt966.1 bt990.2.1 bt990.2.2.1 bt990.2.2.2.1 bt966.2.2.2.2.1 bt966.2.2.2.2.2.1 bt966.2.2.2.2.2.2.1 bt990.2.2.2.2 bt966.2.2.2.2.2.2.2.2.1 bt966.2.2.2.2.2.2.2.2.2.1 bt966.2.2.2.2.2.2.2.2.2.2.1 bt966.2.2.2.2.2.2.2.2.2.2.2.1 bt966.2.2.2.2.2.2.2.2.2.2.2.2.1 bt966.2.2.2.2.2.2.2.2.2.2.2.2.2 1).bind fun t995=>(if t995<0 then (none) else (if t995=bt990.1 then ((Y53.f k a0 a1 a2 a3).bind fun bt996=>((Y42.f k bt996.1 bt996.2.1 bt996.2.2.1 bt996.2.2.2.1 bt996.2.2.2.2.1 bt996.2.2.2.2.2.1 bt996.2.2.2.2.2.2.1 bt996.2.2.2.2.2.2.2.1 bt996.2.2.2.2.2.2.2.2.1 bt996.2.2.2.2.2.2.2.2.2.1 bt996.2.2.2.2.2.2.2.2.2.2.1 bt996.2.2.2.2.2.2.2.2.2.2.2.1 bt996.2.2.2.2.2.2.2.2.2.2.2.2.1 bt996.2.2.2.2.2.2.2.2.2.2.2.2.2 bt943.1 bt943.2.1 bt943.2.2.1 bt943.2.2.2.1 bt943.2.2.2.2.1 bt943.2.2.2.2.2.1 bt943.2.2.2.2.2.2.1 bt943.2.2.2.2.2.2.2.1 bt943.2.2.2.2.2.2.2.2.1 bt943.2.2.2.2.2.2.2.2.2.1 bt943.2.2.2.2.2.2.2.2.2.2.1 bt943.2.2.2.2.2.2.2.2.2.2.2.1 bt943.2.2.2.2.2.2.2.2.2.2.2.2.1 bt943.2.2.2.2.2.2.2.2.2.2.2.2.2).bind fun t1019=>(if t1019=true then ((Y23.f k bt966.1 bt990.2.1 bt990.2.2.1 bt990.2.2.2.1 bt966.2.2.2.2.1 bt966.2.2.2.2.2.1 bt966.2.2.2.2.2.2.1 bt990.2.2.2.2 bt966.2.2.2.2.2.2.2.2.1 bt966.2.2.2.2.2.2.2.2.2.1 bt966.2.2.2.2.2.2.2.2.2.2.1 bt966.2.2.2.2.2.2.2.2.2.2.2.1 bt966.2.2.2.2.2.2.2.2.2.2.2.2.1 bt966.2.2.2.2.2.2.2.2.2.2.2.2.2 1).bind fun t1020=>(if t1020<0 then (none) else (if t1020=bt990.1 then (some true) else (none)))) else (none)))) else (none))))) else (none)))))=some r:=h
 clear h
 replace H:=bS H
 obtain ⟨⟨t943,t944,t947,t950,t953,t954,t955,t956,t959,t960,t961,t962,t963,t964⟩,A50,H⟩:=H
 replace H:((Y53.f k a0 a1 a2 a3).bind fun bt966=>((Y42.f k bt966.1 bt966.2.1 bt966.2.2.1 bt966.2.2.2.1 bt966.2.2.2.2.1 bt966.2.2.2.2.2.1 bt966.2.2.2.2.2.2.1 bt966.2.2.2.2.2.2.2.1 bt966.2.2.2.2.2.2.2.2.1 bt966.2.2.2.2.2.2.2.2.2.1 bt966.2.2.2.2.2.2.2.2.2.2.1 bt966.2.2.2.2.2.2.2.2.2.2.2.1 bt966.2.2.2.2.2.2.2.2.2.2.2.2.1 bt966.2.2.2.2.2.2.2.2.2.2.2.2.2 t943 t944 t947 t950 t953 t954 t955 t956 t959 t960 t961 t962 t963 t964).bind fun t989=>(if t989=true then ((Y54.f k bt966.1 bt966.2.1 bt966.2.2.1 bt966.2.2.2.1 bt966.2.2.2.2.1 bt966.2.2.2.2.2.1 bt966.2.2.2.2.2.2.1 bt966.2.2.2.2.2.2.2.1 bt966.2.2.2.2.2.2.2.2.1 bt966.2.2.2.2.2.2.2.2.2.1 bt966.2.2.2.2.2.2.2.2.2.2.1 bt966.2.2.2.2.2.2.2.2.2.2.2.1 bt966.2.2.2.2.2.2.2.2.2.2.2.2.1 bt966.2.2.2.2.2.2.2.2.2.2.2.2.2 1).bind fun bt990=>((Y23.f k bt966.1 bt990.2.1 bt990.2.2.1 bt990.2.2.2.1 bt966.2.2.2.2.1 bt966.2.2.2.2.2.1 bt966.2.2.2.2.2.2.1 bt990.2.2.2.2 bt966.2.2.2.2.2.2.2.2.1 bt966.2.2.2.2.2.2.2.2.2.1 bt966.2.2.2.2.2.2.2.2.2.2.1 bt966.2.2.2.2.2.2.2.2.2.2.2.1 bt966.2.2.2.2.2.2.2.2.2.2.2.2.1 bt966.2.2.2.2.2.2.2.2.2.2.2.2.2 1).bind fun t995=>(if t995<0 then (none) else (if t995=bt990.1 then ((Y53.f k a0 a1 a2 a3).bind fun bt996=>((Y42.f k bt996.1 bt996.2.1 bt996.2.2.1 bt996.2.2.2.1 bt996.2.2.2.2.1 bt996.2.2.2.2.2.1 bt996.2.2.2.2.2.2.1 bt996.2.2.2.2.2.2.2.1 bt996.2.2.2.2.2.2.2.2.1 bt996.2.2.2.2.2.2.2.2.2.1 bt996.2.2.2.2.2.2.2.2.2.2.1 bt996.2.2.2.2.2.2.2.2.2.2.2.1 bt996.2.2.2.2.2.2.2.2.2.2.2.2.1 bt996.2.2.2.2.2.2.2.2.2.2.2.2.2 t943 t944 t947 t950 t953 t954 t955 t956 t959 t960 t961 t962 t963 t964).bind fun t1019=>(if t1019=true then ((Y23.f k bt966.1 bt990.2.1 bt990.2.2.1 bt990.2.2.2.1 bt966.2.2.2.2.1 bt966.2.2.2.2.2.1 bt966.2.2.2.2.2.2.1 bt990.2.2.2.2 bt966.2.2.2.2.2.2.2.2.1 bt966.2.2.2.2.2.2.2.2.2.1 bt966.2.2.2.2.2.2.2.2.2.2.1 bt966.2.2.2.2.2.2.2.2.2.2.2.1 bt966.2.2.2.2.2.2.2.2.2.2.2.2.1 bt966.2.2.2.2.2.2.2.2.2.2.2.2.2 1).bind fun t1020=>(if t1020<0 then (none) else (if t1020=bt990.1 then (some true) else (none)))) else (none)))) else (none))))) else (none))))=some r:=H
 have A5:=aM A50
 clear A50
 replace H:=bS H
 obtain ⟨⟨t966,t967,t970,t973,t976,t977,t978,t979,t982,t983,t984,t985,t986,t987⟩,A60,H⟩:=H
 replace H:((Y42.f k t966 t967 t970 t973 t976 t977 t978 t979 t982 t983 t984 t985 t986 t987 t943 t944 t947 t950 t953 t954 t955 t956 t959 t960 t961 t962 t963 t964).bind fun t989=>(if t989=true then ((Y54.f k t966 t967 t970 t973 t976 t977 t978 t979 t982 t983 t984 t985 t986 t987 1).bind fun bt990=>((Y23.f k t966 bt990.2.1 bt990.2.2.1 bt990.2.2.2.1 t976 t977 t978 bt990.2.2.2.2 t982 t983 t984 t985 t986 t987 1).bind fun t995=>(if t995<0 then (none) else (if t995=bt990.1 then ((Y53.f k a0 a1 a2 a3).bind fun bt996=>((Y42.f k bt996.1 bt996.2.1 bt996.2.2.1 bt996.2.2.2.1 bt996.2.2.2.2.1 bt996.2.2.2.2.2.1 bt996.2.2.2.2.2.2.1 bt996.2.2.2.2.2.2.2.1 bt996.2.2.2.2.2.2.2.2.1 bt996.2.2.2.2.2.2.2.2.2.1 bt996.2.2.2.2.2.2.2.2.2.2.1 bt996.2.2.2.2.2.2.2.2.2.2.2.1 bt996.2.2.2.2.2.2.2.2.2.2.2.2.1 bt996.2.2.2.2.2.2.2.2.2.2.2.2.2 t943 t944 t947 t950 t953 t954 t955 t956 t959 t960 t961 t962 t963 t964).bind fun t1019=>(if t1019=true then ((Y23.f k t966 bt990.2.1 bt990.2.2.1 bt990.2.2.2.1 t976 t977 t978 bt990.2.2.2.2 t982 t983 t984 t985 t986 t987 1).bind fun t1020=>(if t1020<0 then (none) else (if t1020=bt990.1 then (some true) else (none)))) else (none)))) else (none))))) else (none)))=some r:=H
 have A6:=aM A60
 clear A60
 replace H:=bS H
 obtain ⟨t989,A70,H⟩:=H
 replace H:(if t989=true then ((Y54.f k t966 t967 t970 t973 t976 t977 t978 t979 t982 t983 t984 t985 t986 t987 1).bind fun bt990=>((Y23.f k t966 bt990.2.1 bt990.2.2.1 bt990.2.2.2.1 t976 t977 t978 bt990.2.2.2.2 t982 t983 t984 t985 t986 t987 1).bind fun t995=>(if t995<0 then (none) else (if t995=bt990.1 then ((Y53.f k a0 a1 a2 a3).bind fun bt996=>((Y42.f k bt996.1 bt996.2.1 bt996.2.2.1 bt996.2.2.2.1 bt996.2.2.2.2.1 bt996.2.2.2.2.2.1 bt996.2.2.2.2.2.2.1 bt996.2.2.2.2.2.2.2.1 bt996.2.2.2.2.2.2.2.2.1 bt996.2.2.2.2.2.2.2.2.2.1 bt996.2.2.2.2.2.2.2.2.2.2.1 bt996.2.2.2.2.2.2.2.2.2.2.2.1 bt996.2.2.2.2.2.2.2.2.2.2.2.2.1 bt996.2.2.2.2.2.2.2.2.2.2.2.2.2 t943 t944 t947 t950 t953 t954 t955 t956 t959 t960 t961 t962 t963 t964).bind fun t1019=>(if t1019=true then ((Y23.f k t966 bt990.2.1 bt990.2.2.1 bt990.2.2.2.1 t976 t977 t978 bt990.2.2.2.2 t982 t983 t984 t985 t986 t987 1).bind fun t1020=>(if t1020<0 then (none) else (if t1020=bt990.1 then (some true) else (none)))) else (none)))) else (none))))) else (none))=some r:=H
 have A7:=aM A70
 clear A70
 by_cases c8:t989=true
 ·subst c8
  have H1:((Y54.f k t966 t967 t970 t973 t976 t977 t978 t979 t982 t983 t984 t985 t986 t987 1).bind fun bt990=>((Y23.f k t966 bt990.2.1 bt990.2.2.1 bt990.2.2.2.1 t976 t977 t978 bt990.2.2.2.2 t982 t983 t984 t985 t986 t987 1).bind fun t995=>(if t995<0 then (none) else (if t995=bt990.1 then ((Y53.f k a0 a1 a2 a3).bind fun bt996=>((Y42.f k bt996.1 bt996.2.1 bt996.2.2.1 bt996.2.2.2.1 bt996.2.2.2.2.1 bt996.2.2.2.2.2.1 bt996.2.2.2.2.2.2.1 bt996.2.2.2.2.2.2.2.1 bt996.2.2.2.2.2.2.2.2.1 bt996.2.2.2.2.2.2.2.2.2.1 bt996.2.2.2.2.2.2.2.2.2.2.1 bt996.2.2.2.2.2.2.2.2.2.2.2.1 bt996.2.2.2.2.2.2.2.2.2.2.2.2.1 bt996.2.2.2.2.2.2.2.2.2.2.2.2.2 t943 t944 t947 t950 t953 t954 t955 t956 t959 t960 t961 t962 t963 t964).bind fun t1019=>(if t1019=true then ((Y23.f k t966 bt990.2.1 bt990.2.2.1 bt990.2.2.2.1 t976 t977 t978 bt990.2.2.2.2 t982 t983 t984 t985 t986 t987 1).bind fun t1020=>(if t1020<0 then (none) else (if t1020=bt990.1 then (some true) else (none)))) else (none)))) else (none)))))=some r:=by rw [if_pos rfl] at H;exact H
  clear H
  have H:=H1
  clear H1
  replace H:=bS H
  obtain ⟨⟨t990,t991,t992,t993,t994⟩,A90,H⟩:=H
  replace H:((Y23.f k t966 t991 t992 t993 t976 t977 t978 t994 t982 t983 t984 t985 t986 t987 1).bind fun t995=>(if t995<0 then (none) else (if t995=t990 then ((Y53.f k a0 a1 a2 a3).bind fun bt996=>((Y42.f k bt996.1 bt996.2.1 bt996.2.2.1 bt996.2.2.2.1 bt996.2.2.2.2.1 bt996.2.2.2.2.2.1 bt996.2.2.2.2.2.2.1 bt996.2.2.2.2.2.2.2.1 bt996.2.2.2.2.2.2.2.2.1 bt996.2.2.2.2.2.2.2.2.2.1 bt996.2.2.2.2.2.2.2.2.2.2.1 bt996.2.2.2.2.2.2.2.2.2.2.2.1 bt996.2.2.2.2.2.2.2.2.2.2.2.2.1 bt996.2.2.2.2.2.2.2.2.2.2.2.2.2 t943 t944 t947 t950 t953 t954 t955 t956 t959 t960 t961 t962 t963 t964).bind fun t1019=>(if t1019=true then ((Y23.f k t966 t991 t992 t993 t976 t977 t978 t994 t982 t983 t984 t985 t986 t987 1).bind fun t1020=>(if t1020<0 then (none) else (if t1020=t990 then (some true) else (none)))) else (none)))) else (none))))=some r:=H
  have A9:=aM A90
  clear A90
  replace H:=bS H
  obtain ⟨t995,A100,H⟩:=H
  replace H:(if t995<0 then (none) else (if t995=t990 then ((Y53.f k a0 a1 a2 a3).bind fun bt996=>((Y42.f k bt996.1 bt996.2.1 bt996.2.2.1 bt996.2.2.2.1 bt996.2.2.2.2.1 bt996.2.2.2.2.2.1 bt996.2.2.2.2.2.2.1 bt996.2.2.2.2.2.2.2.1 bt996.2.2.2.2.2.2.2.2.1 bt996.2.2.2.2.2.2.2.2.2.1 bt996.2.2.2.2.2.2.2.2.2.2.1 bt996.2.2.2.2.2.2.2.2.2.2.2.1 bt996.2.2.2.2.2.2.2.2.2.2.2.2.1 bt996.2.2.2.2.2.2.2.2.2.2.2.2.2 t943 t944 t947 t950 t953 t954 t955 t956 t959 t960 t961 t962 t963 t964).bind fun t1019=>(if t1019=true then ((Y23.f k t966 t991 t992 t993 t976 t977 t978 t994 t982 t983 t984 t985 t986 t987 1).bind fun t1020=>(if t1020<0 then (none) else (if t1020=t990 then (some true) else (none)))) else (none)))) else (none)))=some r:=H
  have A10:=aM A100
  clear A100
  by_cases c11:t995<0
  ·rw [if_pos c11] at H
   exact nO H
  ·rw [if_neg c11] at H
   have c11b0:decide (t995<0)=false:=dF c11
   clear c11
   by_cases c12:t995=t990
   ·rw [if_pos c12] at H
    have c12b0:(t995 == t990)=true:=beq_iff_eq.mpr c12
    have c12b1:(t995 != t990)=false:=bne_eq_false_iff_eq.mpr c12
    clear c12
    replace H:=bS H
    obtain ⟨⟨t996,t997,t1000,t1003,t1006,t1007,t1008,t1009,t1012,t1013,t1014,t1015,t1016,t1017⟩,A130,H⟩:=H
    replace H:((Y42.f k t996 t997 t1000 t1003 t1006 t1007 t1008 t1009 t1012 t1013 t1014 t1015 t1016 t1017 t943 t944 t947 t950 t953 t954 t955 t956 t959 t960 t961 t962 t963 t964).bind fun t1019=>(if t1019=true then ((Y23.f k t966 t991 t992 t993 t976 t977 t978 t994 t982 t983 t984 t985 t986 t987 1).bind fun t1020=>(if t1020<0 then (none) else (if t1020=t990 then (some true) else (none)))) else (none)))=some r:=H
    have A13:=aM A130
    clear A130
    replace H:=bS H
    obtain ⟨t1019,A140,H⟩:=H
    replace H:(if t1019=true then ((Y23.f k t966 t991 t992 t993 t976 t977 t978 t994 t982 t983 t984 t985 t986 t987 1).bind fun t1020=>(if t1020<0 then (none) else (if t1020=t990 then (some true) else (none)))) else (none))=some r:=H
    have A14:=aM A140
    clear A140
    by_cases c15:t1019=true
    ·subst c15
     have H1:((Y23.f k t966 t991 t992 t993 t976 t977 t978 t994 t982 t983 t984 t985 t986 t987 1).bind fun t1020=>(if t1020<0 then (none) else (if t1020=t990 then (some true) else (none))))=some r:=by rw [if_pos rfl] at H;exact H
     clear H
     have H:=H1
     clear H1
     replace H:=bS H
     obtain ⟨t1020,A160,H⟩:=H
     replace H:(if t1020<0 then (none) else (if t1020=t990 then (some true) else (none)))=some r:=H
     have A16:=aM A160
     clear A160
     by_cases c17:t1020<0
     ·rw [if_pos c17] at H
      exact nO H
     ·rw [if_neg c17] at H
      have c17b0:decide (t1020<0)=false:=dF c17
      clear c17
      by_cases c18:t1020=t990
      ·rw [if_pos c18] at H
       have c18b0:(t1020 == t990)=true:=beq_iff_eq.mpr c18
       have c18b1:(t1020 != t990)=false:=bne_eq_false_iff_eq.mpr c18
       clear c18
       obtain rfl:=sI H
       go_enter Tryz.func4,Tryz.ntmps4
       go_wp2_with (first | ((with_reducible refine gc_ 25 ?_);refine gl_ (some 18) Tryz.func25 #[.int .i64 a0,.int .i64 a1,.int .i64 a2,.int .i64 a3] ?_;(with_reducible refine (Y70.calls k a0 a1 a2 a3 t943 t944 t947 t950 t953 t954 t955 t956 t959 t960 t961 t962 t963 t964 _ A5.out).mono ?_);rintro e w19 ⟨v945,v948,v951,v957,rfl,ho0,ho1,ho2,ho3,hb⟩;refine ⟨_,rfl,?_⟩;have n0_:=aM (Kd.R_lower ho0 (below_size (z3_ HB.out)));have n1_:=aM (Kd.R_lower ho1 (below_size (z3_ HB.out)));have n2_:=aM (Kd.R_lower ho2 (below_size (z3_ HB.out)));have n3_:=aM (Kd.R_lower ho3 (below_size (z3_ HB.out)));have n4_:=aM (below_step (z3_ HB.out) hb);clear HB;have HO946:=n0_;have HO949:=n1_;have HO952:=n2_;have HO958:=n3_;have HB:=n4_;clear n0_ n1_ n2_ n3_ n4_;(try clear hb);(try clear ho0);(try clear ho1);(try clear ho2);(try clear ho3)) | ((with_reducible refine gd_ 9 ?_);refine be_ 9 #[.int .i64 0,.slice none 0 0,.slice none 0 0,.slice none 0 0,.int .i64 0,.int .i64 0,.int .i64 0,.slice none 0 0,.slice none 0 0,.slice none 0 0,.slice none 0 0,.slice none 0 0,.int .i64 0,.int .i64 0] 58 ?_;intro gb965 hg w20 hbox hb;have n0_:=aM (Kd.R_below (z0_ HO946.out) hb);have n1_:=aM (Kd.R_below (z0_ HO949.out) hb);have n2_:=aM (Kd.R_below (z0_ HO952.out) hb);have n3_:=aM (Kd.R_below (z0_ HO958.out) hb);have n4_:=aM (below_step (z3_ HB.out) hb);have n5_:=aM (hbox);have n6_:=aM ((z9_ HB.out:w.heap.size≤gb965));have n7_:=aM ((z9_ HB.out:w.heap.size≤gb965));clear HO946;clear HO949;clear HO952;clear HO958;clear HB;have HO946:=n0_;have HO949:=n1_;have HO952:=n2_;have HO958:=n3_;have HB:=n4_;have BK965:=n5_;have GW965:=n6_;have GE965:=n7_;clear n0_ n1_ n2_ n3_ n4_ n5_ n6_ n7_;clear hb hbox hg;have hcz21_0:w20.cell? ⟨gb965,0,none⟩=some (.int .i64 0):=(blk_cell BK965.out 0).trans rfl;have hcz21_1:w20.cell? ⟨gb965,1,none⟩=some (.slice none 0 0):=(blk_cell BK965.out 1).trans rfl;have hcz21_2:w20.cell? ⟨gb965,2,none⟩=some (.slice none 0 0):=(blk_cell BK965.out 2).trans rfl;have hcz21_3:w20.cell? ⟨gb965,3,none⟩=some (.slice none 0 0):=(blk_cell BK965.out 3).trans rfl;have hcz21_4:w20.cell? ⟨gb965,4,none⟩=some (.int .i64 0):=(blk_cell BK965.out 4).trans rfl;have hcz21_5:w20.cell? ⟨gb965,5,none⟩=some (.int .i64 0):=(blk_cell BK965.out 5).trans rfl;have hcz21_6:w20.cell? ⟨gb965,6,none⟩=some (.int .i64 0):=(blk_cell BK965.out 6).trans rfl;have hcz21_7:w20.cell? ⟨gb965,7,none⟩=some (.slice none 0 0):=(blk_cell BK965.out 7).trans rfl;have hcz21_8:w20.cell? ⟨gb965,8,none⟩=some (.slice none 0 0):=(blk_cell BK965.out 8).trans rfl;have hcz21_9:w20.cell? ⟨gb965,9,none⟩=some (.slice none 0 0):=(blk_cell BK965.out 9).trans rfl;have hcz21_10:w20.cell? ⟨gb965,10,none⟩=some (.slice none 0 0):=(blk_cell BK965.out 10).trans rfl;have hcz21_11:w20.cell? ⟨gb965,11,none⟩=some (.slice none 0 0):=(blk_cell BK965.out 11).trans rfl;have hcz21_12:w20.cell? ⟨gb965,12,none⟩=some (.int .i64 0):=(blk_cell BK965.out 12).trans rfl;have hcz21_13:w20.cell? ⟨gb965,13,none⟩=some (.int .i64 0):=(blk_cell BK965.out 13).trans rfl;have hfz21_0:=blk_frozen BK965.out 0;have hfz21_1:=blk_frozen BK965.out 1;have hfz21_2:=blk_frozen BK965.out 2;have hfz21_3:=blk_frozen BK965.out 3;have hfz21_4:=blk_frozen BK965.out 4;have hfz21_5:=blk_frozen BK965.out 5;have hfz21_6:=blk_frozen BK965.out 6;have hfz21_7:=blk_frozen BK965.out 7;have hfz21_8:=blk_frozen BK965.out 8;have hfz21_9:=blk_frozen BK965.out 9;have hfz21_10:=blk_frozen BK965.out 10;have hfz21_11:=blk_frozen BK965.out 11;have hfz21_12:=blk_frozen BK965.out 12;have hfz21_13:=blk_frozen BK965.out 13;obtain ⟨Ao22,co22,eo22⟩:=Kd.R_slice HO946.out;subst eo22;obtain ⟨Ao23,co23,eo23⟩:=Kd.R_slice HO949.out;subst eo23;obtain ⟨Ao24,co24,eo24⟩:=Kd.R_slice HO952.out;subst eo24;obtain ⟨Ao25,co25,eo25⟩:=Kd.R_slice HO958.out;subst eo25) | ((with_reducible refine gc_ 26 ?_);refine gl_ (some 23) Tryz.func26 #[.int .i64 a0,.int .i64 a1,.int .i64 a2,.int .i64 a3] ?_;(with_reducible refine (Y53.calls k a0 a1 a2 a3 t966 t967 t970 t973 t976 t977 t978 t979 t982 t983 t984 t985 t986 t987 _ A6.out).mono ?_);rintro e w26 ⟨v968,v971,v974,v980,rfl,ho0,ho1,ho2,ho3,hb⟩;refine ⟨_,rfl,?_⟩;have n0_:=aM (Kd.R_elder' (z20_ HO946.out BK965.out) (Kd.R_base ho0) hb);have n1_:=aM (Kd.R_elder' (z20_ HO949.out BK965.out) (Kd.R_base ho1) hb);have n2_:=aM (Kd.R_mono (Kd.R_told (Kd.R_told (Kd.R_old (z20_ HO952.out BK965.out) hb) (Kd.R_base ho2)) (Kd.R_base ho3)) (fun _ h_=>h_.1));have n3_:=aM (Kd.R_mono (Kd.R_told (Kd.R_told (Kd.R_old (z20_ HO958.out BK965.out) hb) (Kd.R_base ho2)) (Kd.R_base ho3)) (fun _ h_=>h_.1));have n4_:=aM (Kd.R_lower (Kd.R_new' ho0 (Kd.R_lt (z20_ HO946.out BK965.out))) (below_size (z7_ HB.out GE965.out)));have n5_:=aM (Kd.R_lower (Kd.R_new' ho1 (Kd.R_lt (z20_ HO949.out BK965.out))) (below_size (z7_ HB.out GE965.out)));have n6_:=aM (Kd.R_lower (Kd.R_new' (Kd.R_new' ho2 (Kd.R_lt (z20_ HO952.out BK965.out))) (Kd.R_lt (z20_ HO958.out BK965.out))) (below_size (z7_ HB.out GE965.out)));have n7_:=aM (Kd.R_lower (Kd.R_new' (Kd.R_new' ho3 (Kd.R_lt (z20_ HO952.out BK965.out))) (Kd.R_lt (z20_ HO958.out BK965.out))) (below_size (z7_ HB.out GE965.out)));have n8_:=aM (blk_below (g:=gb965) (o:=.cells #[.int .i64 t943,.slice Ao22 t944.length co22,.slice Ao23 t947.length co23,.slice Ao24 t950.length co24,.int .i64 t953,.int .i64 t954,.int .i64 t955,.slice Ao25 t956.length co25,.slice none 0 0,.slice none 0 0,.slice none 0 0,.slice none 0 0,.int .i64 t963,.int .i64 t964] 58 (0,0)) (by (with_reducible repeat (first | refine blk_drewN ?_ _ | refine blk_drew ?_ | refine blk_alloc ?_ _));refine blk_put (cs:=#[.int .i64 t943,.slice Ao22 t944.length co22,.slice Ao23 t947.length co23,.slice Ao24 t950.length co24,.int .i64 t953,.int .i64 t954,.int .i64 t955,.slice Ao25 t956.length co25,.slice none 0 0,.slice none 0 0,.slice none 0 0,.slice none 0 0,.int .i64 t963,.int .i64 0]) ?_ 13 _ rfl;(with_reducible repeat (first | refine blk_drewN ?_ _ | refine blk_drew ?_ | refine blk_alloc ?_ _));refine blk_put (cs:=#[.int .i64 t943,.slice Ao22 t944.length co22,.slice Ao23 t947.length co23,.slice Ao24 t950.length co24,.int .i64 t953,.int .i64 t954,.int .i64 t955,.slice Ao25 t956.length co25,.slice none 0 0,.slice none 0 0,.slice none 0 0,.slice none 0 0,.int .i64 0,.int .i64 0]) ?_ 12 _ rfl;(with_reducible repeat (first | refine blk_drewN ?_ _ | refine blk_drew ?_ | refine blk_alloc ?_ _));refine blk_put (cs:=#[.int .i64 t943,.slice Ao22 t944.length co22,.slice Ao23 t947.length co23,.slice Ao24 t950.length co24,.int .i64 t953,.int .i64 t954,.int .i64 t955,.slice Ao25 t956.length co25,.slice none 0 0,.slice none 0 0,.slice none 0 0,.slice none 0 0,.int .i64 0,.int .i64 0]) ?_ 11 _ rfl;(with_reducible repeat (first | refine blk_drewN ?_ _ | refine blk_drew ?_ | refine blk_alloc ?_ _));refine blk_put (cs:=#[.int .i64 t943,.slice Ao22 t944.length co22,.slice Ao23 t947.length co23,.slice Ao24 t950.length co24,.int .i64 t953,.int .i64 t954,.int .i64 t955,.slice Ao25 t956.length co25,.slice none 0 0,.slice none 0 0,.slice none 0 0,.slice none 0 0,.int .i64 0,.int .i64 0]) ?_ 10 _ rfl;(with_reducible repeat (first | refine blk_drewN ?_ _ | refine blk_drew ?_ | refine blk_alloc ?_ _));refine blk_put (cs:=#[.int .i64 t943,.slice Ao22 t944.length co22,.slice Ao23 t947.length co23,.slice Ao24 t950.length co24,.int .i64 t953,.int .i64 t954,.int .i64 t955,.slice Ao25 t956.length co25,.slice none 0 0,.slice none 0 0,.slice none 0 0,.slice none 0 0,.int .i64 0,.int .i64 0]) ?_ 9 _ rfl;(with_reducible repeat (first | refine blk_drewN ?_ _ | refine blk_drew ?_ | refine blk_alloc ?_ _));refine blk_put (cs:=#[.int .i64 t943,.slice Ao22 t944.length co22,.slice Ao23 t947.length co23,.slice Ao24 t950.length co24,.int .i64 t953,.int .i64 t954,.int .i64 t955,.slice Ao25 t956.length co25,.slice none 0 0,.slice none 0 0,.slice none 0 0,.slice none 0 0,.int .i64 0,.int .i64 0]) ?_ 8 _ rfl;(with_reducible repeat (first | refine blk_drewN ?_ _ | refine blk_drew ?_ | refine blk_alloc ?_ _));refine blk_put (cs:=#[.int .i64 t943,.slice Ao22 t944.length co22,.slice Ao23 t947.length co23,.slice Ao24 t950.length co24,.int .i64 t953,.int .i64 t954,.int .i64 t955,.slice none 0 0,.slice none 0 0,.slice none 0 0,.slice none 0 0,.slice none 0 0,.int .i64 0,.int .i64 0]) ?_ 7 _ rfl;(with_reducible repeat (first | refine blk_drewN ?_ _ | refine blk_drew ?_ | refine blk_alloc ?_ _));refine blk_put (cs:=#[.int .i64 t943,.slice Ao22 t944.length co22,.slice Ao23 t947.length co23,.slice Ao24 t950.length co24,.int .i64 t953,.int .i64 t954,.int .i64 0,.slice none 0 0,.slice none 0 0,.slice none 0 0,.slice none 0 0,.slice none 0 0,.int .i64 0,.int .i64 0]) ?_ 6 _ rfl;(with_reducible repeat (first | refine blk_drewN ?_ _ | refine blk_drew ?_ | refine blk_alloc ?_ _));refine blk_put (cs:=#[.int .i64 t943,.slice Ao22 t944.length co22,.slice Ao23 t947.length co23,.slice Ao24 t950.length co24,.int .i64 t953,.int .i64 0,.int .i64 0,.slice none 0 0,.slice none 0 0,.slice none 0 0,.slice none 0 0,.slice none 0 0,.int .i64 0,.int .i64 0]) ?_ 5 _ rfl;(with_reducible repeat (first | refine blk_drewN ?_ _ | refine blk_drew ?_ | refine blk_alloc ?_ _));refine blk_put (cs:=#[.int .i64 t943,.slice Ao22 t944.length co22,.slice Ao23 t947.length co23,.slice Ao24 t950.length co24,.int .i64 0,.int .i64 0,.int .i64 0,.slice none 0 0,.slice none 0 0,.slice none 0 0,.slice none 0 0,.slice none 0 0,.int .i64 0,.int .i64 0]) ?_ 4 _ rfl;(with_reducible repeat (first | refine blk_drewN ?_ _ | refine blk_drew ?_ | refine blk_alloc ?_ _));refine blk_put (cs:=#[.int .i64 t943,.slice Ao22 t944.length co22,.slice Ao23 t947.length co23,.slice none 0 0,.int .i64 0,.int .i64 0,.int .i64 0,.slice none 0 0,.slice none 0 0,.slice none 0 0,.slice none 0 0,.slice none 0 0,.int .i64 0,.int .i64 0]) ?_ 3 _ rfl;(with_reducible repeat (first | refine blk_drewN ?_ _ | refine blk_drew ?_ | refine blk_alloc ?_ _));refine blk_put (cs:=#[.int .i64 t943,.slice Ao22 t944.length co22,.slice none 0 0,.slice none 0 0,.int .i64 0,.int .i64 0,.int .i64 0,.slice none 0 0,.slice none 0 0,.slice none 0 0,.slice none 0 0,.slice none 0 0,.int .i64 0,.int .i64 0]) ?_ 2 _ rfl;(with_reducible repeat (first | refine blk_drewN ?_ _ | refine blk_drew ?_ | refine blk_alloc ?_ _));refine blk_put (cs:=#[.int .i64 t943,.slice none 0 0,.slice none 0 0,.slice none 0 0,.int .i64 0,.int .i64 0,.int .i64 0,.slice none 0 0,.slice none 0 0,.slice none 0 0,.slice none 0 0,.slice none 0 0,.int .i64 0,.int .i64 0]) ?_ 1 _ rfl;(with_reducible repeat (first | refine blk_drewN ?_ _ | refine blk_drew ?_ | refine blk_alloc ?_ _));refine blk_put (cs:=#[.int .i64 0,.slice none 0 0,.slice none 0 0,.slice none 0 0,.int .i64 0,.int .i64 0,.int .i64 0,.slice none 0 0,.slice none 0 0,.slice none 0 0,.slice none 0 0,.slice none 0 0,.int .i64 0,.int .i64 0]) ?_ 0 _ rfl;(with_reducible repeat (first | refine blk_drewN ?_ _ | refine blk_drew ?_ | refine blk_alloc ?_ _));exact BK965.out) hb);have n9_:=aM (below_step (z7_ HB.out GE965.out) hb);clear HO946;clear HO949;clear HO952;clear HO958;clear BK965;clear HB;have HO946:=n0_;have HO949:=n1_;have HO952:=n2_;have HO958:=n3_;have HO969:=n4_;have HO972:=n5_;have HO975:=n6_;have HO981:=n7_;have BK965:=n8_;have HB:=n9_;clear n0_ n1_ n2_ n3_ n4_ n5_ n6_ n7_ n8_ n9_;(try clear hb);(try clear hb2);(try clear hk);(try clear hi);(try clear ho0);(try clear ho1);(try clear ho2);(try clear ho3)) | ((with_reducible refine gd_ 10 ?_);refine be_ 10 #[.int .i64 0,.slice none 0 0,.slice none 0 0,.slice none 0 0,.int .i64 0,.int .i64 0,.int .i64 0,.slice none 0 0,.slice none 0 0,.slice none 0 0,.slice none 0 0,.slice none 0 0,.int .i64 0,.int .i64 0] 58 ?_;intro gb988 hg w27 hbox hb;have n0_:=aM (Kd.R_below (z0_ HO946.out) hb);have n1_:=aM (Kd.R_below (z0_ HO949.out) hb);have n2_:=aM (Kd.R_below (z0_ HO952.out) hb);have n3_:=aM (Kd.R_below (z0_ HO958.out) hb);have n4_:=aM (Kd.R_below (z0_ HO969.out) hb);have n5_:=aM (Kd.R_below (z0_ HO972.out) hb);have n6_:=aM (Kd.R_below (z0_ HO975.out) hb);have n7_:=aM (Kd.R_below (z0_ HO981.out) hb);have n8_:=aM (blkB_ BK965.out hb);have n9_:=aM (below_step (z7_ HB.out GE965.out) hb);have n10_:=aM (hbox);have n11_:=aM ((z11_ HB.out GE965.out:w.heap.size≤gb988));have n12_:=aM ((z11_ HB.out GE965.out:w.heap.size≤gb988));have n13_:=aM (neL_ BK965.out hg);have n14_:=aM (neG_ BK965.out hg);clear HO946;clear HO949;clear HO952;clear HO958;clear HO969;clear HO972;clear HO975;clear HO981;clear BK965;clear HB;have HO946:=n0_;have HO949:=n1_;have HO952:=n2_;have HO958:=n3_;have HO969:=n4_;have HO972:=n5_;have HO975:=n6_;have HO981:=n7_;have BK965:=n8_;have HB:=n9_;have BK988:=n10_;have GW988:=n11_;have GE988:=n12_;have NB965_988:=n13_;have NB988_965:=n14_;clear n0_ n1_ n2_ n3_ n4_ n5_ n6_ n7_ n8_ n9_ n10_ n11_ n12_ n13_ n14_;clear hb hbox hg;have hnb28:=NB988_965.out;have hnc28:=NB965_988.out;have hcz29_0:w27.cell? ⟨gb988,0,none⟩=some (.int .i64 0):=(blk_cell BK988.out 0).trans rfl;have hcz29_1:w27.cell? ⟨gb988,1,none⟩=some (.slice none 0 0):=(blk_cell BK988.out 1).trans rfl;have hcz29_2:w27.cell? ⟨gb988,2,none⟩=some (.slice none 0 0):=(blk_cell BK988.out 2).trans rfl;have hcz29_3:w27.cell? ⟨gb988,3,none⟩=some (.slice none 0 0):=(blk_cell BK988.out 3).trans rfl;have hcz29_4:w27.cell? ⟨gb988,4,none⟩=some (.int .i64 0):=(blk_cell BK988.out 4).trans rfl;have hcz29_5:w27.cell? ⟨gb988,5,none⟩=some (.int .i64 0):=(blk_cell BK988.out 5).trans rfl;have hcz29_6:w27.cell? ⟨gb988,6,none⟩=some (.int .i64 0):=(blk_cell BK988.out 6).trans rfl;have hcz29_7:w27.cell? ⟨gb988,7,none⟩=some (.slice none 0 0):=(blk_cell BK988.out 7).trans rfl;have hcz29_8:w27.cell? ⟨gb988,8,none⟩=some (.slice none 0 0):=(blk_cell BK988.out 8).trans rfl;have hcz29_9:w27.cell? ⟨gb988,9,none⟩=some (.slice none 0 0):=(blk_cell BK988.out 9).trans rfl;have hcz29_10:w27.cell? ⟨gb988,10,none⟩=some (.slice none 0 0):=(blk_cell BK988.out 10).trans rfl;have hcz29_11:w27.cell? ⟨gb988,11,none⟩=some (.slice none 0 0):=(blk_cell BK988.out 11).trans rfl;have hcz29_12:w27.cell? ⟨gb988,12,none⟩=some (.int .i64 0):=(blk_cell BK988.out 12).trans rfl;have hcz29_13:w27.cell? ⟨gb988,13,none⟩=some (.int .i64 0):=(blk_cell BK988.out 13).trans rfl;have hfz29_0:=blk_frozen BK988.out 0;have hfz29_1:=blk_frozen BK988.out 1;have hfz29_2:=blk_frozen BK988.out 2;have hfz29_3:=blk_frozen BK988.out 3;have hfz29_4:=blk_frozen BK988.out 4;have hfz29_5:=blk_frozen BK988.out 5;have hfz29_6:=blk_frozen BK988.out 6;have hfz29_7:=blk_frozen BK988.out 7;have hfz29_8:=blk_frozen BK988.out 8;have hfz29_9:=blk_frozen BK988.out 9;have hfz29_10:=blk_frozen BK988.out 10;have hfz29_11:=blk_frozen BK988.out 11;have hfz29_12:=blk_frozen BK988.out 12;have hfz29_13:=blk_frozen BK988.out 13;obtain ⟨Ao30,co30,eo30⟩:=Kd.R_slice HO969.out;subst eo30;obtain ⟨Ao31,co31,eo31⟩:=Kd.R_slice HO972.out;subst eo31;obtain ⟨Ao32,co32,eo32⟩:=Kd.R_slice HO975.out;subst eo32;obtain ⟨Ao33,co33,eo33⟩:=Kd.R_slice HO981.out;subst eo33;have hcz34_0:w27.cell? ⟨gb965,0,none⟩=some (.int .i64 t943):=(blk_cell BK965.out 0).trans rfl;have hcz34_1:w27.cell? ⟨gb965,1,none⟩=some (.slice Ao22 t944.length co22):=(blk_cell BK965.out 1).trans rfl;have hcz34_2:w27.cell? ⟨gb965,2,none⟩=some (.slice Ao23 t947.length co23):=(blk_cell BK965.out 2).trans rfl;have hcz34_3:w27.cell? ⟨gb965,3,none⟩=some (.slice Ao24 t950.length co24):=(blk_cell BK965.out 3).trans rfl;have hcz34_4:w27.cell? ⟨gb965,4,none⟩=some (.int .i64 t953):=(blk_cell BK965.out 4).trans rfl;have hcz34_5:w27.cell? ⟨gb965,5,none⟩=some (.int .i64 t954):=(blk_cell BK965.out 5).trans rfl;have hcz34_6:w27.cell? ⟨gb965,6,none⟩=some (.int .i64 t955):=(blk_cell BK965.out 6).trans rfl;have hcz34_7:w27.cell? ⟨gb965,7,none⟩=some (.slice Ao25 t956.length co25):=(blk_cell BK965.out 7).trans rfl;have hcz34_8:w27.cell? ⟨gb965,8,none⟩=some (.slice none 0 0):=(blk_cell BK965.out 8).trans rfl;have hcz34_9:w27.cell? ⟨gb965,9,none⟩=some (.slice none 0 0):=(blk_cell BK965.out 9).trans rfl;have hcz34_10:w27.cell? ⟨gb965,10,none⟩=some (.slice none 0 0):=(blk_cell BK965.out 10).trans rfl;have hcz34_11:w27.cell? ⟨gb965,11,none⟩=some (.slice none 0 0):=(blk_cell BK965.out 11).trans rfl;have hcz34_12:w27.cell? ⟨gb965,12,none⟩=some (.int .i64 t963):=(blk_cell BK965.out 12).trans rfl;have hcz34_13:w27.cell? ⟨gb965,13,none⟩=some (.int .i64 t964):=(blk_cell BK965.out 13).trans rfl;have hfz34_0:=blk_frozen BK965.out 0;have hfz34_1:=blk_frozen BK965.out 1;have hfz34_2:=blk_frozen BK965.out 2;have hfz34_3:=blk_frozen BK965.out 3;have hfz34_4:=blk_frozen BK965.out 4;have hfz34_5:=blk_frozen BK965.out 5;have hfz34_6:=blk_frozen BK965.out 6;have hfz34_7:=blk_frozen BK965.out 7;have hfz34_8:=blk_frozen BK965.out 8;have hfz34_9:=blk_frozen BK965.out 9;have hfz34_10:=blk_frozen BK965.out 10;have hfz34_11:=blk_frozen BK965.out 11;have hfz34_12:=blk_frozen BK965.out 12;have hfz34_13:=blk_frozen BK965.out 13) | ((with_reducible refine gc_ 27 ?_);refine gl_ (some 26) Tryz.func27 #[.agg #[.int .i64 t966,.slice Ao30 t967.length co30,.slice Ao31 t970.length co31,.slice Ao32 t973.length co32,.int .i64 t976,.int .i64 t977,.int .i64 t978,.slice Ao33 t979.length co33,.slice none 0 0,.slice none 0 0,.slice none 0 0,.slice none 0 0,.int .i64 t986,.int .i64 t987],.agg #[.int .i64 t943,.slice Ao22 t944.length co22,.slice Ao23 t947.length co23,.slice Ao24 t950.length co24,.int .i64 t953,.int .i64 t954,.int .i64 t955,.slice Ao25 t956.length co25,.slice none 0 0,.slice none 0 0,.slice none 0 0,.slice none 0 0,.int .i64 t963,.int .i64 t964]] ?_;(with_reducible refine (Y42.calls k t966 _ _ t967 _ _ t970 _ _ t973 t976 t977 t978 _ _ t979 t982 t983 t984 t985 t986 t987 t943 _ _ t944 _ _ t947 _ _ t950 t953 t954 t955 _ _ t956 t959 t960 t961 t962 t963 t964 true _ ?s1 ?s2 ?s3 ?s4 ?s5 ?s6 ?s7 ?s8 ?s9 ?s10 ?s11 ?s12 ?s13 ?s14 ?s15 ?s16 A7.out).mono ?_);(case s1=>refine (Kd.R_reads' (e:=78) (base:=w.heap.size) (ok:=fun k_=>(True∧some k_≠(.slice Ao22 t944.length co22:Value).ownBlock)) (n:=t967.length) (c:=co30) ?_).2.2;exact (z16_ HO969.out BK988.out));(case s2=>exact (Kd.R_reads' HO969.out).2.1);(case s3=>refine (Kd.R_reads' (e:=115) (base:=w.heap.size) (ok:=fun k_=>(True∧some k_≠(.slice Ao23 t947.length co23:Value).ownBlock)) (n:=t970.length) (c:=co31) ?_).2.2;exact (z16_ HO972.out BK988.out));(case s4=>exact (Kd.R_reads' HO972.out).2.1);(case s5=>refine (Kd.R_reads' (e:=2) (base:=w.heap.size) (ok:=fun k_=>((some k_≠(.slice Ao33 t979.length co33:Value).ownBlock∧some k_≠(.slice Ao24 t950.length co24:Value).ownBlock)∧some k_≠(.slice Ao25 t956.length co25:Value).ownBlock)) (n:=t973.length) (c:=co32) ?_).2.2;exact (z16_ HO975.out BK988.out));(case s6=>exact (Kd.R_reads' HO975.out).2.1);(case s7=>refine (Kd.R_reads' (e:=2) (base:=w.heap.size) (ok:=fun k_=>((some k_≠(.slice Ao32 t973.length co32:Value).ownBlock∧some k_≠(.slice Ao24 t950.length co24:Value).ownBlock)∧some k_≠(.slice Ao25 t956.length co25:Value).ownBlock)) (n:=t979.length) (c:=co33) ?_).2.2;exact (z16_ HO981.out BK988.out));(case s8=>exact (Kd.R_reads' HO981.out).2.1);(case s9=>refine (Kd.R_reads' (e:=78) (base:=w.heap.size) (ok:=fun k_=>(True∧some k_≠(.slice Ao30 t967.length co30:Value).ownBlock)) (n:=t944.length) (c:=co22) ?_).2.2;exact (z16_ HO946.out BK988.out));(case s10=>exact (Kd.R_reads' HO946.out).2.1);(case s11=>refine (Kd.R_reads' (e:=115) (base:=w.heap.size) (ok:=fun k_=>(True∧some k_≠(.slice Ao31 t970.length co31:Value).ownBlock)) (n:=t947.length) (c:=co23) ?_).2.2;exact (z16_ HO949.out BK988.out));(case s12=>exact (Kd.R_reads' HO949.out).2.1);(case s13=>refine (Kd.R_reads' (e:=2) (base:=w.heap.size) (ok:=fun k_=>((some k_≠(.slice Ao25 t956.length co25:Value).ownBlock∧some k_≠(.slice Ao32 t973.length co32:Value).ownBlock)∧some k_≠(.slice Ao33 t979.length co33:Value).ownBlock)) (n:=t950.length) (c:=co24) ?_).2.2;exact (z16_ HO952.out BK988.out));(case s14=>exact (Kd.R_reads' HO952.out).2.1);(case s15=>refine (Kd.R_reads' (e:=2) (base:=w.heap.size) (ok:=fun k_=>((some k_≠(.slice Ao24 t950.length co24:Value).ownBlock∧some k_≠(.slice Ao32 t973.length co32:Value).ownBlock)∧some k_≠(.slice Ao33 t979.length co33:Value).ownBlock)) (n:=t956.length) (c:=co25) ?_).2.2;exact (z16_ HO958.out BK988.out));(case s16=>exact (Kd.R_reads' HO958.out).2.1);rintro e w35 ⟨rfl,hb⟩;refine ⟨_,rfl,?_⟩;have n0_:=aM (Kd.R_below (z16_ HO946.out BK988.out) hb);have n1_:=aM (Kd.R_below (z16_ HO949.out BK988.out) hb);have n2_:=aM (Kd.R_below (z16_ HO952.out BK988.out) hb);have n3_:=aM (Kd.R_below (z16_ HO958.out BK988.out) hb);have n4_:=aM (Kd.R_below (z16_ HO969.out BK988.out) hb);have n5_:=aM (Kd.R_below (z16_ HO972.out BK988.out) hb);have n6_:=aM (Kd.R_below (z16_ HO975.out BK988.out) hb);have n7_:=aM (Kd.R_below (z16_ HO981.out BK988.out) hb);have n8_:=aM (blk_below (g:=gb965) (o:=.cells #[.int .i64 t943,.slice Ao22 t944.length co22,.slice Ao23 t947.length co23,.slice Ao24 t950.length co24,.int .i64 t953,.int .i64 t954,.int .i64 t955,.slice Ao25 t956.length co25,.slice none 0 0,.slice none 0 0,.slice none 0 0,.slice none 0 0,.int .i64 t963,.int .i64 t964] 58 (0,0)) (z40_ NB965_988.out BK965.out) hb);have n9_:=aM (blk_below (g:=gb988) (o:=.cells #[.int .i64 t966,.slice Ao30 t967.length co30,.slice Ao31 t970.length co31,.slice Ao32 t973.length co32,.int .i64 t976,.int .i64 t977,.int .i64 t978,.slice Ao33 t979.length co33,.slice none 0 0,.slice none 0 0,.slice none 0 0,.slice none 0 0,.int .i64 t986,.int .i64 t987] 58 (0,0)) (by (with_reducible repeat (first | refine blk_drewN ?_ _ | refine blk_drew ?_ | refine blk_alloc ?_ _));refine blk_put (cs:=#[.int .i64 t966,.slice Ao30 t967.length co30,.slice Ao31 t970.length co31,.slice Ao32 t973.length co32,.int .i64 t976,.int .i64 t977,.int .i64 t978,.slice Ao33 t979.length co33,.slice none 0 0,.slice none 0 0,.slice none 0 0,.slice none 0 0,.int .i64 t986,.int .i64 0]) ?_ 13 _ rfl;(with_reducible repeat (first | refine blk_drewN ?_ _ | refine blk_drew ?_ | refine blk_alloc ?_ _));refine blk_put (cs:=#[.int .i64 t966,.slice Ao30 t967.length co30,.slice Ao31 t970.length co31,.slice Ao32 t973.length co32,.int .i64 t976,.int .i64 t977,.int .i64 t978,.slice Ao33 t979.length co33,.slice none 0 0,.slice none 0 0,.slice none 0 0,.slice none 0 0,.int .i64 0,.int .i64 0]) ?_ 12 _ rfl;(with_reducible repeat (first | refine blk_drewN ?_ _ | refine blk_drew ?_ | refine blk_alloc ?_ _));refine blk_put (cs:=#[.int .i64 t966,.slice Ao30 t967.length co30,.slice Ao31 t970.length co31,.slice Ao32 t973.length co32,.int .i64 t976,.int .i64 t977,.int .i64 t978,.slice Ao33 t979.length co33,.slice none 0 0,.slice none 0 0,.slice none 0 0,.slice none 0 0,.int .i64 0,.int .i64 0]) ?_ 11 _ rfl;(with_reducible repeat (first | refine blk_drewN ?_ _ | refine blk_drew ?_ | refine blk_alloc ?_ _));refine blk_put (cs:=#[.int .i64 t966,.slice Ao30 t967.length co30,.slice Ao31 t970.length co31,.slice Ao32 t973.length co32,.int .i64 t976,.int .i64 t977,.int .i64 t978,.slice Ao33 t979.length co33,.slice none 0 0,.slice none 0 0,.slice none 0 0,.slice none 0 0,.int .i64 0,.int .i64 0]) ?_ 10 _ rfl;(with_reducible repeat (first | refine blk_drewN ?_ _ | refine blk_drew ?_ | refine blk_alloc ?_ _));refine blk_put (cs:=#[.int .i64 t966,.slice Ao30 t967.length co30,.slice Ao31 t970.length co31,.slice Ao32 t973.length co32,.int .i64 t976,.int .i64 t977,.int .i64 t978,.slice Ao33 t979.length co33,.slice none 0 0,.slice none 0 0,.slice none 0 0,.slice none 0 0,.int .i64 0,.int .i64 0]) ?_ 9 _ rfl;(with_reducible repeat (first | refine blk_drewN ?_ _ | refine blk_drew ?_ | refine blk_alloc ?_ _));refine blk_put (cs:=#[.int .i64 t966,.slice Ao30 t967.length co30,.slice Ao31 t970.length co31,.slice Ao32 t973.length co32,.int .i64 t976,.int .i64 t977,.int .i64 t978,.slice Ao33 t979.length co33,.slice none 0 0,.slice none 0 0,.slice none 0 0,.slice none 0 0,.int .i64 0,.int .i64 0]) ?_ 8 _ rfl;(with_reducible repeat (first | refine blk_drewN ?_ _ | refine blk_drew ?_ | refine blk_alloc ?_ _));refine blk_put (cs:=#[.int .i64 t966,.slice Ao30 t967.length co30,.slice Ao31 t970.length co31,.slice Ao32 t973.length co32,.int .i64 t976,.int .i64 t977,.int .i64 t978,.slice none 0 0,.slice none 0 0,.slice none 0 0,.slice none 0 0,.slice none 0 0,.int .i64 0,.int .i64 0]) ?_ 7 _ rfl;(with_reducible repeat (first | refine blk_drewN ?_ _ | refine blk_drew ?_ | refine blk_alloc ?_ _));refine blk_put (cs:=#[.int .i64 t966,.slice Ao30 t967.length co30,.slice Ao31 t970.length co31,.slice Ao32 t973.length co32,.int .i64 t976,.int .i64 t977,.int .i64 0,.slice none 0 0,.slice none 0 0,.slice none 0 0,.slice none 0 0,.slice none 0 0,.int .i64 0,.int .i64 0]) ?_ 6 _ rfl;(with_reducible repeat (first | refine blk_drewN ?_ _ | refine blk_drew ?_ | refine blk_alloc ?_ _));refine blk_put (cs:=#[.int .i64 t966,.slice Ao30 t967.length co30,.slice Ao31 t970.length co31,.slice Ao32 t973.length co32,.int .i64 t976,.int .i64 0,.int .i64 0,.slice none 0 0,.slice none 0 0,.slice none 0 0,.slice none 0 0,.slice none 0 0,.int .i64 0,.int .i64 0]) ?_ 5 _ rfl;(with_reducible repeat (first | refine blk_drewN ?_ _ | refine blk_drew ?_ | refine blk_alloc ?_ _));refine blk_put (cs:=#[.int .i64 t966,.slice Ao30 t967.length co30,.slice Ao31 t970.length co31,.slice Ao32 t973.length co32,.int .i64 0,.int .i64 0,.int .i64 0,.slice none 0 0,.slice none 0 0,.slice none 0 0,.slice none 0 0,.slice none 0 0,.int .i64 0,.int .i64 0]) ?_ 4 _ rfl;(with_reducible repeat (first | refine blk_drewN ?_ _ | refine blk_drew ?_ | refine blk_alloc ?_ _));refine blk_put (cs:=#[.int .i64 t966,.slice Ao30 t967.length co30,.slice Ao31 t970.length co31,.slice none 0 0,.int .i64 0,.int .i64 0,.int .i64 0,.slice none 0 0,.slice none 0 0,.slice none 0 0,.slice none 0 0,.slice none 0 0,.int .i64 0,.int .i64 0]) ?_ 3 _ rfl;(with_reducible repeat (first | refine blk_drewN ?_ _ | refine blk_drew ?_ | refine blk_alloc ?_ _));refine blk_put (cs:=#[.int .i64 t966,.slice Ao30 t967.length co30,.slice none 0 0,.slice none 0 0,.int .i64 0,.int .i64 0,.int .i64 0,.slice none 0 0,.slice none 0 0,.slice none 0 0,.slice none 0 0,.slice none 0 0,.int .i64 0,.int .i64 0]) ?_ 2 _ rfl;(with_reducible repeat (first | refine blk_drewN ?_ _ | refine blk_drew ?_ | refine blk_alloc ?_ _));refine blk_put (cs:=#[.int .i64 t966,.slice none 0 0,.slice none 0 0,.slice none 0 0,.int .i64 0,.int .i64 0,.int .i64 0,.slice none 0 0,.slice none 0 0,.slice none 0 0,.slice none 0 0,.slice none 0 0,.int .i64 0,.int .i64 0]) ?_ 1 _ rfl;(with_reducible repeat (first | refine blk_drewN ?_ _ | refine blk_drew ?_ | refine blk_alloc ?_ _));refine blk_put (cs:=#[.int .i64 0,.slice none 0 0,.slice none 0 0,.slice none 0 0,.int .i64 0,.int .i64 0,.int .i64 0,.slice none 0 0,.slice none 0 0,.slice none 0 0,.slice none 0 0,.slice none 0 0,.int .i64 0,.int .i64 0]) ?_ 0 _ rfl;(with_reducible repeat (first | refine blk_drewN ?_ _ | refine blk_drew ?_ | refine blk_alloc ?_ _));exact BK988.out) hb);have n10_:=aM (below_step (z8_ HB.out GE965.out GE988.out) hb);clear HO946;clear HO949;clear HO952;clear HO958;clear HO969;clear HO972;clear HO975;clear HO981;clear BK965;clear BK988;clear HB;have HO946:=n0_;have HO949:=n1_;have HO952:=n2_;have HO958:=n3_;have HO969:=n4_;have HO972:=n5_;have HO975:=n6_;have HO981:=n7_;have BK965:=n8_;have BK988:=n9_;have HB:=n10_;clear n0_ n1_ n2_ n3_ n4_ n5_ n6_ n7_ n8_ n9_ n10_;(try clear hb);(try clear hb2);(try clear hk);(try clear hi);have hcz36_0:w35.cell? ⟨gb988,0,none⟩=some (.int .i64 t966):=(blk_cell BK988.out 0).trans rfl;have hcz36_1:w35.cell? ⟨gb988,1,none⟩=some (.slice Ao30 t967.length co30):=(blk_cell BK988.out 1).trans rfl;have hcz36_2:w35.cell? ⟨gb988,2,none⟩=some (.slice Ao31 t970.length co31):=(blk_cell BK988.out 2).trans rfl;have hcz36_3:w35.cell? ⟨gb988,3,none⟩=some (.slice Ao32 t973.length co32):=(blk_cell BK988.out 3).trans rfl;have hcz36_4:w35.cell? ⟨gb988,4,none⟩=some (.int .i64 t976):=(blk_cell BK988.out 4).trans rfl;have hcz36_5:w35.cell? ⟨gb988,5,none⟩=some (.int .i64 t977):=(blk_cell BK988.out 5).trans rfl;have hcz36_6:w35.cell? ⟨gb988,6,none⟩=some (.int .i64 t978):=(blk_cell BK988.out 6).trans rfl;have hcz36_7:w35.cell? ⟨gb988,7,none⟩=some (.slice Ao33 t979.length co33):=(blk_cell BK988.out 7).trans rfl;have hcz36_8:w35.cell? ⟨gb988,8,none⟩=some (.slice none 0 0):=(blk_cell BK988.out 8).trans rfl;have hcz36_9:w35.cell? ⟨gb988,9,none⟩=some (.slice none 0 0):=(blk_cell BK988.out 9).trans rfl;have hcz36_10:w35.cell? ⟨gb988,10,none⟩=some (.slice none 0 0):=(blk_cell BK988.out 10).trans rfl;have hcz36_11:w35.cell? ⟨gb988,11,none⟩=some (.slice none 0 0):=(blk_cell BK988.out 11).trans rfl;have hcz36_12:w35.cell? ⟨gb988,12,none⟩=some (.int .i64 t986):=(blk_cell BK988.out 12).trans rfl;have hcz36_13:w35.cell? ⟨gb988,13,none⟩=some (.int .i64 t987):=(blk_cell BK988.out 13).trans rfl;have hfz36_0:=blk_frozen BK988.out 0;have hfz36_1:=blk_frozen BK988.out 1;have hfz36_2:=blk_frozen BK988.out 2;have hfz36_3:=blk_frozen BK988.out 3;have hfz36_4:=blk_frozen BK988.out 4;have hfz36_5:=blk_frozen BK988.out 5;have hfz36_6:=blk_frozen BK988.out 6;have hfz36_7:=blk_frozen BK988.out 7;have hfz36_8:=blk_frozen BK988.out 8;have hfz36_9:=blk_frozen BK988.out 9;have hfz36_10:=blk_frozen BK988.out 10;have hfz36_11:=blk_frozen BK988.out 11;have hfz36_12:=blk_frozen BK988.out 12;have hfz36_13:=blk_frozen BK988.out 13) | ((with_reducible refine gc_ 28 ?_);refine gl_ (some 30) Tryz.func28 #[.agg #[.int .i64 t966,.slice Ao30 t967.length co30,.slice Ao31 t970.length co31,.slice Ao32 t973.length co32,.int .i64 t976,.int .i64 t977,.int .i64 t978,.slice Ao33 t979.length co33,.slice none 0 0,.slice none 0 0,.slice none 0 0,.slice none 0 0,.int .i64 t986,.int .i64 t987],.int .i64 1] ?_;(with_reducible refine (Y54.calls k t966 (fun k_=>some k_=(.slice Ao30 t967.length co30:Value).ownBlock) (.slice Ao30 t967.length co30) t967 (fun k_=>some k_=(.slice Ao31 t970.length co31:Value).ownBlock) (.slice Ao31 t970.length co31) t970 (fun k_=>some k_=(.slice Ao32 t973.length co32:Value).ownBlock) (.slice Ao32 t973.length co32) t973 t976 t977 t978 (fun k_=>some k_=(.slice Ao33 t979.length co33:Value).ownBlock) (.slice Ao33 t979.length co33) t979 t982 t983 t984 t985 t986 t987 1 t990 t991 t992 t993 t994 w _ ?s1 ?s2 ?s3 ?s4 ?s5 ?s6 ?s7 A9.out).mono ?_);(case s1=>repeat (first | (with_reducible first | exact HB.out | apply below_alloc | apply pw_below_drewN | apply below_drew1 | refine below_set ?_ GE965.out | refine below_set ?_ GE988.out) | exact HB.out));(case s2=>exact Kd.R_tight rfl HO969.out);(case s3=>exact Kd.R_tight rfl HO972.out);(case s4=>exact Kd.R_tight rfl HO975.out);(case s5=>exact fun k_ e_=>(HO975.out.1 k_ e_.symm).1.1);(case s6=>exact Kd.R_tight rfl HO981.out);(case s7=>exact fun k_ e_=>(HO981.out.1 k_ e_.symm).1.1);rintro e w37 ⟨rfl,hy0,hy1,hy2,hy3,hb,hkp⟩;refine ⟨_,rfl,?_⟩;have n0_:=aM (Kd.R_mono (ok':=fun k_=>some k_≠(.slice Ao30 t967.length co30:Value).ownBlock) (Kd.R_keptB ((Kd.R_apart' (Kd.R_apart' (Kd.R_apart' HO946.out (Kd.R_typed HO972.out) (by decide)) (Kd.R_typed HO975.out) (by decide)) (Kd.R_typed HO981.out) (by decide))) hkp (fun k_ hk_ hs_=>Or.elim hs_ (fun e_=>(hk_.1.1.1.2) e_) (fun e_=>Or.elim e_ (fun e_=>(hk_.1.1.2) e_) (fun e_=>Or.elim e_ (fun e_=>(hk_.1.2) e_) (fun e_=>(hk_.2) e_))))) (fun k_ hk_=>hk_.1.1.1.1.2));have n1_:=aM (Kd.R_mono (ok':=fun k_=>some k_≠(.slice Ao31 t970.length co31:Value).ownBlock) (Kd.R_keptB ((Kd.R_apart' (Kd.R_apart' (Kd.R_apart' HO949.out (Kd.R_typed HO969.out) (by decide)) (Kd.R_typed HO975.out) (by decide)) (Kd.R_typed HO981.out) (by decide))) hkp (fun k_ hk_ hs_=>Or.elim hs_ (fun e_=>(hk_.1.1.2) e_) (fun e_=>Or.elim e_ (fun e_=>(hk_.1.1.1.2) e_) (fun e_=>Or.elim e_ (fun e_=>(hk_.1.2) e_) (fun e_=>(hk_.2) e_))))) (fun k_ hk_=>hk_.1.1.1.1.2));have n2_:=aM (Kd.R_mono (ok':=fun k_=>some k_≠(.slice Ao25 t956.length co25:Value).ownBlock∧some k_≠(.slice Ao32 t973.length co32:Value).ownBlock∧some k_≠(.slice Ao33 t979.length co33:Value).ownBlock) (Kd.R_keptB ((Kd.R_apart' (Kd.R_apart' HO952.out (Kd.R_typed HO969.out) (by decide)) (Kd.R_typed HO972.out) (by decide))) hkp (fun k_ hk_ hs_=>Or.elim hs_ (fun e_=>(hk_.1.2) e_) (fun e_=>Or.elim e_ (fun e_=>(hk_.2) e_) (fun e_=>Or.elim e_ (fun e_=>(hk_.1.1.1.2) e_) (fun e_=>(hk_.1.1.2) e_))))) (fun k_ hk_=>⟨hk_.1.1.1.1.1,hk_.1.1.1.1.2,hk_.1.1.1.2⟩));have n3_:=aM (Kd.R_mono (ok':=fun k_=>some k_≠(.slice Ao24 t950.length co24:Value).ownBlock∧some k_≠(.slice Ao32 t973.length co32:Value).ownBlock∧some k_≠(.slice Ao33 t979.length co33:Value).ownBlock) (Kd.R_keptB ((Kd.R_apart' (Kd.R_apart' HO958.out (Kd.R_typed HO969.out) (by decide)) (Kd.R_typed HO972.out) (by decide))) hkp (fun k_ hk_ hs_=>Or.elim hs_ (fun e_=>(hk_.1.2) e_) (fun e_=>Or.elim e_ (fun e_=>(hk_.2) e_) (fun e_=>Or.elim e_ (fun e_=>(hk_.1.1.1.2) e_) (fun e_=>(hk_.1.1.2) e_))))) (fun k_ hk_=>⟨hk_.1.1.1.1.1,hk_.1.1.1.1.2,hk_.1.1.1.2⟩));have n4_:=aM (blk_kept (z4_ BK965.out) hkp (fun hs_=>Or.elim hs_ (fun e_=>(fun e_=>(Kd.R_ne HO969.out BK965.out (by decide)) e_) e_) (fun e_=>Or.elim e_ (fun e_=>(fun e_=>(Kd.R_ne HO972.out BK965.out (by decide)) e_) e_) (fun e_=>Or.elim e_ (fun e_=>(fun e_=>(Kd.R_ne HO975.out BK965.out (by decide)) e_) e_) (fun e_=>(fun e_=>(Kd.R_ne HO981.out BK965.out (by decide)) e_) e_)))));have n5_:=aM (Kd.R_reok rfl hy0 (fun k_ e_=>HO969.out.1 k_ e_));have n6_:=aM (Kd.R_reok rfl hy1 (fun k_ e_=>HO972.out.1 k_ e_));have n7_:=aM (Kd.R_reok rfl hy2 (fun k_ e_=>HO975.out.1 k_ e_));have n8_:=aM (Kd.R_reok rfl hy3 (fun k_ e_=>HO981.out.1 k_ e_));have n9_:=aM (blk_kept (z4_ BK988.out) hkp (fun hs_=>Or.elim hs_ (fun e_=>(fun e_=>(Kd.R_ne HO969.out BK988.out (by decide)) e_) e_) (fun e_=>Or.elim e_ (fun e_=>(fun e_=>(Kd.R_ne HO972.out BK988.out (by decide)) e_) e_) (fun e_=>Or.elim e_ (fun e_=>(fun e_=>(Kd.R_ne HO975.out BK988.out (by decide)) e_) e_) (fun e_=>(fun e_=>(Kd.R_ne HO981.out BK988.out (by decide)) e_) e_)))));have n10_:=aM (hb);clear HO946;clear HO949;clear HO952;clear HO958;clear BK965;clear HO969;clear HO972;clear HO975;clear HO981;clear BK988;clear HB;have HO946:=n0_;have HO949:=n1_;have HO952:=n2_;have HO958:=n3_;have BK965:=n4_;have HO969:=n5_;have HO972:=n6_;have HO975:=n7_;have HO981:=n8_;have BK988:=n9_;have HB:=n10_;clear n0_ n1_ n2_ n3_ n4_ n5_ n6_ n7_ n8_ n9_ n10_;(try clear hb);(try clear hkp);(try clear hy0);(try clear hy1);(try clear hy2);(try clear hy3);have hcz38_0:w37.cell? ⟨gb988,0,none⟩=some (.int .i64 t966):=(blk_cell BK988.out 0).trans rfl;have hcz38_1:w37.cell? ⟨gb988,1,none⟩=some (.slice Ao30 t967.length co30):=(blk_cell BK988.out 1).trans rfl;have hcz38_2:w37.cell? ⟨gb988,2,none⟩=some (.slice Ao31 t970.length co31):=(blk_cell BK988.out 2).trans rfl;have hcz38_3:w37.cell? ⟨gb988,3,none⟩=some (.slice Ao32 t973.length co32):=(blk_cell BK988.out 3).trans rfl;have hcz38_4:w37.cell? ⟨gb988,4,none⟩=some (.int .i64 t976):=(blk_cell BK988.out 4).trans rfl;have hcz38_5:w37.cell? ⟨gb988,5,none⟩=some (.int .i64 t977):=(blk_cell BK988.out 5).trans rfl;have hcz38_6:w37.cell? ⟨gb988,6,none⟩=some (.int .i64 t978):=(blk_cell BK988.out 6).trans rfl;have hcz38_7:w37.cell? ⟨gb988,7,none⟩=some (.slice Ao33 t979.length co33):=(blk_cell BK988.out 7).trans rfl;have hcz38_8:w37.cell? ⟨gb988,8,none⟩=some (.slice none 0 0):=(blk_cell BK988.out 8).trans rfl;have hcz38_9:w37.cell? ⟨gb988,9,none⟩=some (.slice none 0 0):=(blk_cell BK988.out 9).trans rfl;have hcz38_10:w37.cell? ⟨gb988,10,none⟩=some (.slice none 0 0):=(blk_cell BK988.out 10).trans rfl;have hcz38_11:w37.cell? ⟨gb988,11,none⟩=some (.slice none 0 0):=(blk_cell BK988.out 11).trans rfl;have hcz38_12:w37.cell? ⟨gb988,12,none⟩=some (.int .i64 t986):=(blk_cell BK988.out 12).trans rfl;have hcz38_13:w37.cell? ⟨gb988,13,none⟩=some (.int .i64 t987):=(blk_cell BK988.out 13).trans rfl;have hfz38_0:=blk_frozen BK988.out 0;have hfz38_1:=blk_frozen BK988.out 1;have hfz38_2:=blk_frozen BK988.out 2;have hfz38_3:=blk_frozen BK988.out 3;have hfz38_4:=blk_frozen BK988.out 4;have hfz38_5:=blk_frozen BK988.out 5;have hfz38_6:=blk_frozen BK988.out 6;have hfz38_7:=blk_frozen BK988.out 7;have hfz38_8:=blk_frozen BK988.out 8;have hfz38_9:=blk_frozen BK988.out 9;have hfz38_10:=blk_frozen BK988.out 10;have hfz38_11:=blk_frozen BK988.out 11;have hfz38_12:=blk_frozen BK988.out 12;have hfz38_13:=blk_frozen BK988.out 13) | ((with_reducible refine gc_ 29 ?_);refine goesL_ (some 33) rfl rfl Tryz.func29 (by kernel_rfl) rfl #[.agg #[.int .i64 t966,.slice Ao30 t991.length co30,.slice Ao31 t992.length co31,.slice Ao32 t993.length co32,.int .i64 t976,.int .i64 t977,.int .i64 t978,.slice Ao33 t994.length co33,.slice none 0 0,.slice none 0 0,.slice none 0 0,.slice none 0 0,.int .i64 t986,.int .i64 t987],.int .i64 1] rfl (by (try simp only [List.map_toArray,List.map_cons,List.map_nil]);first | done | (rw [show t991.length=t967.length from (Kd.R_reads' HO969.out).1.symm,show t992.length=t970.length from (Kd.R_reads' HO972.out).1.symm,show t993.length=t973.length from (Kd.R_reads' HO975.out).1.symm,show t994.length=t979.length from (Kd.R_reads' HO981.out).1.symm] <;> rfl) | rfl | (simp only [List.length_drop,List.length_take];rfl)) ?_;(with_reducible refine (Y23.calls k t966 _ _ t991 _ _ t992 _ _ t993 t976 t977 t978 _ _ t994 t982 t983 t984 t985 t986 t987 1 t995 _ ?s1 ?s2 ?s3 ?s4 ?s5 ?s6 ?s7 ?s8 A10.out).mono ?_);(case s1=>repeat (first | exact (Kd.R_reads' HO969.out).2.2 | (with_reducible refine Kd.C_alloc ?_ _) | (with_reducible refine Kd.C_drewN ?_ _) | (with_reducible refine Kd.C_drew ?_)));(case s2=>rw [show t991.length=t967.length from (Kd.R_reads' HO969.out).1.symm];exact (Kd.R_reads' HO969.out).2.1);(case s3=>repeat (first | exact (Kd.R_reads' HO972.out).2.2 | (with_reducible refine Kd.C_alloc ?_ _) | (with_reducible refine Kd.C_drewN ?_ _) | (with_reducible refine Kd.C_drew ?_)));(case s4=>rw [show t992.length=t970.length from (Kd.R_reads' HO972.out).1.symm];exact (Kd.R_reads' HO972.out).2.1);(case s5=>repeat (first | exact (Kd.R_reads' HO975.out).2.2 | (with_reducible refine Kd.C_alloc ?_ _) | (with_reducible refine Kd.C_drewN ?_ _) | (with_reducible refine Kd.C_drew ?_)));(case s6=>rw [show t993.length=t973.length from (Kd.R_reads' HO975.out).1.symm];exact (Kd.R_reads' HO975.out).2.1);(case s7=>repeat (first | exact (Kd.R_reads' HO981.out).2.2 | (with_reducible refine Kd.C_alloc ?_ _) | (with_reducible refine Kd.C_drewN ?_ _) | (with_reducible refine Kd.C_drew ?_)));(case s8=>rw [show t994.length=t979.length from (Kd.R_reads' HO981.out).1.symm];exact (Kd.R_reads' HO981.out).2.1);rintro e w39 ⟨rfl,hb⟩;refine ⟨_,rfl,?_⟩;have n0_:=aM (Kd.R_below (z0_ HO946.out) hb);have n1_:=aM (Kd.R_below (z0_ HO949.out) hb);have n2_:=aM (Kd.R_below (z0_ HO952.out) hb);have n3_:=aM (Kd.R_below (z0_ HO958.out) hb);have n4_:=aM (Kd.R_below (z0_ HO969.out) hb);have n5_:=aM (Kd.R_below (z0_ HO972.out) hb);have n6_:=aM (Kd.R_below (z0_ HO975.out) hb);have n7_:=aM (Kd.R_below (z0_ HO981.out) hb);have n8_:=aM (blkB_ BK965.out hb);have n9_:=aM (blkB_ BK988.out hb);have n10_:=aM (below_step (z8_ HB.out GE965.out GE988.out) hb);clear HO946;clear HO949;clear HO952;clear HO958;clear HO969;clear HO972;clear HO975;clear HO981;clear BK965;clear BK988;clear HB;have HO946:=n0_;have HO949:=n1_;have HO952:=n2_;have HO958:=n3_;have HO969:=n4_;have HO972:=n5_;have HO975:=n6_;have HO981:=n7_;have BK965:=n8_;have BK988:=n9_;have HB:=n10_;clear n0_ n1_ n2_ n3_ n4_ n5_ n6_ n7_ n8_ n9_ n10_;(try clear hb)) | ((with_reducible refine gc_ 26 ?_);refine gl_ (some 43) Tryz.func26 #[.int .i64 a0,.int .i64 a1,.int .i64 a2,.int .i64 a3] ?_;(with_reducible refine (Y53.calls k a0 a1 a2 a3 t996 t997 t1000 t1003 t1006 t1007 t1008 t1009 t1012 t1013 t1014 t1015 t1016 t1017 _ A13.out).mono ?_);rintro e w40 ⟨v998,v1001,v1004,v1010,rfl,ho0,ho1,ho2,ho3,hb⟩;refine ⟨_,rfl,?_⟩;have n0_:=aM (Kd.R_elder' (z0_ HO946.out) (Kd.R_base ho0) hb);have n1_:=aM (Kd.R_elder' (z0_ HO949.out) (Kd.R_base ho1) hb);have n2_:=aM (Kd.R_mono (Kd.R_told (Kd.R_told (Kd.R_old (z0_ HO952.out) hb) (Kd.R_base ho2)) (Kd.R_base ho3)) (fun _ h_=>h_.1));have n3_:=aM (Kd.R_mono (Kd.R_told (Kd.R_told (Kd.R_old (z0_ HO958.out) hb) (Kd.R_base ho2)) (Kd.R_base ho3)) (fun _ h_=>h_.1));have n4_:=aM (Kd.R_elder' (z0_ HO969.out) (Kd.R_base ho0) hb);have n5_:=aM (Kd.R_elder' (z0_ HO972.out) (Kd.R_base ho1) hb);have n6_:=aM (Kd.R_mono (Kd.R_told (Kd.R_told (Kd.R_old (z0_ HO975.out) hb) (Kd.R_base ho2)) (Kd.R_base ho3)) (fun _ h_=>h_.1));have n7_:=aM (Kd.R_mono (Kd.R_told (Kd.R_told (Kd.R_old (z0_ HO981.out) hb) (Kd.R_base ho2)) (Kd.R_base ho3)) (fun _ h_=>h_.1));have n8_:=aM (Kd.R_lower (Kd.R_new' (Kd.R_new' ho0 (Kd.R_lt (z0_ HO946.out))) (Kd.R_lt (z0_ HO969.out))) (below_size (z8_ HB.out GE965.out GE988.out)));have n9_:=aM (Kd.R_lower (Kd.R_new' (Kd.R_new' ho1 (Kd.R_lt (z0_ HO949.out))) (Kd.R_lt (z0_ HO972.out))) (below_size (z8_ HB.out GE965.out GE988.out)));have n10_:=aM (Kd.R_lower (Kd.R_new' (Kd.R_new' (Kd.R_new' (Kd.R_new' ho2 (Kd.R_lt (z0_ HO952.out))) (Kd.R_lt (z0_ HO958.out))) (Kd.R_lt (z0_ HO975.out))) (Kd.R_lt (z0_ HO981.out))) (below_size (z8_ HB.out GE965.out GE988.out)));have n11_:=aM (Kd.R_lower (Kd.R_new' (Kd.R_new' (Kd.R_new' (Kd.R_new' ho3 (Kd.R_lt (z0_ HO952.out))) (Kd.R_lt (z0_ HO958.out))) (Kd.R_lt (z0_ HO975.out))) (Kd.R_lt (z0_ HO981.out))) (below_size (z8_ HB.out GE965.out GE988.out)));have n12_:=aM (blkB_ BK965.out hb);have n13_:=aM (blkB_ BK988.out hb);have n14_:=aM (below_step (z8_ HB.out GE965.out GE988.out) hb);clear HO946;clear HO949;clear HO952;clear HO958;clear HO969;clear HO972;clear HO975;clear HO981;clear BK965;clear BK988;clear HB;have HO946:=n0_;have HO949:=n1_;have HO952:=n2_;have HO958:=n3_;have HO969:=n4_;have HO972:=n5_;have HO975:=n6_;have HO981:=n7_;have HO999:=n8_;have HO1002:=n9_;have HO1005:=n10_;have HO1011:=n11_;have BK965:=n12_;have BK988:=n13_;have HB:=n14_;clear n0_ n1_ n2_ n3_ n4_ n5_ n6_ n7_ n8_ n9_ n10_ n11_ n12_ n13_ n14_;(try clear hb);(try clear ho0);(try clear ho1);(try clear ho2);(try clear ho3)) | ((with_reducible refine gd_ 13 ?_);refine be_ 13 #[.int .i64 0,.slice none 0 0,.slice none 0 0,.slice none 0 0,.int .i64 0,.int .i64 0,.int .i64 0,.slice none 0 0,.slice none 0 0,.slice none 0 0,.slice none 0 0,.slice none 0 0,.int .i64 0,.int .i64 0] 58 ?_;intro gb1018 hg w41 hbox hb;have n0_:=aM (Kd.R_below (z0_ HO946.out) hb);have n1_:=aM (Kd.R_below (z0_ HO949.out) hb);have n2_:=aM (Kd.R_below (z0_ HO952.out) hb);have n3_:=aM (Kd.R_below (z0_ HO958.out) hb);have n4_:=aM (Kd.R_below (z0_ HO969.out) hb);have n5_:=aM (Kd.R_below (z0_ HO972.out) hb);have n6_:=aM (Kd.R_below (z0_ HO975.out) hb);have n7_:=aM (Kd.R_below (z0_ HO981.out) hb);have n8_:=aM (Kd.R_below (z0_ HO999.out) hb);have n9_:=aM (Kd.R_below (z0_ HO1002.out) hb);have n10_:=aM (Kd.R_below (z0_ HO1005.out) hb);have n11_:=aM (Kd.R_below (z0_ HO1011.out) hb);have n12_:=aM (blkB_ BK965.out hb);have n13_:=aM (blkB_ BK988.out hb);have n14_:=aM (below_step (z8_ HB.out GE965.out GE988.out) hb);have n15_:=aM (hbox);have n16_:=aM ((z24_ HB.out GE965.out GE988.out:w.heap.size≤gb1018));have n17_:=aM ((z24_ HB.out GE965.out GE988.out:w.heap.size≤gb1018));have n18_:=aM (neL_ BK965.out hg);have n19_:=aM (neG_ BK965.out hg);have n20_:=aM (neL_ BK988.out hg);have n21_:=aM (neG_ BK988.out hg);clear HO946;clear HO949;clear HO952;clear HO958;clear HO969;clear HO972;clear HO975;clear HO981;clear HO999;clear HO1002;clear HO1005;clear HO1011;clear BK965;clear BK988;clear HB;have HO946:=n0_;have HO949:=n1_;have HO952:=n2_;have HO958:=n3_;have HO969:=n4_;have HO972:=n5_;have HO975:=n6_;have HO981:=n7_;have HO999:=n8_;have HO1002:=n9_;have HO1005:=n10_;have HO1011:=n11_;have BK965:=n12_;have BK988:=n13_;have HB:=n14_;have BK1018:=n15_;have GW1018:=n16_;have GE1018:=n17_;have NB965_1018:=n18_;have NB1018_965:=n19_;have NB988_1018:=n20_;have NB1018_988:=n21_;clear n0_ n1_ n2_ n3_ n4_ n5_ n6_ n7_ n8_ n9_ n10_ n11_ n12_ n13_ n14_ n15_ n16_ n17_ n18_ n19_ n20_ n21_;clear hb hbox hg;have hnb42:=NB1018_965.out;have hnc42:=NB965_1018.out;have hnb43:=NB1018_988.out;have hnc43:=NB988_1018.out;have hcz44_0:w41.cell? ⟨gb1018,0,none⟩=some (.int .i64 0):=(blk_cell BK1018.out 0).trans rfl;have hcz44_1:w41.cell? ⟨gb1018,1,none⟩=some (.slice none 0 0):=(blk_cell BK1018.out 1).trans rfl;have hcz44_2:w41.cell? ⟨gb1018,2,none⟩=some (.slice none 0 0):=(blk_cell BK1018.out 2).trans rfl;have hcz44_3:w41.cell? ⟨gb1018,3,none⟩=some (.slice none 0 0):=(blk_cell BK1018.out 3).trans rfl;have hcz44_4:w41.cell? ⟨gb1018,4,none⟩=some (.int .i64 0):=(blk_cell BK1018.out 4).trans rfl;have hcz44_5:w41.cell? ⟨gb1018,5,none⟩=some (.int .i64 0):=(blk_cell BK1018.out 5).trans rfl;have hcz44_6:w41.cell? ⟨gb1018,6,none⟩=some (.int .i64 0):=(blk_cell BK1018.out 6).trans rfl;have hcz44_7:w41.cell? ⟨gb1018,7,none⟩=some (.slice none 0 0):=(blk_cell BK1018.out 7).trans rfl;have hcz44_8:w41.cell? ⟨gb1018,8,none⟩=some (.slice none 0 0):=(blk_cell BK1018.out 8).trans rfl;have hcz44_9:w41.cell? ⟨gb1018,9,none⟩=some (.slice none 0 0):=(blk_cell BK1018.out 9).trans rfl;have hcz44_10:w41.cell? ⟨gb1018,10,none⟩=some (.slice none 0 0):=(blk_cell BK1018.out 10).trans rfl;have hcz44_11:w41.cell? ⟨gb1018,11,none⟩=some (.slice none 0 0):=(blk_cell BK1018.out 11).trans rfl;have hcz44_12:w41.cell? ⟨gb1018,12,none⟩=some (.int .i64 0):=(blk_cell BK1018.out 12).trans rfl;have hcz44_13:w41.cell? ⟨gb1018,13,none⟩=some (.int .i64 0):=(blk_cell BK1018.out 13).trans rfl;have hfz44_0:=blk_frozen BK1018.out 0;have hfz44_1:=blk_frozen BK1018.out 1;have hfz44_2:=blk_frozen BK1018.out 2;have hfz44_3:=blk_frozen BK1018.out 3;have hfz44_4:=blk_frozen BK1018.out 4;have hfz44_5:=blk_frozen BK1018.out 5;have hfz44_6:=blk_frozen BK1018.out 6;have hfz44_7:=blk_frozen BK1018.out 7;have hfz44_8:=blk_frozen BK1018.out 8;have hfz44_9:=blk_frozen BK1018.out 9;have hfz44_10:=blk_frozen BK1018.out 10;have hfz44_11:=blk_frozen BK1018.out 11;have hfz44_12:=blk_frozen BK1018.out 12;have hfz44_13:=blk_frozen BK1018.out 13;obtain ⟨Ao45,co45,eo45⟩:=Kd.R_slice HO999.out;subst eo45;obtain ⟨Ao46,co46,eo46⟩:=Kd.R_slice HO1002.out;subst eo46;obtain ⟨Ao47,co47,eo47⟩:=Kd.R_slice HO1005.out;subst eo47;obtain ⟨Ao48,co48,eo48⟩:=Kd.R_slice HO1011.out;subst eo48;have hcz49_0:w41.cell? ⟨gb965,0,none⟩=some (.int .i64 t943):=(blk_cell BK965.out 0).trans rfl;have hcz49_1:w41.cell? ⟨gb965,1,none⟩=some (.slice Ao22 t944.length co22):=(blk_cell BK965.out 1).trans rfl;have hcz49_2:w41.cell? ⟨gb965,2,none⟩=some (.slice Ao23 t947.length co23):=(blk_cell BK965.out 2).trans rfl;have hcz49_3:w41.cell? ⟨gb965,3,none⟩=some (.slice Ao24 t950.length co24):=(blk_cell BK965.out 3).trans rfl;have hcz49_4:w41.cell? ⟨gb965,4,none⟩=some (.int .i64 t953):=(blk_cell BK965.out 4).trans rfl;have hcz49_5:w41.cell? ⟨gb965,5,none⟩=some (.int .i64 t954):=(blk_cell BK965.out 5).trans rfl;have hcz49_6:w41.cell? ⟨gb965,6,none⟩=some (.int .i64 t955):=(blk_cell BK965.out 6).trans rfl;have hcz49_7:w41.cell? ⟨gb965,7,none⟩=some (.slice Ao25 t956.length co25):=(blk_cell BK965.out 7).trans rfl;have hcz49_8:w41.cell? ⟨gb965,8,none⟩=some (.slice none 0 0):=(blk_cell BK965.out 8).trans rfl;have hcz49_9:w41.cell? ⟨gb965,9,none⟩=some (.slice none 0 0):=(blk_cell BK965.out 9).trans rfl;have hcz49_10:w41.cell? ⟨gb965,10,none⟩=some (.slice none 0 0):=(blk_cell BK965.out 10).trans rfl;have hcz49_11:w41.cell? ⟨gb965,11,none⟩=some (.slice none 0 0):=(blk_cell BK965.out 11).trans rfl;have hcz49_12:w41.cell? ⟨gb965,12,none⟩=some (.int .i64 t963):=(blk_cell BK965.out 12).trans rfl;have hcz49_13:w41.cell? ⟨gb965,13,none⟩=some (.int .i64 t964):=(blk_cell BK965.out 13).trans rfl;have hfz49_0:=blk_frozen BK965.out 0;have hfz49_1:=blk_frozen BK965.out 1;have hfz49_2:=blk_frozen BK965.out 2;have hfz49_3:=blk_frozen BK965.out 3;have hfz49_4:=blk_frozen BK965.out 4;have hfz49_5:=blk_frozen BK965.out 5;have hfz49_6:=blk_frozen BK965.out 6;have hfz49_7:=blk_frozen BK965.out 7;have hfz49_8:=blk_frozen BK965.out 8;have hfz49_9:=blk_frozen BK965.out 9;have hfz49_10:=blk_frozen BK965.out 10;have hfz49_11:=blk_frozen BK965.out 11;have hfz49_12:=blk_frozen BK965.out 12;have hfz49_13:=blk_frozen BK965.out 13) | ((with_reducible refine gc_ 27 ?_);refine gl_ (some 46) Tryz.func27 #[.agg #[.int .i64 t996,.slice Ao45 t997.length co45,.slice Ao46 t1000.length co46,.slice Ao47 t1003.length co47,.int .i64 t1006,.int .i64 t1007,.int .i64 t1008,.slice Ao48 t1009.length co48,.slice none 0 0,.slice none 0 0,.slice none 0 0,.slice none 0 0,.int .i64 t1016,.int .i64 t1017],.agg #[.int .i64 t943,.slice Ao22 t944.length co22,.slice Ao23 t947.length co23,.slice Ao24 t950.length co24,.int .i64 t953,.int .i64 t954,.int .i64 t955,.slice Ao25 t956.length co25,.slice none 0 0,.slice none 0 0,.slice none 0 0,.slice none 0 0,.int .i64 t963,.int .i64 t964]] ?_;(with_reducible refine (Y42.calls k t996 _ _ t997 _ _ t1000 _ _ t1003 t1006 t1007 t1008 _ _ t1009 t1012 t1013 t1014 t1015 t1016 t1017 t943 _ _ t944 _ _ t947 _ _ t950 t953 t954 t955 _ _ t956 t959 t960 t961 t962 t963 t964 true _ ?s1 ?s2 ?s3 ?s4 ?s5 ?s6 ?s7 ?s8 ?s9 ?s10 ?s11 ?s12 ?s13 ?s14 ?s15 ?s16 A14.out).mono ?_);(case s1=>refine (Kd.R_reads' (e:=78) (base:=w.heap.size) (ok:=fun k_=>((True∧some k_≠(.slice Ao22 t944.length co22:Value).ownBlock)∧some k_≠(.slice Ao30 t967.length co30:Value).ownBlock)) (n:=t997.length) (c:=co45) ?_).2.2;exact (z14_ HO999.out BK1018.out));(case s2=>exact (Kd.R_reads' HO999.out).2.1);(case s3=>refine (Kd.R_reads' (e:=115) (base:=w.heap.size) (ok:=fun k_=>((True∧some k_≠(.slice Ao23 t947.length co23:Value).ownBlock)∧some k_≠(.slice Ao31 t970.length co31:Value).ownBlock)) (n:=t1000.length) (c:=co46) ?_).2.2;exact (z14_ HO1002.out BK1018.out));(case s4=>exact (Kd.R_reads' HO1002.out).2.1);(case s5=>refine (Kd.R_reads' (e:=2) (base:=w.heap.size) (ok:=fun k_=>((((some k_≠(.slice Ao48 t1009.length co48:Value).ownBlock∧some k_≠(.slice Ao24 t950.length co24:Value).ownBlock)∧some k_≠(.slice Ao25 t956.length co25:Value).ownBlock)∧some k_≠(.slice Ao32 t973.length co32:Value).ownBlock)∧some k_≠(.slice Ao33 t979.length co33:Value).ownBlock)) (n:=t1003.length) (c:=co47) ?_).2.2;exact (z14_ HO1005.out BK1018.out));(case s6=>exact (Kd.R_reads' HO1005.out).2.1);(case s7=>refine (Kd.R_reads' (e:=2) (base:=w.heap.size) (ok:=fun k_=>((((some k_≠(.slice Ao47 t1003.length co47:Value).ownBlock∧some k_≠(.slice Ao24 t950.length co24:Value).ownBlock)∧some k_≠(.slice Ao25 t956.length co25:Value).ownBlock)∧some k_≠(.slice Ao32 t973.length co32:Value).ownBlock)∧some k_≠(.slice Ao33 t979.length co33:Value).ownBlock)) (n:=t1009.length) (c:=co48) ?_).2.2;exact (z14_ HO1011.out BK1018.out));(case s8=>exact (Kd.R_reads' HO1011.out).2.1);(case s9=>refine (Kd.R_reads' (e:=78) (base:=w.heap.size) (ok:=fun k_=>(some k_≠(.slice Ao30 t967.length co30:Value).ownBlock∧some k_≠(.slice Ao45 t997.length co45:Value).ownBlock)) (n:=t944.length) (c:=co22) ?_).2.2;exact (z14_ HO946.out BK1018.out));(case s10=>exact (Kd.R_reads' HO946.out).2.1);(case s11=>refine (Kd.R_reads' (e:=115) (base:=w.heap.size) (ok:=fun k_=>(some k_≠(.slice Ao31 t970.length co31:Value).ownBlock∧some k_≠(.slice Ao46 t1000.length co46:Value).ownBlock)) (n:=t947.length) (c:=co23) ?_).2.2;exact (z14_ HO949.out BK1018.out));(case s12=>exact (Kd.R_reads' HO949.out).2.1);(case s13=>refine (Kd.R_reads' (e:=2) (base:=w.heap.size) (ok:=fun k_=>(((some k_≠(.slice Ao25 t956.length co25:Value).ownBlock∧(some k_≠(.slice Ao32 t973.length co32:Value).ownBlock∧some k_≠(.slice Ao33 t979.length co33:Value).ownBlock))∧some k_≠(.slice Ao47 t1003.length co47:Value).ownBlock)∧some k_≠(.slice Ao48 t1009.length co48:Value).ownBlock)) (n:=t950.length) (c:=co24) ?_).2.2;exact (z14_ HO952.out BK1018.out));(case s14=>exact (Kd.R_reads' HO952.out).2.1);(case s15=>refine (Kd.R_reads' (e:=2) (base:=w.heap.size) (ok:=fun k_=>(((some k_≠(.slice Ao24 t950.length co24:Value).ownBlock∧(some k_≠(.slice Ao32 t973.length co32:Value).ownBlock∧some k_≠(.slice Ao33 t979.length co33:Value).ownBlock))∧some k_≠(.slice Ao47 t1003.length co47:Value).ownBlock)∧some k_≠(.slice Ao48 t1009.length co48:Value).ownBlock)) (n:=t956.length) (c:=co25) ?_).2.2;exact (z14_ HO958.out BK1018.out));(case s16=>exact (Kd.R_reads' HO958.out).2.1);rintro e w50 ⟨rfl,hb⟩;refine ⟨_,rfl,?_⟩;have n0_:=aM (Kd.R_below (z14_ HO946.out BK1018.out) hb);have n1_:=aM (Kd.R_below (z14_ HO949.out BK1018.out) hb);have n2_:=aM (Kd.R_below (z14_ HO952.out BK1018.out) hb);have n3_:=aM (Kd.R_below (z14_ HO958.out BK1018.out) hb);have n4_:=aM (Kd.R_below (z14_ HO969.out BK1018.out) hb);have n5_:=aM (Kd.R_below (z14_ HO972.out BK1018.out) hb);have n6_:=aM (Kd.R_below (z14_ HO975.out BK1018.out) hb);have n7_:=aM (Kd.R_below (z14_ HO981.out BK1018.out) hb);have n8_:=aM (Kd.R_below (z14_ HO999.out BK1018.out) hb);have n9_:=aM (Kd.R_below (z14_ HO1002.out BK1018.out) hb);have n10_:=aM (Kd.R_below (z14_ HO1005.out BK1018.out) hb);have n11_:=aM (Kd.R_below (z14_ HO1011.out BK1018.out) hb);have n12_:=aM (blk_below (g:=gb965) (o:=.cells #[.int .i64 t943,.slice Ao22 t944.length co22,.slice Ao23 t947.length co23,.slice Ao24 t950.length co24,.int .i64 t953,.int .i64 t954,.int .i64 t955,.slice Ao25 t956.length co25,.slice none 0 0,.slice none 0 0,.slice none 0 0,.slice none 0 0,.int .i64 t963,.int .i64 t964] 58 (0,0)) (z40_ NB965_1018.out BK965.out) hb);have n13_:=aM (blk_below (g:=gb988) (o:=.cells #[.int .i64 t966,.slice Ao30 t967.length co30,.slice Ao31 t970.length co31,.slice Ao32 t973.length co32,.int .i64 t976,.int .i64 t977,.int .i64 t978,.slice Ao33 t979.length co33,.slice none 0 0,.slice none 0 0,.slice none 0 0,.slice none 0 0,.int .i64 t986,.int .i64 t987] 58 (0,0)) (z40_ NB988_1018.out BK988.out) hb);have n14_:=aM (blk_below (g:=gb1018) (o:=.cells #[.int .i64 t996,.slice Ao45 t997.length co45,.slice Ao46 t1000.length co46,.slice Ao47 t1003.length co47,.int .i64 t1006,.int .i64 t1007,.int .i64 t1008,.slice Ao48 t1009.length co48,.slice none 0 0,.slice none 0 0,.slice none 0 0,.slice none 0 0,.int .i64 t1016,.int .i64 t1017] 58 (0,0)) (by (with_reducible repeat (first | refine blk_drewN ?_ _ | refine blk_drew ?_ | refine blk_alloc ?_ _));refine blk_put (cs:=#[.int .i64 t996,.slice Ao45 t997.length co45,.slice Ao46 t1000.length co46,.slice Ao47 t1003.length co47,.int .i64 t1006,.int .i64 t1007,.int .i64 t1008,.slice Ao48 t1009.length co48,.slice none 0 0,.slice none 0 0,.slice none 0 0,.slice none 0 0,.int .i64 t1016,.int .i64 0]) ?_ 13 _ rfl;(with_reducible repeat (first | refine blk_drewN ?_ _ | refine blk_drew ?_ | refine blk_alloc ?_ _));refine blk_put (cs:=#[.int .i64 t996,.slice Ao45 t997.length co45,.slice Ao46 t1000.length co46,.slice Ao47 t1003.length co47,.int .i64 t1006,.int .i64 t1007,.int .i64 t1008,.slice Ao48 t1009.length co48,.slice none 0 0,.slice none 0 0,.slice none 0 0,.slice none 0 0,.int .i64 0,.int .i64 0]) ?_ 12 _ rfl;(with_reducible repeat (first | refine blk_drewN ?_ _ | refine blk_drew ?_ | refine blk_alloc ?_ _));refine blk_put (cs:=#[.int .i64 t996,.slice Ao45 t997.length co45,.slice Ao46 t1000.length co46,.slice Ao47 t1003.length co47,.int .i64 t1006,.int .i64 t1007,.int .i64 t1008,.slice Ao48 t1009.length co48,.slice none 0 0,.slice none 0 0,.slice none 0 0,.slice none 0 0,.int .i64 0,.int .i64 0]) ?_ 11 _ rfl;(with_reducible repeat (first | refine blk_drewN ?_ _ | refine blk_drew ?_ | refine blk_alloc ?_ _));refine blk_put (cs:=#[.int .i64 t996,.slice Ao45 t997.length co45,.slice Ao46 t1000.length co46,.slice Ao47 t1003.length co47,.int .i64 t1006,.int .i64 t1007,.int .i64 t1008,.slice Ao48 t1009.length co48,.slice none 0 0,.slice none 0 0,.slice none 0 0,.slice none 0 0,.int .i64 0,.int .i64 0]) ?_ 10 _ rfl;(with_reducible repeat (first | refine blk_drewN ?_ _ | refine blk_drew ?_ | refine blk_alloc ?_ _));refine blk_put (cs:=#[.int .i64 t996,.slice Ao45 t997.length co45,.slice Ao46 t1000.length co46,.slice Ao47 t1003.length co47,.int .i64 t1006,.int .i64 t1007,.int .i64 t1008,.slice Ao48 t1009.length co48,.slice none 0 0,.slice none 0 0,.slice none 0 0,.slice none 0 0,.int .i64 0,.int .i64 0]) ?_ 9 _ rfl;(with_reducible repeat (first | refine blk_drewN ?_ _ | refine blk_drew ?_ | refine blk_alloc ?_ _));refine blk_put (cs:=#[.int .i64 t996,.slice Ao45 t997.length co45,.slice Ao46 t1000.length co46,.slice Ao47 t1003.length co47,.int .i64 t1006,.int .i64 t1007,.int .i64 t1008,.slice Ao48 t1009.length co48,.slice none 0 0,.slice none 0 0,.slice none 0 0,.slice none 0 0,.int .i64 0,.int .i64 0]) ?_ 8 _ rfl;(with_reducible repeat (first | refine blk_drewN ?_ _ | refine blk_drew ?_ | refine blk_alloc ?_ _));refine blk_put (cs:=#[.int .i64 t996,.slice Ao45 t997.length co45,.slice Ao46 t1000.length co46,.slice Ao47 t1003.length co47,.int .i64 t1006,.int .i64 t1007,.int .i64 t1008,.slice none 0 0,.slice none 0 0,.slice none 0 0,.slice none 0 0,.slice none 0 0,.int .i64 0,.int .i64 0]) ?_ 7 _ rfl;(with_reducible repeat (first | refine blk_drewN ?_ _ | refine blk_drew ?_ | refine blk_alloc ?_ _));refine blk_put (cs:=#[.int .i64 t996,.slice Ao45 t997.length co45,.slice Ao46 t1000.length co46,.slice Ao47 t1003.length co47,.int .i64 t1006,.int .i64 t1007,.int .i64 0,.slice none 0 0,.slice none 0 0,.slice none 0 0,.slice none 0 0,.slice none 0 0,.int .i64 0,.int .i64 0]) ?_ 6 _ rfl;(with_reducible repeat (first | refine blk_drewN ?_ _ | refine blk_drew ?_ | refine blk_alloc ?_ _));refine blk_put (cs:=#[.int .i64 t996,.slice Ao45 t997.length co45,.slice Ao46 t1000.length co46,.slice Ao47 t1003.length co47,.int .i64 t1006,.int .i64 0,.int .i64 0,.slice none 0 0,.slice none 0 0,.slice none 0 0,.slice none 0 0,.slice none 0 0,.int .i64 0,.int .i64 0]) ?_ 5 _ rfl;(with_reducible repeat (first | refine blk_drewN ?_ _ | refine blk_drew ?_ | refine blk_alloc ?_ _));refine blk_put (cs:=#[.int .i64 t996,.slice Ao45 t997.length co45,.slice Ao46 t1000.length co46,.slice Ao47 t1003.length co47,.int .i64 0,.int .i64 0,.int .i64 0,.slice none 0 0,.slice none 0 0,.slice none 0 0,.slice none 0 0,.slice none 0 0,.int .i64 0,.int .i64 0]) ?_ 4 _ rfl;(with_reducible repeat (first | refine blk_drewN ?_ _ | refine blk_drew ?_ | refine blk_alloc ?_ _));refine blk_put (cs:=#[.int .i64 t996,.slice Ao45 t997.length co45,.slice Ao46 t1000.length co46,.slice none 0 0,.int .i64 0,.int .i64 0,.int .i64 0,.slice none 0 0,.slice none 0 0,.slice none 0 0,.slice none 0 0,.slice none 0 0,.int .i64 0,.int .i64 0]) ?_ 3 _ rfl;(with_reducible repeat (first | refine blk_drewN ?_ _ | refine blk_drew ?_ | refine blk_alloc ?_ _));refine blk_put (cs:=#[.int .i64 t996,.slice Ao45 t997.length co45,.slice none 0 0,.slice none 0 0,.int .i64 0,.int .i64 0,.int .i64 0,.slice none 0 0,.slice none 0 0,.slice none 0 0,.slice none 0 0,.slice none 0 0,.int .i64 0,.int .i64 0]) ?_ 2 _ rfl;(with_reducible repeat (first | refine blk_drewN ?_ _ | refine blk_drew ?_ | refine blk_alloc ?_ _));refine blk_put (cs:=#[.int .i64 t996,.slice none 0 0,.slice none 0 0,.slice none 0 0,.int .i64 0,.int .i64 0,.int .i64 0,.slice none 0 0,.slice none 0 0,.slice none 0 0,.slice none 0 0,.slice none 0 0,.int .i64 0,.int .i64 0]) ?_ 1 _ rfl;(with_reducible repeat (first | refine blk_drewN ?_ _ | refine blk_drew ?_ | refine blk_alloc ?_ _));refine blk_put (cs:=#[.int .i64 0,.slice none 0 0,.slice none 0 0,.slice none 0 0,.int .i64 0,.int .i64 0,.int .i64 0,.slice none 0 0,.slice none 0 0,.slice none 0 0,.slice none 0 0,.slice none 0 0,.int .i64 0,.int .i64 0]) ?_ 0 _ rfl;(with_reducible repeat (first | refine blk_drewN ?_ _ | refine blk_drew ?_ | refine blk_alloc ?_ _));exact BK1018.out) hb);have n15_:=aM (below_step (z12_ HB.out GE965.out GE988.out GE1018.out) hb);clear HO946;clear HO949;clear HO952;clear HO958;clear HO969;clear HO972;clear HO975;clear HO981;clear HO999;clear HO1002;clear HO1005;clear HO1011;clear BK965;clear BK988;clear BK1018;clear HB;have HO946:=n0_;have HO949:=n1_;have HO952:=n2_;have HO958:=n3_;have HO969:=n4_;have HO972:=n5_;have HO975:=n6_;have HO981:=n7_;have HO999:=n8_;have HO1002:=n9_;have HO1005:=n10_;have HO1011:=n11_;have BK965:=n12_;have BK988:=n13_;have BK1018:=n14_;have HB:=n15_;clear n0_ n1_ n2_ n3_ n4_ n5_ n6_ n7_ n8_ n9_ n10_ n11_ n12_ n13_ n14_ n15_;(try clear hb);(try clear hb2);(try clear hk);(try clear hi);have hcz51_0:w50.cell? ⟨gb988,0,none⟩=some (.int .i64 t966):=(blk_cell BK988.out 0).trans rfl;have hcz51_1:w50.cell? ⟨gb988,1,none⟩=some (.slice Ao30 t967.length co30):=(blk_cell BK988.out 1).trans rfl;have hcz51_2:w50.cell? ⟨gb988,2,none⟩=some (.slice Ao31 t970.length co31):=(blk_cell BK988.out 2).trans rfl;have hcz51_3:w50.cell? ⟨gb988,3,none⟩=some (.slice Ao32 t973.length co32):=(blk_cell BK988.out 3).trans rfl;have hcz51_4:w50.cell? ⟨gb988,4,none⟩=some (.int .i64 t976):=(blk_cell BK988.out 4).trans rfl;have hcz51_5:w50.cell? ⟨gb988,5,none⟩=some (.int .i64 t977):=(blk_cell BK988.out 5).trans rfl;have hcz51_6:w50.cell? ⟨gb988,6,none⟩=some (.int .i64 t978):=(blk_cell BK988.out 6).trans rfl;have hcz51_7:w50.cell? ⟨gb988,7,none⟩=some (.slice Ao33 t979.length co33):=(blk_cell BK988.out 7).trans rfl;have hcz51_8:w50.cell? ⟨gb988,8,none⟩=some (.slice none 0 0):=(blk_cell BK988.out 8).trans rfl;have hcz51_9:w50.cell? ⟨gb988,9,none⟩=some (.slice none 0 0):=(blk_cell BK988.out 9).trans rfl;have hcz51_10:w50.cell? ⟨gb988,10,none⟩=some (.slice none 0 0):=(blk_cell BK988.out 10).trans rfl;have hcz51_11:w50.cell? ⟨gb988,11,none⟩=some (.slice none 0 0):=(blk_cell BK988.out 11).trans rfl;have hcz51_12:w50.cell? ⟨gb988,12,none⟩=some (.int .i64 t986):=(blk_cell BK988.out 12).trans rfl;have hcz51_13:w50.cell? ⟨gb988,13,none⟩=some (.int .i64 t987):=(blk_cell BK988.out 13).trans rfl;have hfz51_0:=blk_frozen BK988.out 0;have hfz51_1:=blk_frozen BK988.out 1;have hfz51_2:=blk_frozen BK988.out 2;have hfz51_3:=blk_frozen BK988.out 3;have hfz51_4:=blk_frozen BK988.out 4;have hfz51_5:=blk_frozen BK988.out 5;have hfz51_6:=blk_frozen BK988.out 6;have hfz51_7:=blk_frozen BK988.out 7;have hfz51_8:=blk_frozen BK988.out 8;have hfz51_9:=blk_frozen BK988.out 9;have hfz51_10:=blk_frozen BK988.out 10;have hfz51_11:=blk_frozen BK988.out 11;have hfz51_12:=blk_frozen BK988.out 12;have hfz51_13:=blk_frozen BK988.out 13) | ((with_reducible refine gc_ 29 ?_);refine goesL_ (some 50) rfl rfl Tryz.func29 (by kernel_rfl) rfl #[.agg #[.int .i64 t966,.slice Ao30 t991.length co30,.slice Ao31 t992.length co31,.slice Ao32 t993.length co32,.int .i64 t976,.int .i64 t977,.int .i64 t978,.slice Ao33 t994.length co33,.slice none 0 0,.slice none 0 0,.slice none 0 0,.slice none 0 0,.int .i64 t986,.int .i64 t987],.int .i64 1] rfl (by (try simp only [List.map_toArray,List.map_cons,List.map_nil]);first | done | (rw [show t991.length=t967.length from (Kd.R_reads' HO969.out).1.symm,show t992.length=t970.length from (Kd.R_reads' HO972.out).1.symm,show t993.length=t973.length from (Kd.R_reads' HO975.out).1.symm,show t994.length=t979.length from (Kd.R_reads' HO981.out).1.symm] <;> rfl) | rfl | (simp only [List.length_drop,List.length_take];rfl)) ?_;(with_reducible refine (Y23.calls k t966 _ _ t991 _ _ t992 _ _ t993 t976 t977 t978 _ _ t994 t982 t983 t984 t985 t986 t987 1 t1020 _ ?s1 ?s2 ?s3 ?s4 ?s5 ?s6 ?s7 ?s8 A16.out).mono ?_);(case s1=>repeat (first | exact (Kd.R_reads' HO969.out).2.2 | (with_reducible refine Kd.C_alloc ?_ _) | (with_reducible refine Kd.C_drewN ?_ _) | (with_reducible refine Kd.C_drew ?_)));(case s2=>rw [show t991.length=t967.length from (Kd.R_reads' HO969.out).1.symm];exact (Kd.R_reads' HO969.out).2.1);(case s3=>repeat (first | exact (Kd.R_reads' HO972.out).2.2 | (with_reducible refine Kd.C_alloc ?_ _) | (with_reducible refine Kd.C_drewN ?_ _) | (with_reducible refine Kd.C_drew ?_)));(case s4=>rw [show t992.length=t970.length from (Kd.R_reads' HO972.out).1.symm];exact (Kd.R_reads' HO972.out).2.1);(case s5=>repeat (first | exact (Kd.R_reads' HO975.out).2.2 | (with_reducible refine Kd.C_alloc ?_ _) | (with_reducible refine Kd.C_drewN ?_ _) | (with_reducible refine Kd.C_drew ?_)));(case s6=>rw [show t993.length=t973.length from (Kd.R_reads' HO975.out).1.symm];exact (Kd.R_reads' HO975.out).2.1);(case s7=>repeat (first | exact (Kd.R_reads' HO981.out).2.2 | (with_reducible refine Kd.C_alloc ?_ _) | (with_reducible refine Kd.C_drewN ?_ _) | (with_reducible refine Kd.C_drew ?_)));(case s8=>rw [show t994.length=t979.length from (Kd.R_reads' HO981.out).1.symm];exact (Kd.R_reads' HO981.out).2.1);rintro e w52 ⟨rfl,hb⟩;refine ⟨_,rfl,?_⟩;have n0_:=aM (Kd.R_below (z0_ HO946.out) hb);have n1_:=aM (Kd.R_below (z0_ HO949.out) hb);have n2_:=aM (Kd.R_below (z0_ HO952.out) hb);have n3_:=aM (Kd.R_below (z0_ HO958.out) hb);have n4_:=aM (Kd.R_below (z0_ HO969.out) hb);have n5_:=aM (Kd.R_below (z0_ HO972.out) hb);have n6_:=aM (Kd.R_below (z0_ HO975.out) hb);have n7_:=aM (Kd.R_below (z0_ HO981.out) hb);have n8_:=aM (Kd.R_below (z0_ HO999.out) hb);have n9_:=aM (Kd.R_below (z0_ HO1002.out) hb);have n10_:=aM (Kd.R_below (z0_ HO1005.out) hb);have n11_:=aM (Kd.R_below (z0_ HO1011.out) hb);have n12_:=aM (blkB_ BK965.out hb);have n13_:=aM (blkB_ BK988.out hb);have n14_:=aM (blkB_ BK1018.out hb);have n15_:=aM (below_step (z12_ HB.out GE965.out GE988.out GE1018.out) hb);clear HO946;clear HO949;clear HO952;clear HO958;clear HO969;clear HO972;clear HO975;clear HO981;clear HO999;clear HO1002;clear HO1005;clear HO1011;clear BK965;clear BK988;clear BK1018;clear HB;have HO946:=n0_;have HO949:=n1_;have HO952:=n2_;have HO958:=n3_;have HO969:=n4_;have HO972:=n5_;have HO975:=n6_;have HO981:=n7_;have HO999:=n8_;have HO1002:=n9_;have HO1005:=n10_;have HO1011:=n11_;have BK965:=n12_;have BK988:=n13_;have BK1018:=n14_;have HB:=n15_;clear n0_ n1_ n2_ n3_ n4_ n5_ n6_ n7_ n8_ n9_ n10_ n11_ n12_ n13_ n14_ n15_;(try clear hb)))
       go_ret
       exact ⟨z10_,z12_ HB.out GE965.out GE988.out GE1018.out⟩
      ·rw [if_neg c18] at H
       exact nO H
    ·replace c15:=Bool.eq_false_iff.mpr c15
     subst c15
     have H1:(none)=some r:=by rw [if_neg (show ¬ (false=true) by decide)] at H;exact H
     clear H
     have H:=H1
     clear H1
     exact nO H
   ·rw [if_neg c12] at H
    exact nO H
 ·replace c8:=Bool.eq_false_iff.mpr c8
  subst c8
  have H1:(none)=some r:=by rw [if_neg (show ¬ (false=true) by decide)] at H;exact H
  clear H
  have H:=H1
  clear H1
  exact nO H

end Go.Proofs.YtelecnmflodkkaaGreatDoor.P

namespace Go.Proofs.YtelecnmflodkkaaGreatDoor.P
open Go.RowKit
def Y57.Pure:Prop:=∀ (x0:Int) (x1:Int) (x2:Int) (x3:Int),(Lit.int .i64 x0).wf=true→(Lit.int .i64 x1).wf=true→(Lit.int .i64 x2).wf=true→(Lit.int .i64 x3).wf=true→∃ k,Y57.f k x0 x1 x2 x3=some true
end Go.Proofs.YtelecnmflodkkaaGreatDoor.P

namespace Go.Proofs.YtelecnmflodkkaaGreatDoor.Q
open Go.RowKit Go.Proofs.YtelecnmflodkkaaGreatDoorW.PrintWords Go.Proofs.YtelecnmflodkkaaGreatDoorW.PrintMore

theorem w64 {x:Int} (h0 : -9223372036854775808≤x) (h1:x≤9223372036854775807):wrap64 x=x:=by unfold wrap64;omega
theorem evPos {α:Type} {c:Prop} [Decidable c] {f g:Nat→Option α} {r:α} (hc:c) (h:Ev f r):Ev (fun k=>if c then f k else g k) r:=by
  simp only [if_pos hc];exact h
theorem evNeg {α:Type} {c:Prop} [Decidable c] {f g:Nat→Option α} {r:α} (hc:¬ c) (h:Ev g r):Ev (fun k=>if c then f k else g k) r:=by
  simp only [if_neg hc];exact h
theorem evBind1 {α β:Type} {g:Option α} {f:Nat→α→Option β} {a:α} {r:β} (h:g=some a) (k:Ev (fun n=>f n a) r):Ev (fun n=>g.bind (f n)) r:=by
  subst h;exact k
theorem dropCons {α:Type} {l:List α} {i:Nat} {a:α} {s:List α} (h:l.drop i=a :: s) (d:α):i<l.length∧l.getD i d=a∧l.drop (i+1)=s:=by
  have hl:i<l.length:=by
    have:=congrArg List.length h
    simp at this;omega
  rw [List.drop_eq_getElem_cons hl] at h
  injection h with h1 h2
  exact ⟨hl,by rw [List.getD_eq_getElem?_getD,List.getElem?_eq_getElem hl];exact h1,h2⟩
theorem dropNil {α:Type} {l:List α} {i:Nat} (h:l.drop i=[]):l.length≤i:=by
  have:=congrArg List.length h
  simp at this;omega
theorem dropNil' {α:Type} {l:List α} {i:Nat} (h:l.drop i=[]) (hi:i≤l.length):l.length=i:=by
  have:=dropNil h;omega
theorem getD_mid {α:Type} (pre:List α) (m:α) (s:List α) (d:α):(pre ++ m :: s).getD pre.length d=m:=by
  rw [List.getD_eq_getElem?_getD,List.getElem?_append_right (Nat.le_refl _),Nat.sub_self];rfl
theorem set_mid {α:Type} (pre:List α) (m x:α) (s:List α):(pre ++ m :: s).set pre.length x=pre ++ x :: s:=by
  rw [List.set_append_right _ _ (Nat.le_refl _),Nat.sub_self];rfl
end Go.Proofs.YtelecnmflodkkaaGreatDoor.Q

namespace Go.Proofs.YtelecnmflodkkaaGreatDoor.Q
open Go.RowKit Go.Proofs.YtelecnmflodkkaaGreatDoor.P Go.Proofs.YtelecnmflodkkaaGreatDoorW.PrintWords Go.Proofs.YtelecnmflodkkaaGreatDoorW.PrintMore

def isWithin (n low high:Int):Bool:=decide (low≤n) && decide (n≤high)
def isNode (n:Int):Bool:=isWithin n 1 5
theorem l02Is_is (n a b:Int):Y48.f n a b=some (isWithin n a b):=by
  unfold Y48.f isWithin
  split
  · rename_i h;simp [show a≤n from h]
  · rename_i h;simp [show ¬ a≤n from h]
theorem l02Node_is (n:Int):Y73.f n=some (isNode n):=by simp [Y73.f,l02Is_is,isNode]
theorem within_is (n a b:Int):Y37.f n a b=some (isWithin n a b):=by
  unfold Y37.f isWithin
  split
  · rename_i h;simp [show a≤n from h]
  · rename_i h;simp [show ¬ a≤n from h]
theorem isNode_is (n:Int):Y76.f n=some (isNode n):=by simp [Y76.f,within_is,isNode]
theorem isNode_iff (n:Int):isNode n=true ↔ 1≤n∧n≤5:=by simp [isNode,isWithin]
end Go.Proofs.YtelecnmflodkkaaGreatDoor.Q

namespace Go.Proofs.YtelecnmflodkkaaGreatDoor.Q
open Go.RowKit Go.Proofs.YtelecnmflodkkaaGreatDoor.P Go.Proofs.YtelecnmflodkkaaGreatDoorW.PrintWords Go.Proofs.YtelecnmflodkkaaGreatDoorW.PrintMore

abbrev Tok:=S78
theorem eqToken_refl (a b:Int):Y79.f a b a b=some true:=by simp [Y79.f]
theorem eqTokenS_l0 (l:List Tok) (hl:l.length≤4611686018427387904):∀ (s:List Tok) (i:Nat),l.drop i=s→i≤l.length →
    Ev (fun k=>Y21.l0 k l l (i:Int)) true
  | [],i,h,hi=>by
    have:=dropNil' h hi
    refine Ev.step (f:=fun _=>some true) (fun k=>?_) (Ev.now _)
    simp only [Y21.l0]
    rw [if_neg (by omega)]
  | m :: s,i,h,hi=>by
    obtain ⟨h1,h2,h3⟩:=dropCons h z78
    refine Ev.step (fun k=>?_) (eqTokenS_l0 l hl s (i+1) h3 (by omega))
    simp only [Y21.l0,eqToken_refl,Option.bind_some]
    rw [if_pos (by omega),if_pos (by omega),if_pos (by omega),if_pos trivial,w64 (by omega) (by omega)]
    rfl
theorem eqTokenS_ev (l:List Tok) (hl:l.length≤4611686018427387904):Ev (fun k=>Y21.f k l l) true:=by
  unfold Y21.f
  exact evPos rfl (eqTokenS_l0 l hl l 0 rfl (by omega))
def tokL:Int→List Tok→List Tok
  | _,[]=>[]
  | n,_ :: r=>⟨n,n+1⟩ :: tokL (n+2) r
theorem markTokenS_l0 (N:Int) (hN:N≤1152921504606846976):∀ (s pre:List Tok) (n:Int),0≤n→n+2*(s.length:Int)≤N→(pre.length:Int)+s.length≤N →
    Ev (fun k=>Y28.l0 k (pre ++ s) n (pre.length:Int)) (n+2*(s.length:Int),pre ++ tokL n s)
  | [],pre,n,h0,h1,h2=>by
    refine Ev.step (f:=fun _=>some (n,pre)) (fun k=>?_) (by simp [tokL];exact Ev.now _)
    simp only [Y28.l0,List.append_nil]
    rw [if_neg (by omega)]
  | m :: s,pre,n,h0,h1,h2=>by
    simp only [List.length_cons] at h1 h2
    have ih:=markTokenS_l0 N hN s (pre ++ [⟨n,n+1⟩]) (n+2) (by omega) (by omega) (by simp;omega)
    simp only [List.length_append,List.length_cons,List.length_nil,List.append_assoc,List.cons_append,List.nil_append] at ih
    refine Ev.step (fun k=>?_) (show Ev _ (n+2*((m :: s).length:Int),pre ++ tokL n (m :: s)) from by
      simp only [tokL,List.length_cons]
      rw [show n+2*((s.length+1:Nat):Int)=n+2+2*(s.length:Int) from by omega]
      exact ih)
    simp only [Y28.l0,Option.bind_some,Int.toNat_natCast,rd_T78,set_mid,getD_mid]
    rw [if_pos (by simp;omega),if_pos (by omega),w64 (x:=n+1) (by omega) (by omega),w64 (x:=n+1+1) (by omega) (by omega),w64 (x:=(pre.length:Int)+1) (by omega) (by omega),show n+1+1=n+2 from by omega]
    rfl
theorem markTokenS_ev (s:List Tok) (n:Int) (h0:0≤n) (h1:n+2*(s.length:Int)≤1152921504606846976):Ev (fun k=>Y28.f k s n) (n+2*(s.length:Int),tokL n s) :=
  markTokenS_l0 1152921504606846976 (Int.le_refl _) s [] n h0 h1 (by simp;omega)
theorem heldTokenS_l0 (N:Int) (hN:N≤1152921504606846976):∀ (s pre:List Tok) (n:Int),0≤n→n+2*(s.length:Int)≤N→(pre.length:Int)+s.length≤N →
    Ev (fun k=>Y29.l0 k (pre ++ tokL n s) n (pre.length:Int)) (n+2*(s.length:Int))
  | [],pre,n,h0,h1,h2=>by
    refine Ev.step (f:=fun _=>some n) (fun k=>?_) (by simp;exact Ev.now _)
    simp only [Y29.l0,tokL,List.append_nil]
    rw [if_neg (by omega)]
  | m :: s,pre,n,h0,h1,h2=>by
    simp only [List.length_cons] at h1 h2
    have ih:=heldTokenS_l0 N hN s (pre ++ [⟨n,n+1⟩]) (n+2) (by omega) (by omega) (by simp;omega)
    simp only [List.length_append,List.length_cons,List.length_nil,List.append_assoc,List.cons_append,List.nil_append] at ih
    refine Ev.step (fun k=>?_) (show Ev _ (n+2*((m :: s).length:Int)) from by
      simp only [List.length_cons]
      rw [show n+2*((s.length+1:Nat):Int)=n+2+2*(s.length:Int) from by omega]
      exact ih)
    have hr:rd_T78 (pre ++ tokL n (m :: s)) (pre.length:Int)=⟨n,n+1⟩:=by simp only [rd_T78,Int.toNat_natCast,tokL,getD_mid]
    simp only [Y29.l0,hr]
    rw [if_pos (by simp [tokL];omega),if_pos (by omega),w64 (x:=n+1) (by omega) (by omega),if_pos trivial,if_pos rfl,w64 (x:=n+1+1) (by omega) (by omega),w64 (x:=(pre.length:Int)+1) (by omega) (by omega),show n+1+1=n+2 from by omega]
    rfl
theorem heldTokenS_ev (s:List Tok) (n:Int) (h0:0≤n) (h1:n+2*(s.length:Int)≤1152921504606846976):Ev (fun k=>Y29.f k (tokL n s) n) (n+2*(s.length:Int)) :=
  heldTokenS_l0 1152921504606846976 (Int.le_refl _) s [] n h0 h1 (by simp;omega)
theorem eqRing_ev (n:Int) (l:List Tok) (hl:l.length≤4611686018427387904):Ev (fun k=>Y77.f k n l n l) true :=
  evPos rfl (Ev.bind (eqTokenS_ev l hl) (evPos rfl (Ev.now _)))
theorem markRing_ev (N:Int) (l:List Tok) (n:Int) (h0:0≤n) (h1:n+2*(l.length:Int)≤1152921504606846976):Ev (fun k=>Y71.f k N l n) (n+2*(l.length:Int),tokL n l) :=
  Ev.bind (markTokenS_ev l n h0 h1) (Ev.now _)
theorem heldRing_ev (N:Int) (l:List Tok) (n:Int) (h0:0≤n) (h1:n+2*(l.length:Int)≤1152921504606846976):Ev (fun k=>Y72.f k N (tokL n l) n) (n+2*(l.length:Int)) :=
  Ev.bind (heldTokenS_ev l n h0 h1) (evNeg (by omega) (Ev.now _))
end Go.Proofs.YtelecnmflodkkaaGreatDoor.Q

namespace Go.Proofs.YtelecnmflodkkaaGreatDoor.P
open Go.RowKit Go.Proofs.YtelecnmflodkkaaGreatDoorW.PrintWords Go.Proofs.YtelecnmflodkkaaGreatDoorW.PrintLast Go.Proofs.YtelecnmflodkkaaGreatDoorW.PrintMore
attribute [local go_sem] max2_int min2_int max_two min_two max_three min_three max_four min_four   -- for this text's walks alone
set_option linter.unusedVariables false
set_option linter.unusedSimpArgs false

/-! ### Y68: function 13 -/
def Y68.j0:Nat→Int→Int→Bool→Option (Int × (List (S78)) × Int)
 | 0,_,_,_=>none
 | k+1,x0,x1,x12=>if x12=true then (some (0,([]:List (S78)),1)) else ((Y10.f k x0 x1).bind fun bt536=>(some (bt536.1,bt536.2,0)))
def Y68.f (k:Nat) (a0:Int) (a1:Int):Option (Int × (List (S78)) × Int):=(Y76.f a0).bind fun t534=>(if t534=true then ((Y37.f a1 1 8).bind fun t535=>(Y68.j0 k a0 a1 (!t535))) else (Y68.j0 k a0 a1 true))
theorem Y68.mono_l:∀ k,(∀ y0 y1 y2,LeO (Y68.j0 k y0 y1 y2) (Y68.j0 (k+1) y0 y1 y2))
 | 0=>by intros <;> exact LeO.none _
 | k+1=>by
  have ih0:=Y68.mono_l k
  have m0:=@Y10.mono
  ·intros
   unfold Y68.j0
   exact mO
theorem Y68.mono:∀ a0 a1 k,LeO (Y68.f k a0 a1) (Y68.f (k+1) a0 a1):=by
 intro a0 a1 k
 have m0:=@Y10.mono
 have ih0:=Y68.mono_l k
 unfold Y68.f
 exact mO

/-! ### Y69: function 14 -/
def Y69.j0:Nat→Int→Int→Bool→Option (Int × (List (S78)) × Int)
 | 0,_,_,_=>none
 | k+1,x0,x1,x12=>if x12=true then (some (0,([]:List (S78)),1)) else ((Y9.f k x0 x1).bind fun bt544=>(some (bt544.1,bt544.2,0)))
def Y69.f (k:Nat) (a0:Int) (a1:Int):Option (Int × (List (S78)) × Int):=(Y73.f a0).bind fun t542=>(if t542=true then ((Y48.f a1 1 8).bind fun t543=>(Y69.j0 k a0 a1 (!t543))) else (Y69.j0 k a0 a1 true))
theorem Y69.mono_l:∀ k,(∀ y0 y1 y2,LeO (Y69.j0 k y0 y1 y2) (Y69.j0 (k+1) y0 y1 y2))
 | 0=>by intros <;> exact LeO.none _
 | k+1=>by
  have ih0:=Y69.mono_l k
  have m0:=@Y9.mono
  ·intros
   unfold Y69.j0
   exact mO
theorem Y69.mono:∀ a0 a1 k,LeO (Y69.f k a0 a1) (Y69.f (k+1) a0 a1):=by
 intro a0 a1 k
 have m0:=@Y9.mono
 have ih0:=Y69.mono_l k
 unfold Y69.f
 exact mO

theorem eqA78 (d:Nat) (w:World) (x0 y0:Int) (x1 y1:Int) :
  (Op.equalIn (d+2) 78 (.agg #[.int .i64 x0,.int .i64 x1]) (.agg #[.int .i64 y0,.int .i64 y1])).run Tryz.prog w = .ok (x0 == y0 && (x1 == y1)) w:=by
 refine eqA_of Tryz.underlying78 (by kernel_rfl) ?_
 refine eqf_cons (by rfl) (by go_simp;rfl) (by go_simp;rfl) (by go_simp) ?_
 exact eqf_last (by rfl) (by go_simp;rfl) (by go_simp;rfl) (by go_simp)

attribute [local go_sem high] eqA78
/-! ### Y50: function 23 -/
mutual
def Y50.j0:Nat→Bool→Int→List (S78)→Option (Bool)
 | 0,_,_,_=>none
 | k+1,x32,x551000,x551001=>if x32=true then (some false) else (if x551000=0 then (none) else ((Y9.f k x551000 (wrap64 ((x551001.length:Int) / x551000))).bind fun bt552=>(Y50.l0 k 0 x551000 x551001 bt552.1 bt552.2)))
def Y50.l0:Nat→Int→Int→List (S78)→Int→List (S78)→Option (Bool)
 | 0,_,_,_,_,_=>none
 | k+1,x4,x551000,x551001,x557000,x557001=>if x4<(x551001.length:Int) then (if 0≤x4 then (if x4<(x557001.length:Int) then (if (!(((rd_T78 x551001 x4).f0) == ((rd_T78 x557001 x4).f0)) || (!(((rd_T78 x551001 x4).f1) == ((rd_T78 x557001 x4).f1))))=true then (some false) else (Y50.l0 k (wrap64 (x4+1)) x551000 x551001 x557000 x557001)) else (none)) else (none)) else (some true)
end
def Y50.f (k:Nat) (a0_0:Int) (l0_1:List (S78)):Option (Bool):=(Y73.f a0_0).bind fun t551=>(if t551=true then (if (l0_1.length:Int)<1 then (Y50.j0 k true a0_0 l0_1) else (if (l0_1.length:Int)>(wrap64 (8*a0_0)) then (Y50.j0 k true a0_0 l0_1) else (if a0_0=0 then (none) else (Y50.j0 k (((l0_1.length:Int) % a0_0) != 0) a0_0 l0_1)))) else (Y50.j0 k true a0_0 l0_1))
theorem Y50.mono_l:∀ k,(∀ y0 y1 y2,LeO (Y50.j0 k y0 y1 y2) (Y50.j0 (k+1) y0 y1 y2))∧(∀ y0 y1 y2 y3 y4,LeO (Y50.l0 k y0 y1 y2 y3 y4) (Y50.l0 (k+1) y0 y1 y2 y3 y4))
 | 0=>by refine ⟨?_,?_⟩ <;> intros <;> exact LeO.none _
 | k+1=>by
  obtain ⟨ih0,ih1⟩:=Y50.mono_l k
  have m0:=@Y9.mono
  refine ⟨?_,?_⟩
  ·intros
   unfold Y50.j0
   exact mO
  ·intros
   unfold Y50.l0
   exact mO
theorem Y50.mono:∀ a0 a1 k,LeO (Y50.f k a0 a1) (Y50.f (k+1) a0 a1):=by
 intro a0 a1 k
 have m0:=@Y9.mono
 obtain ⟨ih0,ih1⟩:=Y50.mono_l k
 unfold Y50.f
 exact mO

attribute [local go_sem high] eqA78
/-! ### Y13: function 56 -/
def Y13.l0:Nat→List (S78)→List (S78)→Int→Int→Option (Bool)
 | 0,_,_,_,_=>none
 | k+1,x0,x1,x12,x13=>if x13<x12 then (if 0≤x13 then (if x13<(x0.length:Int) then (if x13<(x1.length:Int) then (if (!(((rd_T78 x0 x13).f0) == ((rd_T78 x1 x13).f0)) || (!(((rd_T78 x0 x13).f1) == ((rd_T78 x1 x13).f1))))=true then (some false) else (Y13.l0 k x0 x1 x12 (wrap64 (x13+1)))) else (none)) else (none)) else (none)) else (some true)
def Y13.f (k:Nat) (l0:List (S78)) (l1:List (S78)):Option (Bool):=if (l0.length:Int)=(l1.length:Int) then (Y13.l0 k l0 l1 (l0.length:Int) 0) else (some false)
theorem Y13.mono_l:∀ k,(∀ y0 y1 y2 y3,LeO (Y13.l0 k y0 y1 y2 y3) (Y13.l0 (k+1) y0 y1 y2 y3))
 | 0=>by intros <;> exact LeO.none _
 | k+1=>by
  have ih0:=Y13.mono_l k
  ·intros
   unfold Y13.l0
   exact mO
theorem Y13.mono:∀ a0 a1 k,LeO (Y13.f k a0 a1) (Y13.f (k+1) a0 a1):=by
 intro a0 a1 k
 have ih0:=Y13.mono_l k
 unfold Y13.f
 exact mO

/-! ### Y59: function 22 -/
def Y59.f (k:Nat) (a0_0:Int) (l0_1:List (S78)):Option (Bool):=(Y76.f a0_0).bind fun t335=>(if t335=true then (if a0_0=0 then (none) else ((Y37.f (wrap64 ((l0_1.length:Int) / a0_0)) 1 8).bind fun t336=>(if t336=true then ((Y10.f k a0_0 (wrap64 ((l0_1.length:Int) / a0_0))).bind fun bt337=>((Y13.f k l0_1 bt337.2).bind fun t341=>(some t341))) else (some false)))) else (some false))
theorem Y59.mono:∀ a0 a1 k,LeO (Y59.f k a0 a1) (Y59.f (k+1) a0 a1):=by
 intro a0 a1 k
 have m0:=@Y10.mono
 have m1:=@Y13.mono
 unfold Y59.f
 exact mO
abbrev Y59.q0:Array Bool:=#[O,O,O,O,O,O,O,O,O,O,O,O,O]
abbrev Y59.q1:Array Bool:=#[I,O,O,O,O,O,O,O,O,O,O,O,O]
abbrev Y59.q2:Array Bool:=#[I,I,O,O,O,O,O,O,O,O,O,O,O]
abbrev Y59.q3:Array Bool:=#[I,I,I,O,O,O,O,O,O,O,O,O,O]
abbrev Y59.q4:Array Bool:=#[I,I,I,I,O,O,O,O,O,O,O,O,O]
abbrev Y59.q5:Array Bool:=#[I,I,I,I,I,I,I,I,O,O,O,O,O]
abbrev Y59.q6:Array Bool:=#[I,I,I,I,I,I,I,I,I,O,O,O,O]
abbrev Y59.q8:Array Bool:=#[I,I,I,I,I,I,I,I,I,I,I,O,O]
abbrev Y59.q9:Array Bool:=#[I,I,I,I,I,I,I,I,I,I,I,I,O]
abbrev Y59.q10:Array Bool:=#[I,I,I,I,I,I,I,I,I,I,I,I,I]
end Go.Proofs.YtelecnmflodkkaaGreatDoor.P

namespace Go.Proofs.YtelecnmflodkkaaGreatDoor.Q
open Go.RowKit Go.Proofs.YtelecnmflodkkaaGreatDoor.P Go.Proofs.YtelecnmflodkkaaGreatDoorW.PrintWords Go.Proofs.YtelecnmflodkkaaGreatDoorW.PrintMore

theorem evMono {α:Type} {g:Nat→Option α} {r:α} (hm:∀ k,LeO (g k) (g (k+1))) (K:Nat) (h:g K=some r):Ev g r:=⟨K,fun k hk=>by
  obtain ⟨d,rfl⟩:=Nat.exists_eq_add_of_le hk
  induction d with
  | zero=>exact h
  | succ d ih=>exact hm _ _ (ih (by omega))⟩
def eqToks:List Tok→List Tok→Bool
  | [],[]=>true
  | x :: a,y :: b=>(x.f0 == y.f0 && x.f1 == y.f1) && eqToks a b
  | _,_=>false
theorem eqToks_eq:∀ a b:List Tok,eqToks a b=true→a=b
  | [],[],_=>rfl
  | x :: a,y :: b,h=>by
    simp only [eqToks,Bool.and_eq_true,beq_iff_eq] at h
    obtain ⟨⟨h1,h2⟩,h3⟩:=h
    obtain ⟨x0,x1⟩:=x
    obtain ⟨y0,y1⟩:=y
    simp only at h1 h2
    rw [h1,h2,eqToks_eq a b h3]
  | [],_ :: _,h=>by simp [eqToks] at h
  | _ :: _,[],h=>by simp [eqToks] at h
def ringRounds:Nat:=3000
def ringT (n e:Int):List Tok:=match Y9.f ringRounds n e with
  | some x=>x.2
  | none=>[]
def ringTest (n e:Nat):Bool:=match Y10.f ringRounds (n:Int) (e:Int),Y9.f ringRounds (n:Int) (e:Int) with
  | some x,some y=>x.1 == (n:Int) && (y.1 == (n:Int) && (eqToks x.2 y.2 && y.2.length == n*e))
  | _,_=>false
set_option maxRecDepth 1000000 in
theorem ring_all:(List.range 40).all (fun j=>ringTest (j / 8+1) (j % 8+1))=true:=by kernel_rfl
theorem ring_is {n e:Int} (hn:isNode n=true) (he:isWithin e 1 8=true) :
    Ev (fun k=>Y10.f k n e) (n,ringT n e)∧Ev (fun k=>Y9.f k n e) (n,ringT n e)∧((ringT n e).length:Int)=n*e:=by
  rw [isNode_iff] at hn
  simp only [isWithin,Bool.and_eq_true,decide_eq_true_eq] at he
  obtain ⟨n,rfl⟩:=Int.eq_ofNat_of_zero_le (show 0≤n by omega)
  obtain ⟨e,rfl⟩:=Int.eq_ofNat_of_zero_le (show 0≤e by omega)
  have h:=List.all_eq_true.1 ring_all ((n-1)*8+(e-1)) (List.mem_range.2 (by omega))
  rw [show ((n-1)*8+(e-1)) / 8+1=n by omega,show ((n-1)*8+(e-1)) % 8+1=e by omega] at h
  unfold ringTest at h
  split at h
  · rename_i x y hx hy
    simp only [Bool.and_eq_true,beq_iff_eq] at h
    obtain ⟨h1,h2,h3,h4⟩:=h
    have h5:=eqToks_eq _ _ h3
    have ht:ringT (n:Int) (e:Int)=y.2:=by unfold ringT;rw [hy]
    obtain ⟨x1,x2⟩:=x
    obtain ⟨y1,y2⟩:=y
    simp only at h1 h2 h4 h5 ht
    clear h3
    subst h1
    subst h2
    subst h5
    rw [ht]
    refine ⟨evMono (fun k=>Y10.mono _ _ k) ringRounds hx,evMono (fun k=>Y9.mono _ _ k) ringRounds hy,?_⟩
    rw [h4]
    simp
  · cases h
theorem ringT_length {n e:Int} (hn:isNode n=true) (he:isWithin e 1 8=true):(ringT n e).length≤40:=by
  have h:=(ring_is hn he).2.2
  rw [isNode_iff] at hn
  simp only [isWithin,Bool.and_eq_true,decide_eq_true_eq] at he
  have h1:n*e≤5*8:=by
    have a:=Int.mul_le_mul_of_nonneg_right (show n≤5 by omega) (show 0≤e by omega)
    have b:=Int.mul_le_mul_of_nonneg_left (show e≤8 by omega) (show (0:Int)≤5 by omega)
    omega
  omega
end Go.Proofs.YtelecnmflodkkaaGreatDoor.Q

namespace Go.Proofs.YtelecnmflodkkaaGreatDoor.Q
open Go.RowKit Go.Proofs.YtelecnmflodkkaaGreatDoor.P Go.Proofs.YtelecnmflodkkaaGreatDoorW.PrintWords Go.Proofs.YtelecnmflodkkaaGreatDoorW.PrintMore

theorem eqInt64S_l0 (l:List Int) (hl:l.length≤4611686018427387904):∀ (s:List Int) (i:Nat),l.drop i=s→i≤l.length →
    Ev (fun k=>Y22.l0 k l l (i:Int)) true
  | [],i,h,hi=>by
    have:=dropNil' h hi
    refine Ev.step (f:=fun _=>some true) (fun k=>?_) (Ev.now _)
    simp only [Y22.l0]
    rw [if_neg (by omega)]
  | m :: s,i,h,hi=>by
    obtain ⟨h1,h2,h3⟩:=dropCons h 0
    refine Ev.step (fun k=>?_) (eqInt64S_l0 l hl s (i+1) h3 (by omega))
    simp only [Y22.l0]
    rw [if_pos (by omega),if_pos (by omega),if_pos (by omega),if_pos trivial,w64 (by omega) (by omega)]
    rfl
theorem eqInt64S_ev (l:List Int) (hl:l.length≤4611686018427387904):Ev (fun k=>Y22.f k l l) true:=by
  unfold Y22.f
  exact evPos rfl (eqInt64S_l0 l hl l 0 rfl (by omega))
theorem getDi_mid (pre:List Int) (m:Int) (s:List Int):(pre ++ m :: s).getD pre.length 0=m:=by
  rw [List.getD_eq_getElem?_getD,List.getElem?_append_right (Nat.le_refl _),Nat.sub_self];rfl
theorem seti_mid (pre:List Int) (m x:Int) (s:List Int):(pre ++ m :: s).set pre.length x=pre ++ x :: s:=by
  rw [List.set_append_right _ _ (Nat.le_refl _),Nat.sub_self];rfl
def markI:Int→List Int→List Int
  | _,[]=>[]
  | n,_ :: r=>n :: markI (n+1) r
theorem markInt64S_l0 (N:Int) (hN:N≤1152921504606846976):∀ (s pre:List Int) (n:Int),0≤n→n+(s.length:Int)≤N→(pre.length:Int)+s.length≤N →
    Ev (fun k=>Y17.l0 k (pre ++ s) n (pre.length:Int)) (n+(s.length:Int),pre ++ markI n s)
  | [],pre,n,h0,h1,h2=>by
    refine Ev.step (f:=fun _=>some (n,pre)) (fun k=>?_) (by simp [markI];exact Ev.now _)
    simp only [Y17.l0,List.append_nil]
    rw [if_neg (by omega)]
  | m :: s,pre,n,h0,h1,h2=>by
    simp only [List.length_cons] at h1 h2
    have ih:=markInt64S_l0 N hN s (pre ++ [n]) (n+1) (by omega) (by omega) (by simp;omega)
    simp only [List.length_append,List.length_cons,List.length_nil,List.append_assoc,List.cons_append,List.nil_append] at ih
    refine Ev.step (fun k=>?_) (show Ev _ (n+((m :: s).length:Int),pre ++ markI n (m :: s)) from by
      simp only [markI,List.length_cons]
      rw [show n+((s.length+1:Nat):Int)=n+1+(s.length:Int) from by omega]
      exact ih)
    simp only [Y17.l0,Int.toNat_natCast,seti_mid]
    rw [if_pos (by simp;omega),if_pos (by omega),w64 (x:=n+1) (by omega) (by omega),w64 (x:=(pre.length:Int)+1) (by omega) (by omega)]
    rfl
theorem markInt64S_ev (s:List Int) (n:Int) (h0:0≤n) (h1:n+(s.length:Int)≤1152921504606846976):Ev (fun k=>Y17.f k s n) (n+(s.length:Int),markI n s) :=
  markInt64S_l0 1152921504606846976 (Int.le_refl _) s [] n h0 h1 (by simp;omega)
theorem heldInt64S_l0 (N:Int) (hN:N≤1152921504606846976):∀ (s pre:List Int) (n:Int),0≤n→n+(s.length:Int)≤N→(pre.length:Int)+s.length≤N →
    Ev (fun k=>Y20.l0 k (pre ++ markI n s) n (pre.length:Int)) (n+(s.length:Int))
  | [],pre,n,h0,h1,h2=>by
    refine Ev.step (f:=fun _=>some n) (fun k=>?_) (by simp;exact Ev.now _)
    simp only [Y20.l0,markI,List.append_nil]
    rw [if_neg (by omega)]
  | m :: s,pre,n,h0,h1,h2=>by
    simp only [List.length_cons] at h1 h2
    have ih:=heldInt64S_l0 N hN s (pre ++ [n]) (n+1) (by omega) (by omega) (by simp;omega)
    simp only [List.length_append,List.length_cons,List.length_nil,List.append_assoc,List.cons_append,List.nil_append] at ih
    refine Ev.step (fun k=>?_) (show Ev _ (n+((m :: s).length:Int)) from by
      simp only [List.length_cons]
      rw [show n+((s.length+1:Nat):Int)=n+1+(s.length:Int) from by omega]
      exact ih)
    have hr:rd (pre ++ markI n (m :: s)) (pre.length:Int)=n:=by simp only [rd,Int.toNat_natCast,markI,getDi_mid]
    simp only [Y20.l0,hr]
    rw [if_pos (by simp [markI];omega),if_pos (by omega),if_pos trivial,w64 (x:=n+1) (by omega) (by omega),w64 (x:=(pre.length:Int)+1) (by omega) (by omega)]
    rfl
theorem heldInt64S_ev (s:List Int) (n:Int) (h0:0≤n) (h1:n+(s.length:Int)≤1152921504606846976):Ev (fun k=>Y20.f k (markI n s) n) (n+(s.length:Int)) :=
  heldInt64S_l0 1152921504606846976 (Int.le_refl _) s [] n h0 h1 (by simp;omega)
end Go.Proofs.YtelecnmflodkkaaGreatDoor.Q

namespace Go.Proofs.YtelecnmflodkkaaGreatDoor.Q
open Go.RowKit Go.Proofs.YtelecnmflodkkaaGreatDoor.P Go.Proofs.YtelecnmflodkkaaGreatDoorW.PrintWords Go.Proofs.YtelecnmflodkkaaGreatDoorW.PrintMore

theorem mText_l0:∀ (m:Nat) (n:Int),n.toNat≤m→0≤n→∀ t:ByteArray,(t.size:Int)+n+1≤9223372036854775807→∃ r,Ev (fun k=>Y16.l0 k n t) r
  | 0,n,hm,h0,t,ht=>by
    refine ⟨(⟨#[109]⟩:ByteArray) ++ t,Ev.step (f:=fun _=>some ((⟨#[109]⟩:ByteArray) ++ t)) (fun k=>?_) (Ev.now _)⟩
    simp only [Y16.l0]
    rw [if_neg (by omega),if_pos (by omega)]
  | m+1,n,hm,h0,t,ht=>by
    by_cases hn:n>0
    · have hs:(strOfNums [(wrap64 (48+(Int.tmod n 10))) % 256]).size=1:=rfl
      have e:Int.tdiv n 10=n / 10:=Int.tdiv_eq_ediv_of_nonneg h0
      obtain ⟨r,hr⟩:=mText_l0 m (n / 10) (by omega) (by omega) (strOfNums [(wrap64 (48+(Int.tmod n 10))) % 256] ++ t) (by rw [ByteArray.size_append,hs];omega)
      refine ⟨r,Ev.step (fun k=>?_) hr⟩
      simp only [Y16.l0,Option.bind_some]
      rw [if_pos hn,if_pos (by rw [hs];omega),e,w64 (x:=n / 10) (by omega) (by omega)]
    · refine ⟨(⟨#[109]⟩:ByteArray) ++ t,Ev.step (f:=fun _=>some ((⟨#[109]⟩:ByteArray) ++ t)) (fun k=>?_) (Ev.now _)⟩
      simp only [Y16.l0]
      rw [if_neg hn,if_pos (by omega)]
theorem mText_is (n:Int) (h1:n≤1152921504606846976):∃ r,Ev (fun k=>Y16.f k n) r:=by
  unfold Y16.f
  by_cases h:n≤0
  · exact ⟨_,evPos h (Ev.now _)⟩
  · obtain ⟨r,hr⟩:=mText_l0 n.toNat n (by omega) (by omega) ⟨#[]⟩ (by show (0:Int)+n+1≤_;omega)
    exact ⟨r,evNeg h hr⟩
open Classical in
noncomputable def mT (n:Int):ByteArray:=if h:∃ r,Ev (fun k=>Y16.f k n) r then h.choose else ⟨#[]⟩
theorem mT_ev (n:Int) (h1:n≤1152921504606846976):Ev (fun k=>Y16.f k n) (mT n):=by
  have h:=mText_is n h1
  unfold mT
  rw [dif_pos h]
  exact h.choose_spec
end Go.Proofs.YtelecnmflodkkaaGreatDoor.Q

namespace Go.Proofs.YtelecnmflodkkaaGreatDoor.Q
open Go.RowKit Go.Proofs.YtelecnmflodkkaaGreatDoor.P Go.Proofs.YtelecnmflodkkaaGreatDoorW.PrintWords Go.Proofs.YtelecnmflodkkaaGreatDoorW.PrintMore

abbrev Sto:=S115
def bare (l:List Sto):Prop:=∀ x ∈ l,x.f1=0
def stores:Int→Nat→List Sto
  | _,0=>[]
  | i,d+1=>⟨i,0,⟨#[]⟩,0⟩ :: stores (i+1) d
theorem stores_bare:∀ (d:Nat) (i:Int),bare (stores i d)
  | 0,_,x,h=>by cases h
  | d+1,i,x,h=>by
    rcases List.mem_cons.1 h with rfl | h
    · rfl
    · exact stores_bare d (i+1) x h
theorem stores_length:∀ (d:Nat) (i:Int),(stores i d).length=d
  | 0,_=>rfl
  | d+1,i=>by simp only [stores,List.length_cons,stores_length d (i+1)]
theorem implCl_l0 (n R:Int) (L:List Tok) (a b c:Int) (hn:n≤5):∀ (d:Nat) (i:Int) (acc:List Sto),i+d=n+1→1≤i→(acc.length:Int)<i →
    Ev (fun k=>Y8.l0 k n i R L acc a b c) (R,L,acc ++ stores i d,[],a,b,c,0,0,0)
  | 0,i,acc,h,h1,h2=>by
    refine Ev.step (f:=fun _=>some (R,L,acc,[],a,b,c,0,0,0)) (fun k=>?_) (by simp only [stores,List.append_nil];exact Ev.now _)
    simp only [Y8.l0]
    rw [if_neg (by omega)]
  | d+1,i,acc,h,h1,h2=>by
    have ih:=implCl_l0 n R L a b c hn d (i+1) (acc ++ [⟨i,0,⟨#[]⟩,0⟩]) (by omega) (by omega) (by simp;omega)
    rw [List.append_assoc,List.singleton_append] at ih
    refine Ev.step (fun k=>?_) ih
    simp only [Y8.l0]
    rw [if_pos (by omega),if_pos (by omega),w64 (by omega) (by omega)]
theorem specCl_l0 (n R:Int) (L:List Tok) (a b c:Int) (hn:n≤5):∀ (d:Nat) (i:Int) (acc:List Sto),i+d=n+1→1≤i→(acc.length:Int)<i →
    Ev (fun k=>Y7.l0 k n i R L acc a b c) (R,L,acc ++ stores i d,[],a,b,c,0,0,0)
  | 0,i,acc,h,h1,h2=>by
    refine Ev.step (f:=fun _=>some (R,L,acc,[],a,b,c,0,0,0)) (fun k=>?_) (by simp only [stores,List.append_nil];exact Ev.now _)
    simp only [Y7.l0]
    rw [if_neg (by omega)]
  | d+1,i,acc,h,h1,h2=>by
    have ih:=specCl_l0 n R L a b c hn d (i+1) (acc ++ [⟨i,0,⟨#[]⟩,0⟩]) (by omega) (by omega) (by simp;omega)
    rw [List.append_assoc,List.singleton_append] at ih
    refine Ev.step (fun k=>?_) ih
    simp only [Y7.l0]
    rw [if_pos (by omega),if_pos (by omega),w64 (by omega) (by omega)]
def clOk (n a b c:Int):Bool:=isNode n && (isWithin a 1 n && (isWithin b 1 a && isWithin c 1 a))
def clRing (n a b c:Int):Int:=if clOk n a b c=true then n else 0
def clToks (n a b c:Int):List Tok:=if clOk n a b c=true then ringT n 4 else []
def clStores (n a b c:Int):List Sto:=if clOk n a b c=true then stores 1 n.toNat else []
def clA (n a b c:Int):Int:=if clOk n a b c=true then a else 0
def clB (n a b c:Int):Int:=if clOk n a b c=true then b else 0
def clC (n a b c:Int):Int:=if clOk n a b c=true then c else 0
def clCode (n a b c:Int):Int:=if clOk n a b c=true then 0 else 1
theorem cl_small (n a b c:Int):(clToks n a b c).length≤40∧(clStores n a b c).length≤5∧bare (clStores n a b c):=by
  unfold clToks clStores
  cases h:clOk n a b c with
  | false=>exact ⟨by simp,by simp,fun x h=>by cases h⟩
  | true =>
    simp only [clOk,Bool.and_eq_true] at h
    have h1:=(isNode_iff n).1 h.1
    rw [if_pos rfl,if_pos rfl,stores_length]
    exact ⟨ringT_length h.1 (by decide),by omega,stores_bare _ _⟩
theorem impl_ClusterNew_ev (n a b c:Int):Ev (fun k=>Y8.f k n a b c) (clRing n a b c,clToks n a b c,clStores n a b c,[],clA n a b c,clB n a b c,clC n a b c,0,0,clCode n a b c):=by
  unfold Y8.f clRing clToks clStores clA clB clC clCode clOk
  have jT:Ev (fun k=>Y8.j0 k n a b c true) (0,[],[],[],0,0,0,0,0,1):=Ev.step (f:=fun _=>some (0,[],[],[],0,0,0,0,0,1)) (fun k=>by simp [Y8.j0]) (Ev.now _)
  refine evBind1 (isNode_is _) ?_
  cases hn:isNode n with
  | false=>exact evNeg (by simp) jT
  | true =>
    have hn':=(isNode_iff n).1 hn
    refine evPos rfl (evBind1 (within_is _ _ _) ?_)
    cases h1:isWithin a 1 n with
    | false=>exact evNeg (by simp) jT
    | true =>
      refine evPos rfl (evBind1 (within_is _ _ _) ?_)
      cases h2:isWithin b 1 a with
      | false=>exact evNeg (by simp) jT
      | true =>
        refine evPos rfl (evBind1 (within_is _ _ _) ?_)
        cases h3:isWithin c 1 a with
        | false=>exact jT
        | true =>
          refine Ev.step (fun k=>by simp only [Y8.j0];rw [if_neg (by simp)]) (Ev.bind (ring_is hn (show isWithin 4 1 8=true by decide)).1 ?_)
          have:=implCl_l0 n n (ringT n 4) a b c (by omega) n.toNat 1 [] (by omega) (by omega) (by simp)
          rw [List.nil_append] at this
          exact this
theorem spec_ClusterNew_ev (n a b c:Int):Ev (fun k=>Y7.f k n a b c) (clRing n a b c,clToks n a b c,clStores n a b c,[],clA n a b c,clB n a b c,clC n a b c,0,0,clCode n a b c):=by
  unfold Y7.f clRing clToks clStores clA clB clC clCode clOk
  have jT:Ev (fun k=>Y7.j0 k n a b c true) (0,[],[],[],0,0,0,0,0,1):=Ev.step (f:=fun _=>some (0,[],[],[],0,0,0,0,0,1)) (fun k=>by simp [Y7.j0,Y81.f]) (Ev.now _)
  refine evBind1 (l02Node_is _) ?_
  cases hn:isNode n with
  | false=>exact evNeg (by simp) jT
  | true =>
    have hn':=(isNode_iff n).1 hn
    refine evPos rfl (evBind1 (l02Is_is _ _ _) ?_)
    cases h1:isWithin a 1 n with
    | false=>exact evNeg (by simp) jT
    | true =>
      refine evPos rfl (evBind1 (l02Is_is _ _ _) ?_)
      cases h2:isWithin b 1 a with
      | false=>exact evNeg (by simp) jT
      | true =>
        refine evPos rfl (evBind1 (l02Is_is _ _ _) ?_)
        cases h3:isWithin c 1 a with
        | false=>exact jT
        | true =>
          refine Ev.step (fun k=>by simp only [Y7.j0];rw [if_neg (by simp)]) (Ev.bind (ring_is hn (show isWithin 4 1 8=true by decide)).2.1 ?_)
          have:=specCl_l0 n n (ringT n 4) a b c (by omega) n.toNat 1 [] (by omega) (by omega) (by simp)
          rw [List.nil_append] at this
          exact this
theorem eqItemS_nil:Ev (fun k=>Y49.f k 0 0) true:=by
  unfold Y49.f
  exact evPos rfl (Ev.step (f:=fun _=>some true) (fun k=>by simp [Y49.l0]) (Ev.now _))
theorem markItemS_nil (n:Int):Ev (fun k=>Y30.f k 0 n) n :=
  Ev.step (f:=fun _=>some n) (fun k=>by simp [Y30.f,Y30.l0]) (Ev.now _)
theorem heldItemS_nil (n:Int):Ev (fun k=>Y33.f k 0 n) n :=
  Ev.step (f:=fun _=>some n) (fun k=>by simp [Y33.f,Y33.l0]) (Ev.now _)
theorem eqStore_ev (x:Sto) (h:x.f1=0):Ev (fun k=>Y74.f k x.f0 x.f1 x.f2 x.f3 x.f0 x.f1 x.f2 x.f3) true:=by
  rw [h]
  exact evPos rfl (Ev.bind eqItemS_nil (evPos rfl (evPos rfl (evPos rfl (Ev.now _)))))
theorem eqStoreS_l0 (l:List Sto) (hl:l.length≤4611686018427387904) (hb:bare l):∀ (s:List Sto) (i:Nat),l.drop i=s→i≤l.length→Ev (fun k=>Y15.l0 k l l (i:Int)) true
  | [],i,h,hi=>by
    have:=dropNil' h hi
    refine Ev.step (f:=fun _=>some true) (fun k=>?_) (Ev.now _)
    simp only [Y15.l0]
    rw [if_neg (by omega)]
  | m :: s,i,h,hi=>by
    obtain ⟨h1,h2,h3⟩:=dropCons h z115
    have hr:rd_T115 l (i:Int)=m:=by simpa [rd_T115] using h2
    have hm:m ∈ l:=by rw [← List.take_append_drop i l,h];simp
    refine Ev.step (fun k=>by simp only [Y15.l0,hr];rw [if_pos (by omega),if_pos (by omega),if_pos (by omega)]) (Ev.bind (eqStore_ev m (hb m hm)) (evPos rfl ?_))
    rw [w64 (by omega) (by omega)]
    exact eqStoreS_l0 l hl hb s (i+1) h3 (by omega)
theorem eqStoreS_ev (l:List Sto) (hl:l.length≤4611686018427387904) (hb:bare l):Ev (fun k=>Y15.f k l l) true:=by
  unfold Y15.f
  exact evPos rfl (eqStoreS_l0 l hl hb l 0 rfl (by omega))
noncomputable def stoL:Int→List Sto→List Sto
  | _,[]=>[]
  | n,_ :: r=>⟨n,0,mT (n+1),n+2⟩ :: stoL (n+3) r
theorem markStoreS_l0 (N:Int) (hN:N≤1152921504606846976):∀ (s pre:List Sto) (n:Int),0≤n→n+3*(s.length:Int)≤N→(pre.length:Int)+s.length≤N→bare s →
    Ev (fun k=>Y19.l0 k (pre ++ s) n (pre.length:Int)) (n+3*(s.length:Int),pre ++ stoL n s)
  | [],pre,n,h0,h1,h2,_=>by
    refine Ev.step (f:=fun _=>some (n,pre)) (fun k=>?_) (by simp [stoL];exact Ev.now _)
    simp only [Y19.l0,List.append_nil]
    rw [if_neg (by omega)]
  | m :: s,pre,n,h0,h1,h2,hb=>by
    simp only [List.length_cons] at h1 h2
    have hm:m.f1=0:=hb m (by simp)
    have ih:=markStoreS_l0 N hN s (pre ++ [⟨n,0,mT (n+1),n+2⟩]) (n+3) (by omega) (by omega) (by simp;omega) (fun x hx=>hb x (List.mem_cons_of_mem _ hx))
    simp only [List.length_append,List.length_cons,List.length_nil,List.append_assoc,List.cons_append,List.nil_append] at ih
    refine Ev.step (f:=fun k=>(Y30.f k m.f1 (wrap64 (n+1))).bind fun t=>(Y16.f k t).bind fun u=>Y19.l0 k (pre ++ ⟨n,m.f1,u,wrap64 (t+1)⟩ :: s) (wrap64 (wrap64 (t+1)+1)) (wrap64 ((pre.length:Int)+1))) (fun k=>?_) ?_
    · simp only [Y19.l0,Option.bind_some,Int.toNat_natCast,rd_T115,set_mid,getD_mid]
      rw [if_pos (by simp;omega),if_pos (by omega)]
    · rw [hm,w64 (x:=n+1) (by omega) (by omega)]
      refine Ev.bind (markItemS_nil (n+1)) (Ev.bind (mT_ev (n+1) (by omega)) ?_)
      rw [w64 (x:=n+1+1) (by omega) (by omega),w64 (x:=n+1+1+1) (by omega) (by omega),w64 (x:=(pre.length:Int)+1) (by omega) (by omega),show n+1+1=n+2 from by omega,show n+2+1=n+3 from by omega]
      simp only [stoL,List.length_cons]
      rw [show n+3*((s.length+1:Nat):Int)=n+3+3*(s.length:Int) from by omega]
      exact ih
theorem markStoreS_ev (s:List Sto) (n:Int) (h0:0≤n) (h1:n+3*(s.length:Int)≤1152921504606846976) (hb:bare s):Ev (fun k=>Y19.f k s n) (n+3*(s.length:Int),stoL n s) :=
  markStoreS_l0 1152921504606846976 (Int.le_refl _) s [] n h0 h1 (by simp;omega) hb
theorem heldStoreS_l0 (N:Int) (hN:N≤1152921504606846976):∀ (s pre:List Sto) (n:Int),0≤n→n+3*(s.length:Int)≤N→(pre.length:Int)+s.length≤N →
    Ev (fun k=>Y11.l0 k (pre ++ stoL n s) n (pre.length:Int)) (n+3*(s.length:Int))
  | [],pre,n,h0,h1,h2=>by
    refine Ev.step (f:=fun _=>some n) (fun k=>?_) (by simp;exact Ev.now _)
    simp only [Y11.l0,stoL,List.append_nil]
    rw [if_neg (by omega)]
  | m :: s,pre,n,h0,h1,h2=>by
    simp only [List.length_cons] at h1 h2
    have ih:=heldStoreS_l0 N hN s (pre ++ [⟨n,0,mT (n+1),n+2⟩]) (n+3) (by omega) (by omega) (by simp;omega)
    simp only [List.length_append,List.length_cons,List.length_nil,List.append_assoc,List.cons_append,List.nil_append] at ih
    simp only [stoL]
    refine Ev.step (f:=fun k=>(Y33.f k 0 (wrap64 (n+1))).bind fun t=>if t<0 then none else (Y16.f k t).bind fun u=>if (mT (n+1)).toList=u.toList then (if n+2=wrap64 (t+1) then Y11.l0 k (pre ++ ⟨n,0,mT (n+1),n+2⟩ :: stoL (n+3) s) (wrap64 (wrap64 (t+1)+1)) (wrap64 ((pre.length:Int)+1)) else none) else none) (fun k=>?_) ?_
    · simp only [Y11.l0,Int.toNat_natCast,rd_T115,getD_mid]
      rw [if_pos (by simp;omega),if_pos (by omega),if_pos trivial]
    · rw [w64 (x:=n+1) (by omega) (by omega)]
      refine Ev.bind (heldItemS_nil (n+1)) (evNeg (by omega) (Ev.bind (mT_ev (n+1) (by omega)) (evPos rfl ?_)))
      rw [w64 (x:=n+1+1) (by omega) (by omega),w64 (x:=n+1+1+1) (by omega) (by omega),w64 (x:=(pre.length:Int)+1) (by omega) (by omega)]
      refine evPos (by omega) ?_
      rw [show n+1+1+1=n+3 from by omega,List.length_cons,show n+3*((s.length+1:Nat):Int)=n+3+3*(s.length:Int) from by omega]
      exact ih
theorem heldStoreS_ev (s:List Sto) (n:Int) (h0:0≤n) (h1:n+3*(s.length:Int)≤1152921504606846976):Ev (fun k=>Y11.f k (stoL n s) n) (n+3*(s.length:Int)) :=
  heldStoreS_l0 1152921504606846976 (Int.le_refl _) s [] n h0 h1 (by simp;omega)
theorem eqCluster_ev (n:Int) (L:List Tok) (S:List Sto) (a b c:Int) (hL:L.length≤40) (hS:S.length≤5) (hb:bare S):Ev (fun k=>Y64.f k n L S [] a b c n L S [] a b c) true :=
  Ev.bind (eqRing_ev n L (by omega)) (evPos rfl (Ev.bind (eqStoreS_ev S (by omega) hb) (evPos rfl (Ev.bind (eqInt64S_ev [] (by simp)) (evPos rfl (evPos rfl (evPos rfl (evPos rfl (Ev.now _)))))))))
theorem markCluster_ev (N:Int) (L:List Tok) (S:List Sto) (a b c n:Int) (hL:L.length≤40) (hS:S.length≤5) (hb:bare S) (h0:0≤n) (h1:n≤1000):Ev (fun k=>Y61.f k N L S [] a b c n) (n+2*(L.length:Int)+3*(S.length:Int),tokL n L,stoL (n+2*(L.length:Int)) S,[]):=by
  refine Ev.bind (markRing_ev N L n h0 (by omega)) (Ev.bind (markStoreS_ev S _ (by omega) (by show n+2*(L.length:Int)+3*(S.length:Int)≤_;omega) hb) (Ev.bind (markInt64S_ev [] (n+2*(L.length:Int)+3*(S.length:Int)) (by omega) (by simp;omega)) ?_))
  simp only [List.length_nil,Int.natCast_zero,Int.add_zero,markI]
  exact Ev.now _
theorem heldCluster_ev (N:Int) (L:List Tok) (S:List Sto) (a b c n:Int) (hL:L.length≤40) (hS:S.length≤5) (h0:0≤n) (h1:n≤1000):Ev (fun k=>Y62.f k N (tokL n L) (stoL (n+2*(L.length:Int)) S) [] a b c n) (n+2*(L.length:Int)+3*(S.length:Int)):=by
  have e:=heldInt64S_ev [] (n+2*(L.length:Int)+3*(S.length:Int)) (by omega) (by simp;omega)
  simp only [List.length_nil,Int.natCast_zero,Int.add_zero,markI] at e
  exact Ev.bind (heldRing_ev N L n h0 (by omega)) (evNeg (by omega) (Ev.bind (heldStoreS_ev S _ (by omega) (by omega)) (evNeg (by omega) (Ev.bind e (evNeg (by omega) (Ev.now _))))))
end Go.Proofs.YtelecnmflodkkaaGreatDoor.Q

namespace Go.Proofs.YtelecnmflodkkaaGreatDoor.Q
open Go.RowKit Go.Proofs.YtelecnmflodkkaaGreatDoor.P Go.Proofs.YtelecnmflodkkaaGreatDoorW.PrintWords Go.Proofs.YtelecnmflodkkaaGreatDoorW.PrintMore
theorem eqMsgS_nil:Ev (fun k=>Y47.f k 0 0) true:=by
  unfold Y47.f
  exact evPos rfl (Ev.step (f:=fun _=>some true) (fun k=>by simp [Y47.l0]) (Ev.now _))
theorem markMsgS_nil (n:Int):Ev (fun k=>Y40.f k 0 n) n :=
  Ev.step (f:=fun _=>some n) (fun k=>by simp [Y40.f,Y40.l0]) (Ev.now _)
theorem heldMsgS_nil (n:Int):Ev (fun k=>Y41.f k 0 n) n :=
  Ev.step (f:=fun _=>some n) (fun k=>by simp [Y41.f,Y41.l0]) (Ev.now _)
theorem eqReqS_nil:Ev (fun k=>Y45.f k 0 0) true:=by
  unfold Y45.f
  exact evPos rfl (Ev.step (f:=fun _=>some true) (fun k=>by simp [Y45.l0]) (Ev.now _))
theorem markReqS_nil (n:Int):Ev (fun k=>Y34.f k 0 n) n :=
  Ev.step (f:=fun _=>some n) (fun k=>by simp [Y34.f,Y34.l0]) (Ev.now _)
theorem heldReqS_nil (n:Int):Ev (fun k=>Y35.f k 0 n) n :=
  Ev.step (f:=fun _=>some n) (fun k=>by simp [Y35.f,Y35.l0]) (Ev.now _)
theorem eqSayS_nil:Ev (fun k=>Y38.f k 0 0) true:=by
  unfold Y38.f
  exact evPos rfl (Ev.step (f:=fun _=>some true) (fun k=>by simp [Y38.l0]) (Ev.now _))
theorem markSayS_nil (n:Int):Ev (fun k=>Y31.f k 0 n) n :=
  Ev.step (f:=fun _=>some n) (fun k=>by simp [Y31.f,Y31.l0]) (Ev.now _)
theorem heldSayS_nil (n:Int):Ev (fun k=>Y32.f k 0 n) n :=
  Ev.step (f:=fun _=>some n) (fun k=>by simp [Y32.f,Y32.l0]) (Ev.now _)
theorem eqEventS_nil:Ev (fun k=>Y24.f k 0 0) true:=by
  unfold Y24.f
  exact evPos rfl (Ev.step (f:=fun _=>some true) (fun k=>by simp [Y24.l0]) (Ev.now _))
theorem markEventS_nil (n:Int):Ev (fun k=>Y26.f k 0 n) n :=
  Ev.step (f:=fun _=>some n) (fun k=>by simp [Y26.f,Y26.l0]) (Ev.now _)
theorem heldEventS_nil (n:Int):Ev (fun k=>Y27.f k 0 n) n :=
  Ev.step (f:=fun _=>some n) (fun k=>by simp [Y27.f,Y27.l0]) (Ev.now _)
theorem eqWorld_ev (n:Int) (L:List Tok) (S:List Sto) (a b c:Int) (hL:L.length≤40) (hS:S.length≤5) (hb:bare S):Ev (fun k=>Y75.f k n L S [] a b c [] 0 0 0 0 n L S [] a b c [] 0 0 0 0) true :=
  Ev.bind (eqCluster_ev n L S a b c hL hS hb) (evPos rfl (Ev.bind (eqInt64S_ev [] (by simp)) (evPos rfl (Ev.bind eqMsgS_nil (evPos rfl (Ev.bind eqReqS_nil (evPos rfl (Ev.bind eqSayS_nil (evPos rfl (Ev.bind eqEventS_nil (evPos rfl (Ev.now _))))))))))))
theorem markWorld_ev (N:Int) (L:List Tok) (S:List Sto) (a b c n:Int) (hL:L.length≤40) (hS:S.length≤5) (hb:bare S) (h0:0≤n) (h1:n≤1000):Ev (fun k=>Y65.f k N L S [] a b c [] 0 0 0 0 n) (n+2*(L.length:Int)+3*(S.length:Int),tokL n L,stoL (n+2*(L.length:Int)) S,[],[]):=by
  have e:=markInt64S_ev [] (n+2*(L.length:Int)+3*(S.length:Int)) (by omega) (by simp;omega)
  simp only [List.length_nil,Int.natCast_zero,Int.add_zero,markI] at e
  exact Ev.bind (markCluster_ev N L S a b c n hL hS hb h0 h1) (Ev.bind e (Ev.bind (markMsgS_nil _) (Ev.bind (markReqS_nil _) (Ev.bind (markSayS_nil _) (Ev.bind (markEventS_nil _) (Ev.now _))))))
theorem heldWorld_ev (N:Int) (L:List Tok) (S:List Sto) (a b c n:Int) (hL:L.length≤40) (hS:S.length≤5) (h0:0≤n) (h1:n≤1000):Ev (fun k=>Y66.f k N (tokL n L) (stoL (n+2*(L.length:Int)) S) [] a b c [] 0 0 0 0 n) (n+2*(L.length:Int)+3*(S.length:Int)):=by
  have e:=heldInt64S_ev [] (n+2*(L.length:Int)+3*(S.length:Int)) (by omega) (by simp;omega)
  simp only [List.length_nil,Int.natCast_zero,Int.add_zero,markI] at e
  exact Ev.bind (heldCluster_ev N L S a b c n hL hS h0 h1) (evNeg (by omega) (Ev.bind e (evNeg (by omega) (Ev.bind (heldMsgS_nil _) (evNeg (by omega) (Ev.bind (heldReqS_nil _) (evNeg (by omega) (Ev.bind (heldSayS_nil _) (evNeg (by omega) (Ev.bind (heldEventS_nil _) (evNeg (by omega) (Ev.now _))))))))))))
end Go.Proofs.YtelecnmflodkkaaGreatDoor.Q

namespace Go.Proofs.YtelecnmflodkkaaGreatDoor.Pure
open Go.RowKit Go.Proofs.YtelecnmflodkkaaGreatDoor.P Go.Proofs.YtelecnmflodkkaaGreatDoor.Q Go.Proofs.YtelecnmflodkkaaGreatDoorW.PrintWords Go.Proofs.YtelecnmflodkkaaGreatDoorW.PrintMore
theorem world_law (n a b c:Int) (N:Int) (L:List S78) (S:List S115) (A B C i code:Int) (hL:L.length≤40) (hS:S.length≤5) (hb:bare S)
    (s1:Ev (fun k=>Y70.f k n a b c) (N,L,S,[],A,B,C,[],0,0,0,0,i,code)) (s2:Ev (fun k=>Y53.f k n a b c) (N,L,S,[],A,B,C,[],0,0,0,0,i,code)):Ev (fun k=>Y57.f k n a b c) true:=by
  have eq:Ev (fun k=>Y42.f k N L S [] A B C [] 0 0 0 0 i code N L S [] A B C [] 0 0 0 0 i code) true:=Ev.bind (eqWorld_ev N L S A B C hL hS hb) (evPos rfl (evPos rfl (evPos rfl (Ev.now _))))
  have mk:Ev (fun k=>Y54.f k N L S [] A B C [] 0 0 0 0 i code 1) (1+2*(L.length:Int)+3*(S.length:Int),tokL 1 L,stoL (1+2*(L.length:Int)) S,[],[]):=Ev.bind (markWorld_ev N L S A B C 1 hL hS hb (by omega) (by omega)) (Ev.now _)
  have hd:Ev (fun k=>Y23.f k N (tokL 1 L) (stoL (1+2*(L.length:Int)) S) [] A B C [] 0 0 0 0 i code 1) (1+2*(L.length:Int)+3*(S.length:Int)):=Ev.bind (heldWorld_ev N L S A B C 1 hL hS (by omega) (by omega)) (evNeg (by omega) (Ev.now _))
  refine Ev.bind s1 (Ev.bind s2 (Ev.bind eq (evPos rfl (Ev.bind mk (Ev.bind hd (evNeg (by omega) (evPos rfl ?_)))))))
  exact Ev.bind s2 (Ev.bind eq (evPos rfl (Ev.bind hd (evNeg (by omega) (evPos rfl (Ev.now _))))))
theorem FnExactWorldNew:Y57.Pure:=by
  intro n a b c _ _ _ _
  refine Ev.rounds ?_
  have s1:=spec_ClusterNew_ev n a b c
  have s2:=impl_ClusterNew_ev n a b c
  obtain ⟨hL,hS,hb⟩:=cl_small n a b c
  by_cases h:clCode n a b c=0
  · exact world_law n a b c _ _ _ _ _ _ _ _ hL hS hb (Ev.bind s1 (evPos h (Ev.now _))) (Ev.bind s2 (evPos h (Ev.now _)))
  · exact world_law n a b c 0 [] [] 0 0 0 0 (clCode n a b c) (by simp) (by simp) (fun x h=>by cases h) (Ev.bind s1 (evNeg h (evBind1 rfl (Ev.now _)))) (Ev.bind s2 (evNeg h (Ev.now _)))
end Go.Proofs.YtelecnmflodkkaaGreatDoor.Pure

namespace Go.Proofs.YtelecnmflodkkaaGreatDoor.fnExactWorldNew
open Go.ChangeShapes Go.WideShapes Go.ChangeAt Go.RowKit Go.Proofs.YtelecnmflodkkaaGreatDoor.P Go.Proofs.YtelecnmflodkkaaGreatDoorW.PrintWords
open Go.ChangeMaps (open_string shut_string)
set_option linter.unusedVariables false
theorem own:ownKnob Tryz.prog.godebug=none:=by kernel_rfl
theorem laidOut:laidOutB Tryz.prog=true:=by kernel_rfl
set_option maxRecDepth 100000 in
theorem lifted (os:Os) (started:os.Started) (H:Type) (enc:TypeId × Value→H) :
    ReturnsInHanded {} Tryz.checked os 4 .any (fun w args=>(Rows.fnExactWorldNewSpec.pre enc Tryz.prog Tryz.f4 Rows.fnExactWorldNewRow.domain false w args∧laidMetH Tryz.prog Rows.fnExactWorldNewRow.laid w)∧sizedMet enc Tryz.prog Tryz.f4 (OpenSpec.ofChange Rows.fnExactWorldNewSpec) false w args) (Rows.fnExactWorldNewSpec.post enc Tryz.prog Tryz.f4 false true false false):=by
  refine returnsInHanded_of_change_and (C:=Tryz.checked) (X:=fun w _=>laidMetH Tryz.prog Rows.fnExactWorldNewRow.laid w) (fun _ _ _ hh h=>h.of_heap hh) own started (by kernel_rfl) Tryz.func4
    (ChangeSpec.witness_shaped (enc:=enc) (C:=Tryz.checked) (X:=fun w _=>laidMetH Tryz.prog Rows.fnExactWorldNewRow.laid w) false (World.laidAll Tryz.prog os Rows.fnExactWorldNewRow.laid) #[.int .i64 0,.int .i64 0,.int .i64 0,.int .i64 0] 8 (World.laidAll_os _ _ _) (World.shaped_of_ZipB (by kernel_rfl) (by kernel_rfl)) (by kernel_rfl) (by kernel_rfl) (by kernel_rfl)
      (by rw [MakeChecks.laidMetH_plain _ _ _ (by kernel_rfl)];exact laidMet_laidAll _ (by kernel_rfl) (by kernel_rfl))) ?_
  intro W base args ds gs before hval0 hW hcnd hsz0 hL_ _
  have hsz:(DataW.weightsEach Tryz.prog (Tryz.f4.params.toList ++ Rows.fnExactWorldNewSpec.plain.varTypes Tryz.prog) (ds ++ gs)).all (· ≤ reachBytes)=true:=hsz0
  have hval:∀ (j:Nat) t v,Tryz.f4.params[j]? = some t→args[j]? = some v→Value.okWide Tryz.prog W .any base t v:=hval0
  have hW':=hW
  obtain ⟨p,q,hA0,hV,rfl,hfz,hnd⟩:=hW
  have hA:DataW.TrodAll enc Tryz.prog W 0 (fun _=>true) true Tryz.f4.params.toList args.toList ds p:=hA0
  rw [Tryz.params4] at hA hval hsz
  obtain ⟨v0,vs0,d0,ds0,p0,q0,hargs,rfl,rfl,h0,r0⟩:=trodAll_cons hA
  obtain ⟨v1,vs1,d1,ds1,p1,q1,rfl,rfl,rfl,h1,r1⟩:=trodAll_cons r0
  obtain ⟨v2,vs2,d2,ds2,p2,q2,rfl,rfl,rfl,h2,r2⟩:=trodAll_cons r1
  obtain ⟨v3,vs3,d3,ds3,p3,q3,rfl,rfl,rfl,h3,r3⟩:=trodAll_cons r2
  obtain ⟨rfl,rfl,rfl⟩:=trodAll_nil r3
  obtain rfl:args=#[v0,v1,v2,v3]:=by cases args;simp_all
  obtain ⟨rfl,rfl⟩:=trodVars_none hV
  obtain ⟨x0,rfl,rfl,rfl,w0⟩:=open_int Tryz.underlying2 (hval 0 2 v0 rfl rfl) h0
  obtain ⟨x1,rfl,rfl,rfl,w1⟩:=open_int Tryz.underlying2 (hval 1 2 v1 rfl rfl) h1
  obtain ⟨x2,rfl,rfl,rfl,w2⟩:=open_int Tryz.underlying2 (hval 2 2 v2 rfl rfl) h2
  obtain ⟨x3,rfl,rfl,rfl,w3⟩:=open_int Tryz.underlying2 (hval 3 2 v3 rfl rfl) h3
  clear hA0 hval0 hsz0 hsz
  obtain ⟨k,hp⟩:=Pure.FnExactWorldNew x0 x1 x2 x3 w0 w1 w2 w3
  refine (P.Y57.calls k x0 x1 x2 x3 true W  hp).mono fun e W' ⟨he,bel0⟩=>?_
  have bel:Below W.heap.size W W':=bel0
  subst he
  exact ⟨_,rfl,_,_,_,[],_,[],hW',trodAll_mk1 (shut_bool Tryz.underlying4 _),(trodAll_cons_mk (shut_int Tryz.underlying2 w0) (trodAll_cons_mk (shut_int Tryz.underlying2 w1) (trodAll_cons_mk (shut_int Tryz.underlying2 w2) (trodAll_cons_mk (shut_int Tryz.underlying2 w3) trodAll_mk0)))),rfl,bel.frame _,fun h=>by cases h⟩
theorem over:Rows.fnExactWorldNewRow.holds Tryz.pinned (OpenSpec.ofChange Rows.fnExactWorldNewSpec) :=
  OpenClaim.holds_of_wide 4 Tryz.f4 rfl rfl rfl rfl rfl rfl rfl ⟨rfl,rfl,rfl,rfl,rfl⟩ rfl rfl rfl rfl rfl (by kernel_rfl) Tryz.func4 (by kernel_rfl)
    (of_decide_eq_true (by kernel_rfl)) (by unfold Func.isWrapper;first | (rw [if_pos (by decide +kernel)];kernel_rfl) | (rw [if_neg (by decide +kernel)];exact ⟨rfl,rfl⟩))
    (fun os started H enc _=>lifted os started H enc)
theorem proved:Rows.FnExactWorldNewSaid:=over
theorem card:Rows.FnExactWorldNewCardSaid :=
  Claim7.holds_tied_plain_at .later [] [.data,.data,.data] true (true, "c2ccd6f13fabb8619b34b06c14f235c999d1a9e931be1183d441577abaf287ce") false proved (fun _ h=>by cases h) (by kernel_rfl) (fun _ h=>by cases h) fnExactWorldNew_row_tie rfl ⟨rfl,rfl⟩ (by kernel_rfl) rfl
    (fun f fn hf hfn=>by
      obtain rfl:f=4:=Option.some.inj ((show Tryz.prog.funcNamed Rows.fnExactWorldNewRow.func=some 4 by kernel_rfl).symm.trans hf) |>.symm
      obtain rfl:fn=Tryz.f4:=(Option.some.inj (Tryz.func4.symm.trans hfn)).symm
      exact ⟨by kernel_rfl,fun j t ht=>by
        rw [Tryz.params4] at ht
        have h_:t ∈ [2,2,2,2]:=by have:=Array.mem_of_getElem? ht;simpa using this
        have hs_:∀ x ∈ [2,2,2,2],Tryz.prog.wantsStandIn x=false:=by
          intro x hx
          simp only [List.mem_cons,List.not_mem_nil,or_false] at hx
          rcases hx with rfl | rfl | rfl | rfl <;> kernel_rfl
        exact hs_ t h_⟩)
    (by kernel_rfl)
#print axioms card
#print axioms proved
end Go.Proofs.YtelecnmflodkkaaGreatDoor.fnExactWorldNew
namespace Go.Proofs.YtelecnmflodkkaaGreatDoor
/-- The row, under a short name, for the claim. -/
theorem fnExactWorldNew_holds:Rows.FnExactWorldNewCardSaid:=fnExactWorldNew.card
end Go.Proofs.YtelecnmflodkkaaGreatDoor
