/- For all numbers the program's ClusterNew and the reference's return the same, of memory of its own. No condition. (Part 3 of 3: written by programs of this workplace and by hand, merged.) -/
import Derived.Test.YtelecnmflodkkaaDoorMFnExactClusterNewa
import Derived.Test.YtelecnmflodkkaaDoorMFnExactClusterNewb
import Derived.Test.YtelecnmflodkkaaDoorMFnExactClusterNewWWords
import Derived.ChangeArms
import Derived.ChangeSlices
import Derived.WideShapes
import Derived.Test.YtelecnmflodkkaaDoorMFnExactClusterNewWMore
import Derived.Laws.BitsLemmas
import Derived.Test.YtelecnmflodkkaaDoorRows
import Derived.Test.YtelecnmflodkkaaDoorTie
import Derived.Test.YtelecnmflodkkaaDoorCards
import Derived.WalkKit
import Derived.ProofKit
import Derived.OpenShut
import Derived.ShutString
import Derived.ChangeOld
import Derived.Below
import Derived.SizedLaws
import Derived.LaidMore
import Derived.Lay
import Derived.LaidOnce
import Derived.SevenTiedAt
import Derived.LaidLaws
import Derived.ChangeSame
import Derived.ChangeVars
import Derived.JoinedOf
set_option linter.unusedVariables false
set_option linter.unusedSimpArgs false
set_option maxHeartbeats 8000000
set_option maxRecDepth 100000

namespace Go.Proofs.YtelecnmflodkkaaDoor.P
open Go.RowKit Go.Proofs.YtelecnmflodkkaaDoorW.PrintWords Go.Proofs.YtelecnmflodkkaaDoorW.PrintLast Go.Proofs.YtelecnmflodkkaaDoorW.PrintMore
attribute [local go_sem] max2_int min2_int max_two min_two max_three min_three max_four min_four   -- for this text's walks alone
set_option linter.unusedVariables false
set_option linter.unusedSimpArgs false

/-! ### Y25: function 25 -/
def Y25.l0:Nat→List Int→List Int→Int→Option (Bool)
 | 0,_,_,_=>none
 | k+1,x0,x1,x5=>if x5<(x0.length:Int) then (if 0≤x5 then (if x5<(x1.length:Int) then (if (rd x0 x5)=(rd x1 x5) then (Y25.l0 k x0 x1 (wrap64 (x5+1))) else (none)) else (none)) else (none)) else (some true)
def Y25.f (k:Nat) (l0:List Int) (l1:List Int):Option (Bool):=if (l0.length:Int)=(l1.length:Int) then (Y25.l0 k l0 l1 0) else (none)
theorem Y25.mono_l:∀ k,(∀ y0 y1 y2,LeO (Y25.l0 k y0 y1 y2) (Y25.l0 (k+1) y0 y1 y2))
 | 0=>by intros <;> exact LeO.none _
 | k+1=>by
  have ih0:=Y25.mono_l k
  ·intros
   unfold Y25.l0
   exact mO
theorem Y25.mono:∀ a0 a1 k,LeO (Y25.f k a0 a1) (Y25.f (k+1) a0 a1):=by
 intro a0 a1 k
 have ih0:=Y25.mono_l k
 unfold Y25.f
 exact mO
theorem Y25.calls (k:Nat) (A0:Option Addr) (c0:Nat) (l0:List Int) (A1:Option Addr) (c1:Nat) (l1:List Int) (r:Bool) (w:World) (hr0:Kd.C (Kd.int .i64) w A0 l0.length l0) (hc0:l0.length≤c0) (hr1:Kd.C (Kd.int .i64) w A1 l1.length l1) (hc1:l1.length≤c1) (h:Y25.f k l0 l1=some r) :
  Calls Tryd.prog 25 #[.slice A0 l0.length c0,.slice A1 l1.length c1] w fun e w'=>e = .returned (.bool r)∧Drawn0 w w':=by
 have HR0:=aM hr0
 have HC0:=aM hc0
 clear hr0 hc0
 have HR1:=aM hr1
 have HC1:=aM hc1
 clear hr1 hc1
 have H:(if (l0.length:Int)=(l1.length:Int) then (Y25.l0 k l0 l1 0) else (none))=some r:=h
 clear h
 by_cases c3:(l0.length:Int)=(l1.length:Int)
 ·rw [if_pos c3] at H
  have c3b0:((l0.length:Int) == (l1.length:Int))=true:=beq_iff_eq.mpr c3
  have c3b1:((l0.length:Int) != (l1.length:Int))=false:=bne_eq_false_iff_eq.mpr c3
  have c3b2:(l0.length == l1.length)=true:=by first | simpa using c3 | (simp at c3 ⊢;omega)
  clear c3
  have H':=aM H
  clear H
  go_enter Tryd.func25,Tryd.ntmps25
  go_wp2
  repeat (go_quiet (fail);try go_wp2)
  go_loopg [5] k (fun kq v5 w'=>∃ (x5_1:Int),v5 = .int .i64 x5_1∧Aside0 (Y25.l0 kq l0 l1 x5_1=some r)∧Aside0 (kq≤k)∧Drawn0 w w')
  case atStart=>exact ⟨(0),(z0_),H',⟨Nat.le_refl _⟩,z6_⟩
  case round =>
   clear H'
   try clear c1
   try clear c2
   try clear p2
   try clear c3
   try clear c3b0
   try clear c3b1
   try clear c3b2
   obtain ⟨x5_1,rfl,HA,HK1,⟨m1,rfl⟩⟩:=hrel
   cases gk with
   | zero=>exact absurd HA.out (by simp [Y25.l0])
   | succ k1 =>
    have H:=HA.out
    clear HA
    simp only [Y25.l0] at H
    by_cases c4:x5_1<(l0.length:Int)
    ·rw [if_pos c4] at H
     have c4b0:decide (x5_1<(l0.length:Int))=true:=dE c4
     clear c4
     by_cases c5:0≤x5_1
     ·rw [if_pos c5] at H
      have c5b0:decide (0≤x5_1)=true:=dE c5
      clear c5
      by_cases c6:x5_1<(l1.length:Int)
      ·rw [if_pos c6] at H
       have c6b0:decide (x5_1<(l1.length:Int))=true:=dE c6
       clear c6
       by_cases c7:(rd l0 x5_1)=(rd l1 x5_1)
       ·rw [if_pos c7] at H
        have c7b0:((rd l0 x5_1) == (rd l1 x5_1))=true:=beq_iff_eq.mpr c7
        have c7b1:((rd l0 x5_1) != (rd l1 x5_1))=false:=bne_eq_false_iff_eq.mpr c7
        clear c7
        have H':=aM H
        clear H
        have p633:0≤(x5_1:Int):=dT (z1_)
        have q633:x5_1<(l0.length:Int):=dT (z1_)
        obtain ⟨ad633,e633,hx633_0⟩:=Kd.at_int HR0.out x5_1 p633 q633
        cases e633
        replace p633:=eq_true p633
        replace q633:=eq_true q633
        have p634:0≤(x5_1:Int):=dT (z1_)
        have q634:x5_1<(l1.length:Int):=dT (z1_)
        obtain ⟨ad634,e634,hx634_0⟩:=Kd.at_int HR1.out x5_1 p634 q634
        cases e634
        replace p634:=eq_true p634
        replace q634:=eq_true q634
        go_wp2
        repeat (go_quiet (fail);try go_wp2)
        go_roundg k1
        case measure=>have:=HK1.out;omega
        case rel=>exact ⟨(wrap64 (x5_1+1)),(z0_),H',⟨by have:=HK1.out;omega⟩,z6_⟩
       ·rw [if_neg c7] at H
        exact nO H
      ·rw [if_neg c6] at H
       exact nO H
     ·rw [if_neg c5] at H
      exact nO H
    ·rw [if_neg c4] at H
     have c4b0:decide (x5_1<(l0.length:Int))=false:=dF c4
     clear c4
     obtain rfl:=sI H
     go_wp2
     repeat (go_quiet (fail);try go_wp2)
     go_ret
     exact ⟨z0_,z6_⟩
 ·rw [if_neg c3] at H
  exact nO H


/-! ### Y42: function 133 -/
def Y42.l0:Nat→Int→Option (Bool)
 | 0,_=>none
 | k+1,x5=>if x5<0 then (none) else (some true)
def Y42.f (k:Nat) (a0:Int) (a1:Int):Option (Bool):=if 0=0 then (Y42.l0 k 0) else (none)
theorem Y42.mono_l:∀ k,(∀ y0,LeO (Y42.l0 k y0) (Y42.l0 (k+1) y0))
 | 0=>by intros <;> exact LeO.none _
 | k+1=>by
  have ih0:=Y42.mono_l k
  ·intros
   unfold Y42.l0
   exact mO
theorem Y42.mono:∀ a0 a1 k,LeO (Y42.f k a0 a1) (Y42.f (k+1) a0 a1):=by
 intro a0 a1 k
 have ih0:=Y42.mono_l k
 unfold Y42.f
 exact mO
theorem Y42.calls (k:Nat) (a0:Int) (a1:Int) (r:Bool) (w:World) (h:Y42.f k a0 a1=some r) :
  Calls Tryd.prog 133 #[.slice none 0 0,.slice none 0 0] w fun e w'=>e = .returned (.bool r)∧Drawn0 w w':=by
 have H:(if 0=0 then (Y42.l0 k 0) else (none))=some r:=h
 clear h
 by_cases c3:0=0
 ·rw [if_pos c3] at H
  have c3b0:(0 == 0)=true:=beq_iff_eq.mpr c3
  have c3b1:(0 != 0)=false:=bne_eq_false_iff_eq.mpr c3
  clear c3
  have H':=aM H
  clear H
  go_enter Tryd.func133,Tryd.ntmps133
  go_wp2
  go_loopg [5] k (fun kq v5 w'=>∃ (x5_1:Int),v5 = .int .i64 x5_1∧Aside0 (Y42.l0 kq x5_1=some r)∧Aside0 (kq≤k)∧Drawn0 w w')
  case atStart=>exact ⟨(0),(z0_),H',⟨Nat.le_refl _⟩,z6_⟩
  case round =>
   clear H'
   try clear c1
   try clear p2
   try clear c3
   try clear c3b0
   try clear c3b1
   obtain ⟨x5_1,rfl,HA,HK1,⟨m1,rfl⟩⟩:=hrel
   cases gk with
   | zero=>exact absurd HA.out (by simp [Y42.l0])
   | succ k1 =>
    have H:=HA.out
    clear HA
    simp only [Y42.l0] at H
    by_cases c4:x5_1<0
    ·rw [if_pos c4] at H
     exact nO H
    ·rw [if_neg c4] at H
     have c4b0:decide (x5_1<0)=false:=dF c4
     clear c4
     obtain rfl:=sI H
     go_wp2
     go_ret
     exact ⟨z0_,z6_⟩
 ·rw [if_neg c3] at H
  exact nO H


/-! ### Y69: function 115 -/
def Y69.f (k:Nat) (a0_0:Int) (a0_1:Int) (a0_2:ByteArray) (a0_3:Int) (a1_0:Int) (a1_1:Int) (a1_2:ByteArray) (a1_3:Int):Option (Bool):=if a0_0=a1_0 then ((Y42.f k a0_1 a1_1).bind fun t899=>(if t899=true then (if a0_2.toList=a1_2.toList then (if a0_3=a1_3 then (some true) else (none)) else (none)) else (none))) else (none)
theorem Y69.mono:∀ a0 a1 a2 a3 a4 a5 a6 a7 k,LeO (Y69.f k a0 a1 a2 a3 a4 a5 a6 a7) (Y69.f (k+1) a0 a1 a2 a3 a4 a5 a6 a7):=by
 intro a0 a1 a2 a3 a4 a5 a6 a7 k
 have m0:=@Y42.mono
 unfold Y69.f
 exact mO
theorem Y69.calls (k:Nat) (a0_0:Int) (a0_1:Int) (a0_2:ByteArray) (a0_3:Int) (a1_0:Int) (a1_1:Int) (a1_2:ByteArray) (a1_3:Int) (r:Bool) (w:World) (h:Y69.f k a0_0 a0_1 a0_2 a0_3 a1_0 a1_1 a1_2 a1_3=some r) :
  Calls Tryd.prog 115 #[.agg #[.int .i64 a0_0,.slice none 0 0,.string a0_2,.int .i64 a0_3],.agg #[.int .i64 a1_0,.slice none 0 0,.string a1_2,.int .i64 a1_3]] w fun e w'=>e = .returned (.bool r)∧Below w.heap.size w w':=by
 have hu95:=Tryd.underlying95
 have HB:=aM (Below.refl w.heap.size w)
 have H:(if a0_0=a1_0 then ((Y42.f k a0_1 a1_1).bind fun t899=>(if t899=true then (if a0_2.toList=a1_2.toList then (if a0_3=a1_3 then (some true) else (none)) else (none)) else (none))) else (none))=some r:=h
 clear h
 by_cases c3:a0_0=a1_0
 ·rw [if_pos c3] at H
  have c3b0:(a0_0 == a1_0)=true:=beq_iff_eq.mpr c3
  have c3b1:(a0_0 != a1_0)=false:=bne_eq_false_iff_eq.mpr c3
  clear c3
  replace H:=bS H
  obtain ⟨t899,A40,H⟩:=H
  replace H:(if t899=true then (if a0_2.toList=a1_2.toList then (if a0_3=a1_3 then (some true) else (none)) else (none)) else (none))=some r:=H
  have A4:=aM A40
  clear A40
  by_cases c5:t899=true
  ·subst c5
   have H1:(if a0_2.toList=a1_2.toList then (if a0_3=a1_3 then (some true) else (none)) else (none))=some r:=by rw [if_pos rfl] at H;exact H
   clear H
   have H:=H1
   clear H1
   by_cases c6:a0_2.toList=a1_2.toList
   ·rw [if_pos c6] at H
    have c6b0:(a0_2.toList == a1_2.toList)=true:=beq_iff_eq.mpr c6
    have c6b1:(a0_2.toList != a1_2.toList)=false:=bne_eq_false_iff_eq.mpr c6
    clear c6
    by_cases c7:a0_3=a1_3
    ·rw [if_pos c7] at H
     have c7b0:(a0_3 == a1_3)=true:=beq_iff_eq.mpr c7
     have c7b1:(a0_3 != a1_3)=false:=bne_eq_false_iff_eq.mpr c7
     clear c7
     obtain rfl:=sI H
     go_enter Tryd.func115,Tryd.ntmps115
     go_wp2_with (first | ((with_reducible refine gd_ 2 ?_);refine be_ 2 #[.int .i64 a0_0,.slice none 0 0,.string a0_2,.int .i64 a0_3] 95 ?_;intro gb897 hg w8 hbox hb;have n0_:=aM (below_step (z3_ HB.out) hb);have n1_:=aM (hbox);have n2_:=aM ((z10_ HB.out:w.heap.size≤gb897));have n3_:=aM ((z10_ HB.out:w.heap.size≤gb897));clear HB;have HB:=n0_;have BK897:=n1_;have GW897:=n2_;have GE897:=n3_;clear n0_ n1_ n2_ n3_;clear hb hbox hg) | ((with_reducible refine gd_ 3 ?_);refine be_ 3 #[.int .i64 a1_0,.slice none 0 0,.string a1_2,.int .i64 a1_3] 95 ?_;intro gb898 hg w9 hbox hb;have n0_:=aM (blkB_ BK897.out hb);have n1_:=aM (below_step (z8_ HB.out GE897.out) hb);have n2_:=aM (hbox);have n3_:=aM ((z13_ HB.out GE897.out:w.heap.size≤gb898));have n4_:=aM ((z13_ HB.out GE897.out:w.heap.size≤gb898));have n5_:=aM (neL_ BK897.out hg);have n6_:=aM (neG_ BK897.out hg);clear BK897;clear HB;have BK897:=n0_;have HB:=n1_;have BK898:=n2_;have GW898:=n3_;have GE898:=n4_;have NB897_898:=n5_;have NB898_897:=n6_;clear n0_ n1_ n2_ n3_ n4_ n5_ n6_;clear hb hbox hg;have hnb10:=NB897_898.out;have hnc10:=NB898_897.out;have ⟨hcz11_0,hcz11_1,hcz11_2,hcz11_3,hfz11_0,hfz11_1,hfz11_2,hfz11_3⟩:=cz4_ BK897.out;have ⟨hcz12_0,hcz12_1,hcz12_2,hcz12_3,hfz12_0,hfz12_1,hfz12_2,hfz12_3⟩:=cz4_ BK898.out) | ((with_reducible refine gc_ 133 ?_);refine gl_ (some 14) Tryd.func133 #[.slice none 0 0,.slice none 0 0] ?_;(with_reducible refine (Y42.calls k a0_1 a1_1 true _ A4.out).mono ?_);rintro e w' ⟨rfl,⟨nd,rfl⟩⟩;refine ⟨_,rfl,?_⟩))
     go_ret
     exact ⟨z9_,z7_ HB.out GE897.out GE898.out⟩
    ·rw [if_neg c7] at H
     exact nO H
   ·rw [if_neg c6] at H
    exact nO H
  ·replace c5:=Bool.eq_false_iff.mpr c5
   subst c5
   have H1:(none)=some r:=by rw [if_neg (show ¬ (false=true) by decide)] at H;exact H
   clear H
   have H:=H1
   clear H1
   exact nO H
 ·rw [if_neg c3] at H
  exact nO H


/-! ### Y16: function 97 -/
def Y16.l0:Nat→List (S95)→List (S95)→Int→Option (Bool)
 | 0,_,_,_=>none
 | k+1,x0,x1,x5=>if x5<(x0.length:Int) then (if 0≤x5 then (if x5<(x1.length:Int) then ((Y69.f k ((rd_T95 x0 x5).f0) ((rd_T95 x0 x5).f1) ((rd_T95 x0 x5).f2) ((rd_T95 x0 x5).f3) ((rd_T95 x1 x5).f0) ((rd_T95 x1 x5).f1) ((rd_T95 x1 x5).f2) ((rd_T95 x1 x5).f3)).bind fun t902=>(if t902=true then (Y16.l0 k x0 x1 (wrap64 (x5+1))) else (none))) else (none)) else (none)) else (some true)
def Y16.f (k:Nat) (l0:List (S95)) (l1:List (S95)):Option (Bool):=if (l0.length:Int)=(l1.length:Int) then (Y16.l0 k l0 l1 0) else (none)
theorem Y16.mono_l:∀ k,(∀ y0 y1 y2,LeO (Y16.l0 k y0 y1 y2) (Y16.l0 (k+1) y0 y1 y2))
 | 0=>by intros <;> exact LeO.none _
 | k+1=>by
  have ih0:=Y16.mono_l k
  have m0:=@Y69.mono
  ·intros
   unfold Y16.l0
   exact mO
theorem Y16.mono:∀ a0 a1 k,LeO (Y16.f k a0 a1) (Y16.f (k+1) a0 a1):=by
 intro a0 a1 k
 have m0:=@Y69.mono
 have ih0:=Y16.mono_l k
 unfold Y16.f
 exact mO
def Y16.T6:Bool × List (List Nat × List Nat):=(true,[([],[]),([],[]),([0,1],[0,1]),([2],[2]),([],[]),([],[]),([4,5],[4,5]),([6],[6]),([3,7],[3,7]),([8],[8])])
def Y16.B6:List Nat:=[0,0,3,7,0,0,48,112,255,511]
theorem Y16.tab6:rtab .any (opsOf Tryd.f97 6)=Y16.T6:=by kernel_rfl
theorem Y16.bits6:waitsOk Y16.T6.2 Y16.B6=true:=by kernel_rfl
theorem Y16.calls (k:Nat) (A0:Option Addr) (c0:Nat) (l0:List (S95)) (A1:Option Addr) (c1:Nat) (l1:List (S95)) (r:Bool) (w:World) (hr0:Kd.C k95 w A0 l0.length l0) (hc0:l0.length≤c0) (hr1:Kd.C k95 w A1 l1.length l1) (hc1:l1.length≤c1) (h:Y16.f k l0 l1=some r) :
  Calls Tryd.prog 97 #[.slice A0 l0.length c0,.slice A1 l1.length c1] w fun e w'=>e = .returned (.bool r)∧Below w.heap.size w w':=by
 have hu95:=Tryd.underlying95
 have HR0:=aM hr0
 have HC0:=aM hc0
 clear hr0 hc0
 have HR1:=aM hr1
 have HC1:=aM hc1
 clear hr1 hc1
 have HB:=aM (Below.refl w.heap.size w)
 have H:(if (l0.length:Int)=(l1.length:Int) then (Y16.l0 k l0 l1 0) else (none))=some r:=h
 clear h
 by_cases c3:(l0.length:Int)=(l1.length:Int)
 ·rw [if_pos c3] at H
  have c3b0:((l0.length:Int) == (l1.length:Int))=true:=beq_iff_eq.mpr c3
  have c3b1:((l0.length:Int) != (l1.length:Int))=false:=bne_eq_false_iff_eq.mpr c3
  have c3b2:(l0.length == l1.length)=true:=by first | simpa using c3 | (simp at c3 ⊢;omega)
  clear c3
  have H':=aM H
  clear H
  go_enter Tryd.func97,Tryd.ntmps97
  go_wp2
  go_loopg [5] k (fun kq v5 w'=>∃ (x5_1:Int),v5 = .int .i64 x5_1∧Aside0 (Y16.l0 kq l0 l1 x5_1=some r)∧Aside0 (kq≤k)∧Aside0 (Below w.heap.size w w'))
  case atStart=>exact ⟨(0),(z0_),H',⟨Nat.le_refl _⟩,⟨z3_ HB.out⟩⟩
  case round =>
   clear H'
   try clear c1
   try clear p2
   try clear c3
   try clear c3b0
   try clear c3b1
   try clear c3b2
   obtain ⟨x5_1,rfl,HA,HK1,HB⟩:=hrel
   cases gk with
   | zero=>exact absurd HA.out (by simp [Y16.l0])
   | succ k1 =>
    have H:=HA.out
    clear HA
    simp only [Y16.l0] at H
    by_cases c4:x5_1<(l0.length:Int)
    ·rw [if_pos c4] at H
     have c4b0:decide (x5_1<(l0.length:Int))=true:=dE c4
     clear c4
     by_cases c5:0≤x5_1
     ·rw [if_pos c5] at H
      have c5b0:decide (0≤x5_1)=true:=dE c5
      clear c5
      by_cases c6:x5_1<(l1.length:Int)
      ·rw [if_pos c6] at H
       have c6b0:decide (x5_1<(l1.length:Int))=true:=dE c6
       clear c6
       replace H:=bS H
       obtain ⟨t902,A70,H⟩:=H
       replace H:(if t902=true then (Y16.l0 k1 l0 l1 (wrap64 (x5_1+1))) else (none))=some r:=H
       have A7:=aM A70
       clear A70
       by_cases c8:t902=true
       ·subst c8
        have H1:(Y16.l0 k1 l0 l1 (wrap64 (x5_1+1)))=some r:=by rw [if_pos rfl] at H;exact H
        clear H
        have H:=H1
        clear H1
        have H':=aM H
        clear H
        try go_wp2
        have n0_:=aM (below_drew1 HB.out)
        clear HB
        have HB:=n0_
        clear n0_
        have p900:0≤(x5_1:Int):=dT (z1_)
        have q900:x5_1<(l0.length:Int):=dT (z1_)
        obtain ⟨ad900,e900,hx900_0,hx900_1,hx900_2,hx900_3⟩:=at_T95 HR0.out x5_1 p900 q900
        have hw900_3:=hx900_3
        have hw900_2:=hx900_2
        have hw900_1:=hx900_1
        have hw900_0:=hx900_0
        cases e900
        replace hx900_0:=(HB.out.cell (World.block_lt_of_cell? w _ hx900_0)).trans hx900_0
        replace hx900_1:=(HB.out.cell (World.block_lt_of_cell? w _ hx900_1)).trans hx900_1
        replace hx900_2:=(HB.out.cell (World.block_lt_of_cell? w _ hx900_2)).trans hx900_2
        replace hx900_3:=(HB.out.cell (World.block_lt_of_cell? w _ hx900_3)).trans hx900_3
        replace p900:=eq_true p900
        replace q900:=eq_true q900
        have p901:0≤(x5_1:Int):=dT (z1_)
        have q901:x5_1<(l1.length:Int):=dT (z1_)
        obtain ⟨ad901,e901,hx901_0,hx901_1,hx901_2,hx901_3⟩:=at_T95 HR1.out x5_1 p901 q901
        have hw901_3:=hx901_3
        have hw901_2:=hx901_2
        have hw901_1:=hx901_1
        have hw901_0:=hx901_0
        cases e901
        replace hx901_0:=(HB.out.cell (World.block_lt_of_cell? w _ hx901_0)).trans hx901_0
        replace hx901_1:=(HB.out.cell (World.block_lt_of_cell? w _ hx901_1)).trans hx901_1
        replace hx901_2:=(HB.out.cell (World.block_lt_of_cell? w _ hx901_2)).trans hx901_2
        replace hx901_3:=(HB.out.cell (World.block_lt_of_cell? w _ hx901_3)).trans hx901_3
        replace p901:=eq_true p901
        replace q901:=eq_true q901
        refine start_ (n:=10) (S:=fun w'=>w'.cell? (ad900.add ((x5_1).toNat*4))=some (.int .i64 ((rd_T95 l0 x5_1).f0))∧w'.cell? ⟨(ad900.add ((x5_1).toNat*4)).block,(ad900.add ((x5_1).toNat*4)).off+1,none⟩=some (.slice none 0 0)∧w'.cell? ⟨(ad900.add ((x5_1).toNat*4)).block,(ad900.add ((x5_1).toNat*4)).off+2,none⟩=some (.string ((rd_T95 l0 x5_1).f2))∧w'.cell? ⟨(ad900.add ((x5_1).toNat*4)).block,(ad900.add ((x5_1).toNat*4)).off+3,none⟩=some (.int .i64 ((rd_T95 l0 x5_1).f3))∧w'.cell? (ad901.add ((x5_1).toNat*4))=some (.int .i64 ((rd_T95 l1 x5_1).f0))∧w'.cell? ⟨(ad901.add ((x5_1).toNat*4)).block,(ad901.add ((x5_1).toNat*4)).off+1,none⟩=some (.slice none 0 0)∧w'.cell? ⟨(ad901.add ((x5_1).toNat*4)).block,(ad901.add ((x5_1).toNat*4)).off+2,none⟩=some (.string ((rd_T95 l1 x5_1).f2))∧w'.cell? ⟨(ad901.add ((x5_1).toNat*4)).block,(ad901.add ((x5_1).toNat*4)).off+3,none⟩=some (.int .i64 ((rd_T95 l1 x5_1).f3))) (ds:=[]) #[O,O,O,O,O,O,O,O,O,O] (by kernel_rfl) rfl rfl ⟨((HB.out.cell (World.block_lt_of_cell? w _ hw900_0)).trans hw900_0),((HB.out.cell (World.block_lt_of_cell? w _ hw900_1)).trans hw900_1),((HB.out.cell (World.block_lt_of_cell? w _ hw900_2)).trans hw900_2),((HB.out.cell (World.block_lt_of_cell? w _ hw900_3)).trans hw900_3),((HB.out.cell (World.block_lt_of_cell? w _ hw901_0)).trans hw901_0),((HB.out.cell (World.block_lt_of_cell? w _ hw901_1)).trans hw901_1),((HB.out.cell (World.block_lt_of_cell? w _ hw901_2)).trans hw901_2),((HB.out.cell (World.block_lt_of_cell? w _ hw901_3)).trans hw901_3)⟩ (fun hHeld=>?_);refine with_tabW Y16.tab6 Y16.bits6 (fun HT_ HW_=>?_)
        generalize wr.drew=w9 at HB hx900_0 hx900_1 hx900_2 hx900_3 hx901_0 hx901_1 hx901_2 hx901_3 hHeld ⊢
        refine pu_ 0 17 #[I,O,O,O,O,O,O,O,O,O] HT_.out ?_
        refine pu_ 1 18 #[I,I,O,O,O,O,O,O,O,O] HT_.out ?_
        refine pu_ 2 19 #[I,I,I,O,O,O,O,O,O,O] HT_.out ?_
        refine pu_ 4 21 #[I,I,I,O,I,O,O,O,O,O] HT_.out ?_
        refine pu_ 5 22 #[I,I,I,O,I,I,O,O,O,O] HT_.out ?_
        refine pu_ 6 23 #[I,I,I,O,I,I,I,O,O,O] HT_.out ?_
        refine tk8_ 3 20 #[I,I,I,I,I,I,I,O,O,O] HT_.out HW_.out hHeld ?_
        refine tk8_ 7 24 #[I,I,I,I,I,I,I,I,O,O] HT_.out HW_.out hHeld ?_
        refine o1_ 8 25 #[I,I,I,I,I,I,I,I,I,O] HT_.out (fun K hK=>?_)
        refine gs_ Tryd.func115 #[.agg #[.int .i64 ((rd_T95 l0 x5_1).f0),.slice none 0 0,.string ((rd_T95 l0 x5_1).f2),.int .i64 ((rd_T95 l0 x5_1).f3)],.agg #[.int .i64 ((rd_T95 l1 x5_1).f0),.slice none 0 0,.string ((rd_T95 l1 x5_1).f2),.int .i64 ((rd_T95 l1 x5_1).f3)]] ?_
        with_reducible refine (Y69.calls k1 ((rd_T95 l0 x5_1).f0) ((rd_T95 l0 x5_1).f1) ((rd_T95 l0 x5_1).f2) ((rd_T95 l0 x5_1).f3) ((rd_T95 l1 x5_1).f0) ((rd_T95 l1 x5_1).f1) ((rd_T95 l1 x5_1).f2) ((rd_T95 l1 x5_1).f3) true _ A7.out).mono ?_
        rintro e w10 ⟨rfl,hb⟩
        refine ⟨_,rfl,?_⟩
        have n0_:=aM (below_step (z3_ HB.out) hb)
        clear HB
        have HB:=n0_
        clear n0_
        (try clear hb)
        refine hK.out _ _ ⟨((HB.out.cell (World.block_lt_of_cell? w _ hw900_0)).trans hw900_0),((HB.out.cell (World.block_lt_of_cell? w _ hw900_1)).trans hw900_1),((HB.out.cell (World.block_lt_of_cell? w _ hw900_2)).trans hw900_2),((HB.out.cell (World.block_lt_of_cell? w _ hw900_3)).trans hw900_3),((HB.out.cell (World.block_lt_of_cell? w _ hw901_0)).trans hw901_0),((HB.out.cell (World.block_lt_of_cell? w _ hw901_1)).trans hw901_1),((HB.out.cell (World.block_lt_of_cell? w _ hw901_2)).trans hw901_2),((HB.out.cell (World.block_lt_of_cell? w _ hw901_3)).trans hw901_3)⟩ (fun hHeld=>?_)
        clear hK K
        refine nm_ 25 ?_
        refine pu_ 9 26 #[I,I,I,I,I,I,I,I,I,I] HT_.out ?_
        refine done_ (done_of HT_.out (by kernel_rfl)) ?_
        try go_wp2
        go_roundg k1
        case measure=>have:=HK1.out;omega
        case rel=>exact ⟨(wrap64 (x5_1+1)),(z0_),H',⟨by have:=HK1.out;omega⟩,⟨z3_ HB.out⟩⟩
       ·replace c8:=Bool.eq_false_iff.mpr c8
        subst c8
        have H1:(none)=some r:=by rw [if_neg (show ¬ (false=true) by decide)] at H;exact H
        clear H
        have H:=H1
        clear H1
        exact nO H
      ·rw [if_neg c6] at H
       exact nO H
     ·rw [if_neg c5] at H
      exact nO H
    ·rw [if_neg c4] at H
     have c4b0:decide (x5_1<(l0.length:Int))=false:=dF c4
     clear c4
     obtain rfl:=sI H
     go_wp2
     go_ret
     exact ⟨z9_,z3_ HB.out⟩
 ·rw [if_neg c3] at H
  exact nO H


/-! ### Y61: function 67 -/
def Y61.f (k:Nat) (a0_0:Int) (l0_1:List (S77)) (l0_2:List (S95)) (l0_3:List Int) (a0_4:Int) (a0_5:Int) (a0_6:Int) (a1_0:Int) (l1_1:List (S77)) (l1_2:List (S95)) (l1_3:List Int) (a1_4:Int) (a1_5:Int) (a1_6:Int):Option (Bool):=(Y68.f k a0_0 l0_1 a1_0 l1_1).bind fun t905=>(if t905=true then ((Y16.f k l0_2 l1_2).bind fun t906=>(if t906=true then ((Y25.f k l0_3 l1_3).bind fun t907=>(if t907=true then (if a0_4=a1_4 then (if a0_5=a1_5 then (if a0_6=a1_6 then (some true) else (none)) else (none)) else (none)) else (none))) else (none))) else (none))
theorem Y61.mono:∀ a0 a1 a2 a3 a4 a5 a6 a7 a8 a9 a10 a11 a12 a13 k,LeO (Y61.f k a0 a1 a2 a3 a4 a5 a6 a7 a8 a9 a10 a11 a12 a13) (Y61.f (k+1) a0 a1 a2 a3 a4 a5 a6 a7 a8 a9 a10 a11 a12 a13):=by
 intro a0 a1 a2 a3 a4 a5 a6 a7 a8 a9 a10 a11 a12 a13 k
 have m0:=@Y25.mono
 have m1:=@Y68.mono
 have m2:=@Y16.mono
 unfold Y61.f
 exact mO
theorem Y61.calls (k:Nat) (a0_0:Int) (A0_1:Option Addr) (c0_1:Nat) (l0_1:List (S77)) (A0_2:Option Addr) (c0_2:Nat) (l0_2:List (S95)) (A0_3:Option Addr) (c0_3:Nat) (l0_3:List Int) (a0_4:Int) (a0_5:Int) (a0_6:Int) (a1_0:Int) (A1_1:Option Addr) (c1_1:Nat) (l1_1:List (S77)) (A1_2:Option Addr) (c1_2:Nat) (l1_2:List (S95)) (A1_3:Option Addr) (c1_3:Nat) (l1_3:List Int) (a1_4:Int) (a1_5:Int) (a1_6:Int) (r:Bool) (w:World) (hr0_1:Kd.C k77 w A0_1 l0_1.length l0_1) (hc0_1:l0_1.length≤c0_1) (hr0_2:Kd.C k95 w A0_2 l0_2.length l0_2) (hc0_2:l0_2.length≤c0_2) (hr0_3:Kd.C (Kd.int .i64) w A0_3 l0_3.length l0_3) (hc0_3:l0_3.length≤c0_3) (hr1_1:Kd.C k77 w A1_1 l1_1.length l1_1) (hc1_1:l1_1.length≤c1_1) (hr1_2:Kd.C k95 w A1_2 l1_2.length l1_2) (hc1_2:l1_2.length≤c1_2) (hr1_3:Kd.C (Kd.int .i64) w A1_3 l1_3.length l1_3) (hc1_3:l1_3.length≤c1_3) (h:Y61.f k a0_0 l0_1 l0_2 l0_3 a0_4 a0_5 a0_6 a1_0 l1_1 l1_2 l1_3 a1_4 a1_5 a1_6=some r) :
  Calls Tryd.prog 67 #[.agg #[.int .i64 a0_0,.slice A0_1 l0_1.length c0_1,.slice A0_2 l0_2.length c0_2,.slice A0_3 l0_3.length c0_3,.int .i64 a0_4,.int .i64 a0_5,.int .i64 a0_6],.agg #[.int .i64 a1_0,.slice A1_1 l1_1.length c1_1,.slice A1_2 l1_2.length c1_2,.slice A1_3 l1_3.length c1_3,.int .i64 a1_4,.int .i64 a1_5,.int .i64 a1_6]] w fun e w'=>e = .returned (.bool r)∧Below w.heap.size w w':=by
 have hu56:=Tryd.underlying56
 have hu24:=Tryd.underlying24
 have HR0_1:=aM hr0_1
 have HC0_1:=aM hc0_1
 clear hr0_1 hc0_1
 have HR0_2:=aM hr0_2
 have HC0_2:=aM hc0_2
 clear hr0_2 hc0_2
 have HR0_3:=aM hr0_3
 have HC0_3:=aM hc0_3
 clear hr0_3 hc0_3
 have HR1_1:=aM hr1_1
 have HC1_1:=aM hc1_1
 clear hr1_1 hc1_1
 have HR1_2:=aM hr1_2
 have HC1_2:=aM hc1_2
 clear hr1_2 hc1_2
 have HR1_3:=aM hr1_3
 have HC1_3:=aM hc1_3
 clear hr1_3 hc1_3
 have HB:=aM (Below.refl w.heap.size w)
 have H:((Y68.f k a0_0 l0_1 a1_0 l1_1).bind fun t905=>(if t905=true then ((Y16.f k l0_2 l1_2).bind fun t906=>(if t906=true then ((Y25.f k l0_3 l1_3).bind fun t907=>(if t907=true then (if a0_4=a1_4 then (if a0_5=a1_5 then (if a0_6=a1_6 then (some true) else (none)) else (none)) else (none)) else (none))) else (none))) else (none)))=some r:=h
 clear h
 replace H:=bS H
 obtain ⟨t905,A30,H⟩:=H
 replace H:(if t905=true then ((Y16.f k l0_2 l1_2).bind fun t906=>(if t906=true then ((Y25.f k l0_3 l1_3).bind fun t907=>(if t907=true then (if a0_4=a1_4 then (if a0_5=a1_5 then (if a0_6=a1_6 then (some true) else (none)) else (none)) else (none)) else (none))) else (none))) else (none))=some r:=H
 have A3:=aM A30
 clear A30
 by_cases c4:t905=true
 ·subst c4
  have H1:((Y16.f k l0_2 l1_2).bind fun t906=>(if t906=true then ((Y25.f k l0_3 l1_3).bind fun t907=>(if t907=true then (if a0_4=a1_4 then (if a0_5=a1_5 then (if a0_6=a1_6 then (some true) else (none)) else (none)) else (none)) else (none))) else (none)))=some r:=by rw [if_pos rfl] at H;exact H
  clear H
  have H:=H1
  clear H1
  replace H:=bS H
  obtain ⟨t906,A50,H⟩:=H
  replace H:(if t906=true then ((Y25.f k l0_3 l1_3).bind fun t907=>(if t907=true then (if a0_4=a1_4 then (if a0_5=a1_5 then (if a0_6=a1_6 then (some true) else (none)) else (none)) else (none)) else (none))) else (none))=some r:=H
  have A5:=aM A50
  clear A50
  by_cases c6:t906=true
  ·subst c6
   have H1:((Y25.f k l0_3 l1_3).bind fun t907=>(if t907=true then (if a0_4=a1_4 then (if a0_5=a1_5 then (if a0_6=a1_6 then (some true) else (none)) else (none)) else (none)) else (none)))=some r:=by rw [if_pos rfl] at H;exact H
   clear H
   have H:=H1
   clear H1
   replace H:=bS H
   obtain ⟨t907,A70,H⟩:=H
   replace H:(if t907=true then (if a0_4=a1_4 then (if a0_5=a1_5 then (if a0_6=a1_6 then (some true) else (none)) else (none)) else (none)) else (none))=some r:=H
   have A7:=aM A70
   clear A70
   by_cases c8:t907=true
   ·subst c8
    have H1:(if a0_4=a1_4 then (if a0_5=a1_5 then (if a0_6=a1_6 then (some true) else (none)) else (none)) else (none))=some r:=by rw [if_pos rfl] at H;exact H
    clear H
    have H:=H1
    clear H1
    by_cases c9:a0_4=a1_4
    ·rw [if_pos c9] at H
     have c9b0:(a0_4 == a1_4)=true:=beq_iff_eq.mpr c9
     have c9b1:(a0_4 != a1_4)=false:=bne_eq_false_iff_eq.mpr c9
     clear c9
     by_cases c10:a0_5=a1_5
     ·rw [if_pos c10] at H
      have c10b0:(a0_5 == a1_5)=true:=beq_iff_eq.mpr c10
      have c10b1:(a0_5 != a1_5)=false:=bne_eq_false_iff_eq.mpr c10
      clear c10
      by_cases c11:a0_6=a1_6
      ·rw [if_pos c11] at H
       have c11b0:(a0_6 == a1_6)=true:=beq_iff_eq.mpr c11
       have c11b1:(a0_6 != a1_6)=false:=bne_eq_false_iff_eq.mpr c11
       clear c11
       obtain rfl:=sI H
       go_enter Tryd.func67,Tryd.ntmps67
       go_wp2_with (first | ((with_reducible refine gd_ 2 ?_);refine be_ 2 #[.int .i64 a0_0,.slice A0_1 l0_1.length c0_1,.slice A0_2 l0_2.length c0_2,.slice A0_3 l0_3.length c0_3,.int .i64 a0_4,.int .i64 a0_5,.int .i64 a0_6] 56 ?_;intro gb903 hg w12 hbox hb;have n0_:=aM (below_step (z3_ HB.out) hb);have n1_:=aM (hbox);have n2_:=aM ((z10_ HB.out:w.heap.size≤gb903));have n3_:=aM ((z10_ HB.out:w.heap.size≤gb903));clear HB;have HB:=n0_;have BK903:=n1_;have GW903:=n2_;have GE903:=n3_;clear n0_ n1_ n2_ n3_;clear hb hbox hg) | ((with_reducible refine gd_ 3 ?_);refine be_ 3 #[.int .i64 a1_0,.slice A1_1 l1_1.length c1_1,.slice A1_2 l1_2.length c1_2,.slice A1_3 l1_3.length c1_3,.int .i64 a1_4,.int .i64 a1_5,.int .i64 a1_6] 56 ?_;intro gb904 hg w13 hbox hb;have n0_:=aM (blkB_ BK903.out hb);have n1_:=aM (below_step (z8_ HB.out GE903.out) hb);have n2_:=aM (hbox);have n3_:=aM ((z13_ HB.out GE903.out:w.heap.size≤gb904));have n4_:=aM ((z13_ HB.out GE903.out:w.heap.size≤gb904));have n5_:=aM (neL_ BK903.out hg);have n6_:=aM (neG_ BK903.out hg);clear BK903;clear HB;have BK903:=n0_;have HB:=n1_;have BK904:=n2_;have GW904:=n3_;have GE904:=n4_;have NB903_904:=n5_;have NB904_903:=n6_;clear n0_ n1_ n2_ n3_ n4_ n5_ n6_;clear hb hbox hg;have hnb14:=NB903_904.out;have hnc14:=NB904_903.out;have ⟨hcz15_0,hcz15_1,hcz15_2,hcz15_3,hcz15_4,hcz15_5,hcz15_6,hfz15_0,hfz15_1,hfz15_2,hfz15_3,hfz15_4,hfz15_5,hfz15_6⟩:=cz7_ BK903.out;have ⟨hcz16_0,hcz16_1,hcz16_2,hcz16_3,hcz16_4,hcz16_5,hcz16_6,hfz16_0,hfz16_1,hfz16_2,hfz16_3,hfz16_4,hfz16_5,hfz16_6⟩:=cz7_ BK904.out) | ((with_reducible refine gc_ 26 ?_);refine gl_ (some 9) Tryd.func26 #[.agg #[.int .i64 a0_0,.slice A0_1 l0_1.length c0_1],.agg #[.int .i64 a1_0,.slice A1_1 l1_1.length c1_1]] ?_;(with_reducible refine (Y68.calls k a0_0 _ _ l0_1 a1_0 _ _ l1_1 true _ ?s1 ?s2 ?s3 ?s4 A3.out).mono ?_);(case s1=>repeat (first | exact (Kd.C_below HR0_1.out HB.out) | (with_reducible refine Kd.C_alloc ?_ _) | (with_reducible refine Kd.C_drewN ?_ _) | (with_reducible refine Kd.C_drew ?_)));(case s2=>exact HC0_1.out);(case s3=>repeat (first | exact (Kd.C_below HR1_1.out HB.out) | (with_reducible refine Kd.C_alloc ?_ _) | (with_reducible refine Kd.C_drewN ?_ _) | (with_reducible refine Kd.C_drew ?_)));(case s4=>exact HC1_1.out);rintro e w17 ⟨rfl,hb⟩;refine ⟨_,rfl,?_⟩;have n0_:=aM (blkB_ BK903.out hb);have n1_:=aM (blkB_ BK904.out hb);have n2_:=aM (below_step (z7_ HB.out GE903.out GE904.out) hb);clear BK903;clear BK904;clear HB;have BK903:=n0_;have BK904:=n1_;have HB:=n2_;clear n0_ n1_ n2_;(try clear hb);have ⟨hcz18_0,hcz18_1,hcz18_2,hcz18_3,hcz18_4,hcz18_5,hcz18_6,hfz18_0,hfz18_1,hfz18_2,hfz18_3,hfz18_4,hfz18_5,hfz18_6⟩:=cz7_ BK903.out;have ⟨hcz19_0,hcz19_1,hcz19_2,hcz19_3,hcz19_4,hcz19_5,hcz19_6,hfz19_0,hfz19_1,hfz19_2,hfz19_3,hfz19_4,hfz19_5,hfz19_6⟩:=cz7_ BK904.out) | ((with_reducible refine gc_ 97 ?_);refine gl_ (some 15) Tryd.func97 #[.slice A0_2 l0_2.length c0_2,.slice A1_2 l1_2.length c1_2] ?_;(with_reducible refine (Y16.calls k _ _ l0_2 _ _ l1_2 true _ ?s1 ?s2 ?s3 ?s4 A5.out).mono ?_);(case s1=>repeat (first | exact (Kd.C_below HR0_2.out HB.out) | (with_reducible refine Kd.C_alloc ?_ _) | (with_reducible refine Kd.C_drewN ?_ _) | (with_reducible refine Kd.C_drew ?_)));(case s2=>exact HC0_2.out);(case s3=>repeat (first | exact (Kd.C_below HR1_2.out HB.out) | (with_reducible refine Kd.C_alloc ?_ _) | (with_reducible refine Kd.C_drewN ?_ _) | (with_reducible refine Kd.C_drew ?_)));(case s4=>exact HC1_2.out);rintro e w20 ⟨rfl,hb⟩;refine ⟨_,rfl,?_⟩;have n0_:=aM (blkB_ BK903.out hb);have n1_:=aM (blkB_ BK904.out hb);have n2_:=aM (below_step (z7_ HB.out GE903.out GE904.out) hb);clear BK903;clear BK904;clear HB;have BK903:=n0_;have BK904:=n1_;have HB:=n2_;clear n0_ n1_ n2_;(try clear hb);have ⟨hcz21_0,hcz21_1,hcz21_2,hcz21_3,hcz21_4,hcz21_5,hcz21_6,hfz21_0,hfz21_1,hfz21_2,hfz21_3,hfz21_4,hfz21_5,hfz21_6⟩:=cz7_ BK903.out;have ⟨hcz22_0,hcz22_1,hcz22_2,hcz22_3,hcz22_4,hcz22_5,hcz22_6,hfz22_0,hfz22_1,hfz22_2,hfz22_3,hfz22_4,hfz22_5,hfz22_6⟩:=cz7_ BK904.out) | ((with_reducible refine gc_ 25 ?_);refine gl_ (some 21) Tryd.func25 #[.slice A0_3 l0_3.length c0_3,.slice A1_3 l1_3.length c1_3] ?_;(with_reducible refine (Y25.calls k _ _ l0_3 _ _ l1_3 true _ ?s1 ?s2 ?s3 ?s4 A7.out).mono ?_);(case s1=>repeat (first | exact (Kd.C_below HR0_3.out HB.out) | (with_reducible refine Kd.C_alloc ?_ _) | (with_reducible refine Kd.C_drewN ?_ _) | (with_reducible refine Kd.C_drew ?_)));(case s2=>exact HC0_3.out);(case s3=>repeat (first | exact (Kd.C_below HR1_3.out HB.out) | (with_reducible refine Kd.C_alloc ?_ _) | (with_reducible refine Kd.C_drewN ?_ _) | (with_reducible refine Kd.C_drew ?_)));(case s4=>exact HC1_3.out);rintro e w' ⟨rfl,⟨nd,rfl⟩⟩;refine ⟨_,rfl,?_⟩))
       go_ret
       exact ⟨z9_,z7_ HB.out GE903.out GE904.out⟩
      ·rw [if_neg c11] at H
       exact nO H
     ·rw [if_neg c10] at H
      exact nO H
    ·rw [if_neg c9] at H
     exact nO H
   ·replace c8:=Bool.eq_false_iff.mpr c8
    subst c8
    have H1:(none)=some r:=by rw [if_neg (show ¬ (false=true) by decide)] at H;exact H
    clear H
    have H:=H1
    clear H1
    exact nO H
  ·replace c6:=Bool.eq_false_iff.mpr c6
   subst c6
   have H1:(none)=some r:=by rw [if_neg (show ¬ (false=true) by decide)] at H;exact H
   clear H
   have H:=H1
   clear H1
   exact nO H
 ·replace c4:=Bool.eq_false_iff.mpr c4
  subst c4
  have H1:(none)=some r:=by rw [if_neg (show ¬ (false=true) by decide)] at H;exact H
  clear H
  have H:=H1
  clear H1
  exact nO H


/-! ### Y43: function 98 -/
def Y43.l0:Nat→Int→Option (Bool)
 | 0,_=>none
 | k+1,x5=>if x5<0 then (none) else (some true)
def Y43.f (k:Nat) (a0:Int) (a1:Int):Option (Bool):=if 0=0 then (Y43.l0 k 0) else (none)
theorem Y43.mono_l:∀ k,(∀ y0,LeO (Y43.l0 k y0) (Y43.l0 (k+1) y0))
 | 0=>by intros <;> exact LeO.none _
 | k+1=>by
  have ih0:=Y43.mono_l k
  ·intros
   unfold Y43.l0
   exact mO
theorem Y43.mono:∀ a0 a1 k,LeO (Y43.f k a0 a1) (Y43.f (k+1) a0 a1):=by
 intro a0 a1 k
 have ih0:=Y43.mono_l k
 unfold Y43.f
 exact mO
theorem Y43.calls (k:Nat) (a0:Int) (a1:Int) (r:Bool) (w:World) (h:Y43.f k a0 a1=some r) :
  Calls Tryd.prog 98 #[.slice none 0 0,.slice none 0 0] w fun e w'=>e = .returned (.bool r)∧Drawn0 w w':=by
 have H:(if 0=0 then (Y43.l0 k 0) else (none))=some r:=h
 clear h
 by_cases c3:0=0
 ·rw [if_pos c3] at H
  have c3b0:(0 == 0)=true:=beq_iff_eq.mpr c3
  have c3b1:(0 != 0)=false:=bne_eq_false_iff_eq.mpr c3
  clear c3
  have H':=aM H
  clear H
  go_enter Tryd.func98,Tryd.ntmps98
  go_wp2
  go_loopg [5] k (fun kq v5 w'=>∃ (x5_1:Int),v5 = .int .i64 x5_1∧Aside0 (Y43.l0 kq x5_1=some r)∧Aside0 (kq≤k)∧Drawn0 w w')
  case atStart=>exact ⟨(0),(z0_),H',⟨Nat.le_refl _⟩,z6_⟩
  case round =>
   clear H'
   try clear p2
   try clear c3
   try clear c3b0
   try clear c3b1
   obtain ⟨x5_1,rfl,HA,HK1,⟨m1,rfl⟩⟩:=hrel
   cases gk with
   | zero=>exact absurd HA.out (by simp [Y43.l0])
   | succ k1 =>
    have H:=HA.out
    clear HA
    simp only [Y43.l0] at H
    by_cases c4:x5_1<0
    ·rw [if_pos c4] at H
     exact nO H
    ·rw [if_neg c4] at H
     have c4b0:decide (x5_1<0)=false:=dF c4
     clear c4
     obtain rfl:=sI H
     go_wp2
     go_ret
     exact ⟨z0_,z6_⟩
 ·rw [if_neg c3] at H
  exact nO H


/-! ### Y46: function 99 -/
def Y46.l0:Nat→Int→Option (Bool)
 | 0,_=>none
 | k+1,x5=>if x5<0 then (none) else (some true)
def Y46.f (k:Nat) (a0:Int) (a1:Int):Option (Bool):=if 0=0 then (Y46.l0 k 0) else (none)
theorem Y46.mono_l:∀ k,(∀ y0,LeO (Y46.l0 k y0) (Y46.l0 (k+1) y0))
 | 0=>by intros <;> exact LeO.none _
 | k+1=>by
  have ih0:=Y46.mono_l k
  ·intros
   unfold Y46.l0
   exact mO
theorem Y46.mono:∀ a0 a1 k,LeO (Y46.f k a0 a1) (Y46.f (k+1) a0 a1):=by
 intro a0 a1 k
 have ih0:=Y46.mono_l k
 unfold Y46.f
 exact mO
theorem Y46.calls (k:Nat) (a0:Int) (a1:Int) (r:Bool) (w:World) (h:Y46.f k a0 a1=some r) :
  Calls Tryd.prog 99 #[.slice none 0 0,.slice none 0 0] w fun e w'=>e = .returned (.bool r)∧Drawn0 w w':=by
 have H:(if 0=0 then (Y46.l0 k 0) else (none))=some r:=h
 clear h
 by_cases c3:0=0
 ·rw [if_pos c3] at H
  have c3b0:(0 == 0)=true:=beq_iff_eq.mpr c3
  have c3b1:(0 != 0)=false:=bne_eq_false_iff_eq.mpr c3
  clear c3
  have H':=aM H
  clear H
  go_enter Tryd.func99,Tryd.ntmps99
  go_wp2
  go_loopg [5] k (fun kq v5 w'=>∃ (x5_1:Int),v5 = .int .i64 x5_1∧Aside0 (Y46.l0 kq x5_1=some r)∧Aside0 (kq≤k)∧Drawn0 w w')
  case atStart=>exact ⟨(0),(z0_),H',⟨Nat.le_refl _⟩,z6_⟩
  case round =>
   clear H'
   try clear p2
   try clear c3
   try clear c3b0
   try clear c3b1
   obtain ⟨x5_1,rfl,HA,HK1,⟨m1,rfl⟩⟩:=hrel
   cases gk with
   | zero=>exact absurd HA.out (by simp [Y46.l0])
   | succ k1 =>
    have H:=HA.out
    clear HA
    simp only [Y46.l0] at H
    by_cases c4:x5_1<0
    ·rw [if_pos c4] at H
     exact nO H
    ·rw [if_neg c4] at H
     have c4b0:decide (x5_1<0)=false:=dF c4
     clear c4
     obtain rfl:=sI H
     go_wp2
     go_ret
     exact ⟨z0_,z6_⟩
 ·rw [if_neg c3] at H
  exact nO H


/-! ### Y71: function 68 -/
def Y71.f (k:Nat) (a0_0:Int) (a0_1:Int) (a1_0:Int) (a1_1:Int):Option (Bool):=(Y43.f k a0_0 a1_0).bind fun t910=>(if t910=true then ((Y46.f k a0_1 a1_1).bind fun t911=>(if t911=true then (some true) else (none))) else (none))
theorem Y71.mono:∀ a0 a1 a2 a3 k,LeO (Y71.f k a0 a1 a2 a3) (Y71.f (k+1) a0 a1 a2 a3):=by
 intro a0 a1 a2 a3 k
 have m0:=@Y43.mono
 have m1:=@Y46.mono
 unfold Y71.f
 exact mO
theorem Y71.calls (k:Nat) (a0_0:Int) (a0_1:Int) (a1_0:Int) (a1_1:Int) (r:Bool) (w:World) (h:Y71.f k a0_0 a0_1 a1_0 a1_1=some r) :
  Calls Tryd.prog 68 #[.agg #[.slice none 0 0,.slice none 0 0],.agg #[.slice none 0 0,.slice none 0 0]] w fun e w'=>e = .returned (.bool r)∧Below w.heap.size w w':=by
 have hu60:=Tryd.underlying60
 have HB:=aM (Below.refl w.heap.size w)
 have H:((Y43.f k a0_0 a1_0).bind fun t910=>(if t910=true then ((Y46.f k a0_1 a1_1).bind fun t911=>(if t911=true then (some true) else (none))) else (none)))=some r:=h
 clear h
 replace H:=bS H
 obtain ⟨t910,A30,H⟩:=H
 replace H:(if t910=true then ((Y46.f k a0_1 a1_1).bind fun t911=>(if t911=true then (some true) else (none))) else (none))=some r:=H
 have A3:=aM A30
 clear A30
 by_cases c4:t910=true
 ·subst c4
  have H1:((Y46.f k a0_1 a1_1).bind fun t911=>(if t911=true then (some true) else (none)))=some r:=by rw [if_pos rfl] at H;exact H
  clear H
  have H:=H1
  clear H1
  replace H:=bS H
  obtain ⟨t911,A50,H⟩:=H
  replace H:(if t911=true then (some true) else (none))=some r:=H
  have A5:=aM A50
  clear A50
  by_cases c6:t911=true
  ·subst c6
   have H1:(some true)=some r:=by rw [if_pos rfl] at H;exact H
   clear H
   have H:=H1
   clear H1
   obtain rfl:=sI H
   go_enter Tryd.func68,Tryd.ntmps68
   go_wp2_with (first | ((with_reducible refine gd_ 2 ?_);refine be_ 2 #[.slice none 0 0,.slice none 0 0] 60 ?_;intro gb908 hg w7 hbox hb;have n0_:=aM (below_step (z3_ HB.out) hb);have n1_:=aM (hbox);have n2_:=aM ((z10_ HB.out:w.heap.size≤gb908));have n3_:=aM ((z10_ HB.out:w.heap.size≤gb908));clear HB;have HB:=n0_;have BK908:=n1_;have GW908:=n2_;have GE908:=n3_;clear n0_ n1_ n2_ n3_;clear hb hbox hg) | ((with_reducible refine gd_ 3 ?_);refine be_ 3 #[.slice none 0 0,.slice none 0 0] 60 ?_;intro gb909 hg w8 hbox hb;have n0_:=aM (blkB_ BK908.out hb);have n1_:=aM (below_step (z8_ HB.out GE908.out) hb);have n2_:=aM (hbox);have n3_:=aM ((z13_ HB.out GE908.out:w.heap.size≤gb909));have n4_:=aM ((z13_ HB.out GE908.out:w.heap.size≤gb909));have n5_:=aM (neL_ BK908.out hg);have n6_:=aM (neG_ BK908.out hg);clear BK908;clear HB;have BK908:=n0_;have HB:=n1_;have BK909:=n2_;have GW909:=n3_;have GE909:=n4_;have NB908_909:=n5_;have NB909_908:=n6_;clear n0_ n1_ n2_ n3_ n4_ n5_ n6_;clear hb hbox hg;have hnb9:=NB908_909.out;have hnc9:=NB909_908.out;have ⟨hcz10_0,hcz10_1,hfz10_0,hfz10_1⟩:=cz2_ BK908.out;have ⟨hcz11_0,hcz11_1,hfz11_0,hfz11_1⟩:=cz2_ BK909.out) | ((with_reducible refine gc_ 98 ?_);refine gl_ (some 9) Tryd.func98 #[.slice none 0 0,.slice none 0 0] ?_;(with_reducible refine (Y43.calls k a0_0 a1_0 true _ A3.out).mono ?_);rintro e w' ⟨rfl,⟨nd,rfl⟩⟩;refine ⟨_,rfl,?_⟩) | ((with_reducible refine gc_ 99 ?_);refine gl_ (some 15) Tryd.func99 #[.slice none 0 0,.slice none 0 0] ?_;(with_reducible refine (Y46.calls k a0_1 a1_1 true _ A5.out).mono ?_);rintro e w' ⟨rfl,⟨nd,rfl⟩⟩;refine ⟨_,rfl,?_⟩))
   go_ret
   exact ⟨z9_,z7_ HB.out GE908.out GE909.out⟩
  ·replace c6:=Bool.eq_false_iff.mpr c6
   subst c6
   have H1:(none)=some r:=by rw [if_neg (show ¬ (false=true) by decide)] at H;exact H
   clear H
   have H:=H1
   clear H1
   exact nO H
 ·replace c4:=Bool.eq_false_iff.mpr c4
  subst c4
  have H1:(none)=some r:=by rw [if_neg (show ¬ (false=true) by decide)] at H;exact H
  clear H
  have H:=H1
  clear H1
  exact nO H


/-! ### Y27: function 35 -/
def Y27.f (k:Nat) (a0_0:Int) (l0_1:List (S77)) (l0_2:List (S95)) (l0_3:List Int) (a0_4:Int) (a0_5:Int) (a0_6:Int) (a0_7:Int) (a0_8:Int) (a0_9:Int) (a1_0:Int) (l1_1:List (S77)) (l1_2:List (S95)) (l1_3:List Int) (a1_4:Int) (a1_5:Int) (a1_6:Int) (a1_7:Int) (a1_8:Int) (a1_9:Int):Option (Bool):=(Y61.f k a0_0 l0_1 l0_2 l0_3 a0_4 a0_5 a0_6 a1_0 l1_1 l1_2 l1_3 a1_4 a1_5 a1_6).bind fun t914=>(if t914=true then ((Y71.f k a0_7 a0_8 a1_7 a1_8).bind fun t915=>(if t915=true then (if a0_9=a1_9 then (some true) else (none)) else (none))) else (none))
theorem Y27.mono:∀ a0 a1 a2 a3 a4 a5 a6 a7 a8 a9 a10 a11 a12 a13 a14 a15 a16 a17 a18 a19 k,LeO (Y27.f k a0 a1 a2 a3 a4 a5 a6 a7 a8 a9 a10 a11 a12 a13 a14 a15 a16 a17 a18 a19) (Y27.f (k+1) a0 a1 a2 a3 a4 a5 a6 a7 a8 a9 a10 a11 a12 a13 a14 a15 a16 a17 a18 a19):=by
 intro a0 a1 a2 a3 a4 a5 a6 a7 a8 a9 a10 a11 a12 a13 a14 a15 a16 a17 a18 a19 k
 have m0:=@Y61.mono
 have m1:=@Y71.mono
 unfold Y27.f
 exact mO
theorem Y27.calls (k:Nat) (a0_0:Int) (A0_1:Option Addr) (c0_1:Nat) (l0_1:List (S77)) (A0_2:Option Addr) (c0_2:Nat) (l0_2:List (S95)) (A0_3:Option Addr) (c0_3:Nat) (l0_3:List Int) (a0_4:Int) (a0_5:Int) (a0_6:Int) (a0_7:Int) (a0_8:Int) (a0_9:Int) (a1_0:Int) (A1_1:Option Addr) (c1_1:Nat) (l1_1:List (S77)) (A1_2:Option Addr) (c1_2:Nat) (l1_2:List (S95)) (A1_3:Option Addr) (c1_3:Nat) (l1_3:List Int) (a1_4:Int) (a1_5:Int) (a1_6:Int) (a1_7:Int) (a1_8:Int) (a1_9:Int) (r:Bool) (w:World) (hr0_1:Kd.C k77 w A0_1 l0_1.length l0_1) (hc0_1:l0_1.length≤c0_1) (hr0_2:Kd.C k95 w A0_2 l0_2.length l0_2) (hc0_2:l0_2.length≤c0_2) (hr0_3:Kd.C (Kd.int .i64) w A0_3 l0_3.length l0_3) (hc0_3:l0_3.length≤c0_3) (hr1_1:Kd.C k77 w A1_1 l1_1.length l1_1) (hc1_1:l1_1.length≤c1_1) (hr1_2:Kd.C k95 w A1_2 l1_2.length l1_2) (hc1_2:l1_2.length≤c1_2) (hr1_3:Kd.C (Kd.int .i64) w A1_3 l1_3.length l1_3) (hc1_3:l1_3.length≤c1_3) (h:Y27.f k a0_0 l0_1 l0_2 l0_3 a0_4 a0_5 a0_6 a0_7 a0_8 a0_9 a1_0 l1_1 l1_2 l1_3 a1_4 a1_5 a1_6 a1_7 a1_8 a1_9=some r) :
  Calls Tryd.prog 35 #[.agg #[.int .i64 a0_0,.slice A0_1 l0_1.length c0_1,.slice A0_2 l0_2.length c0_2,.slice A0_3 l0_3.length c0_3,.int .i64 a0_4,.int .i64 a0_5,.int .i64 a0_6,.slice none 0 0,.slice none 0 0,.int .i64 a0_9],.agg #[.int .i64 a1_0,.slice A1_1 l1_1.length c1_1,.slice A1_2 l1_2.length c1_2,.slice A1_3 l1_3.length c1_3,.int .i64 a1_4,.int .i64 a1_5,.int .i64 a1_6,.slice none 0 0,.slice none 0 0,.int .i64 a1_9]] w fun e w'=>e = .returned (.bool r)∧Below w.heap.size w w':=by
 have hu62:=Tryd.underlying62
 have hu56:=Tryd.underlying56
 have hu60:=Tryd.underlying60
 have HR0_1:=aM hr0_1
 have HC0_1:=aM hc0_1
 clear hr0_1 hc0_1
 have HR0_2:=aM hr0_2
 have HC0_2:=aM hc0_2
 clear hr0_2 hc0_2
 have HR0_3:=aM hr0_3
 have HC0_3:=aM hc0_3
 clear hr0_3 hc0_3
 have HR1_1:=aM hr1_1
 have HC1_1:=aM hc1_1
 clear hr1_1 hc1_1
 have HR1_2:=aM hr1_2
 have HC1_2:=aM hc1_2
 clear hr1_2 hc1_2
 have HR1_3:=aM hr1_3
 have HC1_3:=aM hc1_3
 clear hr1_3 hc1_3
 have HB:=aM (Below.refl w.heap.size w)
 have H:((Y61.f k a0_0 l0_1 l0_2 l0_3 a0_4 a0_5 a0_6 a1_0 l1_1 l1_2 l1_3 a1_4 a1_5 a1_6).bind fun t914=>(if t914=true then ((Y71.f k a0_7 a0_8 a1_7 a1_8).bind fun t915=>(if t915=true then (if a0_9=a1_9 then (some true) else (none)) else (none))) else (none)))=some r:=h
 clear h
 replace H:=bS H
 obtain ⟨t914,A30,H⟩:=H
 replace H:(if t914=true then ((Y71.f k a0_7 a0_8 a1_7 a1_8).bind fun t915=>(if t915=true then (if a0_9=a1_9 then (some true) else (none)) else (none))) else (none))=some r:=H
 have A3:=aM A30
 clear A30
 by_cases c4:t914=true
 ·subst c4
  have H1:((Y71.f k a0_7 a0_8 a1_7 a1_8).bind fun t915=>(if t915=true then (if a0_9=a1_9 then (some true) else (none)) else (none)))=some r:=by rw [if_pos rfl] at H;exact H
  clear H
  have H:=H1
  clear H1
  replace H:=bS H
  obtain ⟨t915,A50,H⟩:=H
  replace H:(if t915=true then (if a0_9=a1_9 then (some true) else (none)) else (none))=some r:=H
  have A5:=aM A50
  clear A50
  by_cases c6:t915=true
  ·subst c6
   have H1:(if a0_9=a1_9 then (some true) else (none))=some r:=by rw [if_pos rfl] at H;exact H
   clear H
   have H:=H1
   clear H1
   by_cases c7:a0_9=a1_9
   ·rw [if_pos c7] at H
    have c7b0:(a0_9 == a1_9)=true:=beq_iff_eq.mpr c7
    have c7b1:(a0_9 != a1_9)=false:=bne_eq_false_iff_eq.mpr c7
    clear c7
    obtain rfl:=sI H
    go_enter Tryd.func35,Tryd.ntmps35
    go_wp2_with (first | ((with_reducible refine gd_ 2 ?_);refine be_ 2 #[.int .i64 a0_0,.slice A0_1 l0_1.length c0_1,.slice A0_2 l0_2.length c0_2,.slice A0_3 l0_3.length c0_3,.int .i64 a0_4,.int .i64 a0_5,.int .i64 a0_6,.slice none 0 0,.slice none 0 0,.int .i64 a0_9] 62 ?_;intro gb912 hg w8 hbox hb;have n0_:=aM (below_step (z3_ HB.out) hb);have n1_:=aM (hbox);have n2_:=aM ((z10_ HB.out:w.heap.size≤gb912));have n3_:=aM ((z10_ HB.out:w.heap.size≤gb912));clear HB;have HB:=n0_;have BK912:=n1_;have GW912:=n2_;have GE912:=n3_;clear n0_ n1_ n2_ n3_;clear hb hbox hg) | ((with_reducible refine gd_ 3 ?_);refine be_ 3 #[.int .i64 a1_0,.slice A1_1 l1_1.length c1_1,.slice A1_2 l1_2.length c1_2,.slice A1_3 l1_3.length c1_3,.int .i64 a1_4,.int .i64 a1_5,.int .i64 a1_6,.slice none 0 0,.slice none 0 0,.int .i64 a1_9] 62 ?_;intro gb913 hg w9 hbox hb;have n0_:=aM (blkB_ BK912.out hb);have n1_:=aM (below_step (z8_ HB.out GE912.out) hb);have n2_:=aM (hbox);have n3_:=aM ((z13_ HB.out GE912.out:w.heap.size≤gb913));have n4_:=aM ((z13_ HB.out GE912.out:w.heap.size≤gb913));have n5_:=aM (neL_ BK912.out hg);have n6_:=aM (neG_ BK912.out hg);clear BK912;clear HB;have BK912:=n0_;have HB:=n1_;have BK913:=n2_;have GW913:=n3_;have GE913:=n4_;have NB912_913:=n5_;have NB913_912:=n6_;clear n0_ n1_ n2_ n3_ n4_ n5_ n6_;clear hb hbox hg;have hnb10:=NB912_913.out;have hnc10:=NB913_912.out;have ⟨hcz11_0,hcz11_1,hcz11_2,hcz11_3,hcz11_4,hcz11_5,hcz11_6,hcz11_7,hcz11_8,hcz11_9,hfz11_0,hfz11_1,hfz11_2,hfz11_3,hfz11_4,hfz11_5,hfz11_6,hfz11_7,hfz11_8,hfz11_9⟩:=cz10_ BK912.out;have ⟨hcz12_0,hcz12_1,hcz12_2,hcz12_3,hcz12_4,hcz12_5,hcz12_6,hcz12_7,hcz12_8,hcz12_9,hfz12_0,hfz12_1,hfz12_2,hfz12_3,hfz12_4,hfz12_5,hfz12_6,hfz12_7,hfz12_8,hfz12_9⟩:=cz10_ BK913.out) | ((with_reducible refine gc_ 67 ?_);refine gl_ (some 9) Tryd.func67 #[.agg #[.int .i64 a0_0,.slice A0_1 l0_1.length c0_1,.slice A0_2 l0_2.length c0_2,.slice A0_3 l0_3.length c0_3,.int .i64 a0_4,.int .i64 a0_5,.int .i64 a0_6],.agg #[.int .i64 a1_0,.slice A1_1 l1_1.length c1_1,.slice A1_2 l1_2.length c1_2,.slice A1_3 l1_3.length c1_3,.int .i64 a1_4,.int .i64 a1_5,.int .i64 a1_6]] ?_;(with_reducible refine (Y61.calls k a0_0 _ _ l0_1 _ _ l0_2 _ _ l0_3 a0_4 a0_5 a0_6 a1_0 _ _ l1_1 _ _ l1_2 _ _ l1_3 a1_4 a1_5 a1_6 true _ ?s1 ?s2 ?s3 ?s4 ?s5 ?s6 ?s7 ?s8 ?s9 ?s10 ?s11 ?s12 A3.out).mono ?_);(case s1=>repeat (first | exact (Kd.C_below HR0_1.out HB.out) | (with_reducible refine Kd.C_alloc ?_ _) | (with_reducible refine Kd.C_drewN ?_ _) | (with_reducible refine Kd.C_drew ?_)));(case s2=>exact HC0_1.out);(case s3=>repeat (first | exact (Kd.C_below HR0_2.out HB.out) | (with_reducible refine Kd.C_alloc ?_ _) | (with_reducible refine Kd.C_drewN ?_ _) | (with_reducible refine Kd.C_drew ?_)));(case s4=>exact HC0_2.out);(case s5=>repeat (first | exact (Kd.C_below HR0_3.out HB.out) | (with_reducible refine Kd.C_alloc ?_ _) | (with_reducible refine Kd.C_drewN ?_ _) | (with_reducible refine Kd.C_drew ?_)));(case s6=>exact HC0_3.out);(case s7=>repeat (first | exact (Kd.C_below HR1_1.out HB.out) | (with_reducible refine Kd.C_alloc ?_ _) | (with_reducible refine Kd.C_drewN ?_ _) | (with_reducible refine Kd.C_drew ?_)));(case s8=>exact HC1_1.out);(case s9=>repeat (first | exact (Kd.C_below HR1_2.out HB.out) | (with_reducible refine Kd.C_alloc ?_ _) | (with_reducible refine Kd.C_drewN ?_ _) | (with_reducible refine Kd.C_drew ?_)));(case s10=>exact HC1_2.out);(case s11=>repeat (first | exact (Kd.C_below HR1_3.out HB.out) | (with_reducible refine Kd.C_alloc ?_ _) | (with_reducible refine Kd.C_drewN ?_ _) | (with_reducible refine Kd.C_drew ?_)));(case s12=>exact HC1_3.out);rintro e w13 ⟨rfl,hb⟩;refine ⟨_,rfl,?_⟩;have n0_:=aM (blkB_ BK912.out hb);have n1_:=aM (blkB_ BK913.out hb);have n2_:=aM (below_step (z7_ HB.out GE912.out GE913.out) hb);clear BK912;clear BK913;clear HB;have BK912:=n0_;have BK913:=n1_;have HB:=n2_;clear n0_ n1_ n2_;(try clear hb);have ⟨hcz14_0,hcz14_1,hcz14_2,hcz14_3,hcz14_4,hcz14_5,hcz14_6,hcz14_7,hcz14_8,hcz14_9,hfz14_0,hfz14_1,hfz14_2,hfz14_3,hfz14_4,hfz14_5,hfz14_6,hfz14_7,hfz14_8,hfz14_9⟩:=cz10_ BK912.out;have ⟨hcz15_0,hcz15_1,hcz15_2,hcz15_3,hcz15_4,hcz15_5,hcz15_6,hcz15_7,hcz15_8,hcz15_9,hfz15_0,hfz15_1,hfz15_2,hfz15_3,hfz15_4,hfz15_5,hfz15_6,hfz15_7,hfz15_8,hfz15_9⟩:=cz10_ BK913.out) | ((with_reducible refine gc_ 68 ?_);refine gl_ (some 15) Tryd.func68 #[.agg #[.slice none 0 0,.slice none 0 0],.agg #[.slice none 0 0,.slice none 0 0]] ?_;(with_reducible refine (Y71.calls k a0_7 a0_8 a1_7 a1_8 true _ A5.out).mono ?_);rintro e w16 ⟨rfl,hb⟩;refine ⟨_,rfl,?_⟩;have n0_:=aM (blkB_ BK912.out hb);have n1_:=aM (blkB_ BK913.out hb);have n2_:=aM (below_step (z7_ HB.out GE912.out GE913.out) hb);clear BK912;clear BK913;clear HB;have BK912:=n0_;have BK913:=n1_;have HB:=n2_;clear n0_ n1_ n2_;(try clear hb);have ⟨hcz17_0,hcz17_1,hcz17_2,hcz17_3,hcz17_4,hcz17_5,hcz17_6,hcz17_7,hcz17_8,hcz17_9,hfz17_0,hfz17_1,hfz17_2,hfz17_3,hfz17_4,hfz17_5,hfz17_6,hfz17_7,hfz17_8,hfz17_9⟩:=cz10_ BK912.out;have ⟨hcz18_0,hcz18_1,hcz18_2,hcz18_3,hcz18_4,hcz18_5,hcz18_6,hcz18_7,hcz18_8,hcz18_9,hfz18_0,hfz18_1,hfz18_2,hfz18_3,hfz18_4,hfz18_5,hfz18_6,hfz18_7,hfz18_8,hfz18_9⟩:=cz10_ BK913.out))
    go_ret
    exact ⟨z9_,z7_ HB.out GE912.out GE913.out⟩
   ·rw [if_neg c7] at H
    exact nO H
  ·replace c6:=Bool.eq_false_iff.mpr c6
   subst c6
   have H1:(none)=some r:=by rw [if_neg (show ¬ (false=true) by decide)] at H;exact H
   clear H
   have H:=H1
   clear H1
   exact nO H
 ·replace c4:=Bool.eq_false_iff.mpr c4
  subst c4
  have H1:(none)=some r:=by rw [if_neg (show ¬ (false=true) by decide)] at H;exact H
  clear H
  have H:=H1
  clear H1
  exact nO H


/-! ### Y23: function 60 -/
def Y23.l0:Nat→List (S77)→Int→Int→Option (Int × (List (S77)))
 | 0,_,_,_=>none
 | k+1,x0,x1,x5=>if x5<(x0.length:Int) then (if 0≤x5 then ((some (x0.set (x5:Int).toNat (⟨x1,(rd_T77 x0 x5).f1⟩:S77):List (S77))).bind fun y266=>(Y23.l0 k (y266.set (x5:Int).toNat (⟨(rd_T77 y266 x5).f0,wrap64 (x1+1)⟩:S77)) (wrap64 ((wrap64 (x1+1))+1)) (wrap64 (x5+1)))) else (none)) else (some (x1,x0))
def Y23.f (k:Nat) (l0:List (S77)) (a1:Int):Option (Int × (List (S77))):=Y23.l0 k l0 a1 0
theorem Y23.mono_l:∀ k,(∀ y0 y1 y2,LeO (Y23.l0 k y0 y1 y2) (Y23.l0 (k+1) y0 y1 y2))
 | 0=>by intros <;> exact LeO.none _
 | k+1=>by
  have ih0:=Y23.mono_l k
  ·intros
   unfold Y23.l0
   exact mO
theorem Y23.mono:∀ a0 a1 k,LeO (Y23.f k a0 a1) (Y23.f (k+1) a0 a1):=by
 intro a0 a1 k
 have ih0:=Y23.mono_l k
 unfold Y23.f
 exact mO
theorem Y23.calls (k:Nat) (P0_:Nat→Prop) (u9000_:Value) (l0:List (S77)) (a1:Int) (r1:Int) (r2:List (S77)) (w0 w:World) (hB:Below w0.heap.size w0 w) (ho0:Kd.R k77 77 w w0.heap.size P0_ u9000_ l0) (h:Y23.f k l0 a1=some (r1,r2)) :
  Calls Tryd.prog 60 #[u9000_,.int .i64 a1] w fun e w'=>e = .returned (.int .i64 r1)∧Kd.R k77 77 w' w0.heap.size (fun k_=>(P0_ k_∨w.heap.size≤k_)) u9000_ r2∧Below w0.heap.size w0 w'∧Kept w w' (fun k_=>P0_ k_):=by
 have HO0:=aM (show Kd.R k77 77 w w0.heap.size (fun k_=>(P0_ k_∨w.heap.size≤k_)) u9000_ l0 from Kd.R_mono ho0 (fun k_ hk=>(.inl hk)))
 have HK:=aM (Kept.refl w (fun k_=>P0_ k_))
 have HW0:=aM hB.size
 have HB:=aM hB
 clear hB
 have H:(Y23.l0 k l0 a1 0)=some (r1,r2):=h
 clear h
 have H':=aM H
 clear H
 go_enter Tryd.func60,Tryd.ntmps60
 go_wp2
 go_loopg [1,5] k (fun kq v1 v5 w'=>∃ (x0_1:List (S77)) (x1_1:Int) (x5_1:Int),v1 = .int .i64 x1_1∧v5 = .int .i64 x5_1∧Aside0 (Y23.l0 kq x0_1 x1_1 x5_1=some (r1,r2))∧Aside0 (kq≤k)∧Aside0 (Kd.R k77 77 w' w0.heap.size (fun k_=>(P0_ k_∨w.heap.size≤k_)) u9000_ x0_1)∧Aside0 (Kept w w' (fun k_=>P0_ k_))∧Aside0 (Below w0.heap.size w0 w'))
 case atStart=>exact ⟨(l0),(a1),(0),(z0_),(z0_),H',⟨Nat.le_refl _⟩,⟨z2_ HO0.out⟩,⟨z5_ HK.out⟩,⟨z3_ HB.out⟩⟩
 case round =>
  clear H'
  try clear p2
  obtain ⟨x0_1,x1_1,x5_1,rfl,rfl,HA,HK1,HO_0,HK,HB⟩:=hrel
  cases gk with
  | zero=>exact absurd HA.out (by simp [Y23.l0])
  | succ k1 =>
   have H:=HA.out
   clear HA
   simp only [Y23.l0] at H
   by_cases c3:x5_1<(x0_1.length:Int)
   ·rw [if_pos c3] at H
    have c3b0:decide (x5_1<(x0_1.length:Int))=true:=dE c3
    clear c3
    by_cases c4:0≤x5_1
    ·rw [if_pos c4] at H
     have c4b0:decide (0≤x5_1)=true:=dE c4
     clear c4
     obtain ⟨y266,hy266⟩:∃ y_:List (S77),y_=(x0_1.set (x5_1:Int).toNat (⟨x1_1,(rd_T77 x0_1 x5_1).f1⟩:S77)):=⟨_,rfl⟩
     replace H:(Y23.l0 k1 (y266.set (x5_1:Int).toNat (⟨(rd_T77 y266 x5_1).f0,wrap64 (x1_1+1)⟩:S77)) (wrap64 ((wrap64 (x1_1+1))+1)) (wrap64 (x5_1+1)))=some (r1,r2):=by first | (rw [hy266];with_reducible exact H) | (have H2_:=(Option.bind_some _ _).symm.trans H;rw [hy266];with_reducible exact H2_) | (have H2_:=(Option.bind_some _ _).symm.trans H;with_reducible exact H2_) | with_reducible exact H | (rw [hy266];exact H) | exact H
     have Ny266:=aM hy266
     clear hy266
     obtain ⟨y267,hy267⟩:∃ y_:List (S77),y_=(y266.set (x5_1:Int).toNat (⟨(rd_T77 y266 x5_1).f0,wrap64 (x1_1+1)⟩:S77)):=⟨_,rfl⟩
     replace H:(Y23.l0 k1 y267 (wrap64 ((wrap64 (x1_1+1))+1)) (wrap64 (x5_1+1)))=some (r1,r2):=by first | (rw [hy267];with_reducible exact H) | (have H2_:=(Option.bind_some _ _).symm.trans H;rw [hy267];with_reducible exact H2_) | (have H2_:=(Option.bind_some _ _).symm.trans H;with_reducible exact H2_) | with_reducible exact H | (rw [hy267];exact H) | exact H
     have Ny267:=aM hy267
     clear hy267
     have H':=aM H
     clear H
     obtain ⟨Ao7,co7,eo7⟩:=Kd.R_slice HO_0.out
     subst eo7
     have p5:0≤(x5_1:Int):=dT (z1_)
     have q5:(x5_1:Int)<((x0_1.length:Int):Int):=dT (z1_)
     obtain ⟨go5,co5,eo5,gb5,gl5,cl5,HG5⟩:=Kd.R_form HO_0.out (by omega)
     (first | cases eo5 | (injection eo5 with ea_ en_ ec_;(first | subst ea_ | (injection ea_ with ea_;subst ea_));subst ec_;clear en_))
     have GB5:=aM gb5
     have GG5:=aM HG5
     clear gb5 gl5 HG5
     have HMgo5:=aM (show (P0_ go5∨w.heap.size≤go5) from (HO_0.out.1 _ rfl))
     obtain ⟨ce5,hcl5,hM5,hcc5,hfr5⟩:=Kd.R_elem HO_0.out z77 (x5_1:Int) p5 q5
     obtain rfl:=k77_openM hM5
     have hx5_0:wr.cell? ⟨go5,(x5_1:Int).toNat*2,none⟩=some (.int .i64 ((rd_T77 x0_1 x5_1).f0)):=hcc5 0 _ rfl
     have hx5_1:wr.cell? ⟨go5,(x5_1:Int).toNat*2+1,none⟩=some (.int .i64 ((rd_T77 x0_1 x5_1).f1)):=hcc5 1 _ rfl
     have hf5_0:wr.frozen? ⟨go5,(x5_1:Int).toNat*2,none⟩=false:=hfr5 0
     have hf5_1:wr.frozen? ⟨go5,(x5_1:Int).toNat*2+1,none⟩=false:=hfr5 1
     clear hcl5 hcc5 hfr5 hM5
     replace p5:=eq_true p5
     replace q5:=eq_true q5
     have HX8:=aM (show Kd.R k77 77 wr w0.heap.size (fun k_=>(P0_ k_∨w.heap.size≤k_)) (.slice (some ⟨go5,0,none⟩) x0_1.length co7) x0_1 from (z2_ HO_0.out))
     obtain ⟨ce8,hcl8,hM8,hcc8,hfr8⟩:=Kd.R_elem HX8.out z77 (x5_1:Int) (dT (z1_)) (z17_ HO_0.out)
     obtain rfl:=k77_openM hM8
     have HP8:=Kd.R_seg HX8.out (x5_1:Int) (dT (z1_)) (z17_ HO_0.out) (seg:=[.int .i64 x1_1]) (j:=0) hcl8 hcc8 (show 1≤2 from by decide) (x':=(⟨x1_1,(rd_T77 x0_1 x5_1).f1⟩:S77)) (k77_mkM _ _ _ (⟨x1_1,(rd_T77 x0_1 x5_1).f1⟩:S77) ) (fun _ hk=>hk)
     have hx8_0:=hcc8 0 _ rfl
     (try simp only [show (k77).sz=2 from rfl,Nat.mul_one,Nat.add_zero] at hx8_0)
     have hf8_0:=hfr8 0
     (try simp only [show (k77).sz=2 from rfl,Nat.mul_one,Nat.add_zero] at hf8_0)
     clear hcl8 hcc8 hfr8 hM8
     go_wp2_with (first | ((with_reducible refine gate_store (t:=2) (p:=16) rfl ?_);refine store_event (t:=2) (p:=16) (v:=?vo_w9) (w1:=(wr.setCell ⟨go5,(x5_1:Int).toNat*2,none⟩ (.int .i64 x1_1))) ?hg ?ho ?hn ?hr ?_;(case ho=>rfl);(case hg=>rfl);(case hn=>rfl);(case hr=>first | (go_simp;done) | (go_simp;rfl));intro w9 hw;have hg:wr.grownBy w9 (some go5):=(by rw [hw];exact HP8.2);have hp_:Kd.R k77 77 w9 w0.heap.size (fun k_=>(P0_ k_∨w.heap.size≤k_)) (.slice (some ⟨go5,0,none⟩) x0_1.length co7) y266:=(by rw [hw,Ny266.out];exact HP8.1);clear HP8;have n0_:=aM (hp_);have n1_:=aM ((by rw [hw];exact below_set (HB.out) GB5.out:Below w0.heap.size w0 w9));have n2_:=aM (Kept.of_grown (S:=(fun k_=>P0_ k_)) hg (z5_ HK.out) (fun k_ e_=>(HO_0.out.1 k_ e_)));clear HO_0;clear HB;clear HK;have HO_0:=n0_;have HB:=n1_;have HK:=n2_;clear n0_ n1_ n2_;clear hg hw hp_;have p6:0≤(x5_1:Int):=dT (z1_);have q6:(x5_1:Int)<((x0_1.length:Int):Int):=dT (z1_);obtain ⟨ce6,hcl6,hM6,hcc6,hfr6⟩:=Kd.R_elem HO_0.out z77 (x5_1:Int) p6 q6;obtain rfl:=k77_openM hM6;have hx6_0:w9.cell? ⟨go5,(x5_1:Int).toNat*2,none⟩=some (.int .i64 ((rd_T77 y266 x5_1).f0)):=hcc6 0 _ rfl;have hx6_1:w9.cell? ⟨go5,(x5_1:Int).toNat*2+1,none⟩=some (.int .i64 ((rd_T77 y266 x5_1).f1)):=hcc6 1 _ rfl;have hf6_0:w9.frozen? ⟨go5,(x5_1:Int).toNat*2,none⟩=false:=hfr6 0;have hf6_1:w9.frozen? ⟨go5,(x5_1:Int).toNat*2+1,none⟩=false:=hfr6 1;clear hcl6 hcc6 hfr6 hM6;replace p6:=eq_true p6;replace q6:=eq_true q6;have HX10:=aM (show Kd.R k77 77 w9 w0.heap.size (fun k_=>(P0_ k_∨w.heap.size≤k_)) (.slice (some ⟨go5,0,none⟩) x0_1.length co7) y266 from (z2_ HO_0.out));obtain ⟨ce10,hcl10,hM10,hcc10,hfr10⟩:=Kd.R_elem HX10.out z77 (x5_1:Int) (dT (z1_)) (z17_ HO_0.out);obtain rfl:=k77_openM hM10;have HP10:=Kd.R_seg HX10.out (x5_1:Int) (dT (z1_)) (z17_ HO_0.out) (seg:=[.int .i64 (wrap64 (x1_1+1))]) (j:=1) hcl10 hcc10 (show 2≤2 from by decide) (x':=(⟨(rd_T77 y266 x5_1).f0,wrap64 (x1_1+1)⟩:S77)) (k77_mkM _ _ _ (⟨(rd_T77 y266 x5_1).f0,wrap64 (x1_1+1)⟩:S77) ) (fun _ hk=>hk);have hx10_1:=hcc10 1 _ rfl;(try simp only [show (k77).sz=2 from rfl,Nat.mul_one,Nat.add_zero] at hx10_1);have hf10_1:=hfr10 1;(try simp only [show (k77).sz=2 from rfl,Nat.mul_one,Nat.add_zero] at hf10_1);clear hcl10 hcc10 hfr10 hM10) | ((with_reducible refine gate_store (t:=2) (p:=23) rfl ?_);refine store_event (t:=2) (p:=23) (v:=?vo_w11) (w1:=(w9.setCell ⟨go5,(x5_1:Int).toNat*2+1,none⟩ (.int .i64 (wrap64 (x1_1+1))))) ?hg ?ho ?hn ?hr ?_;(case ho=>rfl);(case hg=>rfl);(case hn=>rfl);(case hr=>first | (go_simp;done) | (go_simp;rfl));intro w11 hw;have hg:w9.grownBy w11 (some go5):=(by rw [hw];exact HP10.2);have hp_:Kd.R k77 77 w11 w0.heap.size (fun k_=>(P0_ k_∨w.heap.size≤k_)) (.slice (some ⟨go5,0,none⟩) x0_1.length co7) y267:=(by rw [hw,Ny267.out];exact HP10.1);clear HP10;have n0_:=aM (hp_);have n1_:=aM ((by rw [hw];exact below_set (HB.out) GB5.out:Below w0.heap.size w0 w11));have n2_:=aM (Kept.of_grown (S:=(fun k_=>P0_ k_)) hg (z5_ HK.out) (fun k_ e_=>(HO_0.out.1 k_ e_)));clear HO_0;clear HB;clear HK;have HO_0:=n0_;have HB:=n1_;have HK:=n2_;clear n0_ n1_ n2_;clear hg hw hp_))
     go_roundg k1
     case measure=>have:=HK1.out;omega
     case rel=>exact ⟨(y267),(wrap64 ((wrap64 (x1_1+1))+1)),(wrap64 (x5_1+1)),(z0_),(z0_),H',⟨by have:=HK1.out;omega⟩,⟨z2_ HO_0.out⟩,⟨z5_ HK.out⟩,⟨z3_ HB.out⟩⟩
    ·rw [if_neg c4] at H
     exact nO H
   ·rw [if_neg c3] at H
    have c3b0:decide (x5_1<(x0_1.length:Int))=false:=dF c3
    clear c3
    simp only [Option.some.injEq,Prod.mk.injEq] at H
    obtain ⟨rfl,rfl⟩:=H
    obtain ⟨Ao12,co12,eo12⟩:=Kd.R_slice HO_0.out
    subst eo12
    go_wp2
    go_ret
    exact ⟨z9_,z2_ HO_0.out,z3_ HB.out,z5_ HK.out⟩


/-! ### Y57: function 27 -/
def Y57.f (k:Nat) (a0_0:Int) (l0_1:List (S77)) (a1:Int):Option (Int × (List (S77))):=(Y23.f k l0_1 a1).bind fun bt269=>(some (bt269.1,bt269.2))
theorem Y57.mono:∀ a0 a1 a2 k,LeO (Y57.f k a0 a1 a2) (Y57.f (k+1) a0 a1 a2):=by
 intro a0 a1 a2 k
 have m0:=@Y23.mono
 unfold Y57.f
 exact mO
theorem Y57.calls (k:Nat) (a0_0:Int) (P0_1_:Nat→Prop) (u9000_:Value) (l0_1:List (S77)) (a1:Int) (r1:Int) (r2:List (S77)) (w0 w:World) (hB:Below w0.heap.size w0 w) (ho0_1:Kd.R k77 77 w w0.heap.size P0_1_ u9000_ l0_1) (h:Y57.f k a0_0 l0_1 a1=some (r1,r2)) :
  Calls Tryd.prog 27 #[.agg #[.int .i64 a0_0,u9000_],.int .i64 a1] w fun e w'=>e = .returned (.int .i64 r1)∧Kd.R k77 77 w' w0.heap.size (fun k_=>(P0_1_ k_∨w.heap.size≤k_)) u9000_ r2∧Below w0.heap.size w0 w'∧Kept w w' (fun k_=>P0_1_ k_):=by
 have hu24:=Tryd.underlying24
 have HO0_1:=aM (show Kd.R k77 77 w w0.heap.size (fun k_=>(P0_1_ k_∨w.heap.size≤k_)) u9000_ l0_1 from Kd.R_mono ho0_1 (fun k_ hk=>(.inl hk)))
 have HK:=aM (Kept.refl w (fun k_=>P0_1_ k_))
 have HW0:=aM hB.size
 have HB:=aM hB
 clear hB
 have H:((Y23.f k l0_1 a1).bind fun bt269=>(some (bt269.1,bt269.2)))=some (r1,r2):=h
 clear h
 replace H:=bS H
 obtain ⟨⟨t269,t270⟩,A30,H⟩:=H
 replace H:(some (t269,t270))=some (r1,r2):=H
 have A3:=aM A30
 clear A30
 simp only [Option.some.injEq,Prod.mk.injEq] at H
 obtain ⟨rfl,rfl⟩:=H
 obtain ⟨Ao4,co4,eo4⟩:=Kd.R_slice HO0_1.out
 subst eo4
 go_enter Tryd.func27,Tryd.ntmps27
 go_wp2_with (first | ((with_reducible refine gd_ 2 ?_);refine be_ 2 #[.int .i64 a0_0,.slice Ao4 l0_1.length co4] 24 ?_;intro gb268 hg w5 hbox hb;have n0_:=aM (Kd.R_below (z2_ HO0_1.out) hb);have n1_:=aM (Kept.below (S:=(fun k_=>P0_1_ k_)) (z5_ HK.out) hb);have n2_:=aM (below_step (z3_ HB.out) hb);have n3_:=aM (hbox);have n4_:=aM ((by rw [hg];exact (by first | exact HK.out.1 | exact (show Kept w _ (fun k_=>P0_1_ k_) from by repeat (first | (with_reducible first | exact HK.out | apply Kept.alloc | apply Kept.drewN | apply Kept.drew) | exact HK.out)).1):w.heap.size≤gb268));have n5_:=aM ((z10_ HB.out:w0.heap.size≤gb268));clear HO0_1;clear HK;clear HB;have HO0_1:=n0_;have HK:=n1_;have HB:=n2_;have BK268:=n3_;have GW268:=n4_;have GE268:=n5_;clear n0_ n1_ n2_ n3_ n4_ n5_;clear hb hbox hg;have ⟨hcz6_0,hcz6_1,hfz6_0,hfz6_1⟩:=cz2_ BK268.out) | ((with_reducible refine gc_ 60 ?_);refine gl_ (some 8) Tryd.func60 #[.slice Ao4 l0_1.length co4,.int .i64 a1] ?_;(with_reducible refine (Y23.calls k (fun k_=>some k_=(.slice Ao4 l0_1.length co4:Value).ownBlock) (.slice Ao4 l0_1.length co4) l0_1 a1 t269 t270 w0 _ ?s1 ?s2 A3.out).mono ?_);(case s1=>repeat (first | (with_reducible first | exact HB.out | apply below_alloc | apply pw_below_drewN | apply below_drew1 | refine below_set ?_ GE268.out) | exact HB.out));(case s2=>exact Kd.R_tight rfl HO0_1.out);rintro e w7 ⟨rfl,hy0,hb,hkp⟩;refine ⟨_,rfl,?_⟩;have n0_:=aM (Kd.R_reok rfl hy0 (fun k_ e_=>HO0_1.out.1 k_ e_));have n1_:=aM (blk_kept (z4_ BK268.out) hkp (fun hs_=>(fun e_=>(Kd.R_ne HO0_1.out BK268.out (by decide)) e_) hs_));have n2_:=aM (Kept.then_ (S:=(fun k_=>P0_1_ k_)) (z21_ HK.out GW268.out) hkp (fun k_ hs_=>(fun e_=>(HO0_1.out.1 k_ e_.symm)) hs_));have n3_:=aM (hb);clear HO0_1;clear BK268;clear HK;clear HB;have HO0_1:=n0_;have BK268:=n1_;have HK:=n2_;have HB:=n3_;clear n0_ n1_ n2_ n3_;(try clear hb);(try clear hkp);(try clear hy0)))
 go_ret
 exact ⟨z9_,z2_ HO0_1.out,z8_ HB.out GE268.out,z21_ HK.out GW268.out⟩


/-! ### Y22: function 28 -/
def Y22.l0:Nat→List Int→Int→Int→Option (Int × List Int)
 | 0,_,_,_=>none
 | k+1,x0,x1,x5=>if x5<(x0.length:Int) then (if 0≤x5 then (Y22.l0 k (x0.set (x5:Int).toNat x1) (wrap64 (x1+1)) (wrap64 (x5+1))) else (none)) else (some (x1,x0))
def Y22.f (k:Nat) (l0:List Int) (a1:Int):Option (Int × List Int):=Y22.l0 k l0 a1 0
theorem Y22.mono_l:∀ k,(∀ y0 y1 y2,LeO (Y22.l0 k y0 y1 y2) (Y22.l0 (k+1) y0 y1 y2))
 | 0=>by intros <;> exact LeO.none _
 | k+1=>by
  have ih0:=Y22.mono_l k
  ·intros
   unfold Y22.l0
   exact mO
theorem Y22.mono:∀ a0 a1 k,LeO (Y22.f k a0 a1) (Y22.f (k+1) a0 a1):=by
 intro a0 a1 k
 have ih0:=Y22.mono_l k
 unfold Y22.f
 exact mO
theorem Y22.calls (k:Nat) (P0_:Nat→Prop) (u9000_:Value) (l0:List Int) (a1:Int) (r1:Int) (r2:List Int) (w0 w:World) (hB:Below w0.heap.size w0 w) (ho0:Kd.R (Kd.int .i64) 2 w w0.heap.size P0_ u9000_ l0) (h:Y22.f k l0 a1=some (r1,r2)) :
  Calls Tryd.prog 28 #[u9000_,.int .i64 a1] w fun e w'=>e = .returned (.int .i64 r1)∧Kd.R (Kd.int .i64) 2 w' w0.heap.size (fun k_=>(P0_ k_∨w.heap.size≤k_)) u9000_ r2∧Below w0.heap.size w0 w'∧Kept w w' (fun k_=>P0_ k_):=by
 have HO0:=aM (show Kd.R (Kd.int .i64) 2 w w0.heap.size (fun k_=>(P0_ k_∨w.heap.size≤k_)) u9000_ l0 from Kd.R_mono ho0 (fun k_ hk=>(.inl hk)))
 have HK:=aM (Kept.refl w (fun k_=>P0_ k_))
 have HW0:=aM hB.size
 have HB:=aM hB
 clear hB
 have H:(Y22.l0 k l0 a1 0)=some (r1,r2):=h
 clear h
 have H':=aM H
 clear H
 go_enter Tryd.func28,Tryd.ntmps28
 go_wp2
 go_loopg [1,5] k (fun kq v1 v5 w'=>∃ (x0_1:List Int) (x1_1:Int) (x5_1:Int),v1 = .int .i64 x1_1∧v5 = .int .i64 x5_1∧Aside0 (Y22.l0 kq x0_1 x1_1 x5_1=some (r1,r2))∧Aside0 (kq≤k)∧Aside0 (Kd.R (Kd.int .i64) 2 w' w0.heap.size (fun k_=>(P0_ k_∨w.heap.size≤k_)) u9000_ x0_1)∧Aside0 (Kept w w' (fun k_=>P0_ k_))∧Aside0 (Below w0.heap.size w0 w'))
 case atStart=>exact ⟨(l0),(a1),(0),(z0_),(z0_),H',⟨Nat.le_refl _⟩,⟨z2_ HO0.out⟩,⟨z5_ HK.out⟩,⟨z3_ HB.out⟩⟩
 case round =>
  clear H'
  try clear c2
  try clear p2
  obtain ⟨x0_1,x1_1,x5_1,rfl,rfl,HA,HK1,HO_0,HK,HB⟩:=hrel
  cases gk with
  | zero=>exact absurd HA.out (by simp [Y22.l0])
  | succ k1 =>
   have H:=HA.out
   clear HA
   simp only [Y22.l0] at H
   by_cases c3:x5_1<(x0_1.length:Int)
   ·rw [if_pos c3] at H
    have c3b0:decide (x5_1<(x0_1.length:Int))=true:=dE c3
    clear c3
    by_cases c4:0≤x5_1
    ·rw [if_pos c4] at H
     have c4b0:decide (0≤x5_1)=true:=dE c4
     clear c4
     obtain ⟨y635,hy635⟩:∃ y_:List Int,y_=(x0_1.set (x5_1:Int).toNat x1_1):=⟨_,rfl⟩
     replace H:(Y22.l0 k1 y635 (wrap64 (x1_1+1)) (wrap64 (x5_1+1)))=some (r1,r2):=by first | (rw [hy635];with_reducible exact H) | (have H2_:=(Option.bind_some _ _).symm.trans H;rw [hy635];with_reducible exact H2_) | (have H2_:=(Option.bind_some _ _).symm.trans H;with_reducible exact H2_) | with_reducible exact H | (rw [hy635];exact H) | exact H
     have Ny635:=aM hy635
     clear hy635
     have H':=aM H
     clear H
     obtain ⟨Ao6,co6,eo6⟩:=Kd.R_slice HO_0.out
     subst eo6
     have p5:0≤(x5_1:Int):=dT (z1_)
     have q5:(x5_1:Int)<((x0_1.length:Int):Int):=dT (z1_)
     obtain ⟨go5,co5,eo5,gb5,gl5,cl5,HG5⟩:=Kd.R_form HO_0.out (by omega)
     (first | cases eo5 | (injection eo5 with ea_ en_ ec_;(first | subst ea_ | (injection ea_ with ea_;subst ea_));subst ec_;clear en_))
     have GB5:=aM gb5
     have GG5:=aM HG5
     clear gb5 gl5 HG5
     have HMgo5:=aM (show (P0_ go5∨w.heap.size≤go5) from (HO_0.out.1 _ rfl))
     obtain ⟨hx5_0,hf5_0⟩:=Kd.R_celln 0 HO_0.out (x5_1:Int) p5 q5
     replace p5:=eq_true p5
     replace q5:=eq_true q5
     have HP7:=Kd.R_putg HO_0.out (x5_1:Int) x1_1
     go_wp2_with (first | ((with_reducible refine gate_store (t:=2) (p:=15) rfl ?_);refine store_event (t:=2) (p:=15) (v:=?vo_w8) (w1:=(wr.setCell ⟨go5,(x5_1:Int).toNat,none⟩ (.int .i64 x1_1))) ?hg ?ho ?hn ?hr ?_;(case ho=>rfl);(case hg=>rfl);(case hn=>rfl);(case hr=>first | (go_simp;done) | (go_simp;rfl));intro w8 hw;have hg:wr.grownBy w8 (some go5):=(by rw [hw];exact HP7.2);have hp_:Kd.R (Kd.int .i64) 2 w8 w0.heap.size (fun k_=>(P0_ k_∨w.heap.size≤k_)) (.slice (some ⟨go5,0,none⟩) x0_1.length co6) y635:=(by rw [hw,Ny635.out];exact HP7.1);clear HP7;have n0_:=aM (hp_);have n1_:=aM ((by rw [hw];exact below_set (HB.out) GB5.out:Below w0.heap.size w0 w8));have n2_:=aM (Kept.of_grown (S:=(fun k_=>P0_ k_)) hg (z5_ HK.out) (fun k_ e_=>(HO_0.out.1 k_ e_)));clear HO_0;clear HB;clear HK;have HO_0:=n0_;have HB:=n1_;have HK:=n2_;clear n0_ n1_ n2_;clear hg hw hp_))
     go_roundg k1
     case measure=>have:=HK1.out;omega
     case rel=>exact ⟨(y635),(wrap64 (x1_1+1)),(wrap64 (x5_1+1)),(z0_),(z0_),H',⟨by have:=HK1.out;omega⟩,⟨z2_ HO_0.out⟩,⟨z5_ HK.out⟩,⟨z3_ HB.out⟩⟩
    ·rw [if_neg c4] at H
     exact nO H
   ·rw [if_neg c3] at H
    have c3b0:decide (x5_1<(x0_1.length:Int))=false:=dF c3
    clear c3
    simp only [Option.some.injEq,Prod.mk.injEq] at H
    obtain ⟨rfl,rfl⟩:=H
    obtain ⟨Ao9,co9,eo9⟩:=Kd.R_slice HO_0.out
    subst eo9
    go_wp2
    go_ret
    exact ⟨z9_,z2_ HO_0.out,z3_ HB.out,z5_ HK.out⟩


/-! ### Y28: function 118 -/
def Y28.l0:Nat→Int→Int→Option (Int)
 | 0,_,_=>none
 | k+1,x1,x5=>if x5<0 then (none) else (some x1)
def Y28.f (k:Nat) (a0:Int) (a1:Int):Option (Int):=Y28.l0 k a1 0
theorem Y28.mono_l:∀ k,(∀ y0 y1,LeO (Y28.l0 k y0 y1) (Y28.l0 (k+1) y0 y1))
 | 0=>by intros <;> exact LeO.none _
 | k+1=>by
  have ih0:=Y28.mono_l k
  ·intros
   unfold Y28.l0
   exact mO
theorem Y28.mono:∀ a0 a1 k,LeO (Y28.f k a0 a1) (Y28.f (k+1) a0 a1):=by
 intro a0 a1 k
 have ih0:=Y28.mono_l k
 unfold Y28.f
 exact mO
theorem Y28.calls (k:Nat) (a0:Int) (a1:Int) (r:Int) (w:World) (h:Y28.f k a0 a1=some r) :
  Calls Tryd.prog 118 #[.slice none 0 0,.int .i64 a1] w fun e w'=>e = .returned (.int .i64 r)∧Drawn0 w w':=by
 have H:(Y28.l0 k a1 0)=some r:=h
 clear h
 have H':=aM H
 clear H
 go_enter Tryd.func118,Tryd.ntmps118
 go_wp2
 go_loopg [1,5] k (fun kq v1 v5 w'=>∃ (x1_1:Int) (x5_1:Int),v1 = .int .i64 x1_1∧v5 = .int .i64 x5_1∧Aside0 (Y28.l0 kq x1_1 x5_1=some r)∧Aside0 (kq≤k)∧Drawn0 w w')
 case atStart=>exact ⟨(a1),(0),(z0_),(z0_),H',⟨Nat.le_refl _⟩,z6_⟩
 case round =>
  clear H'
  try clear c1
  try clear p2
  obtain ⟨x1_1,x5_1,rfl,rfl,HA,HK1,⟨m1,rfl⟩⟩:=hrel
  cases gk with
  | zero=>exact absurd HA.out (by simp [Y28.l0])
  | succ k1 =>
   have H:=HA.out
   clear HA
   simp only [Y28.l0] at H
   by_cases c3:x5_1<0
   ·rw [if_pos c3] at H
    exact nO H
   ·rw [if_neg c3] at H
    have c3b0:decide (x5_1<0)=false:=dF c3
    clear c3
    obtain rfl:=sI H
    go_wp2
    go_ret
    exact ⟨z0_,z6_⟩


/-! ### Y17: function 119 -/
def Y17.l0:Nat→Int→ByteArray→Option (ByteArray)
 | 0,_,_=>none
 | k+1,x0,x3=>if x0>0 then ((some (([(wrap64 (48+(Int.tmod x0 10))) % 256]:List Int):List Int)).bind fun y916=>(if (strOfNums y916).size+x3.size≤9223372036854775807 then (Y17.l0 k (wrap64 (Int.tdiv x0 10)) ((strOfNums y916) ++ x3)) else (none))) else (if 1+x3.size≤9223372036854775807 then (some ((⟨#[109]⟩:ByteArray) ++ x3)) else (none))
def Y17.f (k:Nat) (a0:Int):Option (ByteArray):=if a0≤0 then (some (⟨#[109,48]⟩:ByteArray)) else (Y17.l0 k a0 (⟨#[]⟩:ByteArray))
theorem Y17.mono_l:∀ k,(∀ y0 y1,LeO (Y17.l0 k y0 y1) (Y17.l0 (k+1) y0 y1))
 | 0=>by intros <;> exact LeO.none _
 | k+1=>by
  have ih0:=Y17.mono_l k
  ·intros
   unfold Y17.l0
   exact mO
theorem Y17.mono:∀ a0 k,LeO (Y17.f k a0) (Y17.f (k+1) a0):=by
 intro a0 k
 have ih0:=Y17.mono_l k
 unfold Y17.f
 exact mO
theorem Y17.calls (k:Nat) (a0:Int) (r:ByteArray) (w:World) (h:Y17.f k a0=some r) :
  Calls Tryd.prog 119 #[.int .i64 a0] w fun e w'=>e = .returned (.string r)∧Below w.heap.size w w':=by
 have HB:=aM (Below.refl w.heap.size w)
 have H:(if a0≤0 then (some (⟨#[109,48]⟩:ByteArray)) else (Y17.l0 k a0 (⟨#[]⟩:ByteArray)))=some r:=h
 clear h
 by_cases c2:a0≤0
 ·rw [if_pos c2] at H
  have c2b0:decide (a0≤0)=true:=dE c2
  clear c2
  obtain rfl:=sI H
  go_enter Tryd.func119,Tryd.ntmps119
  go_wp2
  go_ret
  exact ⟨z9_,z3_ HB.out⟩
 ·rw [if_neg c2] at H
  have c2b0:decide (a0≤0)=false:=dF c2
  clear c2
  have H':=aM H
  clear H
  go_enter Tryd.func119,Tryd.ntmps119
  go_wp2
  go_loopg [0,3] k (fun kq v0 v3 w'=>∃ (x0_1:Int) (x3_1:ByteArray),v0 = .int .i64 x0_1∧v3 = .string x3_1∧Aside0 (Y17.l0 kq x0_1 x3_1=some r)∧Aside0 (kq≤k)∧Aside0 (Below w.heap.size w w'))
  case atStart=>exact ⟨(a0),((⟨#[]⟩:ByteArray)),(z0_),(z0_),H',⟨Nat.le_refl _⟩,⟨z3_ HB.out⟩⟩
  case round =>
   clear H'
   try clear c1
   try clear c2
   try clear c2b0
   try clear p2
   obtain ⟨x0_1,x3_1,rfl,rfl,HA,HK1,HB⟩:=hrel
   cases gk with
   | zero=>exact absurd HA.out (by simp [Y17.l0])
   | succ k1 =>
    have H:=HA.out
    clear HA
    simp only [Y17.l0] at H
    by_cases c3:x0_1>0
    ·rw [if_pos c3] at H
     have c3b0:decide (0<x0_1)=true:=dE c3
     clear c3
     obtain ⟨y916,hy916⟩:∃ y_:List Int,y_=(([(wrap64 (48+(Int.tmod x0_1 10))) % 256]:List Int)):=⟨_,rfl⟩
     replace H:(if (strOfNums y916).size+x3_1.size≤9223372036854775807 then (Y17.l0 k1 (wrap64 (Int.tdiv x0_1 10)) ((strOfNums y916) ++ x3_1)) else (none))=some r:=by first | (rw [hy916];with_reducible exact H) | (have H2_:=(Option.bind_some _ _).symm.trans H;rw [hy916];with_reducible exact H2_) | (have H2_:=(Option.bind_some _ _).symm.trans H;with_reducible exact H2_) | with_reducible exact H | (rw [hy916];exact H) | exact H
     have Ny916:=aM hy916
     clear hy916
     by_cases c4:(strOfNums y916).size+x3_1.size≤9223372036854775807
     ·rw [if_pos c4] at H
      have c4b0:=eq_true c4
      have c4b1:decide ((strOfNums y916).size+x3_1.size≤9223372036854775807)=true:=dE c4
      try have c4b2:(9223372036854775807<(strOfNums y916).size+x3_1.size)=False:=eq_false (Nat.not_lt.2 c4)
      have H':=aM H
      clear H
      go_wp2_with (first | ((with_reducible refine gd_ 12 ?_);refine Kd.R_lit (Kd.int .u8) _ 5 ?hg (N:=12) ?hd (xs:=([(wrap64 (48+(Int.tmod x0_1 10))) % 256]:List Int)) (inner:=[.int .u8 ((wrap64 (48+(Int.tmod x0_1 10))) % 256)]) (ok:=fun _=>True) (okp:=fun _=>True) ?hr ?hp (fun _ hk=>hk) trivial (Below.refl _ _) (Nat.le_refl _) (by simp) ?_;(case hd=>rfl);(case hg=>rfl);(case hr=>first | (go_simp;done) | (go_simp;rfl));(case hp=>exact (Reps.one (show Kd.M (Kd.int .u8) _ _ _ ((wrap64 (48+(Int.tmod x0_1 10))) % 256) [.int .u8 ((wrap64 (48+(Int.tmod x0_1 10))) % 256)] from rfl) (Reps.none _ _)));intro v917 w5 ho6 hb hg_ hnew_;clear hg_ hnew_;(first | rw [← Ny916.out] at ho6 | (simp only [Int.reduceToNat] at ho6;rw [← Ny916.out] at ho6));have n0_:=aM (Kd.R_lower ho6 (below_size (z3_ HB.out)));have n1_:=aM (below_step (z3_ HB.out) hb);clear HB;have HO918:=n0_;have HB:=n1_;clear n0_ n1_;clear hb ho6;have hcv7:=own_string (P:=Tryd.prog) Tryd.underlying31 Tryd.underlying5 Tryd.underlying9 (Kd.own_of_R HO918.out)))
      go_roundg k1
      case measure=>have:=HK1.out;omega
      case rel=>exact ⟨(wrap64 (Int.tdiv x0_1 10)),((strOfNums y916) ++ x3_1),(z0_),(z0_),H',⟨by have:=HK1.out;omega⟩,⟨z3_ HB.out⟩⟩
     ·rw [if_neg c4] at H
      exact nO H
    ·rw [if_neg c3] at H
     have c3b0:decide (0<x0_1)=false:=dF c3
     clear c3
     by_cases c8:1+x3_1.size≤9223372036854775807
     ·rw [if_pos c8] at H
      have c8b0:=eq_true c8
      have c8b1:decide (1+x3_1.size≤9223372036854775807)=true:=dE c8
      try have c8b2:(9223372036854775807<1+x3_1.size)=False:=eq_false (Nat.not_lt.2 c8)
      obtain rfl:=sI H
      go_wp2
      go_ret
      exact ⟨z9_,z3_ HB.out⟩
     ·rw [if_neg c8] at H
      exact nO H


/-! ### Y19: function 100 -/
def Y19.l0:Nat→List (S95)→Int→Int→Option (Int × (List (S95)))
 | 0,_,_,_=>none
 | k+1,x0,x1,x5=>if x5<(x0.length:Int) then (if 0≤x5 then ((some (x0.set (x5:Int).toNat (⟨x1,(rd_T95 x0 x5).f1,(rd_T95 x0 x5).f2,(rd_T95 x0 x5).f3⟩:S95):List (S95))).bind fun y919=>((Y28.f k ((rd_T95 y919 x5).f1) (wrap64 (x1+1))).bind fun t921=>((Y17.f k t921).bind fun t922=>((some (y919.set (x5:Int).toNat (⟨(rd_T95 y919 x5).f0,(rd_T95 y919 x5).f1,t922,(rd_T95 y919 x5).f3⟩:S95):List (S95))).bind fun y923=>(Y19.l0 k (y923.set (x5:Int).toNat (⟨(rd_T95 y923 x5).f0,(rd_T95 y923 x5).f1,(rd_T95 y923 x5).f2,wrap64 (t921+1)⟩:S95)) (wrap64 ((wrap64 (t921+1))+1)) (wrap64 (x5+1))))))) else (none)) else (some (x1,x0))
def Y19.f (k:Nat) (l0:List (S95)) (a1:Int):Option (Int × (List (S95))):=Y19.l0 k l0 a1 0
theorem Y19.mono_l:∀ k,(∀ y0 y1 y2,LeO (Y19.l0 k y0 y1 y2) (Y19.l0 (k+1) y0 y1 y2))
 | 0=>by intros <;> exact LeO.none _
 | k+1=>by
  have ih0:=Y19.mono_l k
  have m0:=@Y28.mono
  have m1:=@Y17.mono
  ·intros
   unfold Y19.l0
   exact mO
theorem Y19.mono:∀ a0 a1 k,LeO (Y19.f k a0 a1) (Y19.f (k+1) a0 a1):=by
 intro a0 a1 k
 have m0:=@Y28.mono
 have m1:=@Y17.mono
 have ih0:=Y19.mono_l k
 unfold Y19.f
 exact mO
theorem Y19.calls (k:Nat) (P0_:Nat→Prop) (u9000_:Value) (l0:List (S95)) (a1:Int) (r1:Int) (r2:List (S95)) (w0 w:World) (hB:Below w0.heap.size w0 w) (ho0:Kd.R k95 95 w w0.heap.size P0_ u9000_ l0) (h:Y19.f k l0 a1=some (r1,r2)) :
  Calls Tryd.prog 100 #[u9000_,.int .i64 a1] w fun e w'=>e = .returned (.int .i64 r1)∧Kd.R k95 95 w' w0.heap.size (fun k_=>(P0_ k_∨w.heap.size≤k_)) u9000_ r2∧Below w0.heap.size w0 w'∧Kept w w' (fun k_=>P0_ k_):=by
 have HO0:=aM (show Kd.R k95 95 w w0.heap.size (fun k_=>(P0_ k_∨w.heap.size≤k_)) u9000_ l0 from Kd.R_mono ho0 (fun k_ hk=>(.inl hk)))
 have HK:=aM (Kept.refl w (fun k_=>P0_ k_))
 have HW0:=aM hB.size
 have HB:=aM hB
 clear hB
 have H:(Y19.l0 k l0 a1 0)=some (r1,r2):=h
 clear h
 have H':=aM H
 clear H
 go_enter Tryd.func100,Tryd.ntmps100
 go_wp2
 go_loopg [1,5] k (fun kq v1 v5 w'=>∃ (x0_1:List (S95)) (x1_1:Int) (x5_1:Int),v1 = .int .i64 x1_1∧v5 = .int .i64 x5_1∧Aside0 (Y19.l0 kq x0_1 x1_1 x5_1=some (r1,r2))∧Aside0 (kq≤k)∧Aside0 (Kd.R k95 95 w' w0.heap.size (fun k_=>(P0_ k_∨w.heap.size≤k_)) u9000_ x0_1)∧Aside0 (Kept w w' (fun k_=>P0_ k_))∧Aside0 (Below w0.heap.size w0 w'))
 case atStart=>exact ⟨(l0),(a1),(0),(z0_),(z0_),H',⟨Nat.le_refl _⟩,⟨z2_ HO0.out⟩,⟨z5_ HK.out⟩,⟨z3_ HB.out⟩⟩
 case round =>
  clear H'
  try clear c1
  try clear p2
  obtain ⟨x0_1,x1_1,x5_1,rfl,rfl,HA,HK1,HO_0,HK,HB⟩:=hrel
  cases gk with
  | zero=>exact absurd HA.out (by simp [Y19.l0])
  | succ k1 =>
   have H:=HA.out
   clear HA
   simp only [Y19.l0] at H
   by_cases c3:x5_1<(x0_1.length:Int)
   ·rw [if_pos c3] at H
    have c3b0:decide (x5_1<(x0_1.length:Int))=true:=dE c3
    clear c3
    by_cases c4:0≤x5_1
    ·rw [if_pos c4] at H
     have c4b0:decide (0≤x5_1)=true:=dE c4
     clear c4
     obtain ⟨y919,hy919⟩:∃ y_:List (S95),y_=(x0_1.set (x5_1:Int).toNat (⟨x1_1,(rd_T95 x0_1 x5_1).f1,(rd_T95 x0_1 x5_1).f2,(rd_T95 x0_1 x5_1).f3⟩:S95)):=⟨_,rfl⟩
     replace H:((Y28.f k1 ((rd_T95 y919 x5_1).f1) (wrap64 (x1_1+1))).bind fun t921=>((Y17.f k1 t921).bind fun t922=>((some (y919.set (x5_1:Int).toNat (⟨(rd_T95 y919 x5_1).f0,(rd_T95 y919 x5_1).f1,t922,(rd_T95 y919 x5_1).f3⟩:S95):List (S95))).bind fun y923=>(Y19.l0 k1 (y923.set (x5_1:Int).toNat (⟨(rd_T95 y923 x5_1).f0,(rd_T95 y923 x5_1).f1,(rd_T95 y923 x5_1).f2,wrap64 (t921+1)⟩:S95)) (wrap64 ((wrap64 (t921+1))+1)) (wrap64 (x5_1+1))))))=some (r1,r2):=by first | (rw [hy919];with_reducible exact H) | (have H2_:=(Option.bind_some _ _).symm.trans H;rw [hy919];with_reducible exact H2_) | (have H2_:=(Option.bind_some _ _).symm.trans H;with_reducible exact H2_) | with_reducible exact H | (rw [hy919];exact H) | exact H
     have Ny919:=aM hy919
     clear hy919
     replace H:=bS H
     obtain ⟨t921,A60,H⟩:=H
     replace H:((Y17.f k1 t921).bind fun t922=>((some (y919.set (x5_1:Int).toNat (⟨(rd_T95 y919 x5_1).f0,(rd_T95 y919 x5_1).f1,t922,(rd_T95 y919 x5_1).f3⟩:S95):List (S95))).bind fun y923=>(Y19.l0 k1 (y923.set (x5_1:Int).toNat (⟨(rd_T95 y923 x5_1).f0,(rd_T95 y923 x5_1).f1,(rd_T95 y923 x5_1).f2,wrap64 (t921+1)⟩:S95)) (wrap64 ((wrap64 (t921+1))+1)) (wrap64 (x5_1+1)))))=some (r1,r2):=H
     have A6:=aM A60
     clear A60
     replace H:=bS H
     obtain ⟨t922,A70,H⟩:=H
     replace H:((some (y919.set (x5_1:Int).toNat (⟨(rd_T95 y919 x5_1).f0,(rd_T95 y919 x5_1).f1,t922,(rd_T95 y919 x5_1).f3⟩:S95):List (S95))).bind fun y923=>(Y19.l0 k1 (y923.set (x5_1:Int).toNat (⟨(rd_T95 y923 x5_1).f0,(rd_T95 y923 x5_1).f1,(rd_T95 y923 x5_1).f2,wrap64 (t921+1)⟩:S95)) (wrap64 ((wrap64 (t921+1))+1)) (wrap64 (x5_1+1))))=some (r1,r2):=H
     have A7:=aM A70
     clear A70
     obtain ⟨y923,hy923⟩:∃ y_:List (S95),y_=(y919.set (x5_1:Int).toNat (⟨(rd_T95 y919 x5_1).f0,(rd_T95 y919 x5_1).f1,t922,(rd_T95 y919 x5_1).f3⟩:S95)):=⟨_,rfl⟩
     replace H:(Y19.l0 k1 (y923.set (x5_1:Int).toNat (⟨(rd_T95 y923 x5_1).f0,(rd_T95 y923 x5_1).f1,(rd_T95 y923 x5_1).f2,wrap64 (t921+1)⟩:S95)) (wrap64 ((wrap64 (t921+1))+1)) (wrap64 (x5_1+1)))=some (r1,r2):=by first | (rw [hy923];with_reducible exact H) | (have H2_:=(Option.bind_some _ _).symm.trans H;rw [hy923];with_reducible exact H2_) | (have H2_:=(Option.bind_some _ _).symm.trans H;with_reducible exact H2_) | with_reducible exact H | (rw [hy923];exact H) | exact H
     have Ny923:=aM hy923
     clear hy923
     obtain ⟨y924,hy924⟩:∃ y_:List (S95),y_=(y923.set (x5_1:Int).toNat (⟨(rd_T95 y923 x5_1).f0,(rd_T95 y923 x5_1).f1,(rd_T95 y923 x5_1).f2,wrap64 (t921+1)⟩:S95)):=⟨_,rfl⟩
     replace H:(Y19.l0 k1 y924 (wrap64 ((wrap64 (t921+1))+1)) (wrap64 (x5_1+1)))=some (r1,r2):=by first | (rw [hy924];with_reducible exact H) | (have H2_:=(Option.bind_some _ _).symm.trans H;rw [hy924];with_reducible exact H2_) | (have H2_:=(Option.bind_some _ _).symm.trans H;with_reducible exact H2_) | with_reducible exact H | (rw [hy924];exact H) | exact H
     have Ny924:=aM hy924
     clear hy924
     have H':=aM H
     clear H
     obtain ⟨Ao10,co10,eo10⟩:=Kd.R_slice HO_0.out
     subst eo10
     have p5:0≤(x5_1:Int):=dT (z1_)
     have q5:(x5_1:Int)<((x0_1.length:Int):Int):=dT (z1_)
     obtain ⟨go5,co5,eo5,gb5,gl5,cl5,HG5⟩:=Kd.R_form HO_0.out (by omega)
     (first | cases eo5 | (injection eo5 with ea_ en_ ec_;(first | subst ea_ | (injection ea_ with ea_;subst ea_));subst ec_;clear en_))
     have GB5:=aM gb5
     have GG5:=aM HG5
     clear gb5 gl5 HG5
     have HMgo5:=aM (show (P0_ go5∨w.heap.size≤go5) from (HO_0.out.1 _ rfl))
     obtain ⟨ce5,hcl5,hM5,hcc5,hfr5⟩:=Kd.R_elem HO_0.out z95 (x5_1:Int) p5 q5
     obtain rfl:=k95_openM hM5
     have hx5_0:wr.cell? ⟨go5,(x5_1:Int).toNat*4,none⟩=some (.int .i64 ((rd_T95 x0_1 x5_1).f0)):=hcc5 0 _ rfl
     have hx5_1:wr.cell? ⟨go5,(x5_1:Int).toNat*4+1,none⟩=some (.slice none 0 0):=hcc5 1 _ rfl
     have hx5_2:wr.cell? ⟨go5,(x5_1:Int).toNat*4+2,none⟩=some (.string ((rd_T95 x0_1 x5_1).f2)):=hcc5 2 _ rfl
     have hx5_3:wr.cell? ⟨go5,(x5_1:Int).toNat*4+3,none⟩=some (.int .i64 ((rd_T95 x0_1 x5_1).f3)):=hcc5 3 _ rfl
     have hf5_0:wr.frozen? ⟨go5,(x5_1:Int).toNat*4,none⟩=false:=hfr5 0
     have hf5_1:wr.frozen? ⟨go5,(x5_1:Int).toNat*4+1,none⟩=false:=hfr5 1
     have hf5_2:wr.frozen? ⟨go5,(x5_1:Int).toNat*4+2,none⟩=false:=hfr5 2
     have hf5_3:wr.frozen? ⟨go5,(x5_1:Int).toNat*4+3,none⟩=false:=hfr5 3
     clear hcl5 hcc5 hfr5 hM5
     replace p5:=eq_true p5
     replace q5:=eq_true q5
     have HX11:=aM (show Kd.R k95 95 wr w0.heap.size (fun k_=>(P0_ k_∨w.heap.size≤k_)) (.slice (some ⟨go5,0,none⟩) x0_1.length co10) x0_1 from (z2_ HO_0.out))
     obtain ⟨ce11,hcl11,hM11,hcc11,hfr11⟩:=Kd.R_elem HX11.out z95 (x5_1:Int) (dT (z1_)) (z17_ HO_0.out)
     obtain rfl:=k95_openM hM11
     have HP11:=Kd.R_seg HX11.out (x5_1:Int) (dT (z1_)) (z17_ HO_0.out) (seg:=[.int .i64 x1_1]) (j:=0) hcl11 hcc11 (show 1≤4 from by decide) (x':=(⟨x1_1,(rd_T95 x0_1 x5_1).f1,(rd_T95 x0_1 x5_1).f2,(rd_T95 x0_1 x5_1).f3⟩:S95)) (k95_mkM _ _ _ (⟨x1_1,(rd_T95 x0_1 x5_1).f1,(rd_T95 x0_1 x5_1).f2,(rd_T95 x0_1 x5_1).f3⟩:S95) ) (fun _ hk=>hk)
     have hx11_0:=hcc11 0 _ rfl
     (try simp only [show (k95).sz=4 from rfl,Nat.mul_one,Nat.add_zero] at hx11_0)
     have hf11_0:=hfr11 0
     (try simp only [show (k95).sz=4 from rfl,Nat.mul_one,Nat.add_zero] at hf11_0)
     clear hcl11 hcc11 hfr11 hM11
     go_wp2_with (first | ((with_reducible refine gate_store (t:=2) (p:=16) rfl ?_);refine store_event (t:=2) (p:=16) (v:=?vo_w12) (w1:=(wr.setCell ⟨go5,(x5_1:Int).toNat*4,none⟩ (.int .i64 x1_1))) ?hg ?ho ?hn ?hr ?_;(case ho=>rfl);(case hg=>rfl);(case hn=>rfl);(case hr=>first | (go_simp;done) | (go_simp;rfl));intro w12 hw;have hg:wr.grownBy w12 (some go5):=(by rw [hw];exact HP11.2);have hp_:Kd.R k95 95 w12 w0.heap.size (fun k_=>(P0_ k_∨w.heap.size≤k_)) (.slice (some ⟨go5,0,none⟩) x0_1.length co10) y919:=(by rw [hw,Ny919.out];exact HP11.1);clear HP11;have n0_:=aM (hp_);have n1_:=aM ((by rw [hw];exact below_set (HB.out) GB5.out:Below w0.heap.size w0 w12));have n2_:=aM (Kept.of_grown (S:=(fun k_=>P0_ k_)) hg (z5_ HK.out) (fun k_ e_=>(HO_0.out.1 k_ e_)));clear HO_0;clear HB;clear HK;have HO_0:=n0_;have HB:=n1_;have HK:=n2_;clear n0_ n1_ n2_;clear hg hw hp_;have p920:0≤(x5_1:Int):=dT (z1_);have q920:x5_1<(y919.length:Int):=(by have h_:(x5_1:Int)<((x0_1.length:Int):Int):=dT (by first | (with_reducible assumption) | assumption);first | (have e_:=(Kd.R_reads' HO_0.out).1;omega) | simpa only [Ny919.out,List.length_set] using h_);have ql920:((x5_1:Int)<((x0_1.length:Int):Int))=True:=eq_true (dT (z1_));obtain ⟨ad920,e920,hx920_0,hx920_1,hx920_2,hx920_3⟩:=at_T95 (Kd.R_reads' HO_0.out).2.2 x5_1 p920 q920;obtain rfl:(⟨go5,0,none⟩:Addr)=ad920:=(by injection e920);(first | simp only [add_plain] at hx920_0 | simp only [add_at] at hx920_0 | simp only [Addr.add,Nat.zero_add] at hx920_0 | skip);(first | simp only [add_plain] at hx920_1 | simp only [add_at] at hx920_1 | simp only [Addr.add,Nat.zero_add] at hx920_1 | skip);(first | simp only [add_plain] at hx920_2 | simp only [add_at] at hx920_2 | simp only [Addr.add,Nat.zero_add] at hx920_2 | skip);(first | simp only [add_plain] at hx920_3 | simp only [add_at] at hx920_3 | simp only [Addr.add,Nat.zero_add] at hx920_3 | skip);replace p920:=eq_true p920;replace q920:=eq_true q920) | ((with_reducible refine gc_ 118 ?_);refine gl_ (some 25) Tryd.func118 #[.slice none 0 0,.int .i64 (wrap64 (x1_1+1))] ?_;(with_reducible refine (Y28.calls k1 ((rd_T95 y919 x5_1).f1) (wrap64 (x1_1+1)) t921 _ A6.out).mono ?_);rintro e w' ⟨rfl,⟨nd,rfl⟩⟩;refine ⟨_,rfl,?_⟩;(try (rw [drewN_self w12];generalize hq_:World.drewN w12 _=w12;have n0_:Aside0 (Kd.R k95 95 w12 w0.heap.size (fun k_=>(P0_ k_∨w.heap.size≤k_)) (.slice (some ⟨go5,0,none⟩) x0_1.length co10) y919):=⟨by rw [← hq_];exact (by (with_reducible repeat (first | apply Kd.R_alloc | apply Kd.R_drewN | apply Kd.R_drew));exact HO_0.out)⟩;have n1_:Aside0 (Kept w w12 (fun k_=>P0_ k_)):=⟨by rw [← hq_];exact (by repeat (first | (with_reducible first | exact HK.out | apply Kept.alloc | apply Kept.drewN | apply Kept.drew) | exact HK.out))⟩;have n2_:Aside0 (Below w0.heap.size w0 w12):=⟨by rw [← hq_];exact (by repeat (first | (with_reducible first | exact HB.out | apply below_alloc | apply pw_below_drewN | apply below_drew1) | exact HB.out))⟩;clear HO_0 HK HB hq_;have HO_0:=n0_;have HK:=n1_;have HB:=n2_;clear n0_ n1_ n2_))) | ((with_reducible refine gc_ 119 ?_);refine gl_ (some 29) Tryd.func119 #[.int .i64 t921] ?_;(with_reducible refine (Y17.calls k1 t921 t922 _ A7.out).mono ?_);rintro e w13 ⟨rfl,hb⟩;refine ⟨_,rfl,?_⟩;have n0_:=aM (Kd.R_below (z2_ HO_0.out) hb);have n1_:=aM (Kept.below (S:=(fun k_=>P0_ k_)) (z5_ HK.out) hb);have n2_:=aM (below_step (z3_ HB.out) hb);clear HO_0;clear HK;clear HB;have HO_0:=n0_;have HK:=n1_;have HB:=n2_;clear n0_ n1_ n2_;(try clear hb);have p8:0≤(x5_1:Int):=dT (z1_);have q8:(x5_1:Int)<((x0_1.length:Int):Int):=dT (z1_);obtain ⟨ce8,hcl8,hM8,hcc8,hfr8⟩:=Kd.R_elem HO_0.out z95 (x5_1:Int) p8 q8;obtain rfl:=k95_openM hM8;have hx8_0:w13.cell? ⟨go5,(x5_1:Int).toNat*4,none⟩=some (.int .i64 ((rd_T95 y919 x5_1).f0)):=hcc8 0 _ rfl;have hx8_1:w13.cell? ⟨go5,(x5_1:Int).toNat*4+1,none⟩=some (.slice none 0 0):=hcc8 1 _ rfl;have hx8_2:w13.cell? ⟨go5,(x5_1:Int).toNat*4+2,none⟩=some (.string ((rd_T95 y919 x5_1).f2)):=hcc8 2 _ rfl;have hx8_3:w13.cell? ⟨go5,(x5_1:Int).toNat*4+3,none⟩=some (.int .i64 ((rd_T95 y919 x5_1).f3)):=hcc8 3 _ rfl;have hf8_0:w13.frozen? ⟨go5,(x5_1:Int).toNat*4,none⟩=false:=hfr8 0;have hf8_1:w13.frozen? ⟨go5,(x5_1:Int).toNat*4+1,none⟩=false:=hfr8 1;have hf8_2:w13.frozen? ⟨go5,(x5_1:Int).toNat*4+2,none⟩=false:=hfr8 2;have hf8_3:w13.frozen? ⟨go5,(x5_1:Int).toNat*4+3,none⟩=false:=hfr8 3;clear hcl8 hcc8 hfr8 hM8;replace p8:=eq_true p8;replace q8:=eq_true q8;have HX14:=aM (show Kd.R k95 95 w13 w0.heap.size (fun k_=>(P0_ k_∨w.heap.size≤k_)) (.slice (some ⟨go5,0,none⟩) x0_1.length co10) y919 from (z2_ HO_0.out));obtain ⟨ce14,hcl14,hM14,hcc14,hfr14⟩:=Kd.R_elem HX14.out z95 (x5_1:Int) (dT (z1_)) (z17_ HO_0.out);obtain rfl:=k95_openM hM14;have HP14:=Kd.R_seg HX14.out (x5_1:Int) (dT (z1_)) (z17_ HO_0.out) (seg:=[.string t922]) (j:=2) hcl14 hcc14 (show 3≤4 from by decide) (x':=(⟨(rd_T95 y919 x5_1).f0,(rd_T95 y919 x5_1).f1,t922,(rd_T95 y919 x5_1).f3⟩:S95)) (k95_mkM _ _ _ (⟨(rd_T95 y919 x5_1).f0,(rd_T95 y919 x5_1).f1,t922,(rd_T95 y919 x5_1).f3⟩:S95) ) (fun _ hk=>hk);have hx14_2:=hcc14 2 _ rfl;(try simp only [show (k95).sz=4 from rfl,Nat.mul_one,Nat.add_zero] at hx14_2);have hf14_2:=hfr14 2;(try simp only [show (k95).sz=4 from rfl,Nat.mul_one,Nat.add_zero] at hf14_2);clear hcl14 hcc14 hfr14 hM14) | ((with_reducible refine gate_store (t:=9) (p:=31) rfl ?_);refine store_event (t:=9) (p:=31) (v:=?vo_w15) (w1:=(w13.setCell ⟨go5,(x5_1:Int).toNat*4+2,none⟩ (.string t922))) ?hg ?ho ?hn ?hr ?_;(case ho=>rfl);(case hg=>rfl);(case hn=>rfl);(case hr=>first | (go_simp;done) | (go_simp;rfl));intro w15 hw;have hg:w13.grownBy w15 (some go5):=(by rw [hw];exact HP14.2);have hp_:Kd.R k95 95 w15 w0.heap.size (fun k_=>(P0_ k_∨w.heap.size≤k_)) (.slice (some ⟨go5,0,none⟩) x0_1.length co10) y923:=(by rw [hw,Ny923.out];exact HP14.1);clear HP14;have n0_:=aM (hp_);have n1_:=aM ((by rw [hw];exact below_set (HB.out) GB5.out:Below w0.heap.size w0 w15));have n2_:=aM (Kept.of_grown (S:=(fun k_=>P0_ k_)) hg (z5_ HK.out) (fun k_ e_=>(HO_0.out.1 k_ e_)));clear HO_0;clear HB;clear HK;have HO_0:=n0_;have HB:=n1_;have HK:=n2_;clear n0_ n1_ n2_;clear hg hw hp_;have p9:0≤(x5_1:Int):=dT (z1_);have q9:(x5_1:Int)<((x0_1.length:Int):Int):=dT (z1_);obtain ⟨ce9,hcl9,hM9,hcc9,hfr9⟩:=Kd.R_elem HO_0.out z95 (x5_1:Int) p9 q9;obtain rfl:=k95_openM hM9;have hx9_0:w15.cell? ⟨go5,(x5_1:Int).toNat*4,none⟩=some (.int .i64 ((rd_T95 y923 x5_1).f0)):=hcc9 0 _ rfl;have hx9_1:w15.cell? ⟨go5,(x5_1:Int).toNat*4+1,none⟩=some (.slice none 0 0):=hcc9 1 _ rfl;have hx9_2:w15.cell? ⟨go5,(x5_1:Int).toNat*4+2,none⟩=some (.string ((rd_T95 y923 x5_1).f2)):=hcc9 2 _ rfl;have hx9_3:w15.cell? ⟨go5,(x5_1:Int).toNat*4+3,none⟩=some (.int .i64 ((rd_T95 y923 x5_1).f3)):=hcc9 3 _ rfl;have hf9_0:w15.frozen? ⟨go5,(x5_1:Int).toNat*4,none⟩=false:=hfr9 0;have hf9_1:w15.frozen? ⟨go5,(x5_1:Int).toNat*4+1,none⟩=false:=hfr9 1;have hf9_2:w15.frozen? ⟨go5,(x5_1:Int).toNat*4+2,none⟩=false:=hfr9 2;have hf9_3:w15.frozen? ⟨go5,(x5_1:Int).toNat*4+3,none⟩=false:=hfr9 3;clear hcl9 hcc9 hfr9 hM9;replace p9:=eq_true p9;replace q9:=eq_true q9;have HX16:=aM (show Kd.R k95 95 w15 w0.heap.size (fun k_=>(P0_ k_∨w.heap.size≤k_)) (.slice (some ⟨go5,0,none⟩) x0_1.length co10) y923 from (z2_ HO_0.out));obtain ⟨ce16,hcl16,hM16,hcc16,hfr16⟩:=Kd.R_elem HX16.out z95 (x5_1:Int) (dT (z1_)) (z17_ HO_0.out);obtain rfl:=k95_openM hM16;have HP16:=Kd.R_seg HX16.out (x5_1:Int) (dT (z1_)) (z17_ HO_0.out) (seg:=[.int .i64 (wrap64 (t921+1))]) (j:=3) hcl16 hcc16 (show 4≤4 from by decide) (x':=(⟨(rd_T95 y923 x5_1).f0,(rd_T95 y923 x5_1).f1,(rd_T95 y923 x5_1).f2,wrap64 (t921+1)⟩:S95)) (k95_mkM _ _ _ (⟨(rd_T95 y923 x5_1).f0,(rd_T95 y923 x5_1).f1,(rd_T95 y923 x5_1).f2,wrap64 (t921+1)⟩:S95) ) (fun _ hk=>hk);have hx16_3:=hcc16 3 _ rfl;(try simp only [show (k95).sz=4 from rfl,Nat.mul_one,Nat.add_zero] at hx16_3);have hf16_3:=hfr16 3;(try simp only [show (k95).sz=4 from rfl,Nat.mul_one,Nat.add_zero] at hf16_3);clear hcl16 hcc16 hfr16 hM16) | ((with_reducible refine gate_store (t:=2) (p:=38) rfl ?_);refine store_event (t:=2) (p:=38) (v:=?vo_w17) (w1:=(w15.setCell ⟨go5,(x5_1:Int).toNat*4+3,none⟩ (.int .i64 (wrap64 (t921+1))))) ?hg ?ho ?hn ?hr ?_;(case ho=>rfl);(case hg=>rfl);(case hn=>rfl);(case hr=>first | (go_simp;done) | (go_simp;rfl));intro w17 hw;have hg:w15.grownBy w17 (some go5):=(by rw [hw];exact HP16.2);have hp_:Kd.R k95 95 w17 w0.heap.size (fun k_=>(P0_ k_∨w.heap.size≤k_)) (.slice (some ⟨go5,0,none⟩) x0_1.length co10) y924:=(by rw [hw,Ny924.out];exact HP16.1);clear HP16;have n0_:=aM (hp_);have n1_:=aM ((by rw [hw];exact below_set (HB.out) GB5.out:Below w0.heap.size w0 w17));have n2_:=aM (Kept.of_grown (S:=(fun k_=>P0_ k_)) hg (z5_ HK.out) (fun k_ e_=>(HO_0.out.1 k_ e_)));clear HO_0;clear HB;clear HK;have HO_0:=n0_;have HB:=n1_;have HK:=n2_;clear n0_ n1_ n2_;clear hg hw hp_))
     go_roundg k1
     case measure=>have:=HK1.out;omega
     case rel=>exact ⟨(y924),(wrap64 ((wrap64 (t921+1))+1)),(wrap64 (x5_1+1)),(z0_),(z0_),H',⟨by have:=HK1.out;omega⟩,⟨z2_ HO_0.out⟩,⟨z5_ HK.out⟩,⟨z3_ HB.out⟩⟩
    ·rw [if_neg c4] at H
     exact nO H
   ·rw [if_neg c3] at H
    have c3b0:decide (x5_1<(x0_1.length:Int))=false:=dF c3
    clear c3
    simp only [Option.some.injEq,Prod.mk.injEq] at H
    obtain ⟨rfl,rfl⟩:=H
    obtain ⟨Ao18,co18,eo18⟩:=Kd.R_slice HO_0.out
    subst eo18
    go_wp2
    go_ret
    exact ⟨z9_,z2_ HO_0.out,z3_ HB.out,z5_ HK.out⟩


/-! ### Y55: function 69 -/
def Y55.f (k:Nat) (a0_0:Int) (l0_1:List (S77)) (l0_2:List (S95)) (l0_3:List Int) (a0_4:Int) (a0_5:Int) (a0_6:Int) (a1:Int):Option (Int × (List (S77)) × (List (S95)) × List Int):=(Y57.f k a0_0 l0_1 a1).bind fun bt926=>((Y19.f k l0_2 bt926.1).bind fun bt928=>((Y22.f k l0_3 bt928.1).bind fun bt930=>(some (bt930.1,bt926.2,bt928.2,bt930.2))))
theorem Y55.mono:∀ a0 a1 a2 a3 a4 a5 a6 a7 k,LeO (Y55.f k a0 a1 a2 a3 a4 a5 a6 a7) (Y55.f (k+1) a0 a1 a2 a3 a4 a5 a6 a7):=by
 intro a0 a1 a2 a3 a4 a5 a6 a7 k
 have m0:=@Y22.mono
 have m1:=@Y57.mono
 have m2:=@Y19.mono
 unfold Y55.f
 exact mO
theorem Y55.calls (k:Nat) (a0_0:Int) (P0_1_:Nat→Prop) (u9000_:Value) (l0_1:List (S77)) (P0_2_:Nat→Prop) (u9001_:Value) (l0_2:List (S95)) (P0_3_:Nat→Prop) (u9002_:Value) (l0_3:List Int) (a0_4:Int) (a0_5:Int) (a0_6:Int) (a1:Int) (r1:Int) (r2:List (S77)) (r3:List (S95)) (r4:List Int) (w0 w:World) (hB:Below w0.heap.size w0 w) (ho0_1:Kd.R k77 77 w w0.heap.size P0_1_ u9000_ l0_1) (ho0_2:Kd.R k95 95 w w0.heap.size P0_2_ u9001_ l0_2) (ho0_3:Kd.R (Kd.int .i64) 2 w w0.heap.size P0_3_ u9002_ l0_3) (h:Y55.f k a0_0 l0_1 l0_2 l0_3 a0_4 a0_5 a0_6 a1=some (r1,r2,r3,r4)) :
  Calls Tryd.prog 69 #[.agg #[.int .i64 a0_0,u9000_,u9001_,u9002_,.int .i64 a0_4,.int .i64 a0_5,.int .i64 a0_6],.int .i64 a1] w fun e w'=>e = .returned (.int .i64 r1)∧Kd.R k77 77 w' w0.heap.size (fun k_=>((P0_1_ k_∨P0_2_ k_∨P0_3_ k_)∨w.heap.size≤k_)) u9000_ r2∧Kd.R k95 95 w' w0.heap.size (fun k_=>((P0_1_ k_∨P0_2_ k_∨P0_3_ k_)∨w.heap.size≤k_)) u9001_ r3∧Kd.R (Kd.int .i64) 2 w' w0.heap.size (fun k_=>((P0_1_ k_∨P0_2_ k_∨P0_3_ k_)∨w.heap.size≤k_)) u9002_ r4∧Below w0.heap.size w0 w'∧Kept w w' (fun k_=>P0_1_ k_∨P0_2_ k_∨P0_3_ k_):=by
 have hu56:=Tryd.underlying56
 have hu24:=Tryd.underlying24
 have HO0_1:=aM (show Kd.R k77 77 w w0.heap.size (fun k_=>((P0_1_ k_∨P0_2_ k_∨P0_3_ k_)∨w.heap.size≤k_)) u9000_ l0_1 from Kd.R_mono ho0_1 (fun k_ hk=>(.inl (.inl hk))))
 have HO0_2:=aM (show Kd.R k95 95 w w0.heap.size (fun k_=>((P0_1_ k_∨P0_2_ k_∨P0_3_ k_)∨w.heap.size≤k_)) u9001_ l0_2 from Kd.R_mono ho0_2 (fun k_ hk=>(.inl (.inr (.inl hk)))))
 have HO0_3:=aM (show Kd.R (Kd.int .i64) 2 w w0.heap.size (fun k_=>((P0_1_ k_∨P0_2_ k_∨P0_3_ k_)∨w.heap.size≤k_)) u9002_ l0_3 from Kd.R_mono ho0_3 (fun k_ hk=>(.inl (.inr (.inr hk)))))
 have HK:=aM (Kept.refl w (fun k_=>P0_1_ k_∨P0_2_ k_∨P0_3_ k_))
 have HW0:=aM hB.size
 have HB:=aM hB
 clear hB
 have H:((Y57.f k a0_0 l0_1 a1).bind fun bt926=>((Y19.f k l0_2 bt926.1).bind fun bt928=>((Y22.f k l0_3 bt928.1).bind fun bt930=>(some (bt930.1,bt926.2,bt928.2,bt930.2)))))=some (r1,r2,r3,r4):=h
 clear h
 replace H:=bS H
 obtain ⟨⟨t926,t927⟩,A30,H⟩:=H
 replace H:((Y19.f k l0_2 t926).bind fun bt928=>((Y22.f k l0_3 bt928.1).bind fun bt930=>(some (bt930.1,t927,bt928.2,bt930.2))))=some (r1,r2,r3,r4):=H
 have A3:=aM A30
 clear A30
 replace H:=bS H
 obtain ⟨⟨t928,t929⟩,A40,H⟩:=H
 replace H:((Y22.f k l0_3 t928).bind fun bt930=>(some (bt930.1,t927,t929,bt930.2)))=some (r1,r2,r3,r4):=H
 have A4:=aM A40
 clear A40
 replace H:=bS H
 obtain ⟨⟨t930,t931⟩,A50,H⟩:=H
 replace H:(some (t930,t927,t929,t931))=some (r1,r2,r3,r4):=H
 have A5:=aM A50
 clear A50
 simp only [Option.some.injEq,Prod.mk.injEq] at H
 obtain ⟨rfl,rfl,rfl,rfl⟩:=H
 obtain ⟨Ao6,co6,eo6⟩:=Kd.R_slice HO0_1.out
 subst eo6
 obtain ⟨Ao7,co7,eo7⟩:=Kd.R_slice HO0_2.out
 subst eo7
 obtain ⟨Ao8,co8,eo8⟩:=Kd.R_slice HO0_3.out
 subst eo8
 go_enter Tryd.func69,Tryd.ntmps69
 go_wp2_with (first | ((with_reducible refine gd_ 2 ?_);refine be_ 2 #[.int .i64 a0_0,.slice Ao6 l0_1.length co6,.slice Ao7 l0_2.length co7,.slice Ao8 l0_3.length co8,.int .i64 a0_4,.int .i64 a0_5,.int .i64 a0_6] 56 ?_;intro gb925 hg w9 hbox hb;have n0_:=aM (Kd.R_below (z2_ HO0_1.out) hb);have n1_:=aM (Kd.R_below (z2_ HO0_2.out) hb);have n2_:=aM (Kd.R_below (z2_ HO0_3.out) hb);have n3_:=aM (Kept.below (S:=(fun k_=>P0_1_ k_∨P0_2_ k_∨P0_3_ k_)) (z5_ HK.out) hb);have n4_:=aM (below_step (z3_ HB.out) hb);have n5_:=aM (hbox);have n6_:=aM ((by rw [hg];exact (by first | exact HK.out.1 | exact (show Kept w _ (fun k_=>P0_1_ k_∨P0_2_ k_∨P0_3_ k_) from by repeat (first | (with_reducible first | exact HK.out | apply Kept.alloc | apply Kept.drewN | apply Kept.drew) | exact HK.out)).1):w.heap.size≤gb925));have n7_:=aM ((z10_ HB.out:w0.heap.size≤gb925));clear HO0_1;clear HO0_2;clear HO0_3;clear HK;clear HB;have HO0_1:=n0_;have HO0_2:=n1_;have HO0_3:=n2_;have HK:=n3_;have HB:=n4_;have BK925:=n5_;have GW925:=n6_;have GE925:=n7_;clear n0_ n1_ n2_ n3_ n4_ n5_ n6_ n7_;clear hb hbox hg;have ⟨hcz10_0,hcz10_1,hcz10_2,hcz10_3,hcz10_4,hcz10_5,hcz10_6,hfz10_0,hfz10_1,hfz10_2,hfz10_3,hfz10_4,hfz10_5,hfz10_6⟩:=cz7_ BK925.out) | ((with_reducible refine gc_ 27 ?_);refine gl_ (some 8) Tryd.func27 #[.agg #[.int .i64 a0_0,.slice Ao6 l0_1.length co6],.int .i64 a1] ?_;(with_reducible refine (Y57.calls k a0_0 (fun k_=>some k_=(.slice Ao6 l0_1.length co6:Value).ownBlock) (.slice Ao6 l0_1.length co6) l0_1 a1 t926 t927 w0 _ ?s1 ?s2 A3.out).mono ?_);(case s1=>repeat (first | (with_reducible first | exact HB.out | apply below_alloc | apply pw_below_drewN | apply below_drew1 | refine below_set ?_ GE925.out) | exact HB.out));(case s2=>exact Kd.R_tight rfl HO0_1.out);rintro e w11 ⟨rfl,hy0,hb,hkp⟩;refine ⟨_,rfl,?_⟩;have n0_:=aM (Kd.R_reok rfl hy0 (fun k_ e_=>HO0_1.out.1 k_ e_));have n1_:=aM (Kd.R_mono (ok':=fun k_=>((P0_1_ k_∨P0_2_ k_∨P0_3_ k_)∨w.heap.size≤k_)) (Kd.R_keptB ((Kd.R_apart' HO0_2.out (Kd.R_typed HO0_1.out) (by decide))) hkp (fun k_ hk_ hs_=>(hk_.2) hs_)) (fun k_ hk_=>hk_.1.1));have n2_:=aM (Kd.R_mono (ok':=fun k_=>((P0_1_ k_∨P0_2_ k_∨P0_3_ k_)∨w.heap.size≤k_)) (Kd.R_keptB ((Kd.R_apart' HO0_3.out (Kd.R_typed HO0_1.out) (by decide))) hkp (fun k_ hk_ hs_=>(hk_.2) hs_)) (fun k_ hk_=>hk_.1.1));have n3_:=aM (blk_kept (z4_ BK925.out) hkp (fun hs_=>(fun e_=>(Kd.R_ne HO0_1.out BK925.out (by decide)) e_) hs_));have n4_:=aM (Kept.then_ (S:=(fun k_=>P0_1_ k_∨P0_2_ k_∨P0_3_ k_)) (z21_ HK.out GW925.out) hkp (fun k_ hs_=>(fun e_=>(HO0_1.out.1 k_ e_.symm)) hs_));have n5_:=aM (hb);clear HO0_1;clear HO0_2;clear HO0_3;clear BK925;clear HK;clear HB;have HO0_1:=n0_;have HO0_2:=n1_;have HO0_3:=n2_;have BK925:=n3_;have HK:=n4_;have HB:=n5_;clear n0_ n1_ n2_ n3_ n4_ n5_;(try clear hb);(try clear hkp);(try clear hy0);have ⟨hcz12_0,hcz12_1,hcz12_2,hcz12_3,hcz12_4,hcz12_5,hcz12_6,hfz12_0,hfz12_1,hfz12_2,hfz12_3,hfz12_4,hfz12_5,hfz12_6⟩:=cz7_ BK925.out) | ((with_reducible refine gc_ 100 ?_);refine gl_ (some 12) Tryd.func100 #[.slice Ao7 l0_2.length co7,.int .i64 t926] ?_;(with_reducible refine (Y19.calls k (fun k_=>some k_=(.slice Ao7 l0_2.length co7:Value).ownBlock) (.slice Ao7 l0_2.length co7) l0_2 t926 t928 t929 w0 _ ?s1 ?s2 A4.out).mono ?_);(case s1=>repeat (first | (with_reducible first | exact HB.out | apply below_alloc | apply pw_below_drewN | apply below_drew1 | refine below_set ?_ GE925.out) | exact HB.out));(case s2=>exact Kd.R_tight rfl HO0_2.out);rintro e w13 ⟨rfl,hy0,hb,hkp⟩;refine ⟨_,rfl,?_⟩;have n0_:=aM (Kd.R_mono (ok':=fun k_=>((P0_1_ k_∨P0_2_ k_∨P0_3_ k_)∨w.heap.size≤k_)) (Kd.R_keptB ((Kd.R_apart' HO0_1.out (Kd.R_typed HO0_2.out) (by decide))) hkp (fun k_ hk_ hs_=>(hk_.2) hs_)) (fun k_ hk_=>hk_.1.1));have n1_:=aM (Kd.R_reok rfl hy0 (fun k_ e_=>HO0_2.out.1 k_ e_));have n2_:=aM (Kd.R_mono (ok':=fun k_=>((P0_1_ k_∨P0_2_ k_∨P0_3_ k_)∨w.heap.size≤k_)) (Kd.R_keptB ((Kd.R_apart' HO0_3.out (Kd.R_typed HO0_2.out) (by decide))) hkp (fun k_ hk_ hs_=>(hk_.2) hs_)) (fun k_ hk_=>hk_.1.1));have n3_:=aM (blk_kept (z4_ BK925.out) hkp (fun hs_=>(fun e_=>(Kd.R_ne HO0_2.out BK925.out (by decide)) e_) hs_));have n4_:=aM (Kept.then_ (S:=(fun k_=>P0_1_ k_∨P0_2_ k_∨P0_3_ k_)) (z21_ HK.out GW925.out) hkp (fun k_ hs_=>(fun e_=>(HO0_2.out.1 k_ e_.symm)) hs_));have n5_:=aM (hb);clear HO0_1;clear HO0_2;clear HO0_3;clear BK925;clear HK;clear HB;have HO0_1:=n0_;have HO0_2:=n1_;have HO0_3:=n2_;have BK925:=n3_;have HK:=n4_;have HB:=n5_;clear n0_ n1_ n2_ n3_ n4_ n5_;(try clear hb);(try clear hkp);(try clear hy0);have ⟨hcz14_0,hcz14_1,hcz14_2,hcz14_3,hcz14_4,hcz14_5,hcz14_6,hfz14_0,hfz14_1,hfz14_2,hfz14_3,hfz14_4,hfz14_5,hfz14_6⟩:=cz7_ BK925.out) | ((with_reducible refine gc_ 28 ?_);refine gl_ (some 16) Tryd.func28 #[.slice Ao8 l0_3.length co8,.int .i64 t928] ?_;(with_reducible refine (Y22.calls k (fun k_=>some k_=(.slice Ao8 l0_3.length co8:Value).ownBlock) (.slice Ao8 l0_3.length co8) l0_3 t928 t930 t931 w0 _ ?s1 ?s2 A5.out).mono ?_);(case s1=>repeat (first | (with_reducible first | exact HB.out | apply below_alloc | apply pw_below_drewN | apply below_drew1 | refine below_set ?_ GE925.out) | exact HB.out));(case s2=>exact Kd.R_tight rfl HO0_3.out);rintro e w15 ⟨rfl,hy0,hb,hkp⟩;refine ⟨_,rfl,?_⟩;have n0_:=aM (Kd.R_mono (ok':=fun k_=>((P0_1_ k_∨P0_2_ k_∨P0_3_ k_)∨w.heap.size≤k_)) (Kd.R_keptB ((Kd.R_apart' HO0_1.out (Kd.R_typed HO0_3.out) (by decide))) hkp (fun k_ hk_ hs_=>(hk_.2) hs_)) (fun k_ hk_=>hk_.1.1));have n1_:=aM (Kd.R_mono (ok':=fun k_=>((P0_1_ k_∨P0_2_ k_∨P0_3_ k_)∨w.heap.size≤k_)) (Kd.R_keptB ((Kd.R_apart' HO0_2.out (Kd.R_typed HO0_3.out) (by decide))) hkp (fun k_ hk_ hs_=>(hk_.2) hs_)) (fun k_ hk_=>hk_.1.1));have n2_:=aM (Kd.R_reok rfl hy0 (fun k_ e_=>HO0_3.out.1 k_ e_));have n3_:=aM (blk_kept (z4_ BK925.out) hkp (fun hs_=>(fun e_=>(Kd.R_ne HO0_3.out BK925.out (by decide)) e_) hs_));have n4_:=aM (Kept.then_ (S:=(fun k_=>P0_1_ k_∨P0_2_ k_∨P0_3_ k_)) (z21_ HK.out GW925.out) hkp (fun k_ hs_=>(fun e_=>(HO0_3.out.1 k_ e_.symm)) hs_));have n5_:=aM (hb);clear HO0_1;clear HO0_2;clear HO0_3;clear BK925;clear HK;clear HB;have HO0_1:=n0_;have HO0_2:=n1_;have HO0_3:=n2_;have BK925:=n3_;have HK:=n4_;have HB:=n5_;clear n0_ n1_ n2_ n3_ n4_ n5_;(try clear hb);(try clear hkp);(try clear hy0)))
 go_ret
 exact ⟨z9_,z2_ HO0_1.out,z2_ HO0_2.out,z2_ HO0_3.out,z8_ HB.out GE925.out,z21_ HK.out GW925.out⟩


/-! ### Y33: function 101 -/
def Y33.l0:Nat→Int→Int→Option (Int)
 | 0,_,_=>none
 | k+1,x1,x5=>if x5<0 then (none) else (some x1)
def Y33.f (k:Nat) (a0:Int) (a1:Int):Option (Int):=Y33.l0 k a1 0
theorem Y33.mono_l:∀ k,(∀ y0 y1,LeO (Y33.l0 k y0 y1) (Y33.l0 (k+1) y0 y1))
 | 0=>by intros <;> exact LeO.none _
 | k+1=>by
  have ih0:=Y33.mono_l k
  ·intros
   unfold Y33.l0
   exact mO
theorem Y33.mono:∀ a0 a1 k,LeO (Y33.f k a0 a1) (Y33.f (k+1) a0 a1):=by
 intro a0 a1 k
 have ih0:=Y33.mono_l k
 unfold Y33.f
 exact mO
theorem Y33.calls (k:Nat) (a0:Int) (a1:Int) (r:Int) (w:World) (h:Y33.f k a0 a1=some r) :
  Calls Tryd.prog 101 #[.slice none 0 0,.int .i64 a1] w fun e w'=>e = .returned (.int .i64 r)∧Drawn0 w w':=by
 have H:(Y33.l0 k a1 0)=some r:=h
 clear h
 have H':=aM H
 clear H
 go_enter Tryd.func101,Tryd.ntmps101
 go_wp2
 go_loopg [1,5] k (fun kq v1 v5 w'=>∃ (x1_1:Int) (x5_1:Int),v1 = .int .i64 x1_1∧v5 = .int .i64 x5_1∧Aside0 (Y33.l0 kq x1_1 x5_1=some r)∧Aside0 (kq≤k)∧Drawn0 w w')
 case atStart=>exact ⟨(a1),(0),(z0_),(z0_),H',⟨Nat.le_refl _⟩,z6_⟩
 case round =>
  clear H'
  try clear c1
  try clear p2
  obtain ⟨x1_1,x5_1,rfl,rfl,HA,HK1,⟨m1,rfl⟩⟩:=hrel
  cases gk with
  | zero=>exact absurd HA.out (by simp [Y33.l0])
  | succ k1 =>
   have H:=HA.out
   clear HA
   simp only [Y33.l0] at H
   by_cases c3:x5_1<0
   ·rw [if_pos c3] at H
    exact nO H
   ·rw [if_neg c3] at H
    have c3b0:decide (x5_1<0)=false:=dF c3
    clear c3
    obtain rfl:=sI H
    go_wp2
    go_ret
    exact ⟨z0_,z6_⟩


/-! ### Y37: function 102 -/
def Y37.l0:Nat→Int→Int→Option (Int)
 | 0,_,_=>none
 | k+1,x1,x5=>if x5<0 then (none) else (some x1)
def Y37.f (k:Nat) (a0:Int) (a1:Int):Option (Int):=Y37.l0 k a1 0
theorem Y37.mono_l:∀ k,(∀ y0 y1,LeO (Y37.l0 k y0 y1) (Y37.l0 (k+1) y0 y1))
 | 0=>by intros <;> exact LeO.none _
 | k+1=>by
  have ih0:=Y37.mono_l k
  ·intros
   unfold Y37.l0
   exact mO
theorem Y37.mono:∀ a0 a1 k,LeO (Y37.f k a0 a1) (Y37.f (k+1) a0 a1):=by
 intro a0 a1 k
 have ih0:=Y37.mono_l k
 unfold Y37.f
 exact mO
theorem Y37.calls (k:Nat) (a0:Int) (a1:Int) (r:Int) (w:World) (h:Y37.f k a0 a1=some r) :
  Calls Tryd.prog 102 #[.slice none 0 0,.int .i64 a1] w fun e w'=>e = .returned (.int .i64 r)∧Drawn0 w w':=by
 have H:(Y37.l0 k a1 0)=some r:=h
 clear h
 have H':=aM H
 clear H
 go_enter Tryd.func102,Tryd.ntmps102
 go_wp2
 go_loopg [1,5] k (fun kq v1 v5 w'=>∃ (x1_1:Int) (x5_1:Int),v1 = .int .i64 x1_1∧v5 = .int .i64 x5_1∧Aside0 (Y37.l0 kq x1_1 x5_1=some r)∧Aside0 (kq≤k)∧Drawn0 w w')
 case atStart=>exact ⟨(a1),(0),(z0_),(z0_),H',⟨Nat.le_refl _⟩,z6_⟩
 case round =>
  clear H'
  try clear c1
  try clear p2
  obtain ⟨x1_1,x5_1,rfl,rfl,HA,HK1,⟨m1,rfl⟩⟩:=hrel
  cases gk with
  | zero=>exact absurd HA.out (by simp [Y37.l0])
  | succ k1 =>
   have H:=HA.out
   clear HA
   simp only [Y37.l0] at H
   by_cases c3:x5_1<0
   ·rw [if_pos c3] at H
    exact nO H
   ·rw [if_neg c3] at H
    have c3b0:decide (x5_1<0)=false:=dF c3
    clear c3
    obtain rfl:=sI H
    go_wp2
    go_ret
    exact ⟨z0_,z6_⟩


/-! ### Y66: function 70 -/
def Y66.f (k:Nat) (a0_0:Int) (a0_1:Int) (a1:Int):Option (Int):=(Y33.f k a0_0 a1).bind fun t933=>((Y37.f k a0_1 t933).bind fun t934=>(some t934))
theorem Y66.mono:∀ a0 a1 a2 k,LeO (Y66.f k a0 a1 a2) (Y66.f (k+1) a0 a1 a2):=by
 intro a0 a1 a2 k
 have m0:=@Y33.mono
 have m1:=@Y37.mono
 unfold Y66.f
 exact mO
theorem Y66.calls (k:Nat) (a0_0:Int) (a0_1:Int) (a1:Int) (r:Int) (w:World) (h:Y66.f k a0_0 a0_1 a1=some r) :
  Calls Tryd.prog 70 #[.agg #[.slice none 0 0,.slice none 0 0],.int .i64 a1] w fun e w'=>e = .returned (.int .i64 r)∧Below w.heap.size w w':=by
 have hu60:=Tryd.underlying60
 have HB:=aM (Below.refl w.heap.size w)
 have H:((Y33.f k a0_0 a1).bind fun t933=>((Y37.f k a0_1 t933).bind fun t934=>(some t934)))=some r:=h
 clear h
 replace H:=bS H
 obtain ⟨t933,A30,H⟩:=H
 replace H:((Y37.f k a0_1 t933).bind fun t934=>(some t934))=some r:=H
 have A3:=aM A30
 clear A30
 replace H:=bS H
 obtain ⟨t934,A40,H⟩:=H
 replace H:(some t934)=some r:=H
 have A4:=aM A40
 clear A40
 obtain rfl:=sI H
 go_enter Tryd.func70,Tryd.ntmps70
 go_wp2_with (first | ((with_reducible refine gd_ 2 ?_);refine be_ 2 #[.slice none 0 0,.slice none 0 0] 60 ?_;intro gb932 hg w5 hbox hb;have n0_:=aM (below_step (z3_ HB.out) hb);have n1_:=aM (hbox);have n2_:=aM ((z10_ HB.out:w.heap.size≤gb932));have n3_:=aM ((z10_ HB.out:w.heap.size≤gb932));clear HB;have HB:=n0_;have BK932:=n1_;have GW932:=n2_;have GE932:=n3_;clear n0_ n1_ n2_ n3_;clear hb hbox hg;have ⟨hcz6_0,hcz6_1,hfz6_0,hfz6_1⟩:=cz2_ BK932.out) | ((with_reducible refine gc_ 101 ?_);refine gl_ (some 8) Tryd.func101 #[.slice none 0 0,.int .i64 a1] ?_;(with_reducible refine (Y33.calls k a0_0 a1 t933 _ A3.out).mono ?_);rintro e w' ⟨rfl,⟨nd,rfl⟩⟩;refine ⟨_,rfl,?_⟩) | ((with_reducible refine gc_ 102 ?_);refine gl_ (some 12) Tryd.func102 #[.slice none 0 0,.int .i64 t933] ?_;(with_reducible refine (Y37.calls k a0_1 t933 t934 _ A4.out).mono ?_);rintro e w' ⟨rfl,⟨nd,rfl⟩⟩;refine ⟨_,rfl,?_⟩))
 go_ret
 exact ⟨z9_,z8_ HB.out GE932.out⟩


/-! ### Y44: function 36 -/
def Y44.f (k:Nat) (a0_0:Int) (l0_1:List (S77)) (l0_2:List (S95)) (l0_3:List Int) (a0_4:Int) (a0_5:Int) (a0_6:Int) (a0_7:Int) (a0_8:Int) (a0_9:Int) (a1:Int):Option (Int × (List (S77)) × (List (S95)) × List Int):=(Y55.f k a0_0 l0_1 l0_2 l0_3 a0_4 a0_5 a0_6 a1).bind fun bt936=>((Y66.f k a0_7 a0_8 bt936.1).bind fun t940=>(some (t940,bt936.2.1,bt936.2.2.1,bt936.2.2.2)))
theorem Y44.mono:∀ a0 a1 a2 a3 a4 a5 a6 a7 a8 a9 a10 k,LeO (Y44.f k a0 a1 a2 a3 a4 a5 a6 a7 a8 a9 a10) (Y44.f (k+1) a0 a1 a2 a3 a4 a5 a6 a7 a8 a9 a10):=by
 intro a0 a1 a2 a3 a4 a5 a6 a7 a8 a9 a10 k
 have m0:=@Y55.mono
 have m1:=@Y66.mono
 unfold Y44.f
 exact mO
theorem Y44.calls (k:Nat) (a0_0:Int) (P0_1_:Nat→Prop) (u9000_:Value) (l0_1:List (S77)) (P0_2_:Nat→Prop) (u9001_:Value) (l0_2:List (S95)) (P0_3_:Nat→Prop) (u9002_:Value) (l0_3:List Int) (a0_4:Int) (a0_5:Int) (a0_6:Int) (a0_7:Int) (a0_8:Int) (a0_9:Int) (a1:Int) (r1:Int) (r2:List (S77)) (r3:List (S95)) (r4:List Int) (w0 w:World) (hB:Below w0.heap.size w0 w) (ho0_1:Kd.R k77 77 w w0.heap.size P0_1_ u9000_ l0_1) (ho0_2:Kd.R k95 95 w w0.heap.size P0_2_ u9001_ l0_2) (ho0_3:Kd.R (Kd.int .i64) 2 w w0.heap.size P0_3_ u9002_ l0_3) (h:Y44.f k a0_0 l0_1 l0_2 l0_3 a0_4 a0_5 a0_6 a0_7 a0_8 a0_9 a1=some (r1,r2,r3,r4)) :
  Calls Tryd.prog 36 #[.agg #[.int .i64 a0_0,u9000_,u9001_,u9002_,.int .i64 a0_4,.int .i64 a0_5,.int .i64 a0_6,.slice none 0 0,.slice none 0 0,.int .i64 a0_9],.int .i64 a1] w fun e w'=>e = .returned (.int .i64 r1)∧Kd.R k77 77 w' w0.heap.size (fun k_=>((P0_1_ k_∨P0_2_ k_∨P0_3_ k_)∨w.heap.size≤k_)) u9000_ r2∧Kd.R k95 95 w' w0.heap.size (fun k_=>((P0_1_ k_∨P0_2_ k_∨P0_3_ k_)∨w.heap.size≤k_)) u9001_ r3∧Kd.R (Kd.int .i64) 2 w' w0.heap.size (fun k_=>((P0_1_ k_∨P0_2_ k_∨P0_3_ k_)∨w.heap.size≤k_)) u9002_ r4∧Below w0.heap.size w0 w'∧Kept w w' (fun k_=>P0_1_ k_∨P0_2_ k_∨P0_3_ k_):=by
 have hu62:=Tryd.underlying62
 have hu56:=Tryd.underlying56
 have hu60:=Tryd.underlying60
 have HO0_1:=aM (show Kd.R k77 77 w w0.heap.size (fun k_=>((P0_1_ k_∨P0_2_ k_∨P0_3_ k_)∨w.heap.size≤k_)) u9000_ l0_1 from Kd.R_mono ho0_1 (fun k_ hk=>(.inl (.inl hk))))
 have HO0_2:=aM (show Kd.R k95 95 w w0.heap.size (fun k_=>((P0_1_ k_∨P0_2_ k_∨P0_3_ k_)∨w.heap.size≤k_)) u9001_ l0_2 from Kd.R_mono ho0_2 (fun k_ hk=>(.inl (.inr (.inl hk)))))
 have HO0_3:=aM (show Kd.R (Kd.int .i64) 2 w w0.heap.size (fun k_=>((P0_1_ k_∨P0_2_ k_∨P0_3_ k_)∨w.heap.size≤k_)) u9002_ l0_3 from Kd.R_mono ho0_3 (fun k_ hk=>(.inl (.inr (.inr hk)))))
 have HK:=aM (Kept.refl w (fun k_=>P0_1_ k_∨P0_2_ k_∨P0_3_ k_))
 have HW0:=aM hB.size
 have HB:=aM hB
 clear hB
 have H:((Y55.f k a0_0 l0_1 l0_2 l0_3 a0_4 a0_5 a0_6 a1).bind fun bt936=>((Y66.f k a0_7 a0_8 bt936.1).bind fun t940=>(some (t940,bt936.2.1,bt936.2.2.1,bt936.2.2.2))))=some (r1,r2,r3,r4):=h
 clear h
 replace H:=bS H
 obtain ⟨⟨t936,t937,t938,t939⟩,A30,H⟩:=H
 replace H:((Y66.f k a0_7 a0_8 t936).bind fun t940=>(some (t940,t937,t938,t939)))=some (r1,r2,r3,r4):=H
 have A3:=aM A30
 clear A30
 replace H:=bS H
 obtain ⟨t940,A40,H⟩:=H
 replace H:(some (t940,t937,t938,t939))=some (r1,r2,r3,r4):=H
 have A4:=aM A40
 clear A40
 simp only [Option.some.injEq,Prod.mk.injEq] at H
 obtain ⟨rfl,rfl,rfl,rfl⟩:=H
 obtain ⟨Ao5,co5,eo5⟩:=Kd.R_slice HO0_1.out
 subst eo5
 obtain ⟨Ao6,co6,eo6⟩:=Kd.R_slice HO0_2.out
 subst eo6
 obtain ⟨Ao7,co7,eo7⟩:=Kd.R_slice HO0_3.out
 subst eo7
 go_enter Tryd.func36,Tryd.ntmps36
 go_wp2_with (first | ((with_reducible refine gd_ 2 ?_);refine be_ 2 #[.int .i64 a0_0,.slice Ao5 l0_1.length co5,.slice Ao6 l0_2.length co6,.slice Ao7 l0_3.length co7,.int .i64 a0_4,.int .i64 a0_5,.int .i64 a0_6,.slice none 0 0,.slice none 0 0,.int .i64 a0_9] 62 ?_;intro gb935 hg w8 hbox hb;have n0_:=aM (Kd.R_below (z2_ HO0_1.out) hb);have n1_:=aM (Kd.R_below (z2_ HO0_2.out) hb);have n2_:=aM (Kd.R_below (z2_ HO0_3.out) hb);have n3_:=aM (Kept.below (S:=(fun k_=>P0_1_ k_∨P0_2_ k_∨P0_3_ k_)) (z5_ HK.out) hb);have n4_:=aM (below_step (z3_ HB.out) hb);have n5_:=aM (hbox);have n6_:=aM ((by rw [hg];exact (by first | exact HK.out.1 | exact (show Kept w _ (fun k_=>P0_1_ k_∨P0_2_ k_∨P0_3_ k_) from by repeat (first | (with_reducible first | exact HK.out | apply Kept.alloc | apply Kept.drewN | apply Kept.drew) | exact HK.out)).1):w.heap.size≤gb935));have n7_:=aM ((z10_ HB.out:w0.heap.size≤gb935));clear HO0_1;clear HO0_2;clear HO0_3;clear HK;clear HB;have HO0_1:=n0_;have HO0_2:=n1_;have HO0_3:=n2_;have HK:=n3_;have HB:=n4_;have BK935:=n5_;have GW935:=n6_;have GE935:=n7_;clear n0_ n1_ n2_ n3_ n4_ n5_ n6_ n7_;clear hb hbox hg;have ⟨hcz9_0,hcz9_1,hcz9_2,hcz9_3,hcz9_4,hcz9_5,hcz9_6,hcz9_7,hcz9_8,hcz9_9,hfz9_0,hfz9_1,hfz9_2,hfz9_3,hfz9_4,hfz9_5,hfz9_6,hfz9_7,hfz9_8,hfz9_9⟩:=cz10_ BK935.out) | ((with_reducible refine gc_ 69 ?_);refine gl_ (some 8) Tryd.func69 #[.agg #[.int .i64 a0_0,.slice Ao5 l0_1.length co5,.slice Ao6 l0_2.length co6,.slice Ao7 l0_3.length co7,.int .i64 a0_4,.int .i64 a0_5,.int .i64 a0_6],.int .i64 a1] ?_;(with_reducible refine (Y55.calls k a0_0 (fun k_=>some k_=(.slice Ao5 l0_1.length co5:Value).ownBlock) (.slice Ao5 l0_1.length co5) l0_1 (fun k_=>some k_=(.slice Ao6 l0_2.length co6:Value).ownBlock) (.slice Ao6 l0_2.length co6) l0_2 (fun k_=>some k_=(.slice Ao7 l0_3.length co7:Value).ownBlock) (.slice Ao7 l0_3.length co7) l0_3 a0_4 a0_5 a0_6 a1 t936 t937 t938 t939 w0 _ ?s1 ?s2 ?s3 ?s4 A3.out).mono ?_);(case s1=>repeat (first | (with_reducible first | exact HB.out | apply below_alloc | apply pw_below_drewN | apply below_drew1 | refine below_set ?_ GE935.out) | exact HB.out));(case s2=>exact Kd.R_tight rfl HO0_1.out);(case s3=>exact Kd.R_tight rfl HO0_2.out);(case s4=>exact Kd.R_tight rfl HO0_3.out);rintro e w10 ⟨rfl,hy0,hy1,hy2,hb,hkp⟩;refine ⟨_,rfl,?_⟩;have n0_:=aM (Kd.R_reok rfl hy0 (fun k_ e_=>HO0_1.out.1 k_ e_));have n1_:=aM (Kd.R_reok rfl hy1 (fun k_ e_=>HO0_2.out.1 k_ e_));have n2_:=aM (Kd.R_reok rfl hy2 (fun k_ e_=>HO0_3.out.1 k_ e_));have n3_:=aM (blk_kept (z4_ BK935.out) hkp (fun hs_=>Or.elim hs_ (fun e_=>(fun e_=>(Kd.R_ne HO0_1.out BK935.out (by decide)) e_) e_) (fun e_=>Or.elim e_ (fun e_=>(fun e_=>(Kd.R_ne HO0_2.out BK935.out (by decide)) e_) e_) (fun e_=>(fun e_=>(Kd.R_ne HO0_3.out BK935.out (by decide)) e_) e_))));have n4_:=aM (Kept.then_ (S:=(fun k_=>P0_1_ k_∨P0_2_ k_∨P0_3_ k_)) (z21_ HK.out GW935.out) hkp (fun k_ hs_=>Or.elim hs_ (fun e_=>(fun e_=>(HO0_1.out.1 k_ e_.symm)) e_) (fun e_=>Or.elim e_ (fun e_=>(fun e_=>(HO0_2.out.1 k_ e_.symm)) e_) (fun e_=>(fun e_=>(HO0_3.out.1 k_ e_.symm)) e_))));have n5_:=aM (hb);clear HO0_1;clear HO0_2;clear HO0_3;clear BK935;clear HK;clear HB;have HO0_1:=n0_;have HO0_2:=n1_;have HO0_3:=n2_;have BK935:=n3_;have HK:=n4_;have HB:=n5_;clear n0_ n1_ n2_ n3_ n4_ n5_;(try clear hb);(try clear hkp);(try clear hy0);(try clear hy1);(try clear hy2);have ⟨hcz11_0,hcz11_1,hcz11_2,hcz11_3,hcz11_4,hcz11_5,hcz11_6,hcz11_7,hcz11_8,hcz11_9,hfz11_0,hfz11_1,hfz11_2,hfz11_3,hfz11_4,hfz11_5,hfz11_6,hfz11_7,hfz11_8,hfz11_9⟩:=cz10_ BK935.out) | ((with_reducible refine gc_ 70 ?_);refine gl_ (some 12) Tryd.func70 #[.agg #[.slice none 0 0,.slice none 0 0],.int .i64 t936] ?_;(with_reducible refine (Y66.calls k a0_7 a0_8 t936 t940 _ A4.out).mono ?_);rintro e w12 ⟨rfl,hb⟩;refine ⟨_,rfl,?_⟩;have n0_:=aM (Kd.R_below (z2_ HO0_1.out) hb);have n1_:=aM (Kd.R_below (z2_ HO0_2.out) hb);have n2_:=aM (Kd.R_below (z2_ HO0_3.out) hb);have n3_:=aM (blkB_ BK935.out hb);have n4_:=aM (Kept.below (S:=(fun k_=>P0_1_ k_∨P0_2_ k_∨P0_3_ k_)) (z21_ HK.out GW935.out) hb);have n5_:=aM (below_step (z8_ HB.out GE935.out) hb);clear HO0_1;clear HO0_2;clear HO0_3;clear BK935;clear HK;clear HB;have HO0_1:=n0_;have HO0_2:=n1_;have HO0_3:=n2_;have BK935:=n3_;have HK:=n4_;have HB:=n5_;clear n0_ n1_ n2_ n3_ n4_ n5_;(try clear hb)))
 go_ret
 exact ⟨z9_,z2_ HO0_1.out,z2_ HO0_2.out,z2_ HO0_3.out,z8_ HB.out GE935.out,z21_ HK.out GW935.out⟩


/-! ### Y26: function 81 -/
def Y26.l0:Nat→List (S77)→Int→Int→Option (Int)
 | 0,_,_,_=>none
 | k+1,x0,x1,x5=>if x5<(x0.length:Int) then (if 0≤x5 then (if ((rd_T77 x0 x5).f0)=x1 then (if ((rd_T77 x0 x5).f1)=(wrap64 (x1+1)) then (Y26.l0 k x0 (wrap64 ((wrap64 (x1+1))+1)) (wrap64 (x5+1))) else (none)) else (none)) else (none)) else (some x1)
def Y26.f (k:Nat) (l0:List (S77)) (a1:Int):Option (Int):=Y26.l0 k l0 a1 0
theorem Y26.mono_l:∀ k,(∀ y0 y1 y2,LeO (Y26.l0 k y0 y1 y2) (Y26.l0 (k+1) y0 y1 y2))
 | 0=>by intros <;> exact LeO.none _
 | k+1=>by
  have ih0:=Y26.mono_l k
  ·intros
   unfold Y26.l0
   exact mO
theorem Y26.mono:∀ a0 a1 k,LeO (Y26.f k a0 a1) (Y26.f (k+1) a0 a1):=by
 intro a0 a1 k
 have ih0:=Y26.mono_l k
 unfold Y26.f
 exact mO
theorem Y26.calls (k:Nat) (A0:Option Addr) (c0:Nat) (l0:List (S77)) (a1:Int) (r:Int) (w:World) (hr0:Kd.C k77 w A0 l0.length l0) (hc0:l0.length≤c0) (h:Y26.f k l0 a1=some r) :
  Calls Tryd.prog 81 #[.slice A0 l0.length c0,.int .i64 a1] w fun e w'=>e = .returned (.int .i64 r)∧Drawn0 w w':=by
 have HR0:=aM hr0
 have HC0:=aM hc0
 clear hr0 hc0
 have H:(Y26.l0 k l0 a1 0)=some r:=h
 clear h
 have H':=aM H
 clear H
 go_enter Tryd.func81,Tryd.ntmps81
 go_wp2
 go_loopg [1,5] k (fun kq v1 v5 w'=>∃ (x1_1:Int) (x5_1:Int),v1 = .int .i64 x1_1∧v5 = .int .i64 x5_1∧Aside0 (Y26.l0 kq l0 x1_1 x5_1=some r)∧Aside0 (kq≤k)∧Drawn0 w w')
 case atStart=>exact ⟨(a1),(0),(z0_),(z0_),H',⟨Nat.le_refl _⟩,z6_⟩
 case round =>
  clear H'
  try clear p2
  obtain ⟨x1_1,x5_1,rfl,rfl,HA,HK1,⟨m1,rfl⟩⟩:=hrel
  cases gk with
  | zero=>exact absurd HA.out (by simp [Y26.l0])
  | succ k1 =>
   have H:=HA.out
   clear HA
   simp only [Y26.l0] at H
   by_cases c3:x5_1<(l0.length:Int)
   ·rw [if_pos c3] at H
    have c3b0:decide (x5_1<(l0.length:Int))=true:=dE c3
    clear c3
    by_cases c4:0≤x5_1
    ·rw [if_pos c4] at H
     have c4b0:decide (0≤x5_1)=true:=dE c4
     clear c4
     by_cases c5:((rd_T77 l0 x5_1).f0)=x1_1
     ·rw [if_pos c5] at H
      have c5b0:(((rd_T77 l0 x5_1).f0) == x1_1)=true:=beq_iff_eq.mpr c5
      have c5b1:(((rd_T77 l0 x5_1).f0) != x1_1)=false:=bne_eq_false_iff_eq.mpr c5
      clear c5
      by_cases c6:((rd_T77 l0 x5_1).f1)=(wrap64 (x1_1+1))
      ·rw [if_pos c6] at H
       have c6b0:(((rd_T77 l0 x5_1).f1) == (wrap64 (x1_1+1)))=true:=beq_iff_eq.mpr c6
       have c6b1:(((rd_T77 l0 x5_1).f1) != (wrap64 (x1_1+1)))=false:=bne_eq_false_iff_eq.mpr c6
       clear c6
       have H':=aM H
       clear H
       have p274:0≤(x5_1:Int):=dT (z1_)
       have q274:x5_1<(l0.length:Int):=dT (z1_)
       obtain ⟨ad274,e274,hx274_0,hx274_1⟩:=at_T77 HR0.out x5_1 p274 q274
       cases e274
       replace p274:=eq_true p274
       replace q274:=eq_true q274
       have p275:0≤(x5_1:Int):=dT (z1_)
       have q275:x5_1<(l0.length:Int):=dT (z1_)
       obtain ⟨ad275,e275,hx275_0,hx275_1⟩:=at_T77 HR0.out x5_1 p275 q275
       obtain rfl:ad274=ad275:=(by injection e275)
       replace p275:=eq_true p275
       replace q275:=eq_true q275
       go_wp2
       go_roundg k1
       case measure=>have:=HK1.out;omega
       case rel=>exact ⟨(wrap64 ((wrap64 (x1_1+1))+1)),(wrap64 (x5_1+1)),(z0_),(z0_),H',⟨by have:=HK1.out;omega⟩,z6_⟩
      ·rw [if_neg c6] at H
       exact nO H
     ·rw [if_neg c5] at H
      exact nO H
    ·rw [if_neg c4] at H
     exact nO H
   ·rw [if_neg c3] at H
    have c3b0:decide (x5_1<(l0.length:Int))=false:=dF c3
    clear c3
    obtain rfl:=sI H
    go_wp2
    go_ret
    exact ⟨z0_,z6_⟩


/-! ### Y58: function 44 -/
def Y58.f (k:Nat) (a0_0:Int) (l0_1:List (S77)) (a1:Int):Option (Int):=(Y26.f k l0_1 a1).bind fun t277=>(if t277<0 then (none) else (some t277))
theorem Y58.mono:∀ a0 a1 a2 k,LeO (Y58.f k a0 a1 a2) (Y58.f (k+1) a0 a1 a2):=by
 intro a0 a1 a2 k
 have m0:=@Y26.mono
 unfold Y58.f
 exact mO
theorem Y58.calls (k:Nat) (a0_0:Int) (A0_1:Option Addr) (c0_1:Nat) (l0_1:List (S77)) (a1:Int) (r:Int) (w:World) (hr0_1:Kd.C k77 w A0_1 l0_1.length l0_1) (hc0_1:l0_1.length≤c0_1) (h:Y58.f k a0_0 l0_1 a1=some r) :
  Calls Tryd.prog 44 #[.agg #[.int .i64 a0_0,.slice A0_1 l0_1.length c0_1],.int .i64 a1] w fun e w'=>e = .returned (.int .i64 r)∧Below w.heap.size w w':=by
 have hu24:=Tryd.underlying24
 have HR0_1:=aM hr0_1
 have HC0_1:=aM hc0_1
 clear hr0_1 hc0_1
 have HB:=aM (Below.refl w.heap.size w)
 have H:((Y26.f k l0_1 a1).bind fun t277=>(if t277<0 then (none) else (some t277)))=some r:=h
 clear h
 replace H:=bS H
 obtain ⟨t277,A30,H⟩:=H
 replace H:(if t277<0 then (none) else (some t277))=some r:=H
 have A3:=aM A30
 clear A30
 by_cases c4:t277<0
 ·rw [if_pos c4] at H
  exact nO H
 ·rw [if_neg c4] at H
  have c4b0:decide (t277<0)=false:=dF c4
  clear c4
  obtain rfl:=sI H
  go_enter Tryd.func44,Tryd.ntmps44
  go_wp2_with (first | ((with_reducible refine gd_ 2 ?_);refine be_ 2 #[.int .i64 a0_0,.slice A0_1 l0_1.length c0_1] 24 ?_;intro gb276 hg w5 hbox hb;have n0_:=aM (below_step (z3_ HB.out) hb);have n1_:=aM (hbox);have n2_:=aM ((z10_ HB.out:w.heap.size≤gb276));have n3_:=aM ((z10_ HB.out:w.heap.size≤gb276));clear HB;have HB:=n0_;have BK276:=n1_;have GW276:=n2_;have GE276:=n3_;clear n0_ n1_ n2_ n3_;clear hb hbox hg;have ⟨hcz6_0,hcz6_1,hfz6_0,hfz6_1⟩:=cz2_ BK276.out) | ((with_reducible refine gc_ 81 ?_);refine gl_ (some 8) Tryd.func81 #[.slice A0_1 l0_1.length c0_1,.int .i64 a1] ?_;(with_reducible refine (Y26.calls k _ _ l0_1 a1 t277 _ ?s1 ?s2 A3.out).mono ?_);(case s1=>repeat (first | exact (Kd.C_below HR0_1.out HB.out) | (with_reducible refine Kd.C_alloc ?_ _) | (with_reducible refine Kd.C_drewN ?_ _) | (with_reducible refine Kd.C_drew ?_)));(case s2=>exact HC0_1.out);rintro e w' ⟨rfl,⟨nd,rfl⟩⟩;refine ⟨_,rfl,?_⟩))
  go_ret
  exact ⟨z9_,z8_ HB.out GE276.out⟩


/-! ### Y24: function 29 -/
def Y24.l0:Nat→List Int→Int→Int→Option (Int)
 | 0,_,_,_=>none
 | k+1,x0,x1,x5=>if x5<(x0.length:Int) then (if 0≤x5 then (if (rd x0 x5)=x1 then (Y24.l0 k x0 (wrap64 (x1+1)) (wrap64 (x5+1))) else (none)) else (none)) else (some x1)
def Y24.f (k:Nat) (l0:List Int) (a1:Int):Option (Int):=Y24.l0 k l0 a1 0
theorem Y24.mono_l:∀ k,(∀ y0 y1 y2,LeO (Y24.l0 k y0 y1 y2) (Y24.l0 (k+1) y0 y1 y2))
 | 0=>by intros <;> exact LeO.none _
 | k+1=>by
  have ih0:=Y24.mono_l k
  ·intros
   unfold Y24.l0
   exact mO
theorem Y24.mono:∀ a0 a1 k,LeO (Y24.f k a0 a1) (Y24.f (k+1) a0 a1):=by
 intro a0 a1 k
 have ih0:=Y24.mono_l k
 unfold Y24.f
 exact mO
theorem Y24.calls (k:Nat) (A0:Option Addr) (c0:Nat) (l0:List Int) (a1:Int) (r:Int) (w:World) (hr0:Kd.C (Kd.int .i64) w A0 l0.length l0) (hc0:l0.length≤c0) (h:Y24.f k l0 a1=some r) :
  Calls Tryd.prog 29 #[.slice A0 l0.length c0,.int .i64 a1] w fun e w'=>e = .returned (.int .i64 r)∧Drawn0 w w':=by
 have HR0:=aM hr0
 have HC0:=aM hc0
 clear hr0 hc0
 have H:(Y24.l0 k l0 a1 0)=some r:=h
 clear h
 have H':=aM H
 clear H
 go_enter Tryd.func29,Tryd.ntmps29
 go_wp2
 go_loopg [1,5] k (fun kq v1 v5 w'=>∃ (x1_1:Int) (x5_1:Int),v1 = .int .i64 x1_1∧v5 = .int .i64 x5_1∧Aside0 (Y24.l0 kq l0 x1_1 x5_1=some r)∧Aside0 (kq≤k)∧Drawn0 w w')
 case atStart=>exact ⟨(a1),(0),(z0_),(z0_),H',⟨Nat.le_refl _⟩,z6_⟩
 case round =>
  clear H'
  try clear c2
  try clear p2
  obtain ⟨x1_1,x5_1,rfl,rfl,HA,HK1,⟨m1,rfl⟩⟩:=hrel
  cases gk with
  | zero=>exact absurd HA.out (by simp [Y24.l0])
  | succ k1 =>
   have H:=HA.out
   clear HA
   simp only [Y24.l0] at H
   by_cases c3:x5_1<(l0.length:Int)
   ·rw [if_pos c3] at H
    have c3b0:decide (x5_1<(l0.length:Int))=true:=dE c3
    clear c3
    by_cases c4:0≤x5_1
    ·rw [if_pos c4] at H
     have c4b0:decide (0≤x5_1)=true:=dE c4
     clear c4
     by_cases c5:(rd l0 x5_1)=x1_1
     ·rw [if_pos c5] at H
      have c5b0:((rd l0 x5_1) == x1_1)=true:=beq_iff_eq.mpr c5
      have c5b1:((rd l0 x5_1) != x1_1)=false:=bne_eq_false_iff_eq.mpr c5
      clear c5
      have H':=aM H
      clear H
      have p636:0≤(x5_1:Int):=dT (z1_)
      have q636:x5_1<(l0.length:Int):=dT (z1_)
      obtain ⟨ad636,e636,hx636_0⟩:=Kd.at_int HR0.out x5_1 p636 q636
      cases e636
      replace p636:=eq_true p636
      replace q636:=eq_true q636
      go_wp2
      go_roundg k1
      case measure=>have:=HK1.out;omega
      case rel=>exact ⟨(wrap64 (x1_1+1)),(wrap64 (x5_1+1)),(z0_),(z0_),H',⟨by have:=HK1.out;omega⟩,z6_⟩
     ·rw [if_neg c5] at H
      exact nO H
    ·rw [if_neg c4] at H
     exact nO H
   ·rw [if_neg c3] at H
    have c3b0:decide (x5_1<(l0.length:Int))=false:=dF c3
    clear c3
    obtain rfl:=sI H
    go_wp2
    go_ret
    exact ⟨z0_,z6_⟩


/-! ### Y29: function 120 -/
def Y29.l0:Nat→Int→Int→Option (Int)
 | 0,_,_=>none
 | k+1,x1,x5=>if x5<0 then (none) else (some x1)
def Y29.f (k:Nat) (a0:Int) (a1:Int):Option (Int):=Y29.l0 k a1 0
theorem Y29.mono_l:∀ k,(∀ y0 y1,LeO (Y29.l0 k y0 y1) (Y29.l0 (k+1) y0 y1))
 | 0=>by intros <;> exact LeO.none _
 | k+1=>by
  have ih0:=Y29.mono_l k
  ·intros
   unfold Y29.l0
   exact mO
theorem Y29.mono:∀ a0 a1 k,LeO (Y29.f k a0 a1) (Y29.f (k+1) a0 a1):=by
 intro a0 a1 k
 have ih0:=Y29.mono_l k
 unfold Y29.f
 exact mO
theorem Y29.calls (k:Nat) (a0:Int) (a1:Int) (r:Int) (w:World) (h:Y29.f k a0 a1=some r) :
  Calls Tryd.prog 120 #[.slice none 0 0,.int .i64 a1] w fun e w'=>e = .returned (.int .i64 r)∧Drawn0 w w':=by
 have H:(Y29.l0 k a1 0)=some r:=h
 clear h
 have H':=aM H
 clear H
 go_enter Tryd.func120,Tryd.ntmps120
 go_wp2
 go_loopg [1,5] k (fun kq v1 v5 w'=>∃ (x1_1:Int) (x5_1:Int),v1 = .int .i64 x1_1∧v5 = .int .i64 x5_1∧Aside0 (Y29.l0 kq x1_1 x5_1=some r)∧Aside0 (kq≤k)∧Drawn0 w w')
 case atStart=>exact ⟨(a1),(0),(z0_),(z0_),H',⟨Nat.le_refl _⟩,z6_⟩
 case round =>
  clear H'
  try clear c1
  try clear p2
  obtain ⟨x1_1,x5_1,rfl,rfl,HA,HK1,⟨m1,rfl⟩⟩:=hrel
  cases gk with
  | zero=>exact absurd HA.out (by simp [Y29.l0])
  | succ k1 =>
   have H:=HA.out
   clear HA
   simp only [Y29.l0] at H
   by_cases c3:x5_1<0
   ·rw [if_pos c3] at H
    exact nO H
   ·rw [if_neg c3] at H
    have c3b0:decide (x5_1<0)=false:=dF c3
    clear c3
    obtain rfl:=sI H
    go_wp2
    go_ret
    exact ⟨z0_,z6_⟩


/-! ### Y11: function 103 -/
def Y11.l0:Nat→List (S95)→Int→Int→Option (Int)
 | 0,_,_,_=>none
 | k+1,x0,x1,x5=>if x5<(x0.length:Int) then (if 0≤x5 then (if ((rd_T95 x0 x5).f0)=x1 then ((Y29.f k ((rd_T95 x0 x5).f1) (wrap64 (x1+1))).bind fun t943=>(if t943<0 then (none) else ((Y17.f k t943).bind fun t945=>(if ((rd_T95 x0 x5).f2).toList=t945.toList then (if ((rd_T95 x0 x5).f3)=(wrap64 (t943+1)) then (Y11.l0 k x0 (wrap64 ((wrap64 (t943+1))+1)) (wrap64 (x5+1))) else (none)) else (none))))) else (none)) else (none)) else (some x1)
def Y11.f (k:Nat) (l0:List (S95)) (a1:Int):Option (Int):=Y11.l0 k l0 a1 0
theorem Y11.mono_l:∀ k,(∀ y0 y1 y2,LeO (Y11.l0 k y0 y1 y2) (Y11.l0 (k+1) y0 y1 y2))
 | 0=>by intros <;> exact LeO.none _
 | k+1=>by
  have ih0:=Y11.mono_l k
  have m0:=@Y29.mono
  have m1:=@Y17.mono
  ·intros
   unfold Y11.l0
   exact mO
theorem Y11.mono:∀ a0 a1 k,LeO (Y11.f k a0 a1) (Y11.f (k+1) a0 a1):=by
 intro a0 a1 k
 have m0:=@Y29.mono
 have m1:=@Y17.mono
 have ih0:=Y11.mono_l k
 unfold Y11.f
 exact mO
def Y11.T10:Bool × List (List Nat × List Nat):=(true,[([],[]),([],[]),([0,1],[0,1]),([2],[2]),([3],[3]),([],[]),([5],[5]),([4,6],[4,6])])
def Y11.B10:List Nat:=[0,0,3,7,15,0,32,127]
theorem Y11.tab10:rtab .any (opsOf Tryd.f103 10)=Y11.T10:=by kernel_rfl
theorem Y11.bits10:waitsOk Y11.T10.2 Y11.B10=true:=by kernel_rfl
theorem Y11.calls (k:Nat) (A0:Option Addr) (c0:Nat) (l0:List (S95)) (a1:Int) (r:Int) (w:World) (hr0:Kd.C k95 w A0 l0.length l0) (hc0:l0.length≤c0) (h:Y11.f k l0 a1=some r) :
  Calls Tryd.prog 103 #[.slice A0 l0.length c0,.int .i64 a1] w fun e w'=>e = .returned (.int .i64 r)∧Below w.heap.size w w':=by
 have HR0:=aM hr0
 have HC0:=aM hc0
 clear hr0 hc0
 have HB:=aM (Below.refl w.heap.size w)
 have H:(Y11.l0 k l0 a1 0)=some r:=h
 clear h
 have H':=aM H
 clear H
 go_enter Tryd.func103,Tryd.ntmps103
 go_wp2
 go_loopg [1,5] k (fun kq v1 v5 w'=>∃ (x1_1:Int) (x5_1:Int),v1 = .int .i64 x1_1∧v5 = .int .i64 x5_1∧Aside0 (Y11.l0 kq l0 x1_1 x5_1=some r)∧Aside0 (kq≤k)∧Aside0 (Below w.heap.size w w'))
 case atStart=>exact ⟨(a1),(0),(z0_),(z0_),H',⟨Nat.le_refl _⟩,⟨z3_ HB.out⟩⟩
 case round =>
  clear H'
  try clear c1
  try clear p2
  obtain ⟨x1_1,x5_1,rfl,rfl,HA,HK1,HB⟩:=hrel
  cases gk with
  | zero=>exact absurd HA.out (by simp [Y11.l0])
  | succ k1 =>
   have H:=HA.out
   clear HA
   simp only [Y11.l0] at H
   by_cases c3:x5_1<(l0.length:Int)
   ·rw [if_pos c3] at H
    have c3b0:decide (x5_1<(l0.length:Int))=true:=dE c3
    clear c3
    by_cases c4:0≤x5_1
    ·rw [if_pos c4] at H
     have c4b0:decide (0≤x5_1)=true:=dE c4
     clear c4
     by_cases c5:((rd_T95 l0 x5_1).f0)=x1_1
     ·rw [if_pos c5] at H
      have c5b0:(((rd_T95 l0 x5_1).f0) == x1_1)=true:=beq_iff_eq.mpr c5
      have c5b1:(((rd_T95 l0 x5_1).f0) != x1_1)=false:=bne_eq_false_iff_eq.mpr c5
      clear c5
      replace H:=bS H
      obtain ⟨t943,A60,H⟩:=H
      replace H:(if t943<0 then (none) else ((Y17.f k1 t943).bind fun t945=>(if ((rd_T95 l0 x5_1).f2).toList=t945.toList then (if ((rd_T95 l0 x5_1).f3)=(wrap64 (t943+1)) then (Y11.l0 k1 l0 (wrap64 ((wrap64 (t943+1))+1)) (wrap64 (x5_1+1))) else (none)) else (none))))=some r:=H
      have A6:=aM A60
      clear A60
      by_cases c7:t943<0
      ·rw [if_pos c7] at H
       exact nO H
      ·rw [if_neg c7] at H
       have c7b0:decide (t943<0)=false:=dF c7
       clear c7
       replace H:=bS H
       obtain ⟨t945,A80,H⟩:=H
       replace H:(if ((rd_T95 l0 x5_1).f2).toList=t945.toList then (if ((rd_T95 l0 x5_1).f3)=(wrap64 (t943+1)) then (Y11.l0 k1 l0 (wrap64 ((wrap64 (t943+1))+1)) (wrap64 (x5_1+1))) else (none)) else (none))=some r:=H
       have A8:=aM A80
       clear A80
       by_cases c9:((rd_T95 l0 x5_1).f2).toList=t945.toList
       ·rw [if_pos c9] at H
        have c9b0:(((rd_T95 l0 x5_1).f2).toList == t945.toList)=true:=beq_iff_eq.mpr c9
        have c9b1:(((rd_T95 l0 x5_1).f2).toList != t945.toList)=false:=bne_eq_false_iff_eq.mpr c9
        clear c9
        by_cases c10:((rd_T95 l0 x5_1).f3)=(wrap64 (t943+1))
        ·rw [if_pos c10] at H
         have c10b0:(((rd_T95 l0 x5_1).f3) == (wrap64 (t943+1)))=true:=beq_iff_eq.mpr c10
         have c10b1:(((rd_T95 l0 x5_1).f3) != (wrap64 (t943+1)))=false:=bne_eq_false_iff_eq.mpr c10
         clear c10
         have H':=aM H
         clear H
         have p941:0≤(x5_1:Int):=dT (z1_)
         have q941:x5_1<(l0.length:Int):=dT (z1_)
         obtain ⟨ad941,e941,hx941_0,hx941_1,hx941_2,hx941_3⟩:=at_T95 HR0.out x5_1 p941 q941
         cases e941
         replace hx941_0:=(HB.out.cell (World.block_lt_of_cell? w _ hx941_0)).trans hx941_0
         replace hx941_1:=(HB.out.cell (World.block_lt_of_cell? w _ hx941_1)).trans hx941_1
         replace hx941_2:=(HB.out.cell (World.block_lt_of_cell? w _ hx941_2)).trans hx941_2
         replace hx941_3:=(HB.out.cell (World.block_lt_of_cell? w _ hx941_3)).trans hx941_3
         replace p941:=eq_true p941
         replace q941:=eq_true q941
         have p942:0≤(x5_1:Int):=dT (z1_)
         have q942:x5_1<(l0.length:Int):=dT (z1_)
         obtain ⟨ad942,e942,hx942_0,hx942_1,hx942_2,hx942_3⟩:=at_T95 HR0.out x5_1 p942 q942
         obtain rfl:ad941=ad942:=(by injection e942)
         replace hx942_0:=(HB.out.cell (World.block_lt_of_cell? w _ hx942_0)).trans hx942_0
         replace hx942_1:=(HB.out.cell (World.block_lt_of_cell? w _ hx942_1)).trans hx942_1
         replace hx942_2:=(HB.out.cell (World.block_lt_of_cell? w _ hx942_2)).trans hx942_2
         replace hx942_3:=(HB.out.cell (World.block_lt_of_cell? w _ hx942_3)).trans hx942_3
         replace p942:=eq_true p942
         replace q942:=eq_true q942
         try go_wp2_with (first | ((with_reducible refine gc_ 120 ?_);refine gl_ (some 27) Tryd.func120 #[.slice none 0 0,.int .i64 (wrap64 (x1_1+1))] ?_;(with_reducible refine (Y29.calls k1 ((rd_T95 l0 x5_1).f1) (wrap64 (x1_1+1)) t943 _ A6.out).mono ?_);rintro e w' ⟨rfl,⟨nd,rfl⟩⟩;refine ⟨_,rfl,?_⟩))
         (try (rw [drewN_self wr];generalize hq_:World.drewN wr _=wr;have n0_:Aside0 (Below w.heap.size w wr):=⟨by rw [← hq_];exact (by repeat (first | (with_reducible first | exact HB.out | apply below_alloc | apply pw_below_drewN | apply below_drew1) | exact HB.out))⟩;clear HB hq_;have HB:=n0_;clear n0_))
         have n0_:=aM (below_drew1 HB.out)
         clear HB
         have HB:=n0_
         clear n0_
         have p944:0≤(x5_1:Int):=dT (z1_)
         have q944:x5_1<(l0.length:Int):=dT (z1_)
         obtain ⟨ad944,e944,hx944_0,hx944_1,hx944_2,hx944_3⟩:=at_T95 HR0.out x5_1 p944 q944
         have hw944_3:=hx944_3
         have hw944_2:=hx944_2
         have hw944_1:=hx944_1
         have hw944_0:=hx944_0
         obtain rfl:ad941=ad944:=(by injection e944)
         replace hx944_0:=(HB.out.cell (World.block_lt_of_cell? w _ hx944_0)).trans hx944_0
         replace hx944_1:=(HB.out.cell (World.block_lt_of_cell? w _ hx944_1)).trans hx944_1
         replace hx944_2:=(HB.out.cell (World.block_lt_of_cell? w _ hx944_2)).trans hx944_2
         replace hx944_3:=(HB.out.cell (World.block_lt_of_cell? w _ hx944_3)).trans hx944_3
         replace p944:=eq_true p944
         replace q944:=eq_true q944
         refine start_ (n:=8) (S:=fun w'=>w'.cell? (ad941.add ((x5_1).toNat*4))=some (.int .i64 ((rd_T95 l0 x5_1).f0))∧w'.cell? ⟨(ad941.add ((x5_1).toNat*4)).block,(ad941.add ((x5_1).toNat*4)).off+1,none⟩=some (.slice none 0 0)∧w'.cell? ⟨(ad941.add ((x5_1).toNat*4)).block,(ad941.add ((x5_1).toNat*4)).off+2,none⟩=some (.string ((rd_T95 l0 x5_1).f2))∧w'.cell? ⟨(ad941.add ((x5_1).toNat*4)).block,(ad941.add ((x5_1).toNat*4)).off+3,none⟩=some (.int .i64 ((rd_T95 l0 x5_1).f3))) (ds:=[]) #[O,O,O,O,O,O,O,O] (by kernel_rfl) rfl rfl ⟨((HB.out.cell (World.block_lt_of_cell? w _ hw944_0)).trans hw944_0),((HB.out.cell (World.block_lt_of_cell? w _ hw944_1)).trans hw944_1),((HB.out.cell (World.block_lt_of_cell? w _ hw944_2)).trans hw944_2),((HB.out.cell (World.block_lt_of_cell? w _ hw944_3)).trans hw944_3)⟩ (fun hHeld=>?_);refine with_tabW Y11.tab10 Y11.bits10 (fun HT_ HW_=>?_)
         generalize wr.drew=w11 at HB hx944_0 hx944_1 hx944_2 hx944_3 hHeld ⊢
         refine pu_ 0 30 #[I,O,O,O,O,O,O,O] HT_.out ?_
         refine pu_ 1 31 #[I,I,O,O,O,O,O,O] HT_.out ?_
         refine pu_ 2 32 #[I,I,I,O,O,O,O,O] HT_.out ?_
         refine pu_ 3 33 #[I,I,I,I,O,O,O,O] HT_.out ?_
         refine pu_ 5 35 #[I,I,I,I,O,I,O,O] HT_.out ?_
         refine tk4_ 4 34 #[I,I,I,I,I,I,O,O] HT_.out HW_.out hHeld ?_
         refine o1_ 6 36 #[I,I,I,I,I,I,I,O] HT_.out (fun K hK=>?_)
         refine gs_ Tryd.func119 #[.int .i64 t943] ?_
         with_reducible refine (Y17.calls k1 t943 t945 _ A8.out).mono ?_
         rintro e w12 ⟨rfl,hb⟩
         refine ⟨_,rfl,?_⟩
         have n0_:=aM (below_step (z3_ HB.out) hb)
         clear HB
         have HB:=n0_
         clear n0_
         (try clear hb)
         refine hK.out _ _ ⟨((HB.out.cell (World.block_lt_of_cell? w _ hw944_0)).trans hw944_0),((HB.out.cell (World.block_lt_of_cell? w _ hw944_1)).trans hw944_1),((HB.out.cell (World.block_lt_of_cell? w _ hw944_2)).trans hw944_2),((HB.out.cell (World.block_lt_of_cell? w _ hw944_3)).trans hw944_3)⟩ (fun hHeld=>?_)
         clear hK K
         refine nm_ 36 ?_
         refine pu_ 7 37 #[I,I,I,I,I,I,I,I] HT_.out ?_
         refine done_ (done_of HT_.out (by kernel_rfl)) ?_
         have p946:0≤(x5_1:Int):=dT (z1_)
         have q946:x5_1<(l0.length:Int):=dT (z1_)
         obtain ⟨ad946,e946,hx946_0,hx946_1,hx946_2,hx946_3⟩:=at_T95 HR0.out x5_1 p946 q946
         obtain rfl:ad941=ad946:=(by injection e946)
         replace hx946_0:=(HB.out.cell (World.block_lt_of_cell? w _ hx946_0)).trans hx946_0
         replace hx946_1:=(HB.out.cell (World.block_lt_of_cell? w _ hx946_1)).trans hx946_1
         replace hx946_2:=(HB.out.cell (World.block_lt_of_cell? w _ hx946_2)).trans hx946_2
         replace hx946_3:=(HB.out.cell (World.block_lt_of_cell? w _ hx946_3)).trans hx946_3
         replace p946:=eq_true p946
         replace q946:=eq_true q946
         try go_wp2
         go_roundg k1
         case measure=>have:=HK1.out;omega
         case rel=>exact ⟨(wrap64 ((wrap64 (t943+1))+1)),(wrap64 (x5_1+1)),(z0_),(z0_),H',⟨by have:=HK1.out;omega⟩,⟨z3_ HB.out⟩⟩
        ·rw [if_neg c10] at H
         exact nO H
       ·rw [if_neg c9] at H
        exact nO H
     ·rw [if_neg c5] at H
      exact nO H
    ·rw [if_neg c4] at H
     exact nO H
   ·rw [if_neg c3] at H
    have c3b0:decide (x5_1<(l0.length:Int))=false:=dF c3
    clear c3
    obtain rfl:=sI H
    go_wp2
    go_ret
    exact ⟨z9_,z3_ HB.out⟩


/-! ### Y56: function 71 -/
def Y56.f (k:Nat) (a0_0:Int) (l0_1:List (S77)) (l0_2:List (S95)) (l0_3:List Int) (a0_4:Int) (a0_5:Int) (a0_6:Int) (a1:Int):Option (Int):=(Y58.f k a0_0 l0_1 a1).bind fun t948=>(if t948<0 then (none) else ((Y11.f k l0_2 t948).bind fun t949=>(if t949<0 then (none) else ((Y24.f k l0_3 t949).bind fun t950=>(if t950<0 then (none) else (some t950))))))
theorem Y56.mono:∀ a0 a1 a2 a3 a4 a5 a6 a7 k,LeO (Y56.f k a0 a1 a2 a3 a4 a5 a6 a7) (Y56.f (k+1) a0 a1 a2 a3 a4 a5 a6 a7):=by
 intro a0 a1 a2 a3 a4 a5 a6 a7 k
 have m0:=@Y24.mono
 have m1:=@Y58.mono
 have m2:=@Y11.mono
 unfold Y56.f
 exact mO
theorem Y56.calls (k:Nat) (a0_0:Int) (A0_1:Option Addr) (c0_1:Nat) (l0_1:List (S77)) (A0_2:Option Addr) (c0_2:Nat) (l0_2:List (S95)) (A0_3:Option Addr) (c0_3:Nat) (l0_3:List Int) (a0_4:Int) (a0_5:Int) (a0_6:Int) (a1:Int) (r:Int) (w:World) (hr0_1:Kd.C k77 w A0_1 l0_1.length l0_1) (hc0_1:l0_1.length≤c0_1) (hr0_2:Kd.C k95 w A0_2 l0_2.length l0_2) (hc0_2:l0_2.length≤c0_2) (hr0_3:Kd.C (Kd.int .i64) w A0_3 l0_3.length l0_3) (hc0_3:l0_3.length≤c0_3) (h:Y56.f k a0_0 l0_1 l0_2 l0_3 a0_4 a0_5 a0_6 a1=some r) :
  Calls Tryd.prog 71 #[.agg #[.int .i64 a0_0,.slice A0_1 l0_1.length c0_1,.slice A0_2 l0_2.length c0_2,.slice A0_3 l0_3.length c0_3,.int .i64 a0_4,.int .i64 a0_5,.int .i64 a0_6],.int .i64 a1] w fun e w'=>e = .returned (.int .i64 r)∧Below w.heap.size w w':=by
 have hu56:=Tryd.underlying56
 have hu24:=Tryd.underlying24
 have HR0_1:=aM hr0_1
 have HC0_1:=aM hc0_1
 clear hr0_1 hc0_1
 have HR0_2:=aM hr0_2
 have HC0_2:=aM hc0_2
 clear hr0_2 hc0_2
 have HR0_3:=aM hr0_3
 have HC0_3:=aM hc0_3
 clear hr0_3 hc0_3
 have HB:=aM (Below.refl w.heap.size w)
 have H:((Y58.f k a0_0 l0_1 a1).bind fun t948=>(if t948<0 then (none) else ((Y11.f k l0_2 t948).bind fun t949=>(if t949<0 then (none) else ((Y24.f k l0_3 t949).bind fun t950=>(if t950<0 then (none) else (some t950)))))))=some r:=h
 clear h
 replace H:=bS H
 obtain ⟨t948,A30,H⟩:=H
 replace H:(if t948<0 then (none) else ((Y11.f k l0_2 t948).bind fun t949=>(if t949<0 then (none) else ((Y24.f k l0_3 t949).bind fun t950=>(if t950<0 then (none) else (some t950))))))=some r:=H
 have A3:=aM A30
 clear A30
 by_cases c4:t948<0
 ·rw [if_pos c4] at H
  exact nO H
 ·rw [if_neg c4] at H
  have c4b0:decide (t948<0)=false:=dF c4
  clear c4
  replace H:=bS H
  obtain ⟨t949,A50,H⟩:=H
  replace H:(if t949<0 then (none) else ((Y24.f k l0_3 t949).bind fun t950=>(if t950<0 then (none) else (some t950))))=some r:=H
  have A5:=aM A50
  clear A50
  by_cases c6:t949<0
  ·rw [if_pos c6] at H
   exact nO H
  ·rw [if_neg c6] at H
   have c6b0:decide (t949<0)=false:=dF c6
   clear c6
   replace H:=bS H
   obtain ⟨t950,A70,H⟩:=H
   replace H:(if t950<0 then (none) else (some t950))=some r:=H
   have A7:=aM A70
   clear A70
   by_cases c8:t950<0
   ·rw [if_pos c8] at H
    exact nO H
   ·rw [if_neg c8] at H
    have c8b0:decide (t950<0)=false:=dF c8
    clear c8
    obtain rfl:=sI H
    go_enter Tryd.func71,Tryd.ntmps71
    go_wp2_with (first | ((with_reducible refine gd_ 2 ?_);refine be_ 2 #[.int .i64 a0_0,.slice A0_1 l0_1.length c0_1,.slice A0_2 l0_2.length c0_2,.slice A0_3 l0_3.length c0_3,.int .i64 a0_4,.int .i64 a0_5,.int .i64 a0_6] 56 ?_;intro gb947 hg w9 hbox hb;have n0_:=aM (below_step (z3_ HB.out) hb);have n1_:=aM (hbox);have n2_:=aM ((z10_ HB.out:w.heap.size≤gb947));have n3_:=aM ((z10_ HB.out:w.heap.size≤gb947));clear HB;have HB:=n0_;have BK947:=n1_;have GW947:=n2_;have GE947:=n3_;clear n0_ n1_ n2_ n3_;clear hb hbox hg;have ⟨hcz10_0,hcz10_1,hcz10_2,hcz10_3,hcz10_4,hcz10_5,hcz10_6,hfz10_0,hfz10_1,hfz10_2,hfz10_3,hfz10_4,hfz10_5,hfz10_6⟩:=cz7_ BK947.out) | ((with_reducible refine gc_ 44 ?_);refine gl_ (some 8) Tryd.func44 #[.agg #[.int .i64 a0_0,.slice A0_1 l0_1.length c0_1],.int .i64 a1] ?_;(with_reducible refine (Y58.calls k a0_0 _ _ l0_1 a1 t948 _ ?s1 ?s2 A3.out).mono ?_);(case s1=>repeat (first | exact (Kd.C_below HR0_1.out HB.out) | (with_reducible refine Kd.C_alloc ?_ _) | (with_reducible refine Kd.C_drewN ?_ _) | (with_reducible refine Kd.C_drew ?_)));(case s2=>exact HC0_1.out);rintro e w11 ⟨rfl,hb⟩;refine ⟨_,rfl,?_⟩;have n0_:=aM (blkB_ BK947.out hb);have n1_:=aM (below_step (z8_ HB.out GE947.out) hb);clear BK947;clear HB;have BK947:=n0_;have HB:=n1_;clear n0_ n1_;(try clear hb);have ⟨hcz12_0,hcz12_1,hcz12_2,hcz12_3,hcz12_4,hcz12_5,hcz12_6,hfz12_0,hfz12_1,hfz12_2,hfz12_3,hfz12_4,hfz12_5,hfz12_6⟩:=cz7_ BK947.out) | ((with_reducible refine gc_ 103 ?_);refine gl_ (some 14) Tryd.func103 #[.slice A0_2 l0_2.length c0_2,.int .i64 t948] ?_;(with_reducible refine (Y11.calls k _ _ l0_2 t948 t949 _ ?s1 ?s2 A5.out).mono ?_);(case s1=>repeat (first | exact (Kd.C_below HR0_2.out HB.out) | (with_reducible refine Kd.C_alloc ?_ _) | (with_reducible refine Kd.C_drewN ?_ _) | (with_reducible refine Kd.C_drew ?_)));(case s2=>exact HC0_2.out);rintro e w13 ⟨rfl,hb⟩;refine ⟨_,rfl,?_⟩;have n0_:=aM (blkB_ BK947.out hb);have n1_:=aM (below_step (z8_ HB.out GE947.out) hb);clear BK947;clear HB;have BK947:=n0_;have HB:=n1_;clear n0_ n1_;(try clear hb);have ⟨hcz14_0,hcz14_1,hcz14_2,hcz14_3,hcz14_4,hcz14_5,hcz14_6,hfz14_0,hfz14_1,hfz14_2,hfz14_3,hfz14_4,hfz14_5,hfz14_6⟩:=cz7_ BK947.out) | ((with_reducible refine gc_ 29 ?_);refine gl_ (some 20) Tryd.func29 #[.slice A0_3 l0_3.length c0_3,.int .i64 t949] ?_;(with_reducible refine (Y24.calls k _ _ l0_3 t949 t950 _ ?s1 ?s2 A7.out).mono ?_);(case s1=>repeat (first | exact (Kd.C_below HR0_3.out HB.out) | (with_reducible refine Kd.C_alloc ?_ _) | (with_reducible refine Kd.C_drewN ?_ _) | (with_reducible refine Kd.C_drew ?_)));(case s2=>exact HC0_3.out);rintro e w' ⟨rfl,⟨nd,rfl⟩⟩;refine ⟨_,rfl,?_⟩))
    go_ret
    exact ⟨z9_,z8_ HB.out GE947.out⟩


/-! ### Y34: function 104 -/
def Y34.l0:Nat→Int→Int→Option (Int)
 | 0,_,_=>none
 | k+1,x1,x5=>if x5<0 then (none) else (some x1)
def Y34.f (k:Nat) (a0:Int) (a1:Int):Option (Int):=Y34.l0 k a1 0
theorem Y34.mono_l:∀ k,(∀ y0 y1,LeO (Y34.l0 k y0 y1) (Y34.l0 (k+1) y0 y1))
 | 0=>by intros <;> exact LeO.none _
 | k+1=>by
  have ih0:=Y34.mono_l k
  ·intros
   unfold Y34.l0
   exact mO
theorem Y34.mono:∀ a0 a1 k,LeO (Y34.f k a0 a1) (Y34.f (k+1) a0 a1):=by
 intro a0 a1 k
 have ih0:=Y34.mono_l k
 unfold Y34.f
 exact mO
theorem Y34.calls (k:Nat) (a0:Int) (a1:Int) (r:Int) (w:World) (h:Y34.f k a0 a1=some r) :
  Calls Tryd.prog 104 #[.slice none 0 0,.int .i64 a1] w fun e w'=>e = .returned (.int .i64 r)∧Drawn0 w w':=by
 have H:(Y34.l0 k a1 0)=some r:=h
 clear h
 have H':=aM H
 clear H
 go_enter Tryd.func104,Tryd.ntmps104
 go_wp2
 go_loopg [1,5] k (fun kq v1 v5 w'=>∃ (x1_1:Int) (x5_1:Int),v1 = .int .i64 x1_1∧v5 = .int .i64 x5_1∧Aside0 (Y34.l0 kq x1_1 x5_1=some r)∧Aside0 (kq≤k)∧Drawn0 w w')
 case atStart=>exact ⟨(a1),(0),(z0_),(z0_),H',⟨Nat.le_refl _⟩,z6_⟩
 case round =>
  clear H'
  try clear c1
  try clear p2
  obtain ⟨x1_1,x5_1,rfl,rfl,HA,HK1,⟨m1,rfl⟩⟩:=hrel
  cases gk with
  | zero=>exact absurd HA.out (by simp [Y34.l0])
  | succ k1 =>
   have H:=HA.out
   clear HA
   simp only [Y34.l0] at H
   by_cases c3:x5_1<0
   ·rw [if_pos c3] at H
    exact nO H
   ·rw [if_neg c3] at H
    have c3b0:decide (x5_1<0)=false:=dF c3
    clear c3
    obtain rfl:=sI H
    go_wp2
    go_ret
    exact ⟨z0_,z6_⟩


/-! ### Y38: function 105 -/
def Y38.l0:Nat→Int→Int→Option (Int)
 | 0,_,_=>none
 | k+1,x1,x5=>if x5<0 then (none) else (some x1)
def Y38.f (k:Nat) (a0:Int) (a1:Int):Option (Int):=Y38.l0 k a1 0
theorem Y38.mono_l:∀ k,(∀ y0 y1,LeO (Y38.l0 k y0 y1) (Y38.l0 (k+1) y0 y1))
 | 0=>by intros <;> exact LeO.none _
 | k+1=>by
  have ih0:=Y38.mono_l k
  ·intros
   unfold Y38.l0
   exact mO
theorem Y38.mono:∀ a0 a1 k,LeO (Y38.f k a0 a1) (Y38.f (k+1) a0 a1):=by
 intro a0 a1 k
 have ih0:=Y38.mono_l k
 unfold Y38.f
 exact mO
theorem Y38.calls (k:Nat) (a0:Int) (a1:Int) (r:Int) (w:World) (h:Y38.f k a0 a1=some r) :
  Calls Tryd.prog 105 #[.slice none 0 0,.int .i64 a1] w fun e w'=>e = .returned (.int .i64 r)∧Drawn0 w w':=by
 have H:(Y38.l0 k a1 0)=some r:=h
 clear h
 have H':=aM H
 clear H
 go_enter Tryd.func105,Tryd.ntmps105
 go_wp2
 go_loopg [1,5] k (fun kq v1 v5 w'=>∃ (x1_1:Int) (x5_1:Int),v1 = .int .i64 x1_1∧v5 = .int .i64 x5_1∧Aside0 (Y38.l0 kq x1_1 x5_1=some r)∧Aside0 (kq≤k)∧Drawn0 w w')
 case atStart=>exact ⟨(a1),(0),(z0_),(z0_),H',⟨Nat.le_refl _⟩,z6_⟩
 case round =>
  clear H'
  try clear c1
  try clear p2
  obtain ⟨x1_1,x5_1,rfl,rfl,HA,HK1,⟨m1,rfl⟩⟩:=hrel
  cases gk with
  | zero=>exact absurd HA.out (by simp [Y38.l0])
  | succ k1 =>
   have H:=HA.out
   clear HA
   simp only [Y38.l0] at H
   by_cases c3:x5_1<0
   ·rw [if_pos c3] at H
    exact nO H
   ·rw [if_neg c3] at H
    have c3b0:decide (x5_1<0)=false:=dF c3
    clear c3
    obtain rfl:=sI H
    go_wp2
    go_ret
    exact ⟨z0_,z6_⟩


/-! ### Y67: function 72 -/
def Y67.f (k:Nat) (a0_0:Int) (a0_1:Int) (a1:Int):Option (Int):=(Y34.f k a0_0 a1).bind fun t952=>(if t952<0 then (none) else ((Y38.f k a0_1 t952).bind fun t953=>(if t953<0 then (none) else (some t953))))
theorem Y67.mono:∀ a0 a1 a2 k,LeO (Y67.f k a0 a1 a2) (Y67.f (k+1) a0 a1 a2):=by
 intro a0 a1 a2 k
 have m0:=@Y34.mono
 have m1:=@Y38.mono
 unfold Y67.f
 exact mO
theorem Y67.calls (k:Nat) (a0_0:Int) (a0_1:Int) (a1:Int) (r:Int) (w:World) (h:Y67.f k a0_0 a0_1 a1=some r) :
  Calls Tryd.prog 72 #[.agg #[.slice none 0 0,.slice none 0 0],.int .i64 a1] w fun e w'=>e = .returned (.int .i64 r)∧Below w.heap.size w w':=by
 have hu60:=Tryd.underlying60
 have HB:=aM (Below.refl w.heap.size w)
 have H:((Y34.f k a0_0 a1).bind fun t952=>(if t952<0 then (none) else ((Y38.f k a0_1 t952).bind fun t953=>(if t953<0 then (none) else (some t953)))))=some r:=h
 clear h
 replace H:=bS H
 obtain ⟨t952,A30,H⟩:=H
 replace H:(if t952<0 then (none) else ((Y38.f k a0_1 t952).bind fun t953=>(if t953<0 then (none) else (some t953))))=some r:=H
 have A3:=aM A30
 clear A30
 by_cases c4:t952<0
 ·rw [if_pos c4] at H
  exact nO H
 ·rw [if_neg c4] at H
  have c4b0:decide (t952<0)=false:=dF c4
  clear c4
  replace H:=bS H
  obtain ⟨t953,A50,H⟩:=H
  replace H:(if t953<0 then (none) else (some t953))=some r:=H
  have A5:=aM A50
  clear A50
  by_cases c6:t953<0
  ·rw [if_pos c6] at H
   exact nO H
  ·rw [if_neg c6] at H
   have c6b0:decide (t953<0)=false:=dF c6
   clear c6
   obtain rfl:=sI H
   go_enter Tryd.func72,Tryd.ntmps72
   go_wp2_with (first | ((with_reducible refine gd_ 2 ?_);refine be_ 2 #[.slice none 0 0,.slice none 0 0] 60 ?_;intro gb951 hg w7 hbox hb;have n0_:=aM (below_step (z3_ HB.out) hb);have n1_:=aM (hbox);have n2_:=aM ((z10_ HB.out:w.heap.size≤gb951));have n3_:=aM ((z10_ HB.out:w.heap.size≤gb951));clear HB;have HB:=n0_;have BK951:=n1_;have GW951:=n2_;have GE951:=n3_;clear n0_ n1_ n2_ n3_;clear hb hbox hg;have ⟨hcz8_0,hcz8_1,hfz8_0,hfz8_1⟩:=cz2_ BK951.out) | ((with_reducible refine gc_ 104 ?_);refine gl_ (some 8) Tryd.func104 #[.slice none 0 0,.int .i64 a1] ?_;(with_reducible refine (Y34.calls k a0_0 a1 t952 _ A3.out).mono ?_);rintro e w' ⟨rfl,⟨nd,rfl⟩⟩;refine ⟨_,rfl,?_⟩) | ((with_reducible refine gc_ 105 ?_);refine gl_ (some 14) Tryd.func105 #[.slice none 0 0,.int .i64 t952] ?_;(with_reducible refine (Y38.calls k a0_1 t952 t953 _ A5.out).mono ?_);rintro e w' ⟨rfl,⟨nd,rfl⟩⟩;refine ⟨_,rfl,?_⟩))
   go_ret
   exact ⟨z9_,z8_ HB.out GE951.out⟩


/-! ### Y15: function 37 -/
def Y15.f (k:Nat) (a0_0:Int) (l0_1:List (S77)) (l0_2:List (S95)) (l0_3:List Int) (a0_4:Int) (a0_5:Int) (a0_6:Int) (a0_7:Int) (a0_8:Int) (a0_9:Int) (a1:Int):Option (Int):=(Y56.f k a0_0 l0_1 l0_2 l0_3 a0_4 a0_5 a0_6 a1).bind fun t955=>(if t955<0 then (none) else ((Y67.f k a0_7 a0_8 t955).bind fun t956=>(if t956<0 then (none) else (some t956))))
theorem Y15.mono:∀ a0 a1 a2 a3 a4 a5 a6 a7 a8 a9 a10 k,LeO (Y15.f k a0 a1 a2 a3 a4 a5 a6 a7 a8 a9 a10) (Y15.f (k+1) a0 a1 a2 a3 a4 a5 a6 a7 a8 a9 a10):=by
 intro a0 a1 a2 a3 a4 a5 a6 a7 a8 a9 a10 k
 have m0:=@Y56.mono
 have m1:=@Y67.mono
 unfold Y15.f
 exact mO
theorem Y15.calls (k:Nat) (a0_0:Int) (A0_1:Option Addr) (c0_1:Nat) (l0_1:List (S77)) (A0_2:Option Addr) (c0_2:Nat) (l0_2:List (S95)) (A0_3:Option Addr) (c0_3:Nat) (l0_3:List Int) (a0_4:Int) (a0_5:Int) (a0_6:Int) (a0_7:Int) (a0_8:Int) (a0_9:Int) (a1:Int) (r:Int) (w:World) (hr0_1:Kd.C k77 w A0_1 l0_1.length l0_1) (hc0_1:l0_1.length≤c0_1) (hr0_2:Kd.C k95 w A0_2 l0_2.length l0_2) (hc0_2:l0_2.length≤c0_2) (hr0_3:Kd.C (Kd.int .i64) w A0_3 l0_3.length l0_3) (hc0_3:l0_3.length≤c0_3) (h:Y15.f k a0_0 l0_1 l0_2 l0_3 a0_4 a0_5 a0_6 a0_7 a0_8 a0_9 a1=some r) :
  Calls Tryd.prog 37 #[.agg #[.int .i64 a0_0,.slice A0_1 l0_1.length c0_1,.slice A0_2 l0_2.length c0_2,.slice A0_3 l0_3.length c0_3,.int .i64 a0_4,.int .i64 a0_5,.int .i64 a0_6,.slice none 0 0,.slice none 0 0,.int .i64 a0_9],.int .i64 a1] w fun e w'=>e = .returned (.int .i64 r)∧Below w.heap.size w w':=by
 have hu62:=Tryd.underlying62
 have hu56:=Tryd.underlying56
 have hu60:=Tryd.underlying60
 have HR0_1:=aM hr0_1
 have HC0_1:=aM hc0_1
 clear hr0_1 hc0_1
 have HR0_2:=aM hr0_2
 have HC0_2:=aM hc0_2
 clear hr0_2 hc0_2
 have HR0_3:=aM hr0_3
 have HC0_3:=aM hc0_3
 clear hr0_3 hc0_3
 have HB:=aM (Below.refl w.heap.size w)
 have H:((Y56.f k a0_0 l0_1 l0_2 l0_3 a0_4 a0_5 a0_6 a1).bind fun t955=>(if t955<0 then (none) else ((Y67.f k a0_7 a0_8 t955).bind fun t956=>(if t956<0 then (none) else (some t956)))))=some r:=h
 clear h
 replace H:=bS H
 obtain ⟨t955,A30,H⟩:=H
 replace H:(if t955<0 then (none) else ((Y67.f k a0_7 a0_8 t955).bind fun t956=>(if t956<0 then (none) else (some t956))))=some r:=H
 have A3:=aM A30
 clear A30
 by_cases c4:t955<0
 ·rw [if_pos c4] at H
  exact nO H
 ·rw [if_neg c4] at H
  have c4b0:decide (t955<0)=false:=dF c4
  clear c4
  replace H:=bS H
  obtain ⟨t956,A50,H⟩:=H
  replace H:(if t956<0 then (none) else (some t956))=some r:=H
  have A5:=aM A50
  clear A50
  by_cases c6:t956<0
  ·rw [if_pos c6] at H
   exact nO H
  ·rw [if_neg c6] at H
   have c6b0:decide (t956<0)=false:=dF c6
   clear c6
   obtain rfl:=sI H
   go_enter Tryd.func37,Tryd.ntmps37
   go_wp2_with (first | ((with_reducible refine gd_ 2 ?_);refine be_ 2 #[.int .i64 a0_0,.slice A0_1 l0_1.length c0_1,.slice A0_2 l0_2.length c0_2,.slice A0_3 l0_3.length c0_3,.int .i64 a0_4,.int .i64 a0_5,.int .i64 a0_6,.slice none 0 0,.slice none 0 0,.int .i64 a0_9] 62 ?_;intro gb954 hg w7 hbox hb;have n0_:=aM (below_step (z3_ HB.out) hb);have n1_:=aM (hbox);have n2_:=aM ((z10_ HB.out:w.heap.size≤gb954));have n3_:=aM ((z10_ HB.out:w.heap.size≤gb954));clear HB;have HB:=n0_;have BK954:=n1_;have GW954:=n2_;have GE954:=n3_;clear n0_ n1_ n2_ n3_;clear hb hbox hg;have ⟨hcz8_0,hcz8_1,hcz8_2,hcz8_3,hcz8_4,hcz8_5,hcz8_6,hcz8_7,hcz8_8,hcz8_9,hfz8_0,hfz8_1,hfz8_2,hfz8_3,hfz8_4,hfz8_5,hfz8_6,hfz8_7,hfz8_8,hfz8_9⟩:=cz10_ BK954.out) | ((with_reducible refine gc_ 71 ?_);refine gl_ (some 8) Tryd.func71 #[.agg #[.int .i64 a0_0,.slice A0_1 l0_1.length c0_1,.slice A0_2 l0_2.length c0_2,.slice A0_3 l0_3.length c0_3,.int .i64 a0_4,.int .i64 a0_5,.int .i64 a0_6],.int .i64 a1] ?_;(with_reducible refine (Y56.calls k a0_0 _ _ l0_1 _ _ l0_2 _ _ l0_3 a0_4 a0_5 a0_6 a1 t955 _ ?s1 ?s2 ?s3 ?s4 ?s5 ?s6 A3.out).mono ?_);(case s1=>repeat (first | exact (Kd.C_below HR0_1.out HB.out) | (with_reducible refine Kd.C_alloc ?_ _) | (with_reducible refine Kd.C_drewN ?_ _) | (with_reducible refine Kd.C_drew ?_)));(case s2=>exact HC0_1.out);(case s3=>repeat (first | exact (Kd.C_below HR0_2.out HB.out) | (with_reducible refine Kd.C_alloc ?_ _) | (with_reducible refine Kd.C_drewN ?_ _) | (with_reducible refine Kd.C_drew ?_)));(case s4=>exact HC0_2.out);(case s5=>repeat (first | exact (Kd.C_below HR0_3.out HB.out) | (with_reducible refine Kd.C_alloc ?_ _) | (with_reducible refine Kd.C_drewN ?_ _) | (with_reducible refine Kd.C_drew ?_)));(case s6=>exact HC0_3.out);rintro e w9 ⟨rfl,hb⟩;refine ⟨_,rfl,?_⟩;have n0_:=aM (blkB_ BK954.out hb);have n1_:=aM (below_step (z8_ HB.out GE954.out) hb);clear BK954;clear HB;have BK954:=n0_;have HB:=n1_;clear n0_ n1_;(try clear hb);have ⟨hcz10_0,hcz10_1,hcz10_2,hcz10_3,hcz10_4,hcz10_5,hcz10_6,hcz10_7,hcz10_8,hcz10_9,hfz10_0,hfz10_1,hfz10_2,hfz10_3,hfz10_4,hfz10_5,hfz10_6,hfz10_7,hfz10_8,hfz10_9⟩:=cz10_ BK954.out) | ((with_reducible refine gc_ 72 ?_);refine gl_ (some 14) Tryd.func72 #[.agg #[.slice none 0 0,.slice none 0 0],.int .i64 t955] ?_;(with_reducible refine (Y67.calls k a0_7 a0_8 t955 t956 _ A5.out).mono ?_);rintro e w11 ⟨rfl,hb⟩;refine ⟨_,rfl,?_⟩;have n0_:=aM (blkB_ BK954.out hb);have n1_:=aM (below_step (z8_ HB.out GE954.out) hb);clear BK954;clear HB;have BK954:=n0_;have HB:=n1_;clear n0_ n1_;(try clear hb)))
   go_ret
   exact ⟨z9_,z8_ HB.out GE954.out⟩


/-! ### Y50: function 7 -/
def Y50.f (k:Nat) (a0:Int) (a1:Int) (a2:Int) (a3:Int):Option (Bool):=(Y8.f k a0 a1 a2 a3).bind fun bt957=>((Y6.f k a0 a1 a2 a3).bind fun bt974=>((Y27.f k bt974.1 bt974.2.1 bt974.2.2.1 bt974.2.2.2.1 bt974.2.2.2.2.1 bt974.2.2.2.2.2.1 bt974.2.2.2.2.2.2.1 bt974.2.2.2.2.2.2.2.1 bt974.2.2.2.2.2.2.2.2.1 bt974.2.2.2.2.2.2.2.2.2 bt957.1 bt957.2.1 bt957.2.2.1 bt957.2.2.2.1 bt957.2.2.2.2.1 bt957.2.2.2.2.2.1 bt957.2.2.2.2.2.2.1 bt957.2.2.2.2.2.2.2.1 bt957.2.2.2.2.2.2.2.2.1 bt957.2.2.2.2.2.2.2.2.2).bind fun t991=>(if t991=true then ((Y44.f k bt974.1 bt974.2.1 bt974.2.2.1 bt974.2.2.2.1 bt974.2.2.2.2.1 bt974.2.2.2.2.2.1 bt974.2.2.2.2.2.2.1 bt974.2.2.2.2.2.2.2.1 bt974.2.2.2.2.2.2.2.2.1 bt974.2.2.2.2.2.2.2.2.2 1).bind fun bt992=>((Y15.f k bt974.1 bt992.2.1 bt992.2.2.1 bt992.2.2.2 bt974.2.2.2.2.1 bt974.2.2.2.2.2.1 bt974.2.2.2.2.2.2.1 bt974.2.2.2.2.2.2.2.1 bt974.2.2.2.2.2.2.2.2.1 bt974.2.2.2.2.2.2.2.2.2 1).bind fun t996=>(if t996<0 then (none) else (if t996=bt992.1 then ((Y6.f k a0 a1 a2 a3).bind fun bt997=>((Y27.f k bt997.1 bt997.2.1 bt997.2.2.1 bt997.2.2.2.1 bt997.2.2.2.2.1 bt997.2.2.2.2.2.1 bt997.2.2.2.2.2.2.1 bt997.2.2.2.2.2.2.2.1 bt997.2.2.2.2.2.2.2.2.1 bt997.2.2.2.2.2.2.2.2.2 bt957.1 bt957.2.1 bt957.2.2.1 bt957.2.2.2.1 bt957.2.2.2.2.1 bt957.2.2.2.2.2.1 bt957.2.2.2.2.2.2.1 bt957.2.2.2.2.2.2.2.1 bt957.2.2.2.2.2.2.2.2.1 bt957.2.2.2.2.2.2.2.2.2).bind fun t1014=>(if t1014=true then ((Y15.f k bt974.1 bt992.2.1 bt992.2.2.1 bt992.2.2.2 bt974.2.2.2.2.1 bt974.2.2.2.2.2.1 bt974.2.2.2.2.2.2.1 bt974.2.2.2.2.2.2.2.1 bt974.2.2.2.2.2.2.2.2.1 bt974.2.2.2.2.2.2.2.2.2 1).bind fun t1015=>(if t1015<0 then (none) else (if t1015=bt992.1 then (some true) else (none)))) else (none)))) else (none))))) else (none))))
theorem Y50.mono:∀ a0 a1 a2 a3 k,LeO (Y50.f k a0 a1 a2 a3) (Y50.f (k+1) a0 a1 a2 a3):=by
 intro a0 a1 a2 a3 k
 have m0:=@Y6.mono
 have m1:=@Y27.mono
 have m2:=@Y15.mono
 have m3:=@Y44.mono
 have m4:=@Y8.mono
 unfold Y50.f
 exact mO
theorem Y50.calls (k:Nat) (a0:Int) (a1:Int) (a2:Int) (a3:Int) (r:Bool) (w:World) (h:Y50.f k a0 a1 a2 a3=some r) :
  Calls Tryd.prog 7 #[.int .i64 a0,.int .i64 a1,.int .i64 a2,.int .i64 a3] w fun e w'=>e = .returned (.bool r)∧Below w.heap.size w w':=by
 have hu62:=Tryd.underlying62
 have HB:=aM (Below.refl w.heap.size w)
 have H:((Y8.f k a0 a1 a2 a3).bind fun bt957=>((Y6.f k a0 a1 a2 a3).bind fun bt974=>((Y27.f k bt974.1 bt974.2.1 bt974.2.2.1 bt974.2.2.2.1 bt974.2.2.2.2.1 bt974.2.2.2.2.2.1 bt974.2.2.2.2.2.2.1 bt974.2.2.2.2.2.2.2.1 bt974.2.2.2.2.2.2.2.2.1 bt974.2.2.2.2.2.2.2.2.2 bt957.1 bt957.2.1 bt957.2.2.1 bt957.2.2.2.1 bt957.2.2.2.2.1 bt957.2.2.2.2.2.1 bt957.2.2.2.2.2.2.1 bt957.2.2.2.2.2.2.2.1 bt957.2.2.2.2.2.2.2.2.1 bt957.2.2.2.2.2.2.2.2.2).bind fun t991=>(if t991=true then ((Y44.f k bt974.1 bt974.2.1 bt974.2.2.1 bt974.2.2.2.1 bt974.2.2.2.2.1 bt974.2.2.2.2.2.1 bt974.2.2.2.2.2.2.1 bt974.2.2.2.2.2.2.2.1 bt974.2.2.2.2.2.2.2.2.1 bt974.2.2.2.2.2.2.2.2.2 1).bind fun bt992=>((Y15.f k bt974.1 bt992.2.1 bt992.2.2.1 bt992.2.2.2 bt974.2.2.2.2.1 bt974.2.2.2.2.2.1 bt974.2.2.2.2.2.2.1 bt974.2.2.2.2.2.2.2.1 bt974.2.2.2.2.2.2.2.2.1 bt974.2.2.2.2.2.2.2.2.2 1).bind fun t996=>(if t996<0 then (none) else (if t996=bt992.1 then ((Y6.f k a0 a1 a2 a3).bind fun bt997=>((Y27.f k bt997.1 bt997.2.1 bt997.2.2.1 bt997.2.2.2.1 bt997.2.2.2.2.1 bt997.2.2.2.2.2.1 bt997.2.2.2.2.2.2.1 bt997.2.2.2.2.2.2.2.1 bt997.2.2.2.2.2.2.2.2.1 bt997.2.2.2.2.2.2.2.2.2 bt957.1 bt957.2.1 bt957.2.2.1 bt957.2.2.2.1 bt957.2.2.2.2.1 bt957.2.2.2.2.2.1 bt957.2.2.2.2.2.2.1 bt957.2.2.2.2.2.2.2.1 bt957.2.2.2.2.2.2.2.2.1 bt957.2.2.2.2.2.2.2.2.2).bind fun t1014=>(if t1014=true then ((Y15.f k bt974.1 bt992.2.1 bt992.2.2.1 bt992.2.2.2 bt974.2.2.2.2.1 bt974.2.2.2.2.2.1 bt974.2.2.2.2.2.2.1 bt974.2.2.2.2.2.2.2.1 bt974.2.2.2.2.2.2.2.2.1 bt974.2.2.2.2.2.2.2.2.2 1).bind fun t1015=>(if t1015<0 then (none) else (if t1015=bt992.1 then (some true) else (none)))) else (none)))) else (none))))) else (none)))))=some r:=h
 clear h
 replace H:=bS H
 obtain ⟨⟨t957,t958,t961,t964,t967,t968,t969,t970,t971,t972⟩,A50,H⟩:=H
 replace H:((Y6.f k a0 a1 a2 a3).bind fun bt974=>((Y27.f k bt974.1 bt974.2.1 bt974.2.2.1 bt974.2.2.2.1 bt974.2.2.2.2.1 bt974.2.2.2.2.2.1 bt974.2.2.2.2.2.2.1 bt974.2.2.2.2.2.2.2.1 bt974.2.2.2.2.2.2.2.2.1 bt974.2.2.2.2.2.2.2.2.2 t957 t958 t961 t964 t967 t968 t969 t970 t971 t972).bind fun t991=>(if t991=true then ((Y44.f k bt974.1 bt974.2.1 bt974.2.2.1 bt974.2.2.2.1 bt974.2.2.2.2.1 bt974.2.2.2.2.2.1 bt974.2.2.2.2.2.2.1 bt974.2.2.2.2.2.2.2.1 bt974.2.2.2.2.2.2.2.2.1 bt974.2.2.2.2.2.2.2.2.2 1).bind fun bt992=>((Y15.f k bt974.1 bt992.2.1 bt992.2.2.1 bt992.2.2.2 bt974.2.2.2.2.1 bt974.2.2.2.2.2.1 bt974.2.2.2.2.2.2.1 bt974.2.2.2.2.2.2.2.1 bt974.2.2.2.2.2.2.2.2.1 bt974.2.2.2.2.2.2.2.2.2 1).bind fun t996=>(if t996<0 then (none) else (if t996=bt992.1 then ((Y6.f k a0 a1 a2 a3).bind fun bt997=>((Y27.f k bt997.1 bt997.2.1 bt997.2.2.1 bt997.2.2.2.1 bt997.2.2.2.2.1 bt997.2.2.2.2.2.1 bt997.2.2.2.2.2.2.1 bt997.2.2.2.2.2.2.2.1 bt997.2.2.2.2.2.2.2.2.1 bt997.2.2.2.2.2.2.2.2.2 t957 t958 t961 t964 t967 t968 t969 t970 t971 t972).bind fun t1014=>(if t1014=true then ((Y15.f k bt974.1 bt992.2.1 bt992.2.2.1 bt992.2.2.2 bt974.2.2.2.2.1 bt974.2.2.2.2.2.1 bt974.2.2.2.2.2.2.1 bt974.2.2.2.2.2.2.2.1 bt974.2.2.2.2.2.2.2.2.1 bt974.2.2.2.2.2.2.2.2.2 1).bind fun t1015=>(if t1015<0 then (none) else (if t1015=bt992.1 then (some true) else (none)))) else (none)))) else (none))))) else (none))))=some r:=H
 have A5:=aM A50
 clear A50
 replace H:=bS H
 obtain ⟨⟨t974,t975,t978,t981,t984,t985,t986,t987,t988,t989⟩,A60,H⟩:=H
 replace H:((Y27.f k t974 t975 t978 t981 t984 t985 t986 t987 t988 t989 t957 t958 t961 t964 t967 t968 t969 t970 t971 t972).bind fun t991=>(if t991=true then ((Y44.f k t974 t975 t978 t981 t984 t985 t986 t987 t988 t989 1).bind fun bt992=>((Y15.f k t974 bt992.2.1 bt992.2.2.1 bt992.2.2.2 t984 t985 t986 t987 t988 t989 1).bind fun t996=>(if t996<0 then (none) else (if t996=bt992.1 then ((Y6.f k a0 a1 a2 a3).bind fun bt997=>((Y27.f k bt997.1 bt997.2.1 bt997.2.2.1 bt997.2.2.2.1 bt997.2.2.2.2.1 bt997.2.2.2.2.2.1 bt997.2.2.2.2.2.2.1 bt997.2.2.2.2.2.2.2.1 bt997.2.2.2.2.2.2.2.2.1 bt997.2.2.2.2.2.2.2.2.2 t957 t958 t961 t964 t967 t968 t969 t970 t971 t972).bind fun t1014=>(if t1014=true then ((Y15.f k t974 bt992.2.1 bt992.2.2.1 bt992.2.2.2 t984 t985 t986 t987 t988 t989 1).bind fun t1015=>(if t1015<0 then (none) else (if t1015=bt992.1 then (some true) else (none)))) else (none)))) else (none))))) else (none)))=some r:=H
 have A6:=aM A60
 clear A60
 replace H:=bS H
 obtain ⟨t991,A70,H⟩:=H
 replace H:(if t991=true then ((Y44.f k t974 t975 t978 t981 t984 t985 t986 t987 t988 t989 1).bind fun bt992=>((Y15.f k t974 bt992.2.1 bt992.2.2.1 bt992.2.2.2 t984 t985 t986 t987 t988 t989 1).bind fun t996=>(if t996<0 then (none) else (if t996=bt992.1 then ((Y6.f k a0 a1 a2 a3).bind fun bt997=>((Y27.f k bt997.1 bt997.2.1 bt997.2.2.1 bt997.2.2.2.1 bt997.2.2.2.2.1 bt997.2.2.2.2.2.1 bt997.2.2.2.2.2.2.1 bt997.2.2.2.2.2.2.2.1 bt997.2.2.2.2.2.2.2.2.1 bt997.2.2.2.2.2.2.2.2.2 t957 t958 t961 t964 t967 t968 t969 t970 t971 t972).bind fun t1014=>(if t1014=true then ((Y15.f k t974 bt992.2.1 bt992.2.2.1 bt992.2.2.2 t984 t985 t986 t987 t988 t989 1).bind fun t1015=>(if t1015<0 then (none) else (if t1015=bt992.1 then (some true) else (none)))) else (none)))) else (none))))) else (none))=some r:=H
 have A7:=aM A70
 clear A70
 by_cases c8:t991=true
 ·subst c8
  have H1:((Y44.f k t974 t975 t978 t981 t984 t985 t986 t987 t988 t989 1).bind fun bt992=>((Y15.f k t974 bt992.2.1 bt992.2.2.1 bt992.2.2.2 t984 t985 t986 t987 t988 t989 1).bind fun t996=>(if t996<0 then (none) else (if t996=bt992.1 then ((Y6.f k a0 a1 a2 a3).bind fun bt997=>((Y27.f k bt997.1 bt997.2.1 bt997.2.2.1 bt997.2.2.2.1 bt997.2.2.2.2.1 bt997.2.2.2.2.2.1 bt997.2.2.2.2.2.2.1 bt997.2.2.2.2.2.2.2.1 bt997.2.2.2.2.2.2.2.2.1 bt997.2.2.2.2.2.2.2.2.2 t957 t958 t961 t964 t967 t968 t969 t970 t971 t972).bind fun t1014=>(if t1014=true then ((Y15.f k t974 bt992.2.1 bt992.2.2.1 bt992.2.2.2 t984 t985 t986 t987 t988 t989 1).bind fun t1015=>(if t1015<0 then (none) else (if t1015=bt992.1 then (some true) else (none)))) else (none)))) else (none)))))=some r:=by rw [if_pos rfl] at H;exact H
  clear H
  have H:=H1
  clear H1
  replace H:=bS H
  obtain ⟨⟨t992,t993,t994,t995⟩,A90,H⟩:=H
  replace H:((Y15.f k t974 t993 t994 t995 t984 t985 t986 t987 t988 t989 1).bind fun t996=>(if t996<0 then (none) else (if t996=t992 then ((Y6.f k a0 a1 a2 a3).bind fun bt997=>((Y27.f k bt997.1 bt997.2.1 bt997.2.2.1 bt997.2.2.2.1 bt997.2.2.2.2.1 bt997.2.2.2.2.2.1 bt997.2.2.2.2.2.2.1 bt997.2.2.2.2.2.2.2.1 bt997.2.2.2.2.2.2.2.2.1 bt997.2.2.2.2.2.2.2.2.2 t957 t958 t961 t964 t967 t968 t969 t970 t971 t972).bind fun t1014=>(if t1014=true then ((Y15.f k t974 t993 t994 t995 t984 t985 t986 t987 t988 t989 1).bind fun t1015=>(if t1015<0 then (none) else (if t1015=t992 then (some true) else (none)))) else (none)))) else (none))))=some r:=H
  have A9:=aM A90
  clear A90
  replace H:=bS H
  obtain ⟨t996,A100,H⟩:=H
  replace H:(if t996<0 then (none) else (if t996=t992 then ((Y6.f k a0 a1 a2 a3).bind fun bt997=>((Y27.f k bt997.1 bt997.2.1 bt997.2.2.1 bt997.2.2.2.1 bt997.2.2.2.2.1 bt997.2.2.2.2.2.1 bt997.2.2.2.2.2.2.1 bt997.2.2.2.2.2.2.2.1 bt997.2.2.2.2.2.2.2.2.1 bt997.2.2.2.2.2.2.2.2.2 t957 t958 t961 t964 t967 t968 t969 t970 t971 t972).bind fun t1014=>(if t1014=true then ((Y15.f k t974 t993 t994 t995 t984 t985 t986 t987 t988 t989 1).bind fun t1015=>(if t1015<0 then (none) else (if t1015=t992 then (some true) else (none)))) else (none)))) else (none)))=some r:=H
  have A10:=aM A100
  clear A100
  by_cases c11:t996<0
  ·rw [if_pos c11] at H
   exact nO H
  ·rw [if_neg c11] at H
   have c11b0:decide (t996<0)=false:=dF c11
   clear c11
   by_cases c12:t996=t992
   ·rw [if_pos c12] at H
    have c12b0:(t996 == t992)=true:=beq_iff_eq.mpr c12
    have c12b1:(t996 != t992)=false:=bne_eq_false_iff_eq.mpr c12
    clear c12
    replace H:=bS H
    obtain ⟨⟨t997,t998,t1001,t1004,t1007,t1008,t1009,t1010,t1011,t1012⟩,A130,H⟩:=H
    replace H:((Y27.f k t997 t998 t1001 t1004 t1007 t1008 t1009 t1010 t1011 t1012 t957 t958 t961 t964 t967 t968 t969 t970 t971 t972).bind fun t1014=>(if t1014=true then ((Y15.f k t974 t993 t994 t995 t984 t985 t986 t987 t988 t989 1).bind fun t1015=>(if t1015<0 then (none) else (if t1015=t992 then (some true) else (none)))) else (none)))=some r:=H
    have A13:=aM A130
    clear A130
    replace H:=bS H
    obtain ⟨t1014,A140,H⟩:=H
    replace H:(if t1014=true then ((Y15.f k t974 t993 t994 t995 t984 t985 t986 t987 t988 t989 1).bind fun t1015=>(if t1015<0 then (none) else (if t1015=t992 then (some true) else (none)))) else (none))=some r:=H
    have A14:=aM A140
    clear A140
    by_cases c15:t1014=true
    ·subst c15
     have H1:((Y15.f k t974 t993 t994 t995 t984 t985 t986 t987 t988 t989 1).bind fun t1015=>(if t1015<0 then (none) else (if t1015=t992 then (some true) else (none))))=some r:=by rw [if_pos rfl] at H;exact H
     clear H
     have H:=H1
     clear H1
     replace H:=bS H
     obtain ⟨t1015,A160,H⟩:=H
     replace H:(if t1015<0 then (none) else (if t1015=t992 then (some true) else (none)))=some r:=H
     have A16:=aM A160
     clear A160
     by_cases c17:t1015<0
     ·rw [if_pos c17] at H
      exact nO H
     ·rw [if_neg c17] at H
      have c17b0:decide (t1015<0)=false:=dF c17
      clear c17
      by_cases c18:t1015=t992
      ·rw [if_pos c18] at H
       have c18b0:(t1015 == t992)=true:=beq_iff_eq.mpr c18
       have c18b1:(t1015 != t992)=false:=bne_eq_false_iff_eq.mpr c18
       clear c18
       obtain rfl:=sI H
       go_enter Tryd.func7,Tryd.ntmps7
       go_wp2_with (first | ((with_reducible refine gc_ 33 ?_);refine gl_ (some 18) Tryd.func33 #[.int .i64 a0,.int .i64 a1,.int .i64 a2,.int .i64 a3] ?_;(with_reducible refine (Y8.calls k a0 a1 a2 a3 t957 t958 t961 t964 t967 t968 t969 t970 t971 t972 _ A5.out).mono ?_);rintro e w19 ⟨v959,v962,v965,rfl,ho0,ho1,ho2,hb⟩;refine ⟨_,rfl,?_⟩;have n0_:=aM (Kd.R_lower ho0 (below_size (z3_ HB.out)));have n1_:=aM (Kd.R_lower ho1 (below_size (z3_ HB.out)));have n2_:=aM (Kd.R_lower ho2 (below_size (z3_ HB.out)));have n3_:=aM (below_step (z3_ HB.out) hb);clear HB;have HO960:=n0_;have HO963:=n1_;have HO966:=n2_;have HB:=n3_;clear n0_ n1_ n2_ n3_;(try clear hb);(try clear ho0);(try clear ho1);(try clear ho2)) | ((with_reducible refine gd_ 9 ?_);refine be_ 9 #[.int .i64 0,.slice none 0 0,.slice none 0 0,.slice none 0 0,.int .i64 0,.int .i64 0,.int .i64 0,.slice none 0 0,.slice none 0 0,.int .i64 0] 62 ?_;intro gb973 hg w20 hbox hb;have n0_:=aM (Kd.R_below (z2_ HO960.out) hb);have n1_:=aM (Kd.R_below (z2_ HO963.out) hb);have n2_:=aM (Kd.R_below (z2_ HO966.out) hb);have n3_:=aM (below_step (z3_ HB.out) hb);have n4_:=aM (hbox);have n5_:=aM ((z10_ HB.out:w.heap.size≤gb973));have n6_:=aM ((z10_ HB.out:w.heap.size≤gb973));clear HO960;clear HO963;clear HO966;clear HB;have HO960:=n0_;have HO963:=n1_;have HO966:=n2_;have HB:=n3_;have BK973:=n4_;have GW973:=n5_;have GE973:=n6_;clear n0_ n1_ n2_ n3_ n4_ n5_ n6_;clear hb hbox hg;have ⟨hcz21_0,hcz21_1,hcz21_2,hcz21_3,hcz21_4,hcz21_5,hcz21_6,hcz21_7,hcz21_8,hcz21_9,hfz21_0,hfz21_1,hfz21_2,hfz21_3,hfz21_4,hfz21_5,hfz21_6,hfz21_7,hfz21_8,hfz21_9⟩:=cz10_ BK973.out;obtain ⟨Ao22,co22,eo22⟩:=Kd.R_slice HO960.out;subst eo22;obtain ⟨Ao23,co23,eo23⟩:=Kd.R_slice HO963.out;subst eo23;obtain ⟨Ao24,co24,eo24⟩:=Kd.R_slice HO966.out;subst eo24) | ((with_reducible refine gc_ 34 ?_);refine gl_ (some 23) Tryd.func34 #[.int .i64 a0,.int .i64 a1,.int .i64 a2,.int .i64 a3] ?_;(with_reducible refine (Y6.calls k a0 a1 a2 a3 t974 t975 t978 t981 t984 t985 t986 t987 t988 t989 _ A6.out).mono ?_);rintro e w25 ⟨v976,v979,v982,rfl,ho0,ho1,ho2,hb⟩;refine ⟨_,rfl,?_⟩;have n0_:=aM (Kd.R_elder' (z12_ HO960.out BK973.out) (Kd.R_base ho0) hb);have n1_:=aM (Kd.R_elder' (z12_ HO963.out BK973.out) (Kd.R_base ho1) hb);have n2_:=aM (Kd.R_elder' (z12_ HO966.out BK973.out) (Kd.R_base ho2) hb);have n3_:=aM (Kd.R_lower (Kd.R_new' ho0 (Kd.R_lt (z12_ HO960.out BK973.out))) (below_size (z8_ HB.out GE973.out)));have n4_:=aM (Kd.R_lower (Kd.R_new' ho1 (Kd.R_lt (z12_ HO963.out BK973.out))) (below_size (z8_ HB.out GE973.out)));have n5_:=aM (Kd.R_lower (Kd.R_new' ho2 (Kd.R_lt (z12_ HO966.out BK973.out))) (below_size (z8_ HB.out GE973.out)));have n6_:=aM (blk_below (g:=gb973) (o:=.cells #[.int .i64 t957,.slice Ao22 t958.length co22,.slice Ao23 t961.length co23,.slice Ao24 t964.length co24,.int .i64 t967,.int .i64 t968,.int .i64 t969,.slice none 0 0,.slice none 0 0,.int .i64 t972] 62 (0,0)) (z23_ BK973.out) hb);have n7_:=aM (below_step (z8_ HB.out GE973.out) hb);clear HO960;clear HO963;clear HO966;clear BK973;clear HB;have HO960:=n0_;have HO963:=n1_;have HO966:=n2_;have HO977:=n3_;have HO980:=n4_;have HO983:=n5_;have BK973:=n6_;have HB:=n7_;clear n0_ n1_ n2_ n3_ n4_ n5_ n6_ n7_;(try clear hb);(try clear hb2);(try clear hk);(try clear hi);(try clear ho0);(try clear ho1);(try clear ho2)) | ((with_reducible refine gd_ 10 ?_);refine be_ 10 #[.int .i64 0,.slice none 0 0,.slice none 0 0,.slice none 0 0,.int .i64 0,.int .i64 0,.int .i64 0,.slice none 0 0,.slice none 0 0,.int .i64 0] 62 ?_;intro gb990 hg w26 hbox hb;have n0_:=aM (Kd.R_below (z2_ HO960.out) hb);have n1_:=aM (Kd.R_below (z2_ HO963.out) hb);have n2_:=aM (Kd.R_below (z2_ HO966.out) hb);have n3_:=aM (Kd.R_below (z2_ HO977.out) hb);have n4_:=aM (Kd.R_below (z2_ HO980.out) hb);have n5_:=aM (Kd.R_below (z2_ HO983.out) hb);have n6_:=aM (blkB_ BK973.out hb);have n7_:=aM (below_step (z8_ HB.out GE973.out) hb);have n8_:=aM (hbox);have n9_:=aM ((z13_ HB.out GE973.out:w.heap.size≤gb990));have n10_:=aM ((z13_ HB.out GE973.out:w.heap.size≤gb990));have n11_:=aM (neL_ BK973.out hg);have n12_:=aM (neG_ BK973.out hg);clear HO960;clear HO963;clear HO966;clear HO977;clear HO980;clear HO983;clear BK973;clear HB;have HO960:=n0_;have HO963:=n1_;have HO966:=n2_;have HO977:=n3_;have HO980:=n4_;have HO983:=n5_;have BK973:=n6_;have HB:=n7_;have BK990:=n8_;have GW990:=n9_;have GE990:=n10_;have NB973_990:=n11_;have NB990_973:=n12_;clear n0_ n1_ n2_ n3_ n4_ n5_ n6_ n7_ n8_ n9_ n10_ n11_ n12_;clear hb hbox hg;have hnb27:=NB990_973.out;have hnc27:=NB973_990.out;have ⟨hcz28_0,hcz28_1,hcz28_2,hcz28_3,hcz28_4,hcz28_5,hcz28_6,hcz28_7,hcz28_8,hcz28_9,hfz28_0,hfz28_1,hfz28_2,hfz28_3,hfz28_4,hfz28_5,hfz28_6,hfz28_7,hfz28_8,hfz28_9⟩:=cz10_ BK990.out;obtain ⟨Ao29,co29,eo29⟩:=Kd.R_slice HO977.out;subst eo29;obtain ⟨Ao30,co30,eo30⟩:=Kd.R_slice HO980.out;subst eo30;obtain ⟨Ao31,co31,eo31⟩:=Kd.R_slice HO983.out;subst eo31;have ⟨hcz32_0,hcz32_1,hcz32_2,hcz32_3,hcz32_4,hcz32_5,hcz32_6,hcz32_7,hcz32_8,hcz32_9,hfz32_0,hfz32_1,hfz32_2,hfz32_3,hfz32_4,hfz32_5,hfz32_6,hfz32_7,hfz32_8,hfz32_9⟩:=cz10_ BK973.out) | ((with_reducible refine gc_ 35 ?_);refine gl_ (some 26) Tryd.func35 #[.agg #[.int .i64 t974,.slice Ao29 t975.length co29,.slice Ao30 t978.length co30,.slice Ao31 t981.length co31,.int .i64 t984,.int .i64 t985,.int .i64 t986,.slice none 0 0,.slice none 0 0,.int .i64 t989],.agg #[.int .i64 t957,.slice Ao22 t958.length co22,.slice Ao23 t961.length co23,.slice Ao24 t964.length co24,.int .i64 t967,.int .i64 t968,.int .i64 t969,.slice none 0 0,.slice none 0 0,.int .i64 t972]] ?_;(with_reducible refine (Y27.calls k t974 _ _ t975 _ _ t978 _ _ t981 t984 t985 t986 t987 t988 t989 t957 _ _ t958 _ _ t961 _ _ t964 t967 t968 t969 t970 t971 t972 true _ ?s1 ?s2 ?s3 ?s4 ?s5 ?s6 ?s7 ?s8 ?s9 ?s10 ?s11 ?s12 A7.out).mono ?_);(case s1=>refine (Kd.R_reads' (e:=77) (base:=w.heap.size) (ok:=fun k_=>(True∧some k_≠(.slice Ao22 t958.length co22:Value).ownBlock)) (n:=t975.length) (c:=co29) ?_).2.2;exact (z12_ HO977.out BK990.out));(case s2=>exact (Kd.R_reads' HO977.out).2.1);(case s3=>refine (Kd.R_reads' (e:=95) (base:=w.heap.size) (ok:=fun k_=>(True∧some k_≠(.slice Ao23 t961.length co23:Value).ownBlock)) (n:=t978.length) (c:=co30) ?_).2.2;exact (z12_ HO980.out BK990.out));(case s4=>exact (Kd.R_reads' HO980.out).2.1);(case s5=>refine (Kd.R_reads' (e:=2) (base:=w.heap.size) (ok:=fun k_=>(True∧some k_≠(.slice Ao24 t964.length co24:Value).ownBlock)) (n:=t981.length) (c:=co31) ?_).2.2;exact (z12_ HO983.out BK990.out));(case s6=>exact (Kd.R_reads' HO983.out).2.1);(case s7=>refine (Kd.R_reads' (e:=77) (base:=w.heap.size) (ok:=fun k_=>(True∧some k_≠(.slice Ao29 t975.length co29:Value).ownBlock)) (n:=t958.length) (c:=co22) ?_).2.2;exact (z12_ HO960.out BK990.out));(case s8=>exact (Kd.R_reads' HO960.out).2.1);(case s9=>refine (Kd.R_reads' (e:=95) (base:=w.heap.size) (ok:=fun k_=>(True∧some k_≠(.slice Ao30 t978.length co30:Value).ownBlock)) (n:=t961.length) (c:=co23) ?_).2.2;exact (z12_ HO963.out BK990.out));(case s10=>exact (Kd.R_reads' HO963.out).2.1);(case s11=>refine (Kd.R_reads' (e:=2) (base:=w.heap.size) (ok:=fun k_=>(True∧some k_≠(.slice Ao31 t981.length co31:Value).ownBlock)) (n:=t964.length) (c:=co24) ?_).2.2;exact (z12_ HO966.out BK990.out));(case s12=>exact (Kd.R_reads' HO966.out).2.1);rintro e w33 ⟨rfl,hb⟩;refine ⟨_,rfl,?_⟩;have n0_:=aM (Kd.R_below (z12_ HO960.out BK990.out) hb);have n1_:=aM (Kd.R_below (z12_ HO963.out BK990.out) hb);have n2_:=aM (Kd.R_below (z12_ HO966.out BK990.out) hb);have n3_:=aM (Kd.R_below (z12_ HO977.out BK990.out) hb);have n4_:=aM (Kd.R_below (z12_ HO980.out BK990.out) hb);have n5_:=aM (Kd.R_below (z12_ HO983.out BK990.out) hb);have n6_:=aM (blk_below (g:=gb973) (o:=.cells #[.int .i64 t957,.slice Ao22 t958.length co22,.slice Ao23 t961.length co23,.slice Ao24 t964.length co24,.int .i64 t967,.int .i64 t968,.int .i64 t969,.slice none 0 0,.slice none 0 0,.int .i64 t972] 62 (0,0)) (z36_ NB973_990.out BK973.out) hb);have n7_:=aM (blk_below (g:=gb990) (o:=.cells #[.int .i64 t974,.slice Ao29 t975.length co29,.slice Ao30 t978.length co30,.slice Ao31 t981.length co31,.int .i64 t984,.int .i64 t985,.int .i64 t986,.slice none 0 0,.slice none 0 0,.int .i64 t989] 62 (0,0)) (z23_ BK990.out) hb);have n8_:=aM (below_step (z7_ HB.out GE973.out GE990.out) hb);clear HO960;clear HO963;clear HO966;clear HO977;clear HO980;clear HO983;clear BK973;clear BK990;clear HB;have HO960:=n0_;have HO963:=n1_;have HO966:=n2_;have HO977:=n3_;have HO980:=n4_;have HO983:=n5_;have BK973:=n6_;have BK990:=n7_;have HB:=n8_;clear n0_ n1_ n2_ n3_ n4_ n5_ n6_ n7_ n8_;(try clear hb);(try clear hb2);(try clear hk);(try clear hi);have ⟨hcz34_0,hcz34_1,hcz34_2,hcz34_3,hcz34_4,hcz34_5,hcz34_6,hcz34_7,hcz34_8,hcz34_9,hfz34_0,hfz34_1,hfz34_2,hfz34_3,hfz34_4,hfz34_5,hfz34_6,hfz34_7,hfz34_8,hfz34_9⟩:=cz10_ BK990.out) | ((with_reducible refine gc_ 36 ?_);refine gl_ (some 30) Tryd.func36 #[.agg #[.int .i64 t974,.slice Ao29 t975.length co29,.slice Ao30 t978.length co30,.slice Ao31 t981.length co31,.int .i64 t984,.int .i64 t985,.int .i64 t986,.slice none 0 0,.slice none 0 0,.int .i64 t989],.int .i64 1] ?_;(with_reducible refine (Y44.calls k t974 (fun k_=>some k_=(.slice Ao29 t975.length co29:Value).ownBlock) (.slice Ao29 t975.length co29) t975 (fun k_=>some k_=(.slice Ao30 t978.length co30:Value).ownBlock) (.slice Ao30 t978.length co30) t978 (fun k_=>some k_=(.slice Ao31 t981.length co31:Value).ownBlock) (.slice Ao31 t981.length co31) t981 t984 t985 t986 t987 t988 t989 1 t992 t993 t994 t995 w _ ?s1 ?s2 ?s3 ?s4 A9.out).mono ?_);(case s1=>repeat (first | (with_reducible first | exact HB.out | apply below_alloc | apply pw_below_drewN | apply below_drew1 | refine below_set ?_ GE973.out | refine below_set ?_ GE990.out) | exact HB.out));(case s2=>exact Kd.R_tight rfl HO977.out);(case s3=>exact Kd.R_tight rfl HO980.out);(case s4=>exact Kd.R_tight rfl HO983.out);rintro e w35 ⟨rfl,hy0,hy1,hy2,hb,hkp⟩;refine ⟨_,rfl,?_⟩;have n0_:=aM (Kd.R_mono (ok':=fun k_=>some k_≠(.slice Ao29 t975.length co29:Value).ownBlock) (Kd.R_keptB ((Kd.R_apart' (Kd.R_apart' HO960.out (Kd.R_typed HO980.out) (by decide)) (Kd.R_typed HO983.out) (by decide))) hkp (fun k_ hk_ hs_=>Or.elim hs_ (fun e_=>(hk_.1.1.2) e_) (fun e_=>Or.elim e_ (fun e_=>(hk_.1.2) e_) (fun e_=>(hk_.2) e_)))) (fun k_ hk_=>hk_.1.1.1.2));have n1_:=aM (Kd.R_mono (ok':=fun k_=>some k_≠(.slice Ao30 t978.length co30:Value).ownBlock) (Kd.R_keptB ((Kd.R_apart' (Kd.R_apart' HO963.out (Kd.R_typed HO977.out) (by decide)) (Kd.R_typed HO983.out) (by decide))) hkp (fun k_ hk_ hs_=>Or.elim hs_ (fun e_=>(hk_.1.2) e_) (fun e_=>Or.elim e_ (fun e_=>(hk_.1.1.2) e_) (fun e_=>(hk_.2) e_)))) (fun k_ hk_=>hk_.1.1.1.2));have n2_:=aM (Kd.R_mono (ok':=fun k_=>some k_≠(.slice Ao31 t981.length co31:Value).ownBlock) (Kd.R_keptB ((Kd.R_apart' (Kd.R_apart' HO966.out (Kd.R_typed HO977.out) (by decide)) (Kd.R_typed HO980.out) (by decide))) hkp (fun k_ hk_ hs_=>Or.elim hs_ (fun e_=>(hk_.1.2) e_) (fun e_=>Or.elim e_ (fun e_=>(hk_.2) e_) (fun e_=>(hk_.1.1.2) e_)))) (fun k_ hk_=>hk_.1.1.1.2));have n3_:=aM (blk_kept (z4_ BK973.out) hkp (fun hs_=>Or.elim hs_ (fun e_=>(fun e_=>(Kd.R_ne HO977.out BK973.out (by decide)) e_) e_) (fun e_=>Or.elim e_ (fun e_=>(fun e_=>(Kd.R_ne HO980.out BK973.out (by decide)) e_) e_) (fun e_=>(fun e_=>(Kd.R_ne HO983.out BK973.out (by decide)) e_) e_))));have n4_:=aM (Kd.R_reok rfl hy0 (fun k_ e_=>HO977.out.1 k_ e_));have n5_:=aM (Kd.R_reok rfl hy1 (fun k_ e_=>HO980.out.1 k_ e_));have n6_:=aM (Kd.R_reok rfl hy2 (fun k_ e_=>HO983.out.1 k_ e_));have n7_:=aM (blk_kept (z4_ BK990.out) hkp (fun hs_=>Or.elim hs_ (fun e_=>(fun e_=>(Kd.R_ne HO977.out BK990.out (by decide)) e_) e_) (fun e_=>Or.elim e_ (fun e_=>(fun e_=>(Kd.R_ne HO980.out BK990.out (by decide)) e_) e_) (fun e_=>(fun e_=>(Kd.R_ne HO983.out BK990.out (by decide)) e_) e_))));have n8_:=aM (hb);clear HO960;clear HO963;clear HO966;clear BK973;clear HO977;clear HO980;clear HO983;clear BK990;clear HB;have HO960:=n0_;have HO963:=n1_;have HO966:=n2_;have BK973:=n3_;have HO977:=n4_;have HO980:=n5_;have HO983:=n6_;have BK990:=n7_;have HB:=n8_;clear n0_ n1_ n2_ n3_ n4_ n5_ n6_ n7_ n8_;(try clear hb);(try clear hkp);(try clear hy0);(try clear hy1);(try clear hy2);have ⟨hcz36_0,hcz36_1,hcz36_2,hcz36_3,hcz36_4,hcz36_5,hcz36_6,hcz36_7,hcz36_8,hcz36_9,hfz36_0,hfz36_1,hfz36_2,hfz36_3,hfz36_4,hfz36_5,hfz36_6,hfz36_7,hfz36_8,hfz36_9⟩:=cz10_ BK990.out) | ((with_reducible refine gc_ 37 ?_);refine goesL_ (some 33) rfl rfl Tryd.func37 (by kernel_rfl) rfl #[.agg #[.int .i64 t974,.slice Ao29 t993.length co29,.slice Ao30 t994.length co30,.slice Ao31 t995.length co31,.int .i64 t984,.int .i64 t985,.int .i64 t986,.slice none 0 0,.slice none 0 0,.int .i64 t989],.int .i64 1] rfl (by (try simp only [List.map_toArray,List.map_cons,List.map_nil]);first | done | (rw [show t993.length=t975.length from (Kd.R_reads' HO977.out).1.symm,show t994.length=t978.length from (Kd.R_reads' HO980.out).1.symm,show t995.length=t981.length from (Kd.R_reads' HO983.out).1.symm] <;> rfl) | rfl | (simp only [List.length_drop,List.length_take];rfl)) ?_;(with_reducible refine (Y15.calls k t974 _ _ t993 _ _ t994 _ _ t995 t984 t985 t986 t987 t988 t989 1 t996 _ ?s1 ?s2 ?s3 ?s4 ?s5 ?s6 A10.out).mono ?_);(case s1=>repeat (first | exact (Kd.R_reads' HO977.out).2.2 | (with_reducible refine Kd.C_alloc ?_ _) | (with_reducible refine Kd.C_drewN ?_ _) | (with_reducible refine Kd.C_drew ?_)));(case s2=>rw [show t993.length=t975.length from (Kd.R_reads' HO977.out).1.symm];exact (Kd.R_reads' HO977.out).2.1);(case s3=>repeat (first | exact (Kd.R_reads' HO980.out).2.2 | (with_reducible refine Kd.C_alloc ?_ _) | (with_reducible refine Kd.C_drewN ?_ _) | (with_reducible refine Kd.C_drew ?_)));(case s4=>rw [show t994.length=t978.length from (Kd.R_reads' HO980.out).1.symm];exact (Kd.R_reads' HO980.out).2.1);(case s5=>repeat (first | exact (Kd.R_reads' HO983.out).2.2 | (with_reducible refine Kd.C_alloc ?_ _) | (with_reducible refine Kd.C_drewN ?_ _) | (with_reducible refine Kd.C_drew ?_)));(case s6=>rw [show t995.length=t981.length from (Kd.R_reads' HO983.out).1.symm];exact (Kd.R_reads' HO983.out).2.1);rintro e w37 ⟨rfl,hb⟩;refine ⟨_,rfl,?_⟩;have n0_:=aM (Kd.R_below (z2_ HO960.out) hb);have n1_:=aM (Kd.R_below (z2_ HO963.out) hb);have n2_:=aM (Kd.R_below (z2_ HO966.out) hb);have n3_:=aM (Kd.R_below (z2_ HO977.out) hb);have n4_:=aM (Kd.R_below (z2_ HO980.out) hb);have n5_:=aM (Kd.R_below (z2_ HO983.out) hb);have n6_:=aM (blkB_ BK973.out hb);have n7_:=aM (blkB_ BK990.out hb);have n8_:=aM (below_step (z7_ HB.out GE973.out GE990.out) hb);clear HO960;clear HO963;clear HO966;clear HO977;clear HO980;clear HO983;clear BK973;clear BK990;clear HB;have HO960:=n0_;have HO963:=n1_;have HO966:=n2_;have HO977:=n3_;have HO980:=n4_;have HO983:=n5_;have BK973:=n6_;have BK990:=n7_;have HB:=n8_;clear n0_ n1_ n2_ n3_ n4_ n5_ n6_ n7_ n8_;(try clear hb)) | ((with_reducible refine gc_ 34 ?_);refine gl_ (some 43) Tryd.func34 #[.int .i64 a0,.int .i64 a1,.int .i64 a2,.int .i64 a3] ?_;(with_reducible refine (Y6.calls k a0 a1 a2 a3 t997 t998 t1001 t1004 t1007 t1008 t1009 t1010 t1011 t1012 _ A13.out).mono ?_);rintro e w38 ⟨v999,v1002,v1005,rfl,ho0,ho1,ho2,hb⟩;refine ⟨_,rfl,?_⟩;have n0_:=aM (Kd.R_elder' (z2_ HO960.out) (Kd.R_base ho0) hb);have n1_:=aM (Kd.R_elder' (z2_ HO963.out) (Kd.R_base ho1) hb);have n2_:=aM (Kd.R_elder' (z2_ HO966.out) (Kd.R_base ho2) hb);have n3_:=aM (Kd.R_elder' (z2_ HO977.out) (Kd.R_base ho0) hb);have n4_:=aM (Kd.R_elder' (z2_ HO980.out) (Kd.R_base ho1) hb);have n5_:=aM (Kd.R_elder' (z2_ HO983.out) (Kd.R_base ho2) hb);have n6_:=aM (Kd.R_lower (Kd.R_new' (Kd.R_new' ho0 (Kd.R_lt (z2_ HO960.out))) (Kd.R_lt (z2_ HO977.out))) (below_size (z7_ HB.out GE973.out GE990.out)));have n7_:=aM (Kd.R_lower (Kd.R_new' (Kd.R_new' ho1 (Kd.R_lt (z2_ HO963.out))) (Kd.R_lt (z2_ HO980.out))) (below_size (z7_ HB.out GE973.out GE990.out)));have n8_:=aM (Kd.R_lower (Kd.R_new' (Kd.R_new' ho2 (Kd.R_lt (z2_ HO966.out))) (Kd.R_lt (z2_ HO983.out))) (below_size (z7_ HB.out GE973.out GE990.out)));have n9_:=aM (blkB_ BK973.out hb);have n10_:=aM (blkB_ BK990.out hb);have n11_:=aM (below_step (z7_ HB.out GE973.out GE990.out) hb);clear HO960;clear HO963;clear HO966;clear HO977;clear HO980;clear HO983;clear BK973;clear BK990;clear HB;have HO960:=n0_;have HO963:=n1_;have HO966:=n2_;have HO977:=n3_;have HO980:=n4_;have HO983:=n5_;have HO1000:=n6_;have HO1003:=n7_;have HO1006:=n8_;have BK973:=n9_;have BK990:=n10_;have HB:=n11_;clear n0_ n1_ n2_ n3_ n4_ n5_ n6_ n7_ n8_ n9_ n10_ n11_;(try clear hb);(try clear ho0);(try clear ho1);(try clear ho2)) | ((with_reducible refine gd_ 13 ?_);refine be_ 13 #[.int .i64 0,.slice none 0 0,.slice none 0 0,.slice none 0 0,.int .i64 0,.int .i64 0,.int .i64 0,.slice none 0 0,.slice none 0 0,.int .i64 0] 62 ?_;intro gb1013 hg w39 hbox hb;have n0_:=aM (Kd.R_below (z2_ HO960.out) hb);have n1_:=aM (Kd.R_below (z2_ HO963.out) hb);have n2_:=aM (Kd.R_below (z2_ HO966.out) hb);have n3_:=aM (Kd.R_below (z2_ HO977.out) hb);have n4_:=aM (Kd.R_below (z2_ HO980.out) hb);have n5_:=aM (Kd.R_below (z2_ HO983.out) hb);have n6_:=aM (Kd.R_below (z2_ HO1000.out) hb);have n7_:=aM (Kd.R_below (z2_ HO1003.out) hb);have n8_:=aM (Kd.R_below (z2_ HO1006.out) hb);have n9_:=aM (blkB_ BK973.out hb);have n10_:=aM (blkB_ BK990.out hb);have n11_:=aM (below_step (z7_ HB.out GE973.out GE990.out) hb);have n12_:=aM (hbox);have n13_:=aM ((z22_ HB.out GE973.out GE990.out:w.heap.size≤gb1013));have n14_:=aM ((z22_ HB.out GE973.out GE990.out:w.heap.size≤gb1013));have n15_:=aM (neL_ BK973.out hg);have n16_:=aM (neG_ BK973.out hg);have n17_:=aM (neL_ BK990.out hg);have n18_:=aM (neG_ BK990.out hg);clear HO960;clear HO963;clear HO966;clear HO977;clear HO980;clear HO983;clear HO1000;clear HO1003;clear HO1006;clear BK973;clear BK990;clear HB;have HO960:=n0_;have HO963:=n1_;have HO966:=n2_;have HO977:=n3_;have HO980:=n4_;have HO983:=n5_;have HO1000:=n6_;have HO1003:=n7_;have HO1006:=n8_;have BK973:=n9_;have BK990:=n10_;have HB:=n11_;have BK1013:=n12_;have GW1013:=n13_;have GE1013:=n14_;have NB973_1013:=n15_;have NB1013_973:=n16_;have NB990_1013:=n17_;have NB1013_990:=n18_;clear n0_ n1_ n2_ n3_ n4_ n5_ n6_ n7_ n8_ n9_ n10_ n11_ n12_ n13_ n14_ n15_ n16_ n17_ n18_;clear hb hbox hg;have hnb40:=NB1013_973.out;have hnc40:=NB973_1013.out;have hnb41:=NB1013_990.out;have hnc41:=NB990_1013.out;have ⟨hcz42_0,hcz42_1,hcz42_2,hcz42_3,hcz42_4,hcz42_5,hcz42_6,hcz42_7,hcz42_8,hcz42_9,hfz42_0,hfz42_1,hfz42_2,hfz42_3,hfz42_4,hfz42_5,hfz42_6,hfz42_7,hfz42_8,hfz42_9⟩:=cz10_ BK1013.out;obtain ⟨Ao43,co43,eo43⟩:=Kd.R_slice HO1000.out;subst eo43;obtain ⟨Ao44,co44,eo44⟩:=Kd.R_slice HO1003.out;subst eo44;obtain ⟨Ao45,co45,eo45⟩:=Kd.R_slice HO1006.out;subst eo45;have ⟨hcz46_0,hcz46_1,hcz46_2,hcz46_3,hcz46_4,hcz46_5,hcz46_6,hcz46_7,hcz46_8,hcz46_9,hfz46_0,hfz46_1,hfz46_2,hfz46_3,hfz46_4,hfz46_5,hfz46_6,hfz46_7,hfz46_8,hfz46_9⟩:=cz10_ BK973.out) | ((with_reducible refine gc_ 35 ?_);refine gl_ (some 46) Tryd.func35 #[.agg #[.int .i64 t997,.slice Ao43 t998.length co43,.slice Ao44 t1001.length co44,.slice Ao45 t1004.length co45,.int .i64 t1007,.int .i64 t1008,.int .i64 t1009,.slice none 0 0,.slice none 0 0,.int .i64 t1012],.agg #[.int .i64 t957,.slice Ao22 t958.length co22,.slice Ao23 t961.length co23,.slice Ao24 t964.length co24,.int .i64 t967,.int .i64 t968,.int .i64 t969,.slice none 0 0,.slice none 0 0,.int .i64 t972]] ?_;(with_reducible refine (Y27.calls k t997 _ _ t998 _ _ t1001 _ _ t1004 t1007 t1008 t1009 t1010 t1011 t1012 t957 _ _ t958 _ _ t961 _ _ t964 t967 t968 t969 t970 t971 t972 true _ ?s1 ?s2 ?s3 ?s4 ?s5 ?s6 ?s7 ?s8 ?s9 ?s10 ?s11 ?s12 A14.out).mono ?_);(case s1=>refine (Kd.R_reads' (e:=77) (base:=w.heap.size) (ok:=fun k_=>((True∧some k_≠(.slice Ao22 t958.length co22:Value).ownBlock)∧some k_≠(.slice Ao29 t975.length co29:Value).ownBlock)) (n:=t998.length) (c:=co43) ?_).2.2;exact (z12_ HO1000.out BK1013.out));(case s2=>exact (Kd.R_reads' HO1000.out).2.1);(case s3=>refine (Kd.R_reads' (e:=95) (base:=w.heap.size) (ok:=fun k_=>((True∧some k_≠(.slice Ao23 t961.length co23:Value).ownBlock)∧some k_≠(.slice Ao30 t978.length co30:Value).ownBlock)) (n:=t1001.length) (c:=co44) ?_).2.2;exact (z12_ HO1003.out BK1013.out));(case s4=>exact (Kd.R_reads' HO1003.out).2.1);(case s5=>refine (Kd.R_reads' (e:=2) (base:=w.heap.size) (ok:=fun k_=>((True∧some k_≠(.slice Ao24 t964.length co24:Value).ownBlock)∧some k_≠(.slice Ao31 t981.length co31:Value).ownBlock)) (n:=t1004.length) (c:=co45) ?_).2.2;exact (z12_ HO1006.out BK1013.out));(case s6=>exact (Kd.R_reads' HO1006.out).2.1);(case s7=>refine (Kd.R_reads' (e:=77) (base:=w.heap.size) (ok:=fun k_=>(some k_≠(.slice Ao29 t975.length co29:Value).ownBlock∧some k_≠(.slice Ao43 t998.length co43:Value).ownBlock)) (n:=t958.length) (c:=co22) ?_).2.2;exact (z12_ HO960.out BK1013.out));(case s8=>exact (Kd.R_reads' HO960.out).2.1);(case s9=>refine (Kd.R_reads' (e:=95) (base:=w.heap.size) (ok:=fun k_=>(some k_≠(.slice Ao30 t978.length co30:Value).ownBlock∧some k_≠(.slice Ao44 t1001.length co44:Value).ownBlock)) (n:=t961.length) (c:=co23) ?_).2.2;exact (z12_ HO963.out BK1013.out));(case s10=>exact (Kd.R_reads' HO963.out).2.1);(case s11=>refine (Kd.R_reads' (e:=2) (base:=w.heap.size) (ok:=fun k_=>(some k_≠(.slice Ao31 t981.length co31:Value).ownBlock∧some k_≠(.slice Ao45 t1004.length co45:Value).ownBlock)) (n:=t964.length) (c:=co24) ?_).2.2;exact (z12_ HO966.out BK1013.out));(case s12=>exact (Kd.R_reads' HO966.out).2.1);rintro e w47 ⟨rfl,hb⟩;refine ⟨_,rfl,?_⟩;have n0_:=aM (Kd.R_below (z12_ HO960.out BK1013.out) hb);have n1_:=aM (Kd.R_below (z12_ HO963.out BK1013.out) hb);have n2_:=aM (Kd.R_below (z12_ HO966.out BK1013.out) hb);have n3_:=aM (Kd.R_below (z12_ HO977.out BK1013.out) hb);have n4_:=aM (Kd.R_below (z12_ HO980.out BK1013.out) hb);have n5_:=aM (Kd.R_below (z12_ HO983.out BK1013.out) hb);have n6_:=aM (Kd.R_below (z12_ HO1000.out BK1013.out) hb);have n7_:=aM (Kd.R_below (z12_ HO1003.out BK1013.out) hb);have n8_:=aM (Kd.R_below (z12_ HO1006.out BK1013.out) hb);have n9_:=aM (blk_below (g:=gb973) (o:=.cells #[.int .i64 t957,.slice Ao22 t958.length co22,.slice Ao23 t961.length co23,.slice Ao24 t964.length co24,.int .i64 t967,.int .i64 t968,.int .i64 t969,.slice none 0 0,.slice none 0 0,.int .i64 t972] 62 (0,0)) (z36_ NB973_1013.out BK973.out) hb);have n10_:=aM (blk_below (g:=gb990) (o:=.cells #[.int .i64 t974,.slice Ao29 t975.length co29,.slice Ao30 t978.length co30,.slice Ao31 t981.length co31,.int .i64 t984,.int .i64 t985,.int .i64 t986,.slice none 0 0,.slice none 0 0,.int .i64 t989] 62 (0,0)) (z36_ NB990_1013.out BK990.out) hb);have n11_:=aM (blk_below (g:=gb1013) (o:=.cells #[.int .i64 t997,.slice Ao43 t998.length co43,.slice Ao44 t1001.length co44,.slice Ao45 t1004.length co45,.int .i64 t1007,.int .i64 t1008,.int .i64 t1009,.slice none 0 0,.slice none 0 0,.int .i64 t1012] 62 (0,0)) (z23_ BK1013.out) hb);have n12_:=aM (below_step (z11_ HB.out GE973.out GE990.out GE1013.out) hb);clear HO960;clear HO963;clear HO966;clear HO977;clear HO980;clear HO983;clear HO1000;clear HO1003;clear HO1006;clear BK973;clear BK990;clear BK1013;clear HB;have HO960:=n0_;have HO963:=n1_;have HO966:=n2_;have HO977:=n3_;have HO980:=n4_;have HO983:=n5_;have HO1000:=n6_;have HO1003:=n7_;have HO1006:=n8_;have BK973:=n9_;have BK990:=n10_;have BK1013:=n11_;have HB:=n12_;clear n0_ n1_ n2_ n3_ n4_ n5_ n6_ n7_ n8_ n9_ n10_ n11_ n12_;(try clear hb);(try clear hb2);(try clear hk);(try clear hi);have ⟨hcz48_0,hcz48_1,hcz48_2,hcz48_3,hcz48_4,hcz48_5,hcz48_6,hcz48_7,hcz48_8,hcz48_9,hfz48_0,hfz48_1,hfz48_2,hfz48_3,hfz48_4,hfz48_5,hfz48_6,hfz48_7,hfz48_8,hfz48_9⟩:=cz10_ BK990.out) | ((with_reducible refine gc_ 37 ?_);refine goesL_ (some 50) rfl rfl Tryd.func37 (by kernel_rfl) rfl #[.agg #[.int .i64 t974,.slice Ao29 t993.length co29,.slice Ao30 t994.length co30,.slice Ao31 t995.length co31,.int .i64 t984,.int .i64 t985,.int .i64 t986,.slice none 0 0,.slice none 0 0,.int .i64 t989],.int .i64 1] rfl (by (try simp only [List.map_toArray,List.map_cons,List.map_nil]);first | done | (rw [show t993.length=t975.length from (Kd.R_reads' HO977.out).1.symm,show t994.length=t978.length from (Kd.R_reads' HO980.out).1.symm,show t995.length=t981.length from (Kd.R_reads' HO983.out).1.symm] <;> rfl) | rfl | (simp only [List.length_drop,List.length_take];rfl)) ?_;(with_reducible refine (Y15.calls k t974 _ _ t993 _ _ t994 _ _ t995 t984 t985 t986 t987 t988 t989 1 t1015 _ ?s1 ?s2 ?s3 ?s4 ?s5 ?s6 A16.out).mono ?_);(case s1=>repeat (first | exact (Kd.R_reads' HO977.out).2.2 | (with_reducible refine Kd.C_alloc ?_ _) | (with_reducible refine Kd.C_drewN ?_ _) | (with_reducible refine Kd.C_drew ?_)));(case s2=>rw [show t993.length=t975.length from (Kd.R_reads' HO977.out).1.symm];exact (Kd.R_reads' HO977.out).2.1);(case s3=>repeat (first | exact (Kd.R_reads' HO980.out).2.2 | (with_reducible refine Kd.C_alloc ?_ _) | (with_reducible refine Kd.C_drewN ?_ _) | (with_reducible refine Kd.C_drew ?_)));(case s4=>rw [show t994.length=t978.length from (Kd.R_reads' HO980.out).1.symm];exact (Kd.R_reads' HO980.out).2.1);(case s5=>repeat (first | exact (Kd.R_reads' HO983.out).2.2 | (with_reducible refine Kd.C_alloc ?_ _) | (with_reducible refine Kd.C_drewN ?_ _) | (with_reducible refine Kd.C_drew ?_)));(case s6=>rw [show t995.length=t981.length from (Kd.R_reads' HO983.out).1.symm];exact (Kd.R_reads' HO983.out).2.1);rintro e w49 ⟨rfl,hb⟩;refine ⟨_,rfl,?_⟩;have n0_:=aM (Kd.R_below (z2_ HO960.out) hb);have n1_:=aM (Kd.R_below (z2_ HO963.out) hb);have n2_:=aM (Kd.R_below (z2_ HO966.out) hb);have n3_:=aM (Kd.R_below (z2_ HO977.out) hb);have n4_:=aM (Kd.R_below (z2_ HO980.out) hb);have n5_:=aM (Kd.R_below (z2_ HO983.out) hb);have n6_:=aM (Kd.R_below (z2_ HO1000.out) hb);have n7_:=aM (Kd.R_below (z2_ HO1003.out) hb);have n8_:=aM (Kd.R_below (z2_ HO1006.out) hb);have n9_:=aM (blkB_ BK973.out hb);have n10_:=aM (blkB_ BK990.out hb);have n11_:=aM (blkB_ BK1013.out hb);have n12_:=aM (below_step (z11_ HB.out GE973.out GE990.out GE1013.out) hb);clear HO960;clear HO963;clear HO966;clear HO977;clear HO980;clear HO983;clear HO1000;clear HO1003;clear HO1006;clear BK973;clear BK990;clear BK1013;clear HB;have HO960:=n0_;have HO963:=n1_;have HO966:=n2_;have HO977:=n3_;have HO980:=n4_;have HO983:=n5_;have HO1000:=n6_;have HO1003:=n7_;have HO1006:=n8_;have BK973:=n9_;have BK990:=n10_;have BK1013:=n11_;have HB:=n12_;clear n0_ n1_ n2_ n3_ n4_ n5_ n6_ n7_ n8_ n9_ n10_ n11_ n12_;(try clear hb)))
       go_ret
       exact ⟨z9_,z11_ HB.out GE973.out GE990.out GE1013.out⟩
      ·rw [if_neg c18] at H
       exact nO H
    ·replace c15:=Bool.eq_false_iff.mpr c15
     subst c15
     have H1:(none)=some r:=by rw [if_neg (show ¬ (false=true) by decide)] at H;exact H
     clear H
     have H:=H1
     clear H1
     exact nO H
   ·rw [if_neg c12] at H
    exact nO H
 ·replace c8:=Bool.eq_false_iff.mpr c8
  subst c8
  have H1:(none)=some r:=by rw [if_neg (show ¬ (false=true) by decide)] at H;exact H
  clear H
  have H:=H1
  clear H1
  exact nO H

end Go.Proofs.YtelecnmflodkkaaDoor.P

namespace Go.Proofs.YtelecnmflodkkaaDoor.P
open Go.RowKit
def Y50.Pure:Prop:=∀ (x0:Int) (x1:Int) (x2:Int) (x3:Int),(Lit.int .i64 x0).wf=true→(Lit.int .i64 x1).wf=true→(Lit.int .i64 x2).wf=true→(Lit.int .i64 x3).wf=true→∃ k,Y50.f k x0 x1 x2 x3=some true
end Go.Proofs.YtelecnmflodkkaaDoor.P

namespace Go.Proofs.YtelecnmflodkkaaDoor.Q
open Go.RowKit Go.Proofs.YtelecnmflodkkaaDoorW.PrintWords Go.Proofs.YtelecnmflodkkaaDoorW.PrintMore

theorem w64 {x:Int} (h0 : -9223372036854775808≤x) (h1:x≤9223372036854775807):wrap64 x=x:=by unfold wrap64;omega
theorem evPos {α:Type} {c:Prop} [Decidable c] {f g:Nat→Option α} {r:α} (hc:c) (h:Ev f r):Ev (fun k=>if c then f k else g k) r:=by
  simp only [if_pos hc];exact h
theorem evNeg {α:Type} {c:Prop} [Decidable c] {f g:Nat→Option α} {r:α} (hc:¬ c) (h:Ev g r):Ev (fun k=>if c then f k else g k) r:=by
  simp only [if_neg hc];exact h
theorem evBind1 {α β:Type} {g:Option α} {f:Nat→α→Option β} {a:α} {r:β} (h:g=some a) (k:Ev (fun n=>f n a) r):Ev (fun n=>g.bind (f n)) r:=by
  subst h;exact k
theorem dropCons {α:Type} {l:List α} {i:Nat} {a:α} {s:List α} (h:l.drop i=a :: s) (d:α):i<l.length∧l.getD i d=a∧l.drop (i+1)=s:=by
  have hl:i<l.length:=by
    have:=congrArg List.length h
    simp at this;omega
  rw [List.drop_eq_getElem_cons hl] at h
  injection h with h1 h2
  exact ⟨hl,by rw [List.getD_eq_getElem?_getD,List.getElem?_eq_getElem hl];exact h1,h2⟩
theorem dropNil {α:Type} {l:List α} {i:Nat} (h:l.drop i=[]):l.length≤i:=by
  have:=congrArg List.length h
  simp at this;omega
theorem dropNil' {α:Type} {l:List α} {i:Nat} (h:l.drop i=[]) (hi:i≤l.length):l.length=i:=by
  have:=dropNil h;omega
theorem getD_mid {α:Type} (pre:List α) (m:α) (s:List α) (d:α):(pre ++ m :: s).getD pre.length d=m:=by
  rw [List.getD_eq_getElem?_getD,List.getElem?_append_right (Nat.le_refl _),Nat.sub_self];rfl
theorem set_mid {α:Type} (pre:List α) (m x:α) (s:List α):(pre ++ m :: s).set pre.length x=pre ++ x :: s:=by
  rw [List.set_append_right _ _ (Nat.le_refl _),Nat.sub_self];rfl
end Go.Proofs.YtelecnmflodkkaaDoor.Q

namespace Go.Proofs.YtelecnmflodkkaaDoor.Q
open Go.RowKit Go.Proofs.YtelecnmflodkkaaDoor.P Go.Proofs.YtelecnmflodkkaaDoorW.PrintWords Go.Proofs.YtelecnmflodkkaaDoorW.PrintMore

def isWithin (n low high:Int):Bool:=decide (low≤n) && decide (n≤high)
def isNode (n:Int):Bool:=isWithin n 1 5
theorem l02Is_is (n a b:Int):Y41.f n a b=some (isWithin n a b):=by
  unfold Y41.f isWithin
  split
  · rename_i h;simp [show a≤n from h]
  · rename_i h;simp [show ¬ a≤n from h]
theorem l02Node_is (n:Int):Y65.f n=some (isNode n):=by simp [Y65.f,l02Is_is,isNode]
theorem within_is (n a b:Int):Y31.f n a b=some (isWithin n a b):=by
  unfold Y31.f isWithin
  split
  · rename_i h;simp [show a≤n from h]
  · rename_i h;simp [show ¬ a≤n from h]
theorem isNode_is (n:Int):Y70.f n=some (isNode n):=by simp [Y70.f,within_is,isNode]
theorem isNode_iff (n:Int):isNode n=true ↔ 1≤n∧n≤5:=by simp [isNode,isWithin]
end Go.Proofs.YtelecnmflodkkaaDoor.Q

namespace Go.Proofs.YtelecnmflodkkaaDoor.P
open Go.RowKit Go.Proofs.YtelecnmflodkkaaDoorW.PrintWords Go.Proofs.YtelecnmflodkkaaDoorW.PrintLast Go.Proofs.YtelecnmflodkkaaDoorW.PrintMore
attribute [local go_sem] max2_int min2_int max_two min_two max_three min_three max_four min_four   -- for this text's walks alone
set_option linter.unusedVariables false
set_option linter.unusedSimpArgs false

/-! ### Y82: function 57 -/
def Y82.f (l0:List (S116)) (a1:Int):Option (Int):=if (wrap64 (a1-(l0.length:Int)))<0 then (some (-1)) else (some (wrap64 (a1-(l0.length:Int))))

/-! ### Y83: function 94 -/
def Y83.f (a0_0:Int) (a0_1:Int):Option (Int × Int):=some (a0_0,a0_1)

/-! ### Y53: function 58 -/
def Y53.l0:Nat→List (S116)→List (S77)→Int→Option ((List (S77)))
 | 0,_,_,_=>none
 | k+1,x0,x3,x4=>if x4<(x0.length:Int) then (if 0≤x4 then ((Y83.f ((rd_T116 x0 x4).f0) ((rd_T116 x0 x4).f1)).bind fun bt624=>(if x4<(x3.length:Int) then (Y53.l0 k x0 (x3.set (x4:Int).toNat (⟨bt624.1,bt624.2⟩:S77)) (wrap64 (x4+1))) else (none))) else (none)) else (some x3)
def Y53.f (k:Nat) (l0:List (S116)):Option ((List (S77))):=if 0≤(l0.length:Int) then (if ((l0.length:Int):Int).toNat≤17592186044416 then (Y53.l0 k l0 (List.replicate ((l0.length:Int):Int).toNat z77) 0) else (none)) else (none)
theorem Y53.mono_l:∀ k,(∀ y0 y1 y2,LeO (Y53.l0 k y0 y1 y2) (Y53.l0 (k+1) y0 y1 y2))
 | 0=>by intros <;> exact LeO.none _
 | k+1=>by
  have ih0:=Y53.mono_l k
  ·intros
   unfold Y53.l0
   exact mO
theorem Y53.mono:∀ a0 k,LeO (Y53.f k a0) (Y53.f (k+1) a0):=by
 intro a0 k
 have ih0:=Y53.mono_l k
 unfold Y53.f
 exact mO

/-! ### Y84: function 23 -/
def Y84.f (a0_0:Int) (l0_1:List (S116)) (a1:Int):Option (Int):=(Y82.f l0_1 a1).bind fun t616=>(if t616<0 then (some (-1)) else (some t616))

/-! ### Y81: function 24 -/
def Y81.f (k:Nat) (a0_0:Int) (l0_1:List (S116)):Option (Int × (List (S77))):=(Y53.f k l0_1).bind fun t630=>(some (a0_0,t630))
theorem Y81.mono:∀ a0 a1 k,LeO (Y81.f k a0 a1) (Y81.f (k+1) a0 a1):=by
 intro a0 a1 k
 have m0:=@Y53.mono
 unfold Y81.f
 exact mO

/-! ### Y78: function 10 -/
def Y78.f (k:Nat) (a0_0:Int) (l0_1:List (S77)) (a0_2:Int) (a1_0:Int) (l1_1:List (S77)) (a1_2:Int):Option (Bool):=(Y68.f k a0_0 l0_1 a1_0 l1_1).bind fun t265=>(if t265=true then (if a0_2=a1_2 then (some true) else (none)) else (none))
theorem Y78.mono:∀ a0 a1 a2 a3 a4 a5 k,LeO (Y78.f k a0 a1 a2 a3 a4 a5) (Y78.f (k+1) a0 a1 a2 a3 a4 a5):=by
 intro a0 a1 a2 a3 a4 a5 k
 have m0:=@Y68.mono
 unfold Y78.f
 exact mO

/-! ### Y74: function 11 -/
def Y74.f (k:Nat) (a0_0:Int) (l0_1:List (S77)) (a0_2:Int) (a1:Int):Option (Int × (List (S77))):=(Y57.f k a0_0 l0_1 a1).bind fun bt272=>(some (bt272.1,bt272.2))
theorem Y74.mono:∀ a0 a1 a2 a3 k,LeO (Y74.f k a0 a1 a2 a3) (Y74.f (k+1) a0 a1 a2 a3):=by
 intro a0 a1 a2 a3 k
 have m0:=@Y57.mono
 unfold Y74.f
 exact mO

/-! ### Y75: function 12 -/
def Y75.f (k:Nat) (a0_0:Int) (l0_1:List (S77)) (a0_2:Int) (a1:Int):Option (Int):=(Y58.f k a0_0 l0_1 a1).bind fun t279=>(if t279<0 then (none) else (some t279))
theorem Y75.mono:∀ a0 a1 a2 a3 k,LeO (Y75.f k a0 a1 a2 a3) (Y75.f (k+1) a0 a1 a2 a3):=by
 intro a0 a1 a2 a3 k
 have m0:=@Y58.mono
 unfold Y75.f
 exact mO
end Go.Proofs.YtelecnmflodkkaaDoor.P

namespace Go.Proofs.YtelecnmflodkkaaDoor.Q
open Go.RowKit Go.Proofs.YtelecnmflodkkaaDoor.P Go.Proofs.YtelecnmflodkkaaDoorW.PrintWords Go.Proofs.YtelecnmflodkkaaDoorW.PrintMore

abbrev Tok:=S77
theorem eqToken_refl (a b:Int):Y73.f a b a b=some true:=by simp [Y73.f]
theorem eqTokenS_l0 (l:List Tok) (hl:l.length≤4611686018427387904):∀ (s:List Tok) (i:Nat),l.drop i=s→i≤l.length →
    Ev (fun k=>Y20.l0 k l l (i:Int)) true
  | [],i,h,hi=>by
    have:=dropNil' h hi
    refine Ev.step (f:=fun _=>some true) (fun k=>?_) (Ev.now _)
    simp only [Y20.l0]
    rw [if_neg (by omega)]
  | m :: s,i,h,hi=>by
    obtain ⟨h1,h2,h3⟩:=dropCons h z77
    refine Ev.step (fun k=>?_) (eqTokenS_l0 l hl s (i+1) h3 (by omega))
    simp only [Y20.l0,eqToken_refl,Option.bind_some]
    rw [if_pos (by omega),if_pos (by omega),if_pos (by omega),if_pos trivial,w64 (by omega) (by omega)]
    rfl
theorem eqTokenS_ev (l:List Tok) (hl:l.length≤4611686018427387904):Ev (fun k=>Y20.f k l l) true:=by
  unfold Y20.f
  exact evPos rfl (eqTokenS_l0 l hl l 0 rfl (by omega))
def tokL:Int→List Tok→List Tok
  | _,[]=>[]
  | n,_ :: r=>⟨n,n+1⟩ :: tokL (n+2) r
theorem markTokenS_l0 (N:Int) (hN:N≤1152921504606846976):∀ (s pre:List Tok) (n:Int),0≤n→n+2*(s.length:Int)≤N→(pre.length:Int)+s.length≤N →
    Ev (fun k=>Y23.l0 k (pre ++ s) n (pre.length:Int)) (n+2*(s.length:Int),pre ++ tokL n s)
  | [],pre,n,h0,h1,h2=>by
    refine Ev.step (f:=fun _=>some (n,pre)) (fun k=>?_) (by simp [tokL];exact Ev.now _)
    simp only [Y23.l0,List.append_nil]
    rw [if_neg (by omega)]
  | m :: s,pre,n,h0,h1,h2=>by
    simp only [List.length_cons] at h1 h2
    have ih:=markTokenS_l0 N hN s (pre ++ [⟨n,n+1⟩]) (n+2) (by omega) (by omega) (by simp;omega)
    simp only [List.length_append,List.length_cons,List.length_nil,List.append_assoc,List.cons_append,List.nil_append] at ih
    refine Ev.step (fun k=>?_) (show Ev _ (n+2*((m :: s).length:Int),pre ++ tokL n (m :: s)) from by
      simp only [tokL,List.length_cons]
      rw [show n+2*((s.length+1:Nat):Int)=n+2+2*(s.length:Int) from by omega]
      exact ih)
    simp only [Y23.l0,Option.bind_some,Int.toNat_natCast,rd_T77,set_mid,getD_mid]
    rw [if_pos (by simp;omega),if_pos (by omega),w64 (x:=n+1) (by omega) (by omega),w64 (x:=n+1+1) (by omega) (by omega),w64 (x:=(pre.length:Int)+1) (by omega) (by omega),show n+1+1=n+2 from by omega]
    rfl
theorem markTokenS_ev (s:List Tok) (n:Int) (h0:0≤n) (h1:n+2*(s.length:Int)≤1152921504606846976):Ev (fun k=>Y23.f k s n) (n+2*(s.length:Int),tokL n s) :=
  markTokenS_l0 1152921504606846976 (Int.le_refl _) s [] n h0 h1 (by simp;omega)
theorem heldTokenS_l0 (N:Int) (hN:N≤1152921504606846976):∀ (s pre:List Tok) (n:Int),0≤n→n+2*(s.length:Int)≤N→(pre.length:Int)+s.length≤N →
    Ev (fun k=>Y26.l0 k (pre ++ tokL n s) n (pre.length:Int)) (n+2*(s.length:Int))
  | [],pre,n,h0,h1,h2=>by
    refine Ev.step (f:=fun _=>some n) (fun k=>?_) (by simp;exact Ev.now _)
    simp only [Y26.l0,tokL,List.append_nil]
    rw [if_neg (by omega)]
  | m :: s,pre,n,h0,h1,h2=>by
    simp only [List.length_cons] at h1 h2
    have ih:=heldTokenS_l0 N hN s (pre ++ [⟨n,n+1⟩]) (n+2) (by omega) (by omega) (by simp;omega)
    simp only [List.length_append,List.length_cons,List.length_nil,List.append_assoc,List.cons_append,List.nil_append] at ih
    refine Ev.step (fun k=>?_) (show Ev _ (n+2*((m :: s).length:Int)) from by
      simp only [List.length_cons]
      rw [show n+2*((s.length+1:Nat):Int)=n+2+2*(s.length:Int) from by omega]
      exact ih)
    have hr:rd_T77 (pre ++ tokL n (m :: s)) (pre.length:Int)=⟨n,n+1⟩:=by simp only [rd_T77,Int.toNat_natCast,tokL,getD_mid]
    simp only [Y26.l0,hr]
    rw [if_pos (by simp [tokL];omega),if_pos (by omega),w64 (x:=n+1) (by omega) (by omega),if_pos trivial,if_pos rfl,w64 (x:=n+1+1) (by omega) (by omega),w64 (x:=(pre.length:Int)+1) (by omega) (by omega),show n+1+1=n+2 from by omega]
    rfl
theorem heldTokenS_ev (s:List Tok) (n:Int) (h0:0≤n) (h1:n+2*(s.length:Int)≤1152921504606846976):Ev (fun k=>Y26.f k (tokL n s) n) (n+2*(s.length:Int)) :=
  heldTokenS_l0 1152921504606846976 (Int.le_refl _) s [] n h0 h1 (by simp;omega)
theorem eqRing_ev (n:Int) (l:List Tok) (hl:l.length≤4611686018427387904):Ev (fun k=>Y68.f k n l n l) true :=
  evPos rfl (Ev.bind (eqTokenS_ev l hl) (evPos rfl (Ev.now _)))
theorem markRing_ev (N:Int) (l:List Tok) (n:Int) (h0:0≤n) (h1:n+2*(l.length:Int)≤1152921504606846976):Ev (fun k=>Y57.f k N l n) (n+2*(l.length:Int),tokL n l) :=
  Ev.bind (markTokenS_ev l n h0 h1) (Ev.now _)
theorem heldRing_ev (N:Int) (l:List Tok) (n:Int) (h0:0≤n) (h1:n+2*(l.length:Int)≤1152921504606846976):Ev (fun k=>Y58.f k N (tokL n l) n) (n+2*(l.length:Int)) :=
  Ev.bind (heldTokenS_ev l n h0 h1) (evNeg (by omega) (Ev.now _))
end Go.Proofs.YtelecnmflodkkaaDoor.Q

namespace Go.Proofs.YtelecnmflodkkaaDoor.P
open Go.RowKit Go.Proofs.YtelecnmflodkkaaDoorW.PrintWords Go.Proofs.YtelecnmflodkkaaDoorW.PrintLast Go.Proofs.YtelecnmflodkkaaDoorW.PrintMore
attribute [local go_sem] max2_int min2_int max_two min_two max_three min_three max_four min_four   -- for this text's walks alone
set_option linter.unusedVariables false
set_option linter.unusedSimpArgs false

/-! ### Y63: function 9 -/
def Y63.j0:Nat→Int→Int→Bool→Option (Int × (List (S77)) × Int)
 | 0,_,_,_=>none
 | k+1,x0,x1,x12=>if x12=true then (some (0,([]:List (S77)),1)) else ((Y10.f k x0 x1).bind fun bt251=>(some (bt251.1,bt251.2,0)))
def Y63.f (k:Nat) (a0:Int) (a1:Int):Option (Int × (List (S77)) × Int):=(Y70.f a0).bind fun t249=>(if t249=true then ((Y31.f a1 1 8).bind fun t250=>(Y63.j0 k a0 a1 (!t250))) else (Y63.j0 k a0 a1 true))
theorem Y63.mono_l:∀ k,(∀ y0 y1 y2,LeO (Y63.j0 k y0 y1 y2) (Y63.j0 (k+1) y0 y1 y2))
 | 0=>by intros <;> exact LeO.none _
 | k+1=>by
  have ih0:=Y63.mono_l k
  have m0:=@Y10.mono
  ·intros
   unfold Y63.j0
   exact mO
theorem Y63.mono:∀ a0 a1 k,LeO (Y63.f k a0 a1) (Y63.f (k+1) a0 a1):=by
 intro a0 a1 k
 have m0:=@Y10.mono
 have ih0:=Y63.mono_l k
 unfold Y63.f
 exact mO

/-! ### Y64: function 8 -/
def Y64.j0:Nat→Int→Int→Bool→Option (Int × (List (S77)) × Int)
 | 0,_,_,_=>none
 | k+1,x0,x1,x12=>if x12=true then (some (0,([]:List (S77)),1)) else ((Y9.f k x0 x1).bind fun bt140=>(some (bt140.1,bt140.2,0)))
def Y64.f (k:Nat) (a0:Int) (a1:Int):Option (Int × (List (S77)) × Int):=(Y65.f a0).bind fun t138=>(if t138=true then ((Y41.f a1 1 8).bind fun t139=>(Y64.j0 k a0 a1 (!t139))) else (Y64.j0 k a0 a1 true))
theorem Y64.mono_l:∀ k,(∀ y0 y1 y2,LeO (Y64.j0 k y0 y1 y2) (Y64.j0 (k+1) y0 y1 y2))
 | 0=>by intros <;> exact LeO.none _
 | k+1=>by
  have ih0:=Y64.mono_l k
  have m0:=@Y9.mono
  ·intros
   unfold Y64.j0
   exact mO
theorem Y64.mono:∀ a0 a1 k,LeO (Y64.f k a0 a1) (Y64.f (k+1) a0 a1):=by
 intro a0 a1 k
 have m0:=@Y9.mono
 have ih0:=Y64.mono_l k
 unfold Y64.f
 exact mO

theorem eqA77 (d:Nat) (w:World) (x0 y0:Int) (x1 y1:Int) :
  (Op.equalIn (d+2) 77 (.agg #[.int .i64 x0,.int .i64 x1]) (.agg #[.int .i64 y0,.int .i64 y1])).run Tryd.prog w = .ok (x0 == y0 && (x1 == y1)) w:=by
 refine eqA_of Tryd.underlying77 (by kernel_rfl) ?_
 refine eqf_cons (by rfl) (by go_simp;rfl) (by go_simp;rfl) (by go_simp) ?_
 exact eqf_last (by rfl) (by go_simp;rfl) (by go_simp;rfl) (by go_simp)

attribute [local go_sem high] eqA77
/-! ### Y40: function 51 -/
mutual
def Y40.j0:Nat→Bool→Int→List (S77)→Option (Bool)
 | 0,_,_,_=>none
 | k+1,x32,x373000,x373001=>if x32=true then (some false) else (if x373000=0 then (none) else ((Y9.f k x373000 (wrap64 ((x373001.length:Int) / x373000))).bind fun bt374=>(Y40.l0 k 0 x373000 x373001 bt374.1 bt374.2)))
def Y40.l0:Nat→Int→Int→List (S77)→Int→List (S77)→Option (Bool)
 | 0,_,_,_,_,_=>none
 | k+1,x4,x373000,x373001,x379000,x379001=>if x4<(x373001.length:Int) then (if 0≤x4 then (if x4<(x379001.length:Int) then (if (!(((rd_T77 x373001 x4).f0) == ((rd_T77 x379001 x4).f0)) || (!(((rd_T77 x373001 x4).f1) == ((rd_T77 x379001 x4).f1))))=true then (some false) else (Y40.l0 k (wrap64 (x4+1)) x373000 x373001 x379000 x379001)) else (none)) else (none)) else (some true)
end
def Y40.f (k:Nat) (a0_0:Int) (l0_1:List (S77)):Option (Bool):=(Y65.f a0_0).bind fun t373=>(if t373=true then (if (l0_1.length:Int)<1 then (Y40.j0 k true a0_0 l0_1) else (if (l0_1.length:Int)>(wrap64 (8*a0_0)) then (Y40.j0 k true a0_0 l0_1) else (if a0_0=0 then (none) else (Y40.j0 k (((l0_1.length:Int) % a0_0) != 0) a0_0 l0_1)))) else (Y40.j0 k true a0_0 l0_1))
theorem Y40.mono_l:∀ k,(∀ y0 y1 y2,LeO (Y40.j0 k y0 y1 y2) (Y40.j0 (k+1) y0 y1 y2))∧(∀ y0 y1 y2 y3 y4,LeO (Y40.l0 k y0 y1 y2 y3 y4) (Y40.l0 (k+1) y0 y1 y2 y3 y4))
 | 0=>by refine ⟨?_,?_⟩ <;> intros <;> exact LeO.none _
 | k+1=>by
  obtain ⟨ih0,ih1⟩:=Y40.mono_l k
  have m0:=@Y9.mono
  refine ⟨?_,?_⟩
  ·intros
   unfold Y40.j0
   exact mO
  ·intros
   unfold Y40.l0
   exact mO
theorem Y40.mono:∀ a0 a1 k,LeO (Y40.f k a0 a1) (Y40.f (k+1) a0 a1):=by
 intro a0 a1 k
 have m0:=@Y9.mono
 obtain ⟨ih0,ih1⟩:=Y40.mono_l k
 unfold Y40.f
 exact mO

attribute [local go_sem high] eqA77
/-! ### Y13: function 82 -/
def Y13.l0:Nat→List (S77)→List (S77)→Int→Int→Option (Bool)
 | 0,_,_,_,_=>none
 | k+1,x0,x1,x12,x13=>if x13<x12 then (if 0≤x13 then (if x13<(x0.length:Int) then (if x13<(x1.length:Int) then (if (!(((rd_T77 x0 x13).f0) == ((rd_T77 x1 x13).f0)) || (!(((rd_T77 x0 x13).f1) == ((rd_T77 x1 x13).f1))))=true then (some false) else (Y13.l0 k x0 x1 x12 (wrap64 (x13+1)))) else (none)) else (none)) else (none)) else (some true)
def Y13.f (k:Nat) (l0:List (S77)) (l1:List (S77)):Option (Bool):=if (l0.length:Int)=(l1.length:Int) then (Y13.l0 k l0 l1 (l0.length:Int) 0) else (some false)
theorem Y13.mono_l:∀ k,(∀ y0 y1 y2 y3,LeO (Y13.l0 k y0 y1 y2 y3) (Y13.l0 (k+1) y0 y1 y2 y3))
 | 0=>by intros <;> exact LeO.none _
 | k+1=>by
  have ih0:=Y13.mono_l k
  ·intros
   unfold Y13.l0
   exact mO
theorem Y13.mono:∀ a0 a1 k,LeO (Y13.f k a0 a1) (Y13.f (k+1) a0 a1):=by
 intro a0 a1 k
 have ih0:=Y13.mono_l k
 unfold Y13.f
 exact mO

/-! ### Y52: function 47 -/
def Y52.f (k:Nat) (a0_0:Int) (l0_1:List (S77)):Option (Bool):=(Y70.f a0_0).bind fun t358=>(if t358=true then (if a0_0=0 then (none) else ((Y31.f (wrap64 ((l0_1.length:Int) / a0_0)) 1 8).bind fun t359=>(if t359=true then ((Y10.f k a0_0 (wrap64 ((l0_1.length:Int) / a0_0))).bind fun bt360=>((Y13.f k l0_1 bt360.2).bind fun t364=>(some t364))) else (some false)))) else (some false))
theorem Y52.mono:∀ a0 a1 k,LeO (Y52.f k a0 a1) (Y52.f (k+1) a0 a1):=by
 intro a0 a1 k
 have m0:=@Y10.mono
 have m1:=@Y13.mono
 unfold Y52.f
 exact mO
abbrev Y52.q0:Array Bool:=#[O,O,O,O,O,O,O,O,O,O,O,O,O]
abbrev Y52.q1:Array Bool:=#[I,O,O,O,O,O,O,O,O,O,O,O,O]
abbrev Y52.q2:Array Bool:=#[I,I,O,O,O,O,O,O,O,O,O,O,O]
abbrev Y52.q3:Array Bool:=#[I,I,I,O,O,O,O,O,O,O,O,O,O]
abbrev Y52.q4:Array Bool:=#[I,I,I,I,O,O,O,O,O,O,O,O,O]
abbrev Y52.q5:Array Bool:=#[I,I,I,I,I,I,I,I,O,O,O,O,O]
abbrev Y52.q6:Array Bool:=#[I,I,I,I,I,I,I,I,I,O,O,O,O]
abbrev Y52.q8:Array Bool:=#[I,I,I,I,I,I,I,I,I,I,I,O,O]
abbrev Y52.q9:Array Bool:=#[I,I,I,I,I,I,I,I,I,I,I,I,O]
abbrev Y52.q10:Array Bool:=#[I,I,I,I,I,I,I,I,I,I,I,I,I]

/-! ### Y79: function 14 -/
def Y79.f (k:Nat) (a0_0:Int) (l0_1:List (S77)):Option (Int × (List (S77)) × Int):=(Y52.f k a0_0 l0_1).bind fun t367=>(if t367=true then (if a0_0=5 then (some (0,([]:List (S77)),9)) else (if a0_0=0 then (none) else ((Y10.f k (wrap64 (a0_0+1)) (wrap64 ((l0_1.length:Int) / a0_0))).bind fun bt368=>(some (bt368.1,bt368.2,0))))) else (some (0,([]:List (S77)),1)))
theorem Y79.mono:∀ a0 a1 k,LeO (Y79.f k a0 a1) (Y79.f (k+1) a0 a1):=by
 intro a0 a1 k
 have m0:=@Y52.mono
 have m1:=@Y10.mono
 unfold Y79.f
 exact mO

/-! ### Y80: function 17 -/
def Y80.f (k:Nat) (a0_0:Int) (l0_1:List (S77)):Option (Int × (List (S77)) × Int):=(Y40.f k a0_0 l0_1).bind fun t383=>(if t383=true then (if a0_0≥5 then (some (0,([]:List (S77)),9)) else (if a0_0=0 then (none) else ((Y9.f k (wrap64 (a0_0+1)) (wrap64 ((l0_1.length:Int) / a0_0))).bind fun bt384=>(some (bt384.1,bt384.2,0))))) else (some (0,([]:List (S77)),1)))
theorem Y80.mono:∀ a0 a1 k,LeO (Y80.f k a0 a1) (Y80.f (k+1) a0 a1):=by
 intro a0 a1 k
 have m0:=@Y40.mono
 have m1:=@Y9.mono
 unfold Y80.f
 exact mO
end Go.Proofs.YtelecnmflodkkaaDoor.P

namespace Go.Proofs.YtelecnmflodkkaaDoor.Q
open Go.RowKit Go.Proofs.YtelecnmflodkkaaDoor.P Go.Proofs.YtelecnmflodkkaaDoorW.PrintWords Go.Proofs.YtelecnmflodkkaaDoorW.PrintMore

theorem evMono {α:Type} {g:Nat→Option α} {r:α} (hm:∀ k,LeO (g k) (g (k+1))) (K:Nat) (h:g K=some r):Ev g r:=⟨K,fun k hk=>by
  obtain ⟨d,rfl⟩:=Nat.exists_eq_add_of_le hk
  induction d with
  | zero=>exact h
  | succ d ih=>exact hm _ _ (ih (by omega))⟩
def eqToks:List Tok→List Tok→Bool
  | [],[]=>true
  | x :: a,y :: b=>(x.f0 == y.f0 && x.f1 == y.f1) && eqToks a b
  | _,_=>false
theorem eqToks_eq:∀ a b:List Tok,eqToks a b=true→a=b
  | [],[],_=>rfl
  | x :: a,y :: b,h=>by
    simp only [eqToks,Bool.and_eq_true,beq_iff_eq] at h
    obtain ⟨⟨h1,h2⟩,h3⟩:=h
    obtain ⟨x0,x1⟩:=x
    obtain ⟨y0,y1⟩:=y
    simp only at h1 h2
    rw [h1,h2,eqToks_eq a b h3]
  | [],_ :: _,h=>by simp [eqToks] at h
  | _ :: _,[],h=>by simp [eqToks] at h
def ringRounds:Nat:=3000
def ringT (n e:Int):List Tok:=match Y9.f ringRounds n e with
  | some x=>x.2
  | none=>[]
def ringTest (n e:Nat):Bool:=match Y10.f ringRounds (n:Int) (e:Int),Y9.f ringRounds (n:Int) (e:Int) with
  | some x,some y=>x.1 == (n:Int) && (y.1 == (n:Int) && (eqToks x.2 y.2 && y.2.length == n*e))
  | _,_=>false
set_option maxRecDepth 1000000 in
theorem ring_all:(List.range 40).all (fun j=>ringTest (j / 8+1) (j % 8+1))=true:=by kernel_rfl
theorem ring_is {n e:Int} (hn:isNode n=true) (he:isWithin e 1 8=true) :
    Ev (fun k=>Y10.f k n e) (n,ringT n e)∧Ev (fun k=>Y9.f k n e) (n,ringT n e)∧((ringT n e).length:Int)=n*e:=by
  rw [isNode_iff] at hn
  simp only [isWithin,Bool.and_eq_true,decide_eq_true_eq] at he
  obtain ⟨n,rfl⟩:=Int.eq_ofNat_of_zero_le (show 0≤n by omega)
  obtain ⟨e,rfl⟩:=Int.eq_ofNat_of_zero_le (show 0≤e by omega)
  have h:=List.all_eq_true.1 ring_all ((n-1)*8+(e-1)) (List.mem_range.2 (by omega))
  rw [show ((n-1)*8+(e-1)) / 8+1=n by omega,show ((n-1)*8+(e-1)) % 8+1=e by omega] at h
  unfold ringTest at h
  split at h
  · rename_i x y hx hy
    simp only [Bool.and_eq_true,beq_iff_eq] at h
    obtain ⟨h1,h2,h3,h4⟩:=h
    have h5:=eqToks_eq _ _ h3
    have ht:ringT (n:Int) (e:Int)=y.2:=by unfold ringT;rw [hy]
    obtain ⟨x1,x2⟩:=x
    obtain ⟨y1,y2⟩:=y
    simp only at h1 h2 h4 h5 ht
    clear h3
    subst h1
    subst h2
    subst h5
    rw [ht]
    refine ⟨evMono (fun k=>Y10.mono _ _ k) ringRounds hx,evMono (fun k=>Y9.mono _ _ k) ringRounds hy,?_⟩
    rw [h4]
    simp
  · cases h
theorem ringT_length {n e:Int} (hn:isNode n=true) (he:isWithin e 1 8=true):(ringT n e).length≤40:=by
  have h:=(ring_is hn he).2.2
  rw [isNode_iff] at hn
  simp only [isWithin,Bool.and_eq_true,decide_eq_true_eq] at he
  have h1:n*e≤5*8:=by
    have a:=Int.mul_le_mul_of_nonneg_right (show n≤5 by omega) (show 0≤e by omega)
    have b:=Int.mul_le_mul_of_nonneg_left (show e≤8 by omega) (show (0:Int)≤5 by omega)
    omega
  omega
end Go.Proofs.YtelecnmflodkkaaDoor.Q

namespace Go.Proofs.YtelecnmflodkkaaDoor.P
open Go.RowKit Go.Proofs.YtelecnmflodkkaaDoorW.PrintWords Go.Proofs.YtelecnmflodkkaaDoorW.PrintLast Go.Proofs.YtelecnmflodkkaaDoorW.PrintMore
attribute [local go_sem] max2_int min2_int max_two min_two max_three min_three max_four min_four   -- for this text's walks alone
set_option linter.unusedVariables false
set_option linter.unusedSimpArgs false

/-! ### Y59: function 31 -/
def Y59.l0:Nat→List Int→List Int→Int→Option (List Int)
 | 0,_,_,_=>none
 | k+1,x0,x3,x4=>if x4<(x0.length:Int) then (if 0≤x4 then (if x4<(x3.length:Int) then (Y59.l0 k x0 (x3.set (x4:Int).toNat (rd x0 x4)) (wrap64 (x4+1))) else (none)) else (none)) else (some x3)
def Y59.f (k:Nat) (l0:List Int):Option (List Int):=if 0≤(l0.length:Int) then (if ((l0.length:Int):Int).toNat≤35184372088832 then (Y59.l0 k l0 (List.replicate ((l0.length:Int):Int).toNat 0) 0) else (none)) else (none)
theorem Y59.mono_l:∀ k,(∀ y0 y1 y2,LeO (Y59.l0 k y0 y1 y2) (Y59.l0 (k+1) y0 y1 y2))
 | 0=>by intros <;> exact LeO.none _
 | k+1=>by
  have ih0:=Y59.mono_l k
  ·intros
   unfold Y59.l0
   exact mO
theorem Y59.mono:∀ a0 k,LeO (Y59.f k a0) (Y59.f (k+1) a0):=by
 intro a0 k
 have ih0:=Y59.mono_l k
 unfold Y59.f
 exact mO
end Go.Proofs.YtelecnmflodkkaaDoor.P

namespace Go.Proofs.YtelecnmflodkkaaDoor.Q
open Go.RowKit Go.Proofs.YtelecnmflodkkaaDoor.P Go.Proofs.YtelecnmflodkkaaDoorW.PrintWords Go.Proofs.YtelecnmflodkkaaDoorW.PrintMore

theorem eqInt64S_l0 (l:List Int) (hl:l.length≤4611686018427387904):∀ (s:List Int) (i:Nat),l.drop i=s→i≤l.length →
    Ev (fun k=>Y25.l0 k l l (i:Int)) true
  | [],i,h,hi=>by
    have:=dropNil' h hi
    refine Ev.step (f:=fun _=>some true) (fun k=>?_) (Ev.now _)
    simp only [Y25.l0]
    rw [if_neg (by omega)]
  | m :: s,i,h,hi=>by
    obtain ⟨h1,h2,h3⟩:=dropCons h 0
    refine Ev.step (fun k=>?_) (eqInt64S_l0 l hl s (i+1) h3 (by omega))
    simp only [Y25.l0]
    rw [if_pos (by omega),if_pos (by omega),if_pos (by omega),if_pos trivial,w64 (by omega) (by omega)]
    rfl
theorem eqInt64S_ev (l:List Int) (hl:l.length≤4611686018427387904):Ev (fun k=>Y25.f k l l) true:=by
  unfold Y25.f
  exact evPos rfl (eqInt64S_l0 l hl l 0 rfl (by omega))
theorem getDi_mid (pre:List Int) (m:Int) (s:List Int):(pre ++ m :: s).getD pre.length 0=m:=by
  rw [List.getD_eq_getElem?_getD,List.getElem?_append_right (Nat.le_refl _),Nat.sub_self];rfl
theorem seti_mid (pre:List Int) (m x:Int) (s:List Int):(pre ++ m :: s).set pre.length x=pre ++ x :: s:=by
  rw [List.set_append_right _ _ (Nat.le_refl _),Nat.sub_self];rfl
def markI:Int→List Int→List Int
  | _,[]=>[]
  | n,_ :: r=>n :: markI (n+1) r
theorem markInt64S_l0 (N:Int) (hN:N≤1152921504606846976):∀ (s pre:List Int) (n:Int),0≤n→n+(s.length:Int)≤N→(pre.length:Int)+s.length≤N →
    Ev (fun k=>Y22.l0 k (pre ++ s) n (pre.length:Int)) (n+(s.length:Int),pre ++ markI n s)
  | [],pre,n,h0,h1,h2=>by
    refine Ev.step (f:=fun _=>some (n,pre)) (fun k=>?_) (by simp [markI];exact Ev.now _)
    simp only [Y22.l0,List.append_nil]
    rw [if_neg (by omega)]
  | m :: s,pre,n,h0,h1,h2=>by
    simp only [List.length_cons] at h1 h2
    have ih:=markInt64S_l0 N hN s (pre ++ [n]) (n+1) (by omega) (by omega) (by simp;omega)
    simp only [List.length_append,List.length_cons,List.length_nil,List.append_assoc,List.cons_append,List.nil_append] at ih
    refine Ev.step (fun k=>?_) (show Ev _ (n+((m :: s).length:Int),pre ++ markI n (m :: s)) from by
      simp only [markI,List.length_cons]
      rw [show n+((s.length+1:Nat):Int)=n+1+(s.length:Int) from by omega]
      exact ih)
    simp only [Y22.l0,Int.toNat_natCast,seti_mid]
    rw [if_pos (by simp;omega),if_pos (by omega),w64 (x:=n+1) (by omega) (by omega),w64 (x:=(pre.length:Int)+1) (by omega) (by omega)]
    rfl
theorem markInt64S_ev (s:List Int) (n:Int) (h0:0≤n) (h1:n+(s.length:Int)≤1152921504606846976):Ev (fun k=>Y22.f k s n) (n+(s.length:Int),markI n s) :=
  markInt64S_l0 1152921504606846976 (Int.le_refl _) s [] n h0 h1 (by simp;omega)
theorem heldInt64S_l0 (N:Int) (hN:N≤1152921504606846976):∀ (s pre:List Int) (n:Int),0≤n→n+(s.length:Int)≤N→(pre.length:Int)+s.length≤N →
    Ev (fun k=>Y24.l0 k (pre ++ markI n s) n (pre.length:Int)) (n+(s.length:Int))
  | [],pre,n,h0,h1,h2=>by
    refine Ev.step (f:=fun _=>some n) (fun k=>?_) (by simp;exact Ev.now _)
    simp only [Y24.l0,markI,List.append_nil]
    rw [if_neg (by omega)]
  | m :: s,pre,n,h0,h1,h2=>by
    simp only [List.length_cons] at h1 h2
    have ih:=heldInt64S_l0 N hN s (pre ++ [n]) (n+1) (by omega) (by omega) (by simp;omega)
    simp only [List.length_append,List.length_cons,List.length_nil,List.append_assoc,List.cons_append,List.nil_append] at ih
    refine Ev.step (fun k=>?_) (show Ev _ (n+((m :: s).length:Int)) from by
      simp only [List.length_cons]
      rw [show n+((s.length+1:Nat):Int)=n+1+(s.length:Int) from by omega]
      exact ih)
    have hr:rd (pre ++ markI n (m :: s)) (pre.length:Int)=n:=by simp only [rd,Int.toNat_natCast,markI,getDi_mid]
    simp only [Y24.l0,hr]
    rw [if_pos (by simp [markI];omega),if_pos (by omega),if_pos trivial,w64 (x:=n+1) (by omega) (by omega),w64 (x:=(pre.length:Int)+1) (by omega) (by omega)]
    rfl
theorem heldInt64S_ev (s:List Int) (n:Int) (h0:0≤n) (h1:n+(s.length:Int)≤1152921504606846976):Ev (fun k=>Y24.f k (markI n s) n) (n+(s.length:Int)) :=
  heldInt64S_l0 1152921504606846976 (Int.le_refl _) s [] n h0 h1 (by simp;omega)
end Go.Proofs.YtelecnmflodkkaaDoor.Q

namespace Go.Proofs.YtelecnmflodkkaaDoor.Q
open Go.RowKit Go.Proofs.YtelecnmflodkkaaDoor.P Go.Proofs.YtelecnmflodkkaaDoorW.PrintWords Go.Proofs.YtelecnmflodkkaaDoorW.PrintMore

theorem mText_l0:∀ (m:Nat) (n:Int),n.toNat≤m→0≤n→∀ t:ByteArray,(t.size:Int)+n+1≤9223372036854775807→∃ r,Ev (fun k=>Y17.l0 k n t) r
  | 0,n,hm,h0,t,ht=>by
    refine ⟨(⟨#[109]⟩:ByteArray) ++ t,Ev.step (f:=fun _=>some ((⟨#[109]⟩:ByteArray) ++ t)) (fun k=>?_) (Ev.now _)⟩
    simp only [Y17.l0]
    rw [if_neg (by omega),if_pos (by omega)]
  | m+1,n,hm,h0,t,ht=>by
    by_cases hn:n>0
    · have hs:(strOfNums [(wrap64 (48+(Int.tmod n 10))) % 256]).size=1:=rfl
      have e:Int.tdiv n 10=n / 10:=Int.tdiv_eq_ediv_of_nonneg h0
      obtain ⟨r,hr⟩:=mText_l0 m (n / 10) (by omega) (by omega) (strOfNums [(wrap64 (48+(Int.tmod n 10))) % 256] ++ t) (by rw [ByteArray.size_append,hs];omega)
      refine ⟨r,Ev.step (fun k=>?_) hr⟩
      simp only [Y17.l0,Option.bind_some]
      rw [if_pos hn,if_pos (by rw [hs];omega),e,w64 (x:=n / 10) (by omega) (by omega)]
    · refine ⟨(⟨#[109]⟩:ByteArray) ++ t,Ev.step (f:=fun _=>some ((⟨#[109]⟩:ByteArray) ++ t)) (fun k=>?_) (Ev.now _)⟩
      simp only [Y17.l0]
      rw [if_neg hn,if_pos (by omega)]
theorem mText_is (n:Int) (h1:n≤1152921504606846976):∃ r,Ev (fun k=>Y17.f k n) r:=by
  unfold Y17.f
  by_cases h:n≤0
  · exact ⟨_,evPos h (Ev.now _)⟩
  · obtain ⟨r,hr⟩:=mText_l0 n.toNat n (by omega) (by omega) ⟨#[]⟩ (by show (0:Int)+n+1≤_;omega)
    exact ⟨r,evNeg h hr⟩
open Classical in
noncomputable def mT (n:Int):ByteArray:=if h:∃ r,Ev (fun k=>Y17.f k n) r then h.choose else ⟨#[]⟩
theorem mT_ev (n:Int) (h1:n≤1152921504606846976):Ev (fun k=>Y17.f k n) (mT n):=by
  have h:=mText_is n h1
  unfold mT
  rw [dif_pos h]
  exact h.choose_spec
end Go.Proofs.YtelecnmflodkkaaDoor.Q

namespace Go.Proofs.YtelecnmflodkkaaDoor.Q
open Go.RowKit Go.Proofs.YtelecnmflodkkaaDoor.P Go.Proofs.YtelecnmflodkkaaDoorW.PrintWords Go.Proofs.YtelecnmflodkkaaDoorW.PrintMore

abbrev Sto:=S95
def bare (l:List Sto):Prop:=∀ x ∈ l,x.f1=0
def stores:Int→Nat→List Sto
  | _,0=>[]
  | i,d+1=>⟨i,0,⟨#[]⟩,0⟩ :: stores (i+1) d
theorem stores_bare:∀ (d:Nat) (i:Int),bare (stores i d)
  | 0,_,x,h=>by cases h
  | d+1,i,x,h=>by
    rcases List.mem_cons.1 h with rfl | h
    · rfl
    · exact stores_bare d (i+1) x h
theorem stores_length:∀ (d:Nat) (i:Int),(stores i d).length=d
  | 0,_=>rfl
  | d+1,i=>by simp only [stores,List.length_cons,stores_length d (i+1)]
theorem implCl_l0 (n R:Int) (L:List Tok) (a b c:Int) (hn:n≤5):∀ (d:Nat) (i:Int) (acc:List Sto),i+d=n+1→1≤i→(acc.length:Int)<i →
    Ev (fun k=>Y6.l0 k n i R L acc a b c) (R,L,acc ++ stores i d,[],a,b,c,0,0,0)
  | 0,i,acc,h,h1,h2=>by
    refine Ev.step (f:=fun _=>some (R,L,acc,[],a,b,c,0,0,0)) (fun k=>?_) (by simp only [stores,List.append_nil];exact Ev.now _)
    simp only [Y6.l0]
    rw [if_neg (by omega)]
  | d+1,i,acc,h,h1,h2=>by
    have ih:=implCl_l0 n R L a b c hn d (i+1) (acc ++ [⟨i,0,⟨#[]⟩,0⟩]) (by omega) (by omega) (by simp;omega)
    rw [List.append_assoc,List.singleton_append] at ih
    refine Ev.step (fun k=>?_) ih
    simp only [Y6.l0]
    rw [if_pos (by omega),if_pos (by omega),w64 (by omega) (by omega)]
theorem specCl_l0 (n R:Int) (L:List Tok) (a b c:Int) (hn:n≤5):∀ (d:Nat) (i:Int) (acc:List Sto),i+d=n+1→1≤i→(acc.length:Int)<i →
    Ev (fun k=>Y8.l0 k n i R L acc a b c) (R,L,acc ++ stores i d,[],a,b,c,0,0,0)
  | 0,i,acc,h,h1,h2=>by
    refine Ev.step (f:=fun _=>some (R,L,acc,[],a,b,c,0,0,0)) (fun k=>?_) (by simp only [stores,List.append_nil];exact Ev.now _)
    simp only [Y8.l0]
    rw [if_neg (by omega)]
  | d+1,i,acc,h,h1,h2=>by
    have ih:=specCl_l0 n R L a b c hn d (i+1) (acc ++ [⟨i,0,⟨#[]⟩,0⟩]) (by omega) (by omega) (by simp;omega)
    rw [List.append_assoc,List.singleton_append] at ih
    refine Ev.step (fun k=>?_) ih
    simp only [Y8.l0]
    rw [if_pos (by omega),if_pos (by omega),w64 (by omega) (by omega)]
def clOk (n a b c:Int):Bool:=isNode n && (isWithin a 1 n && (isWithin b 1 a && isWithin c 1 a))
def clRing (n a b c:Int):Int:=if clOk n a b c=true then n else 0
def clToks (n a b c:Int):List Tok:=if clOk n a b c=true then ringT n 4 else []
def clStores (n a b c:Int):List Sto:=if clOk n a b c=true then stores 1 n.toNat else []
def clA (n a b c:Int):Int:=if clOk n a b c=true then a else 0
def clB (n a b c:Int):Int:=if clOk n a b c=true then b else 0
def clC (n a b c:Int):Int:=if clOk n a b c=true then c else 0
def clCode (n a b c:Int):Int:=if clOk n a b c=true then 0 else 1
theorem cl_small (n a b c:Int):(clToks n a b c).length≤40∧(clStores n a b c).length≤5∧bare (clStores n a b c):=by
  unfold clToks clStores
  cases h:clOk n a b c with
  | false=>exact ⟨by simp,by simp,fun x h=>by cases h⟩
  | true =>
    simp only [clOk,Bool.and_eq_true] at h
    have h1:=(isNode_iff n).1 h.1
    rw [if_pos rfl,if_pos rfl,stores_length]
    exact ⟨ringT_length h.1 (by decide),by omega,stores_bare _ _⟩
theorem impl_ClusterNew_ev (n a b c:Int):Ev (fun k=>Y6.f k n a b c) (clRing n a b c,clToks n a b c,clStores n a b c,[],clA n a b c,clB n a b c,clC n a b c,0,0,clCode n a b c):=by
  unfold Y6.f clRing clToks clStores clA clB clC clCode clOk
  have jT:Ev (fun k=>Y6.j0 k n a b c true) (0,[],[],[],0,0,0,0,0,1):=Ev.step (f:=fun _=>some (0,[],[],[],0,0,0,0,0,1)) (fun k=>by simp [Y6.j0]) (Ev.now _)
  refine evBind1 (isNode_is _) ?_
  cases hn:isNode n with
  | false=>exact evNeg (by simp) jT
  | true =>
    have hn':=(isNode_iff n).1 hn
    refine evPos rfl (evBind1 (within_is _ _ _) ?_)
    cases h1:isWithin a 1 n with
    | false=>exact evNeg (by simp) jT
    | true =>
      refine evPos rfl (evBind1 (within_is _ _ _) ?_)
      cases h2:isWithin b 1 a with
      | false=>exact evNeg (by simp) jT
      | true =>
        refine evPos rfl (evBind1 (within_is _ _ _) ?_)
        cases h3:isWithin c 1 a with
        | false=>exact jT
        | true =>
          refine Ev.step (fun k=>by simp only [Y6.j0];rw [if_neg (by simp)]) (Ev.bind (ring_is hn (show isWithin 4 1 8=true by decide)).1 ?_)
          have:=implCl_l0 n n (ringT n 4) a b c (by omega) n.toNat 1 [] (by omega) (by omega) (by simp)
          rw [List.nil_append] at this
          exact this
theorem spec_ClusterNew_ev (n a b c:Int):Ev (fun k=>Y8.f k n a b c) (clRing n a b c,clToks n a b c,clStores n a b c,[],clA n a b c,clB n a b c,clC n a b c,0,0,clCode n a b c):=by
  unfold Y8.f clRing clToks clStores clA clB clC clCode clOk
  have jT:Ev (fun k=>Y8.j0 k n a b c true) (0,[],[],[],0,0,0,0,0,1):=Ev.step (f:=fun _=>some (0,[],[],[],0,0,0,0,0,1)) (fun k=>by simp [Y8.j0,Y77.f]) (Ev.now _)
  refine evBind1 (l02Node_is _) ?_
  cases hn:isNode n with
  | false=>exact evNeg (by simp) jT
  | true =>
    have hn':=(isNode_iff n).1 hn
    refine evPos rfl (evBind1 (l02Is_is _ _ _) ?_)
    cases h1:isWithin a 1 n with
    | false=>exact evNeg (by simp) jT
    | true =>
      refine evPos rfl (evBind1 (l02Is_is _ _ _) ?_)
      cases h2:isWithin b 1 a with
      | false=>exact evNeg (by simp) jT
      | true =>
        refine evPos rfl (evBind1 (l02Is_is _ _ _) ?_)
        cases h3:isWithin c 1 a with
        | false=>exact jT
        | true =>
          refine Ev.step (fun k=>by simp only [Y8.j0];rw [if_neg (by simp)]) (Ev.bind (ring_is hn (show isWithin 4 1 8=true by decide)).2.1 ?_)
          have:=specCl_l0 n n (ringT n 4) a b c (by omega) n.toNat 1 [] (by omega) (by omega) (by simp)
          rw [List.nil_append] at this
          exact this
theorem eqItemS_nil:Ev (fun k=>Y42.f k 0 0) true:=by
  unfold Y42.f
  exact evPos rfl (Ev.step (f:=fun _=>some true) (fun k=>by simp [Y42.l0]) (Ev.now _))
theorem markItemS_nil (n:Int):Ev (fun k=>Y28.f k 0 n) n :=
  Ev.step (f:=fun _=>some n) (fun k=>by simp [Y28.f,Y28.l0]) (Ev.now _)
theorem heldItemS_nil (n:Int):Ev (fun k=>Y29.f k 0 n) n :=
  Ev.step (f:=fun _=>some n) (fun k=>by simp [Y29.f,Y29.l0]) (Ev.now _)
theorem eqMarkS_nil:Ev (fun k=>Y43.f k 0 0) true:=by
  unfold Y43.f
  exact evPos rfl (Ev.step (f:=fun _=>some true) (fun k=>by simp [Y43.l0]) (Ev.now _))
theorem markMarkS_nil (n:Int):Ev (fun k=>Y33.f k 0 n) n :=
  Ev.step (f:=fun _=>some n) (fun k=>by simp [Y33.f,Y33.l0]) (Ev.now _)
theorem heldMarkS_nil (n:Int):Ev (fun k=>Y34.f k 0 n) n :=
  Ev.step (f:=fun _=>some n) (fun k=>by simp [Y34.f,Y34.l0]) (Ev.now _)
theorem eqSibS_nil:Ev (fun k=>Y46.f k 0 0) true:=by
  unfold Y46.f
  exact evPos rfl (Ev.step (f:=fun _=>some true) (fun k=>by simp [Y46.l0]) (Ev.now _))
theorem markSibS_nil (n:Int):Ev (fun k=>Y37.f k 0 n) n :=
  Ev.step (f:=fun _=>some n) (fun k=>by simp [Y37.f,Y37.l0]) (Ev.now _)
theorem heldSibS_nil (n:Int):Ev (fun k=>Y38.f k 0 n) n :=
  Ev.step (f:=fun _=>some n) (fun k=>by simp [Y38.f,Y38.l0]) (Ev.now _)
theorem eqStore_ev (x:Sto) (h:x.f1=0):Ev (fun k=>Y69.f k x.f0 x.f1 x.f2 x.f3 x.f0 x.f1 x.f2 x.f3) true:=by
  rw [h]
  exact evPos rfl (Ev.bind eqItemS_nil (evPos rfl (evPos rfl (evPos rfl (Ev.now _)))))
theorem eqStoreS_l0 (l:List Sto) (hl:l.length≤4611686018427387904) (hb:bare l):∀ (s:List Sto) (i:Nat),l.drop i=s→i≤l.length→Ev (fun k=>Y16.l0 k l l (i:Int)) true
  | [],i,h,hi=>by
    have:=dropNil' h hi
    refine Ev.step (f:=fun _=>some true) (fun k=>?_) (Ev.now _)
    simp only [Y16.l0]
    rw [if_neg (by omega)]
  | m :: s,i,h,hi=>by
    obtain ⟨h1,h2,h3⟩:=dropCons h z95
    have hr:rd_T95 l (i:Int)=m:=by simpa [rd_T95] using h2
    have hm:m ∈ l:=by rw [← List.take_append_drop i l,h];simp
    refine Ev.step (fun k=>by simp only [Y16.l0,hr];rw [if_pos (by omega),if_pos (by omega),if_pos (by omega)]) (Ev.bind (eqStore_ev m (hb m hm)) (evPos rfl ?_))
    rw [w64 (by omega) (by omega)]
    exact eqStoreS_l0 l hl hb s (i+1) h3 (by omega)
theorem eqStoreS_ev (l:List Sto) (hl:l.length≤4611686018427387904) (hb:bare l):Ev (fun k=>Y16.f k l l) true:=by
  unfold Y16.f
  exact evPos rfl (eqStoreS_l0 l hl hb l 0 rfl (by omega))
noncomputable def stoL:Int→List Sto→List Sto
  | _,[]=>[]
  | n,_ :: r=>⟨n,0,mT (n+1),n+2⟩ :: stoL (n+3) r
theorem markStoreS_l0 (N:Int) (hN:N≤1152921504606846976):∀ (s pre:List Sto) (n:Int),0≤n→n+3*(s.length:Int)≤N→(pre.length:Int)+s.length≤N→bare s →
    Ev (fun k=>Y19.l0 k (pre ++ s) n (pre.length:Int)) (n+3*(s.length:Int),pre ++ stoL n s)
  | [],pre,n,h0,h1,h2,_=>by
    refine Ev.step (f:=fun _=>some (n,pre)) (fun k=>?_) (by simp [stoL];exact Ev.now _)
    simp only [Y19.l0,List.append_nil]
    rw [if_neg (by omega)]
  | m :: s,pre,n,h0,h1,h2,hb=>by
    simp only [List.length_cons] at h1 h2
    have hm:m.f1=0:=hb m (by simp)
    have ih:=markStoreS_l0 N hN s (pre ++ [⟨n,0,mT (n+1),n+2⟩]) (n+3) (by omega) (by omega) (by simp;omega) (fun x hx=>hb x (List.mem_cons_of_mem _ hx))
    simp only [List.length_append,List.length_cons,List.length_nil,List.append_assoc,List.cons_append,List.nil_append] at ih
    refine Ev.step (f:=fun k=>(Y28.f k m.f1 (wrap64 (n+1))).bind fun t=>(Y17.f k t).bind fun u=>Y19.l0 k (pre ++ ⟨n,m.f1,u,wrap64 (t+1)⟩ :: s) (wrap64 (wrap64 (t+1)+1)) (wrap64 ((pre.length:Int)+1))) (fun k=>?_) ?_
    · simp only [Y19.l0,Option.bind_some,Int.toNat_natCast,rd_T95,set_mid,getD_mid]
      rw [if_pos (by simp;omega),if_pos (by omega)]
    · rw [hm,w64 (x:=n+1) (by omega) (by omega)]
      refine Ev.bind (markItemS_nil (n+1)) (Ev.bind (mT_ev (n+1) (by omega)) ?_)
      rw [w64 (x:=n+1+1) (by omega) (by omega),w64 (x:=n+1+1+1) (by omega) (by omega),w64 (x:=(pre.length:Int)+1) (by omega) (by omega),show n+1+1=n+2 from by omega,show n+2+1=n+3 from by omega]
      simp only [stoL,List.length_cons]
      rw [show n+3*((s.length+1:Nat):Int)=n+3+3*(s.length:Int) from by omega]
      exact ih
theorem markStoreS_ev (s:List Sto) (n:Int) (h0:0≤n) (h1:n+3*(s.length:Int)≤1152921504606846976) (hb:bare s):Ev (fun k=>Y19.f k s n) (n+3*(s.length:Int),stoL n s) :=
  markStoreS_l0 1152921504606846976 (Int.le_refl _) s [] n h0 h1 (by simp;omega) hb
theorem heldStoreS_l0 (N:Int) (hN:N≤1152921504606846976):∀ (s pre:List Sto) (n:Int),0≤n→n+3*(s.length:Int)≤N→(pre.length:Int)+s.length≤N →
    Ev (fun k=>Y11.l0 k (pre ++ stoL n s) n (pre.length:Int)) (n+3*(s.length:Int))
  | [],pre,n,h0,h1,h2=>by
    refine Ev.step (f:=fun _=>some n) (fun k=>?_) (by simp;exact Ev.now _)
    simp only [Y11.l0,stoL,List.append_nil]
    rw [if_neg (by omega)]
  | m :: s,pre,n,h0,h1,h2=>by
    simp only [List.length_cons] at h1 h2
    have ih:=heldStoreS_l0 N hN s (pre ++ [⟨n,0,mT (n+1),n+2⟩]) (n+3) (by omega) (by omega) (by simp;omega)
    simp only [List.length_append,List.length_cons,List.length_nil,List.append_assoc,List.cons_append,List.nil_append] at ih
    simp only [stoL]
    refine Ev.step (f:=fun k=>(Y29.f k 0 (wrap64 (n+1))).bind fun t=>if t<0 then none else (Y17.f k t).bind fun u=>if (mT (n+1)).toList=u.toList then (if n+2=wrap64 (t+1) then Y11.l0 k (pre ++ ⟨n,0,mT (n+1),n+2⟩ :: stoL (n+3) s) (wrap64 (wrap64 (t+1)+1)) (wrap64 ((pre.length:Int)+1)) else none) else none) (fun k=>?_) ?_
    · simp only [Y11.l0,Int.toNat_natCast,rd_T95,getD_mid]
      rw [if_pos (by simp;omega),if_pos (by omega),if_pos trivial]
    · rw [w64 (x:=n+1) (by omega) (by omega)]
      refine Ev.bind (heldItemS_nil (n+1)) (evNeg (by omega) (Ev.bind (mT_ev (n+1) (by omega)) (evPos rfl ?_)))
      rw [w64 (x:=n+1+1) (by omega) (by omega),w64 (x:=n+1+1+1) (by omega) (by omega),w64 (x:=(pre.length:Int)+1) (by omega) (by omega)]
      refine evPos (by omega) ?_
      rw [show n+1+1+1=n+3 from by omega,List.length_cons,show n+3*((s.length+1:Nat):Int)=n+3+3*(s.length:Int) from by omega]
      exact ih
theorem heldStoreS_ev (s:List Sto) (n:Int) (h0:0≤n) (h1:n+3*(s.length:Int)≤1152921504606846976):Ev (fun k=>Y11.f k (stoL n s) n) (n+3*(s.length:Int)) :=
  heldStoreS_l0 1152921504606846976 (Int.le_refl _) s [] n h0 h1 (by simp;omega)
theorem eqCluster_ev (n:Int) (L:List Tok) (S:List Sto) (a b c:Int) (hL:L.length≤40) (hS:S.length≤5) (hb:bare S):Ev (fun k=>Y61.f k n L S [] a b c n L S [] a b c) true :=
  Ev.bind (eqRing_ev n L (by omega)) (evPos rfl (Ev.bind (eqStoreS_ev S (by omega) hb) (evPos rfl (Ev.bind (eqInt64S_ev [] (by simp)) (evPos rfl (evPos rfl (evPos rfl (evPos rfl (Ev.now _)))))))))
theorem markCluster_ev (N:Int) (L:List Tok) (S:List Sto) (a b c n:Int) (hL:L.length≤40) (hS:S.length≤5) (hb:bare S) (h0:0≤n) (h1:n≤1000):Ev (fun k=>Y55.f k N L S [] a b c n) (n+2*(L.length:Int)+3*(S.length:Int),tokL n L,stoL (n+2*(L.length:Int)) S,[]):=by
  refine Ev.bind (markRing_ev N L n h0 (by omega)) (Ev.bind (markStoreS_ev S _ (by omega) (by show n+2*(L.length:Int)+3*(S.length:Int)≤_;omega) hb) (Ev.bind (markInt64S_ev [] (n+2*(L.length:Int)+3*(S.length:Int)) (by omega) (by simp;omega)) ?_))
  simp only [List.length_nil,Int.natCast_zero,Int.add_zero,markI]
  exact Ev.now _
theorem heldCluster_ev (N:Int) (L:List Tok) (S:List Sto) (a b c n:Int) (hL:L.length≤40) (hS:S.length≤5) (h0:0≤n) (h1:n≤1000):Ev (fun k=>Y56.f k N (tokL n L) (stoL (n+2*(L.length:Int)) S) [] a b c n) (n+2*(L.length:Int)+3*(S.length:Int)):=by
  have e:=heldInt64S_ev [] (n+2*(L.length:Int)+3*(S.length:Int)) (by omega) (by simp;omega)
  simp only [List.length_nil,Int.natCast_zero,Int.add_zero,markI] at e
  exact Ev.bind (heldRing_ev N L n h0 (by omega)) (evNeg (by omega) (Ev.bind (heldStoreS_ev S _ (by omega) (by omega)) (evNeg (by omega) (Ev.bind e (evNeg (by omega) (Ev.now _))))))
theorem eqSet_nil:Ev (fun k=>Y71.f k 0 0 0 0) true:=Ev.bind eqMarkS_nil (evPos rfl (Ev.bind eqSibS_nil (evPos rfl (Ev.now _))))
theorem markSet_nil (n:Int):Ev (fun k=>Y66.f k 0 0 n) n:=Ev.bind (markMarkS_nil n) (Ev.bind (markSibS_nil n) (Ev.now _))
theorem heldSet_nil (n:Int) (h:0≤n):Ev (fun k=>Y67.f k 0 0 n) n:=Ev.bind (heldMarkS_nil n) (evNeg (by omega) (Ev.bind (heldSibS_nil n) (evNeg (by omega) (Ev.now _))))
end Go.Proofs.YtelecnmflodkkaaDoor.Q

namespace Go.Proofs.YtelecnmflodkkaaDoor.Pure
open Go.RowKit Go.Proofs.YtelecnmflodkkaaDoor.P Go.Proofs.YtelecnmflodkkaaDoor.Q Go.Proofs.YtelecnmflodkkaaDoorW.PrintWords Go.Proofs.YtelecnmflodkkaaDoorW.PrintMore
theorem FnExactClusterNew:Y50.Pure:=by
  intro n a b c _ _ _ _
  refine Ev.rounds ?_
  have s1:=spec_ClusterNew_ev n a b c
  have s2:=impl_ClusterNew_ev n a b c
  obtain ⟨hL,hS,hb⟩:=cl_small n a b c
  generalize clRing n a b c=N at *
  generalize clToks n a b c=L at *
  generalize clStores n a b c=S at *
  generalize clA n a b c=A at *
  generalize clB n a b c=B at *
  generalize clC n a b c=C at *
  generalize clCode n a b c=code at *
  have eq:Ev (fun k=>Y27.f k N L S [] A B C 0 0 code N L S [] A B C 0 0 code) true:=Ev.bind (eqCluster_ev N L S A B C hL hS hb) (evPos rfl (Ev.bind eqSet_nil (evPos rfl (evPos rfl (Ev.now _)))))
  have mk:Ev (fun k=>Y44.f k N L S [] A B C 0 0 code 1) (1+2*(L.length:Int)+3*(S.length:Int),tokL 1 L,stoL (1+2*(L.length:Int)) S,[]):=Ev.bind (markCluster_ev N L S A B C 1 hL hS hb (by omega) (by omega)) (Ev.bind (markSet_nil _) (Ev.now _))
  have hd:Ev (fun k=>Y15.f k N (tokL 1 L) (stoL (1+2*(L.length:Int)) S) [] A B C 0 0 code 1) (1+2*(L.length:Int)+3*(S.length:Int)):=Ev.bind (heldCluster_ev N L S A B C 1 hL hS (by omega) (by omega)) (evNeg (by omega) (Ev.bind (heldSet_nil _ (by omega)) (evNeg (by omega) (Ev.now _))))
  refine Ev.bind s1 (Ev.bind s2 (Ev.bind eq (evPos rfl (Ev.bind mk (Ev.bind hd (evNeg (by omega) (evPos rfl ?_)))))))
  exact Ev.bind s2 (Ev.bind eq (evPos rfl (Ev.bind hd (evNeg (by omega) (evPos rfl (Ev.now _))))))
end Go.Proofs.YtelecnmflodkkaaDoor.Pure

namespace Go.Proofs.YtelecnmflodkkaaDoor.fnExactClusterNew
open Go.ChangeShapes Go.WideShapes Go.ChangeAt Go.RowKit Go.Proofs.YtelecnmflodkkaaDoor.P Go.Proofs.YtelecnmflodkkaaDoorW.PrintWords
open Go.ChangeMaps (open_string shut_string)
set_option linter.unusedVariables false
theorem own:ownKnob Tryd.prog.godebug=none:=by kernel_rfl
theorem laidOut:laidOutB Tryd.prog=true:=by kernel_rfl
set_option maxRecDepth 100000 in
theorem lifted (os:Os) (started:os.Started) (H:Type) (enc:TypeId × Value→H) :
    ReturnsInHanded {} Tryd.checked os 7 .any (fun w args=>(Rows.fnExactClusterNewSpec.pre enc Tryd.prog Tryd.f7 Rows.fnExactClusterNewRow.domain false w args∧laidMetH Tryd.prog Rows.fnExactClusterNewRow.laid w)∧sizedMet enc Tryd.prog Tryd.f7 (OpenSpec.ofChange Rows.fnExactClusterNewSpec) false w args) (Rows.fnExactClusterNewSpec.post enc Tryd.prog Tryd.f7 false true false false):=by
  refine returnsInHanded_of_change_and (C:=Tryd.checked) (X:=fun w _=>laidMetH Tryd.prog Rows.fnExactClusterNewRow.laid w) (fun _ _ _ hh h=>h.of_heap hh) own started (by kernel_rfl) Tryd.func7
    (ChangeSpec.witness_shaped (enc:=enc) (C:=Tryd.checked) (X:=fun w _=>laidMetH Tryd.prog Rows.fnExactClusterNewRow.laid w) false (World.laidAll Tryd.prog os Rows.fnExactClusterNewRow.laid) #[.int .i64 0,.int .i64 0,.int .i64 0,.int .i64 0] 8 (World.laidAll_os _ _ _) (World.shaped_of_ZipB (by kernel_rfl) (by kernel_rfl)) (by kernel_rfl) (by kernel_rfl) (by kernel_rfl)
      (by rw [MakeChecks.laidMetH_plain _ _ _ (by kernel_rfl)];exact laidMet_laidAll _ (by kernel_rfl) (by kernel_rfl))) ?_
  intro W base args ds gs before hval0 hW hcnd hsz0 hL_ _
  have hsz:(DataW.weightsEach Tryd.prog (Tryd.f7.params.toList ++ Rows.fnExactClusterNewSpec.plain.varTypes Tryd.prog) (ds ++ gs)).all (· ≤ reachBytes)=true:=hsz0
  have hval:∀ (j:Nat) t v,Tryd.f7.params[j]? = some t→args[j]? = some v→Value.okWide Tryd.prog W .any base t v:=hval0
  have hW':=hW
  obtain ⟨p,q,hA0,hV,rfl,hfz,hnd⟩:=hW
  have hA:DataW.TrodAll enc Tryd.prog W 0 (fun _=>true) true Tryd.f7.params.toList args.toList ds p:=hA0
  rw [Tryd.params7] at hA hval hsz
  obtain ⟨v0,vs0,d0,ds0,p0,q0,hargs,rfl,rfl,h0,r0⟩:=trodAll_cons hA
  obtain ⟨v1,vs1,d1,ds1,p1,q1,rfl,rfl,rfl,h1,r1⟩:=trodAll_cons r0
  obtain ⟨v2,vs2,d2,ds2,p2,q2,rfl,rfl,rfl,h2,r2⟩:=trodAll_cons r1
  obtain ⟨v3,vs3,d3,ds3,p3,q3,rfl,rfl,rfl,h3,r3⟩:=trodAll_cons r2
  obtain ⟨rfl,rfl,rfl⟩:=trodAll_nil r3
  obtain rfl:args=#[v0,v1,v2,v3]:=by cases args;simp_all
  obtain ⟨rfl,rfl⟩:=trodVars_none hV
  obtain ⟨x0,rfl,rfl,rfl,w0⟩:=open_int Tryd.underlying2 (hval 0 2 v0 rfl rfl) h0
  obtain ⟨x1,rfl,rfl,rfl,w1⟩:=open_int Tryd.underlying2 (hval 1 2 v1 rfl rfl) h1
  obtain ⟨x2,rfl,rfl,rfl,w2⟩:=open_int Tryd.underlying2 (hval 2 2 v2 rfl rfl) h2
  obtain ⟨x3,rfl,rfl,rfl,w3⟩:=open_int Tryd.underlying2 (hval 3 2 v3 rfl rfl) h3
  clear hA0 hval0 hsz0 hsz
  obtain ⟨k,hp⟩:=Pure.FnExactClusterNew x0 x1 x2 x3 w0 w1 w2 w3
  refine (P.Y50.calls k x0 x1 x2 x3 true W  hp).mono fun e W' ⟨he,bel0⟩=>?_
  have bel:Below W.heap.size W W':=bel0
  subst he
  exact ⟨_,rfl,_,_,_,[],_,[],hW',trodAll_mk1 (shut_bool Tryd.underlying4 _),(trodAll_cons_mk (shut_int Tryd.underlying2 w0) (trodAll_cons_mk (shut_int Tryd.underlying2 w1) (trodAll_cons_mk (shut_int Tryd.underlying2 w2) (trodAll_cons_mk (shut_int Tryd.underlying2 w3) trodAll_mk0)))),rfl,bel.frame _,fun h=>by cases h⟩
theorem over:Rows.fnExactClusterNewRow.holds Tryd.pinned (OpenSpec.ofChange Rows.fnExactClusterNewSpec) :=
  OpenClaim.holds_of_wide 7 Tryd.f7 rfl rfl rfl rfl rfl rfl rfl ⟨rfl,rfl,rfl,rfl,rfl⟩ rfl rfl rfl rfl rfl (by kernel_rfl) Tryd.func7 (by kernel_rfl)
    (of_decide_eq_true (by kernel_rfl)) (by unfold Func.isWrapper;first | (rw [if_pos (by decide +kernel)];kernel_rfl) | (rw [if_neg (by decide +kernel)];exact ⟨rfl,rfl⟩))
    (fun os started H enc _=>lifted os started H enc)
theorem proved:Rows.FnExactClusterNewSaid:=over
theorem card:Rows.FnExactClusterNewCardSaid :=
  Claim7.holds_tied_plain_at .later [] [.data,.data,.data] true (true, "04c657a4273198521dd21b683870fc34c9a056806fe1bb8915cf020c2ff00ca4") false proved (fun _ h=>by cases h) (by kernel_rfl) (fun _ h=>by cases h) fnExactClusterNew_row_tie rfl ⟨rfl,rfl⟩ (by kernel_rfl) rfl
    (fun f fn hf hfn=>by
      obtain rfl:f=7:=Option.some.inj ((show Tryd.prog.funcNamed Rows.fnExactClusterNewRow.func=some 7 by kernel_rfl).symm.trans hf) |>.symm
      obtain rfl:fn=Tryd.f7:=(Option.some.inj (Tryd.func7.symm.trans hfn)).symm
      exact ⟨by kernel_rfl,fun j t ht=>by
        rw [Tryd.params7] at ht
        have h_:t ∈ [2,2,2,2]:=by have:=Array.mem_of_getElem? ht;simpa using this
        have hs_:∀ x ∈ [2,2,2,2],Tryd.prog.wantsStandIn x=false:=by
          intro x hx
          simp only [List.mem_cons,List.not_mem_nil,or_false] at hx
          rcases hx with rfl | rfl | rfl | rfl <;> kernel_rfl
        exact hs_ t h_⟩)
    (by kernel_rfl)
#print axioms card
#print axioms proved
end Go.Proofs.YtelecnmflodkkaaDoor.fnExactClusterNew
namespace Go.Proofs.YtelecnmflodkkaaDoor
/-- The row, under a short name, for the claim. -/
theorem fnExactClusterNew_holds:Rows.FnExactClusterNewCardSaid:=fnExactClusterNew.card
end Go.Proofs.YtelecnmflodkkaaDoor
