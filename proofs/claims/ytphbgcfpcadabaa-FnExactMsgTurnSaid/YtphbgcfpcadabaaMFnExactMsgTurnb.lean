/- For all messages, kinds and sets the program's MsgTurn and the reference's return the same, of its own memory, and leave what they are given. No condition. (Part 2 of 6: written by programs of this workplace and by hand, merged.) -/
import Derived.Test.YtphbgcfpcadabaaMFnExactMsgTurna
import Derived.Lib.SliceRun
set_option linter.unusedVariables false
set_option linter.unusedSimpArgs false

namespace Go.Proofs.Ytphbgcfpcadabaa.P
open Go.RowKit Go.Proofs.YtphbgcfpcadabaaW.PrintWords Go.Proofs.YtphbgcfpcadabaaW.PrintLast Go.Proofs.YtphbgcfpcadabaaW.PrintMore
attribute [local go_sem] max2_int min2_int max_two min_two max_three min_three max_four min_four   -- for this text's walks alone
set_option linter.unusedVariables false
set_option linter.unusedSimpArgs false

/-! ### spec_NameRight: function 38 -/
mutual
def spec_NameRight.j0:Nat→ByteArray→Bool→Option (Bool)
 | 0,_,_=>none
 | k+1,x0,x12=>if x12=true then (some false) else (spec_NameRight.l0 k x0 0)
def spec_NameRight.l0:Nat→ByteArray→Int→Option (Bool)
 | 0,_,_=>none
 | k+1,x0,x3=>if x3<(x0.size:Int) then (if 0≤x3 then (if (bt x0 x3)≥97 then (if ((bt x0 x3)≤122) then (spec_NameRight.l0 k x0 (wrap64 (x3+1))) else (if x3=0 then (some false) else (if (bt x0 x3)≥48 then (if ((bt x0 x3)≤57) then (spec_NameRight.l0 k x0 (wrap64 (x3+1))) else (if (bt x0 x3)=95 then (spec_NameRight.l0 k x0 (wrap64 (x3+1))) else (some false))) else (if (bt x0 x3)=95 then (spec_NameRight.l0 k x0 (wrap64 (x3+1))) else (some false))))) else (if x3=0 then (some false) else (if (bt x0 x3)≥48 then (if ((bt x0 x3)≤57) then (spec_NameRight.l0 k x0 (wrap64 (x3+1))) else (if (bt x0 x3)=95 then (spec_NameRight.l0 k x0 (wrap64 (x3+1))) else (some false))) else (if (bt x0 x3)=95 then (spec_NameRight.l0 k x0 (wrap64 (x3+1))) else (some false))))) else (none)) else (some true)
end
def spec_NameRight.f (k:Nat) (a0:ByteArray):Option (Bool):=if (a0.size:Int)<1 then (spec_NameRight.j0 k a0 true) else (spec_NameRight.j0 k a0 (decide ((a0.size:Int)>20)))
theorem spec_NameRight.mono_l:∀ k,(∀ y0 y1,LeO (spec_NameRight.j0 k y0 y1) (spec_NameRight.j0 (k+1) y0 y1))∧(∀ y0 y1,LeO (spec_NameRight.l0 k y0 y1) (spec_NameRight.l0 (k+1) y0 y1))
 | 0=>⟨fun _ _ r h=>by simp [spec_NameRight.j0] at h,fun _ _ r h=>by simp [spec_NameRight.l0] at h⟩
 | k+1=>by
  obtain ⟨ih0,ih1⟩:=spec_NameRight.mono_l k
  refine ⟨?_,?_⟩
  ·intro y0 y1
   unfold spec_NameRight.j0
   repeat' first
   | (with_reducible exact ih0 _ _)
   | (with_reducible exact ih1 _ _)
   | (with_reducible exact LeO.refl _)
   | (with_reducible exact LeO.none _)
   | (with_reducible refine LeO.ite ?_ ?_)
   | (with_reducible refine LeO.bind ?_ (fun _=>?_))
   | exact ih0 _ _
   | exact ih1 _ _
   | exact LeO.none _
   | refine LeO.ite ?_ ?_
   | refine LeO.bind ?_ (fun _=>?_)
  ·intro y0 y1
   unfold spec_NameRight.l0
   repeat' first
   | (with_reducible exact ih0 _ _)
   | (with_reducible exact ih1 _ _)
   | (with_reducible exact LeO.refl _)
   | (with_reducible exact LeO.none _)
   | (with_reducible refine LeO.ite ?_ ?_)
   | (with_reducible refine LeO.bind ?_ (fun _=>?_))
   | exact ih0 _ _
   | exact ih1 _ _
   | exact LeO.none _
   | refine LeO.ite ?_ ?_
   | refine LeO.bind ?_ (fun _=>?_)
theorem spec_NameRight.mono:∀ a0 k,LeO (spec_NameRight.f k a0) (spec_NameRight.f (k+1) a0):=by
 intro a0 k
 obtain ⟨ih0,ih1⟩:=spec_NameRight.mono_l k
 unfold spec_NameRight.f
 repeat' first
   | (with_reducible exact ih0 _ _)
   | (with_reducible exact ih1 _ _)
   | (with_reducible exact LeO.refl _)
   | (with_reducible exact LeO.none _)
   | (with_reducible refine LeO.ite ?_ ?_)
   | (with_reducible refine LeO.bind ?_ (fun _=>?_))
   | exact ih0 _ _
   | exact ih1 _ _
   | exact LeO.none _
   | refine LeO.ite ?_ ?_
   | refine LeO.bind ?_ (fun _=>?_)
set_option maxHeartbeats 8000000 in
set_option maxRecDepth 100000 in
theorem spec_NameRight.calls (k:Nat) (a0:ByteArray) (r:Bool) (w:World) (h:spec_NameRight.f k a0=some r) :
  Calls Try.prog 38 #[.string a0] w fun e w'=>e = .returned (.bool r)∧Drawn0 w w':=by
 have H:(if (a0.size:Int)<1 then (spec_NameRight.j0 k a0 true) else (spec_NameRight.j0 k a0 (decide ((a0.size:Int)>20))))=some r:=h
 clear h
 have HC2:=Aside0.mk H
 clear H
 go_enter Try.func38,Try.ntmps38
 go_upto_region 1 with (fail)
 go_cut [12] (fun v12 wc=>∃ (kq:Nat) (x12_1:Bool),v12 = .bool x12_1∧Aside0 (spec_NameRight.j0 kq a0 x12_1=some r)∧Aside0 (kq≤k)∧Drawn0 w wc)
 case first =>
  have H:=HC2.out
  clear HC2
  by_cases c3:(a0.size:Int)<1
  ·rw [if_pos c3] at H
   have c3b0:decide ((a0.size:Int)<1)=true:=decide_eq_true c3
   have c3b1:decide (a0.size<1)=true:=decide_eq_true (by omega)
   clear c3
   (first | rw [c3b0] | (simp only [i64_w,i32_w];rw [c3b0]) | skip)
   have H':=Aside0.mk H
   clear H
   go_wp2
   go_meet
   case rel=>exact ⟨_,(true),(z2_),H',⟨by first | omega | exact Nat.le_refl _⟩,z10_⟩
  ·rw [if_neg c3] at H
   have c3b0:decide ((a0.size:Int)<1)=false:=decide_eq_false c3
   have c3b1:decide (a0.size<1)=false:=decide_eq_false (by omega)
   clear c3
   (first | rw [c3b0] | (simp only [i64_w,i32_w];rw [c3b0]) | skip)
   have H':=Aside0.mk H
   clear H
   go_wp2
   go_meet
   case rel=>exact ⟨_,(decide ((a0.size:Int)>20)),(z2_),H',⟨by first | omega | exact Nat.le_refl _⟩,z10_⟩
 case rest =>
  clear HC2
  try clear p2
  try clear c3
  try clear c3b0
  try clear c3b1
  obtain ⟨kq,x12_1,rfl,HA,HJ1,⟨mc1,rfl⟩⟩:=hcut
  cases kq with
  | zero=>exact absurd HA.out (by simp [spec_NameRight.j0])
  | succ kj1 =>
   have H:=HA.out
   clear HA
   simp only [spec_NameRight.j0] at H
   by_cases c4:x12_1=true
   ·subst c4
    have H1:(some false)=some r:=by rw [if_pos rfl] at H;exact H
    clear H
    have H:=H1
    clear H1
    obtain rfl:=Option.some.inj H
    go_wp2
    go_ret
    exact ⟨z2_,z10_⟩
   ·replace c4:=Bool.eq_false_iff.mpr c4
    subst c4
    have H1:(spec_NameRight.l0 kj1 a0 0)=some r:=by rw [if_neg (show ¬ (false=true) by decide)] at H;exact H
    clear H
    have H:=H1
    clear H1
    have H':=Aside0.mk H
    clear H
    go_wp2
    go_loopg [3] kj1 (fun kq v3 w'=>∃ (x3_2:Int),v3 = .int .i64 x3_2∧Aside0 (spec_NameRight.l0 kq a0 x3_2=some r)∧Aside0 (kq≤kj1)∧Drawn0 w w')
    case atStart=>exact ⟨(0),(z2_),H',⟨Nat.le_refl _⟩,z10_⟩
    case round =>
     clear H'
     try clear c1
     try clear p2
     try clear c3
     try clear c3b0
     try clear c3b1
     try clear c4
     try clear p2
     obtain ⟨x3_2,rfl,HA,HK2,⟨m2,rfl⟩⟩:=hrel
     cases gk with
     | zero=>exact absurd HA.out (by simp [spec_NameRight.l0])
     | succ k2 =>
      have H:=HA.out
      clear HA
      simp only [spec_NameRight.l0] at H
      by_cases c5:x3_2<(a0.size:Int)
      ·rw [if_pos c5] at H
       have c5b0:decide (x3_2<(a0.size:Int))=true:=decide_eq_true c5
       clear c5
       by_cases c6:0≤x3_2
       ·rw [if_pos c6] at H
        have c6b0:decide (0≤x3_2)=true:=decide_eq_true c6
        clear c6
        by_cases c8:(bt a0 x3_2)≥97
        ·rw [if_pos c8] at H
         have c8b0:decide (97≤(bt a0 x3_2))=true:=decide_eq_true c8
         clear c8
         by_cases c9:((bt a0 x3_2)≤122)
         ·rw [if_pos c9] at H
          have c9b0:decide ((bt a0 x3_2)≤122)=true:=decide_eq_true c9
          clear c9
          have H':=Aside0.mk H
          clear H
          have p7:0≤(x3_2:Int):=of_decide_eq_true (z1_)
          have q7:x3_2<(a0.size:Int):=of_decide_eq_true (z1_)
          have hx7:=bt_at a0 x3_2
          replace p7:=eq_true p7
          replace q7:=eq_true q7
          go_wp2
          go_roundg k2
          case measure=>have:=HJ1.out;have:=HK2.out;omega
          case rel=>exact ⟨(wrap64 (x3_2+1)),(z2_),H',⟨z22_ HJ1.out HK2.out⟩,z10_⟩
         ·rw [if_neg c9] at H
          have c9b0:decide ((bt a0 x3_2)≤122)=false:=decide_eq_false c9
          clear c9
          by_cases c10:x3_2=0
          ·rw [if_pos c10] at H
           have c10b0:(x3_2 == 0)=true:=beq_iff_eq.mpr c10
           have c10b1:(x3_2 != 0)=false:=bne_eq_false_iff_eq.mpr c10
           clear c10
           obtain rfl:=Option.some.inj H
           have p7:0≤(x3_2:Int):=of_decide_eq_true (z1_)
           have q7:x3_2<(a0.size:Int):=of_decide_eq_true (z1_)
           have hx7:=bt_at a0 x3_2
           replace p7:=eq_true p7
           replace q7:=eq_true q7
           go_wp2
           go_ret
           exact ⟨z2_,z10_⟩
          ·rw [if_neg c10] at H
           have c10b0:(x3_2 == 0)=false:=beq_eq_false_iff_ne.mpr c10
           have c10b1:(x3_2 != 0)=true:=bne_iff_ne.mpr c10
           by_cases c11:(bt a0 x3_2)≥48
           ·rw [if_pos c11] at H
            have c11b0:decide (48≤(bt a0 x3_2))=true:=decide_eq_true c11
            clear c11
            by_cases c12:((bt a0 x3_2)≤57)
            ·rw [if_pos c12] at H
             have c12b0:decide ((bt a0 x3_2)≤57)=true:=decide_eq_true c12
             clear c12
             have H':=Aside0.mk H
             clear H
             have p7:0≤(x3_2:Int):=of_decide_eq_true (z1_)
             have q7:x3_2<(a0.size:Int):=of_decide_eq_true (z1_)
             have hx7:=bt_at a0 x3_2
             replace p7:=eq_true p7
             replace q7:=eq_true q7
             go_wp2
             go_roundg k2
             case measure=>have:=HJ1.out;have:=HK2.out;omega
             case rel=>exact ⟨(wrap64 (x3_2+1)),(z2_),H',⟨z22_ HJ1.out HK2.out⟩,z10_⟩
            ·rw [if_neg c12] at H
             have c12b0:decide ((bt a0 x3_2)≤57)=false:=decide_eq_false c12
             clear c12
             by_cases c13:(bt a0 x3_2)=95
             ·rw [if_pos c13] at H
              have c13b0:((bt a0 x3_2) == 95)=true:=beq_iff_eq.mpr c13
              have c13b1:((bt a0 x3_2) != 95)=false:=bne_eq_false_iff_eq.mpr c13
              clear c13
              have H':=Aside0.mk H
              clear H
              have p7:0≤(x3_2:Int):=of_decide_eq_true (z1_)
              have q7:x3_2<(a0.size:Int):=of_decide_eq_true (z1_)
              have hx7:=bt_at a0 x3_2
              replace p7:=eq_true p7
              replace q7:=eq_true q7
              go_wp2
              go_roundg k2
              case measure=>have:=HJ1.out;have:=HK2.out;omega
              case rel=>exact ⟨(wrap64 (x3_2+1)),(z2_),H',⟨z22_ HJ1.out HK2.out⟩,z10_⟩
             ·rw [if_neg c13] at H
              have c13b0:((bt a0 x3_2) == 95)=false:=beq_eq_false_iff_ne.mpr c13
              have c13b1:((bt a0 x3_2) != 95)=true:=bne_iff_ne.mpr c13
              obtain rfl:=Option.some.inj H
              have p7:0≤(x3_2:Int):=of_decide_eq_true (z1_)
              have q7:x3_2<(a0.size:Int):=of_decide_eq_true (z1_)
              have hx7:=bt_at a0 x3_2
              replace p7:=eq_true p7
              replace q7:=eq_true q7
              go_wp2
              go_ret
              exact ⟨z2_,z10_⟩
           ·rw [if_neg c11] at H
            have c11b0:decide (48≤(bt a0 x3_2))=false:=decide_eq_false c11
            clear c11
            by_cases c14:(bt a0 x3_2)=95
            ·rw [if_pos c14] at H
             have c14b0:((bt a0 x3_2) == 95)=true:=beq_iff_eq.mpr c14
             have c14b1:((bt a0 x3_2) != 95)=false:=bne_eq_false_iff_eq.mpr c14
             clear c14
             have H':=Aside0.mk H
             clear H
             have p7:0≤(x3_2:Int):=of_decide_eq_true (z1_)
             have q7:x3_2<(a0.size:Int):=of_decide_eq_true (z1_)
             have hx7:=bt_at a0 x3_2
             replace p7:=eq_true p7
             replace q7:=eq_true q7
             go_wp2
             go_roundg k2
             case measure=>have:=HJ1.out;have:=HK2.out;omega
             case rel=>exact ⟨(wrap64 (x3_2+1)),(z2_),H',⟨z22_ HJ1.out HK2.out⟩,z10_⟩
            ·rw [if_neg c14] at H
             have c14b0:((bt a0 x3_2) == 95)=false:=beq_eq_false_iff_ne.mpr c14
             have c14b1:((bt a0 x3_2) != 95)=true:=bne_iff_ne.mpr c14
             obtain rfl:=Option.some.inj H
             have p7:0≤(x3_2:Int):=of_decide_eq_true (z1_)
             have q7:x3_2<(a0.size:Int):=of_decide_eq_true (z1_)
             have hx7:=bt_at a0 x3_2
             replace p7:=eq_true p7
             replace q7:=eq_true q7
             go_wp2
             go_ret
             exact ⟨z2_,z10_⟩
        ·rw [if_neg c8] at H
         have c8b0:decide (97≤(bt a0 x3_2))=false:=decide_eq_false c8
         clear c8
         by_cases c15:x3_2=0
         ·rw [if_pos c15] at H
          have c15b0:(x3_2 == 0)=true:=beq_iff_eq.mpr c15
          have c15b1:(x3_2 != 0)=false:=bne_eq_false_iff_eq.mpr c15
          clear c15
          obtain rfl:=Option.some.inj H
          have p7:0≤(x3_2:Int):=of_decide_eq_true (z1_)
          have q7:x3_2<(a0.size:Int):=of_decide_eq_true (z1_)
          have hx7:=bt_at a0 x3_2
          replace p7:=eq_true p7
          replace q7:=eq_true q7
          go_wp2
          go_ret
          exact ⟨z2_,z10_⟩
         ·rw [if_neg c15] at H
          have c15b0:(x3_2 == 0)=false:=beq_eq_false_iff_ne.mpr c15
          have c15b1:(x3_2 != 0)=true:=bne_iff_ne.mpr c15
          by_cases c16:(bt a0 x3_2)≥48
          ·rw [if_pos c16] at H
           have c16b0:decide (48≤(bt a0 x3_2))=true:=decide_eq_true c16
           clear c16
           by_cases c17:((bt a0 x3_2)≤57)
           ·rw [if_pos c17] at H
            have c17b0:decide ((bt a0 x3_2)≤57)=true:=decide_eq_true c17
            clear c17
            have H':=Aside0.mk H
            clear H
            have p7:0≤(x3_2:Int):=of_decide_eq_true (z1_)
            have q7:x3_2<(a0.size:Int):=of_decide_eq_true (z1_)
            have hx7:=bt_at a0 x3_2
            replace p7:=eq_true p7
            replace q7:=eq_true q7
            go_wp2
            go_roundg k2
            case measure=>have:=HJ1.out;have:=HK2.out;omega
            case rel=>exact ⟨(wrap64 (x3_2+1)),(z2_),H',⟨z22_ HJ1.out HK2.out⟩,z10_⟩
           ·rw [if_neg c17] at H
            have c17b0:decide ((bt a0 x3_2)≤57)=false:=decide_eq_false c17
            clear c17
            by_cases c18:(bt a0 x3_2)=95
            ·rw [if_pos c18] at H
             have c18b0:((bt a0 x3_2) == 95)=true:=beq_iff_eq.mpr c18
             have c18b1:((bt a0 x3_2) != 95)=false:=bne_eq_false_iff_eq.mpr c18
             clear c18
             have H':=Aside0.mk H
             clear H
             have p7:0≤(x3_2:Int):=of_decide_eq_true (z1_)
             have q7:x3_2<(a0.size:Int):=of_decide_eq_true (z1_)
             have hx7:=bt_at a0 x3_2
             replace p7:=eq_true p7
             replace q7:=eq_true q7
             go_wp2
             go_roundg k2
             case measure=>have:=HJ1.out;have:=HK2.out;omega
             case rel=>exact ⟨(wrap64 (x3_2+1)),(z2_),H',⟨z22_ HJ1.out HK2.out⟩,z10_⟩
            ·rw [if_neg c18] at H
             have c18b0:((bt a0 x3_2) == 95)=false:=beq_eq_false_iff_ne.mpr c18
             have c18b1:((bt a0 x3_2) != 95)=true:=bne_iff_ne.mpr c18
             obtain rfl:=Option.some.inj H
             have p7:0≤(x3_2:Int):=of_decide_eq_true (z1_)
             have q7:x3_2<(a0.size:Int):=of_decide_eq_true (z1_)
             have hx7:=bt_at a0 x3_2
             replace p7:=eq_true p7
             replace q7:=eq_true q7
             go_wp2
             go_ret
             exact ⟨z2_,z10_⟩
          ·rw [if_neg c16] at H
           have c16b0:decide (48≤(bt a0 x3_2))=false:=decide_eq_false c16
           clear c16
           by_cases c19:(bt a0 x3_2)=95
           ·rw [if_pos c19] at H
            have c19b0:((bt a0 x3_2) == 95)=true:=beq_iff_eq.mpr c19
            have c19b1:((bt a0 x3_2) != 95)=false:=bne_eq_false_iff_eq.mpr c19
            clear c19
            have H':=Aside0.mk H
            clear H
            have p7:0≤(x3_2:Int):=of_decide_eq_true (z1_)
            have q7:x3_2<(a0.size:Int):=of_decide_eq_true (z1_)
            have hx7:=bt_at a0 x3_2
            replace p7:=eq_true p7
            replace q7:=eq_true q7
            go_wp2
            go_roundg k2
            case measure=>have:=HJ1.out;have:=HK2.out;omega
            case rel=>exact ⟨(wrap64 (x3_2+1)),(z2_),H',⟨z22_ HJ1.out HK2.out⟩,z10_⟩
           ·rw [if_neg c19] at H
            have c19b0:((bt a0 x3_2) == 95)=false:=beq_eq_false_iff_ne.mpr c19
            have c19b1:((bt a0 x3_2) != 95)=true:=bne_iff_ne.mpr c19
            obtain rfl:=Option.some.inj H
            have p7:0≤(x3_2:Int):=of_decide_eq_true (z1_)
            have q7:x3_2<(a0.size:Int):=of_decide_eq_true (z1_)
            have hx7:=bt_at a0 x3_2
            replace p7:=eq_true p7
            replace q7:=eq_true q7
            go_wp2
            go_ret
            exact ⟨z2_,z10_⟩
       ·rw [if_neg c6] at H
        exact absurd H (by simp)
      ·rw [if_neg c5] at H
       have c5b0:decide (x3_2<(a0.size:Int))=false:=decide_eq_false c5
       clear c5
       obtain rfl:=Option.some.inj H
       go_wp2
       go_ret
       exact ⟨z2_,z10_⟩


/-! ### spec_l02Time: function 81 -/
def spec_l02Time.f (a0:Int):Option (Bool):=(spec_l02Is.f a0 0 1000000).bind fun t134=>(some t134)
set_option maxHeartbeats 8000000 in
set_option maxRecDepth 100000 in
theorem spec_l02Time.calls (a0:Int) (r:Bool) (w:World) (h:spec_l02Time.f a0=some r) :
  Calls Try.prog 81 #[.int .i64 a0] w fun e w'=>e = .returned (.bool r)∧Drawn0 w w':=by
 have H:((spec_l02Is.f a0 0 1000000).bind fun t134=>(some t134))=some r:=h
 clear h
 replace H:=Option.bind_eq_some_iff.mp H
 obtain ⟨t134,A20,H⟩:=H
 replace H:(some t134)=some r:=H
 have A2:=Aside0.mk A20
 clear A20
 obtain rfl:=Option.some.inj H
 go_enter Try.func81,Try.ntmps81
 go_wp2_with (first | ((with_reducible refine gc_ 37 ?_);refine gl_ (some 4) Try.func37 #[.int .i64 a0,.int .i64 0,.int .i64 1000000] ?_;(with_reducible refine (spec_l02Is.calls a0 0 1000000 t134 _ A2.out).mono ?_);rintro e w' ⟨rfl,⟨nd,rfl⟩⟩;refine ⟨_,rfl,?_⟩))
 go_ret
 exact ⟨z2_,z10_⟩


/-! ### spec_MsgRight: function 50 -/
def spec_MsgRight.j0:Nat→Bool→Int→Int→Int→Int→ByteArray→Int→List (S56)→List (S91)→Option (Bool)
 | 0,_,_,_,_,_,_,_,_,_=>none
 | k+1,x42,x136000,x136001,x136002,x136003,x136004,x136005,x136006,x136007=>if x42=true then (some false) else (if x136000=1 then (if x136003>0 then (some ((x136006.length:Int) == 0)) else (some false)) else (if x136000=2 then (some (decide (x136003>0))) else (if x136000=3 then (some (decide ((x136006.length:Int)>0))) else (if (x136006.length:Int)>0 then (some ((x136007.length:Int) == 0)) else (some false)))))
def spec_MsgRight.f (k:Nat) (a0_0:Int) (a0_1:Int) (a0_2:Int) (a0_3:Int) (a0_4:ByteArray) (a0_5:Int) (l0_6:List (S56)) (l0_7:List (S91)):Option (Bool):=(spec_l02Is.f a0_0 1 4).bind fun t136=>(if t136=true then ((spec_l02Node.f a0_1).bind fun t137=>(if t137=true then ((spec_l02Node.f a0_2).bind fun t138=>(if t138=true then ((spec_l02Node.f a0_5).bind fun t139=>(if t139=true then ((spec_l02Time.f a0_3).bind fun t140=>(if t140=true then ((spec_NameRight.f k a0_4).bind fun t141=>(if t141=true then ((spec_SetRight.f k l0_6 l0_7).bind fun t142=>(spec_MsgRight.j0 k (!t142) a0_0 a0_1 a0_2 a0_3 a0_4 a0_5 l0_6 l0_7)) else (spec_MsgRight.j0 k true a0_0 a0_1 a0_2 a0_3 a0_4 a0_5 l0_6 l0_7))) else (spec_MsgRight.j0 k true a0_0 a0_1 a0_2 a0_3 a0_4 a0_5 l0_6 l0_7))) else (spec_MsgRight.j0 k true a0_0 a0_1 a0_2 a0_3 a0_4 a0_5 l0_6 l0_7))) else (spec_MsgRight.j0 k true a0_0 a0_1 a0_2 a0_3 a0_4 a0_5 l0_6 l0_7))) else (spec_MsgRight.j0 k true a0_0 a0_1 a0_2 a0_3 a0_4 a0_5 l0_6 l0_7))) else (spec_MsgRight.j0 k true a0_0 a0_1 a0_2 a0_3 a0_4 a0_5 l0_6 l0_7))
theorem spec_MsgRight.mono_l:∀ k,(∀ y0 y1 y2 y3 y4 y5 y6 y7 y8,LeO (spec_MsgRight.j0 k y0 y1 y2 y3 y4 y5 y6 y7 y8) (spec_MsgRight.j0 (k+1) y0 y1 y2 y3 y4 y5 y6 y7 y8))
 | 0=>fun _ _ _ _ _ _ _ _ _ r h=>by simp [spec_MsgRight.j0] at h
 | k+1=>by
  have ih0:=spec_MsgRight.mono_l k
  ·intro y0 y1 y2 y3 y4 y5 y6 y7 y8
   unfold spec_MsgRight.j0
   repeat' first
   | (with_reducible exact ih0 _ _ _ _ _ _ _ _ _)
   | (with_reducible exact spec_NameRight.mono _ _)
   | (with_reducible exact spec_SetRight.mono _ _ _)
   | (with_reducible exact LeO.refl _)
   | (with_reducible exact LeO.none _)
   | (with_reducible refine LeO.ite ?_ ?_)
   | (with_reducible refine LeO.bind ?_ (fun _=>?_))
   | exact ih0 _ _ _ _ _ _ _ _ _
   | exact spec_NameRight.mono _ _
   | exact spec_SetRight.mono _ _ _
   | exact LeO.none _
   | refine LeO.ite ?_ ?_
   | refine LeO.bind ?_ (fun _=>?_)
theorem spec_MsgRight.mono:∀ a0 a1 a2 a3 a4 a5 a6 a7 k,LeO (spec_MsgRight.f k a0 a1 a2 a3 a4 a5 a6 a7) (spec_MsgRight.f (k+1) a0 a1 a2 a3 a4 a5 a6 a7):=by
 intro a0 a1 a2 a3 a4 a5 a6 a7 k
 have ih0:=spec_MsgRight.mono_l k
 unfold spec_MsgRight.f
 repeat' first
   | (with_reducible exact ih0 _ _ _ _ _ _ _ _ _)
   | (with_reducible exact spec_NameRight.mono _ _)
   | (with_reducible exact spec_SetRight.mono _ _ _)
   | (with_reducible exact LeO.refl _)
   | (with_reducible exact LeO.none _)
   | (with_reducible refine LeO.ite ?_ ?_)
   | (with_reducible refine LeO.bind ?_ (fun _=>?_))
   | exact ih0 _ _ _ _ _ _ _ _ _
   | exact spec_NameRight.mono _ _
   | exact spec_SetRight.mono _ _ _
   | exact LeO.none _
   | refine LeO.ite ?_ ?_
   | refine LeO.bind ?_ (fun _=>?_)
set_option maxHeartbeats 8000000 in
set_option maxRecDepth 100000 in
theorem spec_MsgRight.calls (k:Nat) (a0_0:Int) (a0_1:Int) (a0_2:Int) (a0_3:Int) (a0_4:ByteArray) (a0_5:Int) (A0_6:Option Addr) (c0_6:Nat) (l0_6:List (S56)) (A0_7:Option Addr) (c0_7:Nat) (l0_7:List (S91)) (r:Bool) (w:World) (hr0_6:Kd.C k56 w A0_6 l0_6.length l0_6) (hc0_6:l0_6.length≤c0_6) (hr0_7:Kd.C k91 w A0_7 l0_7.length l0_7) (hc0_7:l0_7.length≤c0_7) (h:spec_MsgRight.f k a0_0 a0_1 a0_2 a0_3 a0_4 a0_5 l0_6 l0_7=some r) :
  Calls Try.prog 50 #[.agg #[.int .i64 a0_0,.int .i64 a0_1,.int .i64 a0_2,.int .i64 a0_3,.string a0_4,.int .i64 a0_5,.slice A0_6 l0_6.length c0_6,.slice A0_7 l0_7.length c0_7]] w fun e w'=>e = .returned (.bool r)∧Below w.heap.size w w':=by
 have hu42:=Try.underlying42
 have hu40:=Try.underlying40
 have HR0_6:=Aside0.mk hr0_6
 have HC0_6:=Aside0.mk hc0_6
 clear hr0_6 hc0_6
 have HR0_7:=Aside0.mk hr0_7
 have HC0_7:=Aside0.mk hc0_7
 clear hr0_7 hc0_7
 have HB:=Aside0.mk (Below.refl w.heap.size w)
 have H:((spec_l02Is.f a0_0 1 4).bind fun t136=>(if t136=true then ((spec_l02Node.f a0_1).bind fun t137=>(if t137=true then ((spec_l02Node.f a0_2).bind fun t138=>(if t138=true then ((spec_l02Node.f a0_5).bind fun t139=>(if t139=true then ((spec_l02Time.f a0_3).bind fun t140=>(if t140=true then ((spec_NameRight.f k a0_4).bind fun t141=>(if t141=true then ((spec_SetRight.f k l0_6 l0_7).bind fun t142=>(spec_MsgRight.j0 k (!t142) a0_0 a0_1 a0_2 a0_3 a0_4 a0_5 l0_6 l0_7)) else (spec_MsgRight.j0 k true a0_0 a0_1 a0_2 a0_3 a0_4 a0_5 l0_6 l0_7))) else (spec_MsgRight.j0 k true a0_0 a0_1 a0_2 a0_3 a0_4 a0_5 l0_6 l0_7))) else (spec_MsgRight.j0 k true a0_0 a0_1 a0_2 a0_3 a0_4 a0_5 l0_6 l0_7))) else (spec_MsgRight.j0 k true a0_0 a0_1 a0_2 a0_3 a0_4 a0_5 l0_6 l0_7))) else (spec_MsgRight.j0 k true a0_0 a0_1 a0_2 a0_3 a0_4 a0_5 l0_6 l0_7))) else (spec_MsgRight.j0 k true a0_0 a0_1 a0_2 a0_3 a0_4 a0_5 l0_6 l0_7)))=some r:=h
 clear h
 have HC2:=Aside0.mk H
 clear H
 go_enter Try.func50,Try.ntmps50
 go_upto_region 1 with (first | ((with_reducible refine gd_ 1 ?_);(try (refine gate_guard (by rfl) ?_;dsimp only));refine be_ 1 #[.int .i64 a0_0,.int .i64 a0_1,.int .i64 a0_2,.int .i64 a0_3,.string a0_4,.int .i64 a0_5,.slice A0_6 l0_6.length c0_6,.slice A0_7 l0_7.length c0_7] 42 ?_;intro gb135 hg w3 hbox hb;refine as4_ (below_step (z5_ HB.out) hb) (hbox) ((z7_ HB.out:w.heap.size≤gb135)) ((z7_ HB.out:w.heap.size≤gb135)) ?_;clear HB;intro HB BK135 GW135 GE135;clear hb hbox hg))
 (try simp only [Act.put,sa_,s0_,ss_])
 go_cut [42] (fun v42 wc=>∃ (kq:Nat) (x42_1:Bool),v42 = .bool x42_1∧Aside0 (spec_MsgRight.j0 kq x42_1 a0_0 a0_1 a0_2 a0_3 a0_4 a0_5 l0_6 l0_7=some r)∧Aside0 (kq≤k)∧Aside0 (wc.heap[gb135]? = some (.cells #[.int .i64 a0_0,.int .i64 a0_1,.int .i64 a0_2,.int .i64 a0_3,.string a0_4,.int .i64 a0_5,(.slice A0_6 l0_6.length c0_6),(.slice A0_7 l0_7.length c0_7)] 42 (0,0)))∧Aside0 (Below w.heap.size w wc))
 case first =>
  have H:=HC2.out
  clear HC2
  replace H:=Option.bind_eq_some_iff.mp H
  obtain ⟨t136,A40,H⟩:=H
  replace H:(if t136=true then ((spec_l02Node.f a0_1).bind fun t137=>(if t137=true then ((spec_l02Node.f a0_2).bind fun t138=>(if t138=true then ((spec_l02Node.f a0_5).bind fun t139=>(if t139=true then ((spec_l02Time.f a0_3).bind fun t140=>(if t140=true then ((spec_NameRight.f k a0_4).bind fun t141=>(if t141=true then ((spec_SetRight.f k l0_6 l0_7).bind fun t142=>(spec_MsgRight.j0 k (!t142) a0_0 a0_1 a0_2 a0_3 a0_4 a0_5 l0_6 l0_7)) else (spec_MsgRight.j0 k true a0_0 a0_1 a0_2 a0_3 a0_4 a0_5 l0_6 l0_7))) else (spec_MsgRight.j0 k true a0_0 a0_1 a0_2 a0_3 a0_4 a0_5 l0_6 l0_7))) else (spec_MsgRight.j0 k true a0_0 a0_1 a0_2 a0_3 a0_4 a0_5 l0_6 l0_7))) else (spec_MsgRight.j0 k true a0_0 a0_1 a0_2 a0_3 a0_4 a0_5 l0_6 l0_7))) else (spec_MsgRight.j0 k true a0_0 a0_1 a0_2 a0_3 a0_4 a0_5 l0_6 l0_7))) else (spec_MsgRight.j0 k true a0_0 a0_1 a0_2 a0_3 a0_4 a0_5 l0_6 l0_7))=some r:=H
  have A4:=Aside0.mk A40
  clear A40
  by_cases c5:t136=true
  ·subst c5
   have H1:((spec_l02Node.f a0_1).bind fun t137=>(if t137=true then ((spec_l02Node.f a0_2).bind fun t138=>(if t138=true then ((spec_l02Node.f a0_5).bind fun t139=>(if t139=true then ((spec_l02Time.f a0_3).bind fun t140=>(if t140=true then ((spec_NameRight.f k a0_4).bind fun t141=>(if t141=true then ((spec_SetRight.f k l0_6 l0_7).bind fun t142=>(spec_MsgRight.j0 k (!t142) a0_0 a0_1 a0_2 a0_3 a0_4 a0_5 l0_6 l0_7)) else (spec_MsgRight.j0 k true a0_0 a0_1 a0_2 a0_3 a0_4 a0_5 l0_6 l0_7))) else (spec_MsgRight.j0 k true a0_0 a0_1 a0_2 a0_3 a0_4 a0_5 l0_6 l0_7))) else (spec_MsgRight.j0 k true a0_0 a0_1 a0_2 a0_3 a0_4 a0_5 l0_6 l0_7))) else (spec_MsgRight.j0 k true a0_0 a0_1 a0_2 a0_3 a0_4 a0_5 l0_6 l0_7))) else (spec_MsgRight.j0 k true a0_0 a0_1 a0_2 a0_3 a0_4 a0_5 l0_6 l0_7)))=some r:=by rw [if_pos rfl] at H;exact H
   clear H
   have H:=H1
   clear H1
   replace H:=Option.bind_eq_some_iff.mp H
   obtain ⟨t137,A60,H⟩:=H
   replace H:(if t137=true then ((spec_l02Node.f a0_2).bind fun t138=>(if t138=true then ((spec_l02Node.f a0_5).bind fun t139=>(if t139=true then ((spec_l02Time.f a0_3).bind fun t140=>(if t140=true then ((spec_NameRight.f k a0_4).bind fun t141=>(if t141=true then ((spec_SetRight.f k l0_6 l0_7).bind fun t142=>(spec_MsgRight.j0 k (!t142) a0_0 a0_1 a0_2 a0_3 a0_4 a0_5 l0_6 l0_7)) else (spec_MsgRight.j0 k true a0_0 a0_1 a0_2 a0_3 a0_4 a0_5 l0_6 l0_7))) else (spec_MsgRight.j0 k true a0_0 a0_1 a0_2 a0_3 a0_4 a0_5 l0_6 l0_7))) else (spec_MsgRight.j0 k true a0_0 a0_1 a0_2 a0_3 a0_4 a0_5 l0_6 l0_7))) else (spec_MsgRight.j0 k true a0_0 a0_1 a0_2 a0_3 a0_4 a0_5 l0_6 l0_7))) else (spec_MsgRight.j0 k true a0_0 a0_1 a0_2 a0_3 a0_4 a0_5 l0_6 l0_7))=some r:=H
   have A6:=Aside0.mk A60
   clear A60
   by_cases c7:t137=true
   ·subst c7
    have H1:((spec_l02Node.f a0_2).bind fun t138=>(if t138=true then ((spec_l02Node.f a0_5).bind fun t139=>(if t139=true then ((spec_l02Time.f a0_3).bind fun t140=>(if t140=true then ((spec_NameRight.f k a0_4).bind fun t141=>(if t141=true then ((spec_SetRight.f k l0_6 l0_7).bind fun t142=>(spec_MsgRight.j0 k (!t142) a0_0 a0_1 a0_2 a0_3 a0_4 a0_5 l0_6 l0_7)) else (spec_MsgRight.j0 k true a0_0 a0_1 a0_2 a0_3 a0_4 a0_5 l0_6 l0_7))) else (spec_MsgRight.j0 k true a0_0 a0_1 a0_2 a0_3 a0_4 a0_5 l0_6 l0_7))) else (spec_MsgRight.j0 k true a0_0 a0_1 a0_2 a0_3 a0_4 a0_5 l0_6 l0_7))) else (spec_MsgRight.j0 k true a0_0 a0_1 a0_2 a0_3 a0_4 a0_5 l0_6 l0_7)))=some r:=by rw [if_pos rfl] at H;exact H
    clear H
    have H:=H1
    clear H1
    replace H:=Option.bind_eq_some_iff.mp H
    obtain ⟨t138,A80,H⟩:=H
    replace H:(if t138=true then ((spec_l02Node.f a0_5).bind fun t139=>(if t139=true then ((spec_l02Time.f a0_3).bind fun t140=>(if t140=true then ((spec_NameRight.f k a0_4).bind fun t141=>(if t141=true then ((spec_SetRight.f k l0_6 l0_7).bind fun t142=>(spec_MsgRight.j0 k (!t142) a0_0 a0_1 a0_2 a0_3 a0_4 a0_5 l0_6 l0_7)) else (spec_MsgRight.j0 k true a0_0 a0_1 a0_2 a0_3 a0_4 a0_5 l0_6 l0_7))) else (spec_MsgRight.j0 k true a0_0 a0_1 a0_2 a0_3 a0_4 a0_5 l0_6 l0_7))) else (spec_MsgRight.j0 k true a0_0 a0_1 a0_2 a0_3 a0_4 a0_5 l0_6 l0_7))) else (spec_MsgRight.j0 k true a0_0 a0_1 a0_2 a0_3 a0_4 a0_5 l0_6 l0_7))=some r:=H
    have A8:=Aside0.mk A80
    clear A80
    by_cases c9:t138=true
    ·subst c9
     have H1:((spec_l02Node.f a0_5).bind fun t139=>(if t139=true then ((spec_l02Time.f a0_3).bind fun t140=>(if t140=true then ((spec_NameRight.f k a0_4).bind fun t141=>(if t141=true then ((spec_SetRight.f k l0_6 l0_7).bind fun t142=>(spec_MsgRight.j0 k (!t142) a0_0 a0_1 a0_2 a0_3 a0_4 a0_5 l0_6 l0_7)) else (spec_MsgRight.j0 k true a0_0 a0_1 a0_2 a0_3 a0_4 a0_5 l0_6 l0_7))) else (spec_MsgRight.j0 k true a0_0 a0_1 a0_2 a0_3 a0_4 a0_5 l0_6 l0_7))) else (spec_MsgRight.j0 k true a0_0 a0_1 a0_2 a0_3 a0_4 a0_5 l0_6 l0_7)))=some r:=by rw [if_pos rfl] at H;exact H
     clear H
     have H:=H1
     clear H1
     replace H:=Option.bind_eq_some_iff.mp H
     obtain ⟨t139,A100,H⟩:=H
     replace H:(if t139=true then ((spec_l02Time.f a0_3).bind fun t140=>(if t140=true then ((spec_NameRight.f k a0_4).bind fun t141=>(if t141=true then ((spec_SetRight.f k l0_6 l0_7).bind fun t142=>(spec_MsgRight.j0 k (!t142) a0_0 a0_1 a0_2 a0_3 a0_4 a0_5 l0_6 l0_7)) else (spec_MsgRight.j0 k true a0_0 a0_1 a0_2 a0_3 a0_4 a0_5 l0_6 l0_7))) else (spec_MsgRight.j0 k true a0_0 a0_1 a0_2 a0_3 a0_4 a0_5 l0_6 l0_7))) else (spec_MsgRight.j0 k true a0_0 a0_1 a0_2 a0_3 a0_4 a0_5 l0_6 l0_7))=some r:=H
     have A10:=Aside0.mk A100
     clear A100
     by_cases c11:t139=true
     ·subst c11
      have H1:((spec_l02Time.f a0_3).bind fun t140=>(if t140=true then ((spec_NameRight.f k a0_4).bind fun t141=>(if t141=true then ((spec_SetRight.f k l0_6 l0_7).bind fun t142=>(spec_MsgRight.j0 k (!t142) a0_0 a0_1 a0_2 a0_3 a0_4 a0_5 l0_6 l0_7)) else (spec_MsgRight.j0 k true a0_0 a0_1 a0_2 a0_3 a0_4 a0_5 l0_6 l0_7))) else (spec_MsgRight.j0 k true a0_0 a0_1 a0_2 a0_3 a0_4 a0_5 l0_6 l0_7)))=some r:=by rw [if_pos rfl] at H;exact H
      clear H
      have H:=H1
      clear H1
      replace H:=Option.bind_eq_some_iff.mp H
      obtain ⟨t140,A120,H⟩:=H
      replace H:(if t140=true then ((spec_NameRight.f k a0_4).bind fun t141=>(if t141=true then ((spec_SetRight.f k l0_6 l0_7).bind fun t142=>(spec_MsgRight.j0 k (!t142) a0_0 a0_1 a0_2 a0_3 a0_4 a0_5 l0_6 l0_7)) else (spec_MsgRight.j0 k true a0_0 a0_1 a0_2 a0_3 a0_4 a0_5 l0_6 l0_7))) else (spec_MsgRight.j0 k true a0_0 a0_1 a0_2 a0_3 a0_4 a0_5 l0_6 l0_7))=some r:=H
      have A12:=Aside0.mk A120
      clear A120
      by_cases c13:t140=true
      ·subst c13
       have H1:((spec_NameRight.f k a0_4).bind fun t141=>(if t141=true then ((spec_SetRight.f k l0_6 l0_7).bind fun t142=>(spec_MsgRight.j0 k (!t142) a0_0 a0_1 a0_2 a0_3 a0_4 a0_5 l0_6 l0_7)) else (spec_MsgRight.j0 k true a0_0 a0_1 a0_2 a0_3 a0_4 a0_5 l0_6 l0_7)))=some r:=by rw [if_pos rfl] at H;exact H
       clear H
       have H:=H1
       clear H1
       replace H:=Option.bind_eq_some_iff.mp H
       obtain ⟨t141,A140,H⟩:=H
       replace H:(if t141=true then ((spec_SetRight.f k l0_6 l0_7).bind fun t142=>(spec_MsgRight.j0 k (!t142) a0_0 a0_1 a0_2 a0_3 a0_4 a0_5 l0_6 l0_7)) else (spec_MsgRight.j0 k true a0_0 a0_1 a0_2 a0_3 a0_4 a0_5 l0_6 l0_7))=some r:=H
       have A14:=Aside0.mk A140
       clear A140
       by_cases c15:t141=true
       ·subst c15
        have H1:((spec_SetRight.f k l0_6 l0_7).bind fun t142=>(spec_MsgRight.j0 k (!t142) a0_0 a0_1 a0_2 a0_3 a0_4 a0_5 l0_6 l0_7))=some r:=by rw [if_pos rfl] at H;exact H
        clear H
        have H:=H1
        clear H1
        replace H:=Option.bind_eq_some_iff.mp H
        obtain ⟨t142,A160,H⟩:=H
        replace H:(spec_MsgRight.j0 k (!t142) a0_0 a0_1 a0_2 a0_3 a0_4 a0_5 l0_6 l0_7)=some r:=H
        have A16:=Aside0.mk A160
        clear A160
        have H':=Aside0.mk H
        clear H
        have ⟨hcz17_0,hcz17_1,hcz17_2,hcz17_3,hcz17_4,hcz17_5,hcz17_6,hcz17_7,hfz17_0,hfz17_1,hfz17_2,hfz17_3,hfz17_4,hfz17_5,hfz17_6,hfz17_7⟩:=cz8_ BK135.out
        go_wp2_with (first | ((with_reducible refine gc_ 37 ?_);refine gl_ (some 5) Try.func37 #[.int .i64 a0_0,.int .i64 1,.int .i64 4] ?_;(with_reducible refine (spec_l02Is.calls a0_0 1 4 true _ A4.out).mono ?_);rintro e w' ⟨rfl,⟨nd,rfl⟩⟩;refine ⟨_,rfl,?_⟩) | (go_at_call 69;(with_reducible refine (spec_l02Node.calls a0_1 true _ A6.out).mono ?_);rintro e w' ⟨rfl,⟨nd,rfl⟩⟩) | (go_at_call 69;(with_reducible refine (spec_l02Node.calls a0_2 true _ A8.out).mono ?_);rintro e w' ⟨rfl,⟨nd,rfl⟩⟩) | (go_at_call 69;(with_reducible refine (spec_l02Node.calls a0_5 true _ A10.out).mono ?_);rintro e w' ⟨rfl,⟨nd,rfl⟩⟩) | (go_at_call 81;(with_reducible refine (spec_l02Time.calls a0_3 true _ A12.out).mono ?_);rintro e w' ⟨rfl,⟨nd,rfl⟩⟩) | (go_at_call 38;(with_reducible refine (spec_NameRight.calls k a0_4 true _ A14.out).mono ?_);rintro e w' ⟨rfl,⟨nd,rfl⟩⟩) | (go_at_call 51;(with_reducible refine (spec_SetRight.calls k _ _ l0_6 _ _ l0_7 t142 _ ?s1 ?s2 ?s3 ?s4 A16.out).mono ?_);(case s1=>repeat (first | exact (Kd.C_below HR0_6.out (z4_ HB.out GE135.out)) | (with_reducible refine Kd.C_alloc ?_ _) | (with_reducible refine Kd.C_drewN ?_ _) | (with_reducible refine Kd.C_drew ?_)));(case s2=>exact HC0_6.out);(case s3=>repeat (first | exact (Kd.C_below HR0_7.out (z4_ HB.out GE135.out)) | (with_reducible refine Kd.C_alloc ?_ _) | (with_reducible refine Kd.C_drewN ?_ _) | (with_reducible refine Kd.C_drew ?_)));(case s4=>exact HC0_7.out);rintro e w18 ⟨rfl,hb⟩;refine as2_ (blkB_ BK135.out hb) (below_step (z4_ HB.out GE135.out) hb) ?_;clear BK135 HB;intro BK135 HB;(try clear hb)))
        go_meet
        case rel=>exact ⟨_,(!t142),(z2_),H',⟨by first | omega | exact Nat.le_refl _⟩,⟨z3_ BK135.out⟩,⟨z4_ HB.out GE135.out⟩⟩
       ·replace c15:=Bool.eq_false_iff.mpr c15
        subst c15
        have H1:(spec_MsgRight.j0 k true a0_0 a0_1 a0_2 a0_3 a0_4 a0_5 l0_6 l0_7)=some r:=by rw [if_neg (show ¬ (false=true) by decide)] at H;exact H
        clear H
        have H:=H1
        clear H1
        have H':=Aside0.mk H
        clear H
        have ⟨hcz19_0,hcz19_1,hcz19_2,hcz19_3,hcz19_4,hcz19_5,hcz19_6,hcz19_7,hfz19_0,hfz19_1,hfz19_2,hfz19_3,hfz19_4,hfz19_5,hfz19_6,hfz19_7⟩:=cz8_ BK135.out
        go_wp2_with (first | ((with_reducible refine gc_ 37 ?_);refine gl_ (some 5) Try.func37 #[.int .i64 a0_0,.int .i64 1,.int .i64 4] ?_;(with_reducible refine (spec_l02Is.calls a0_0 1 4 true _ A4.out).mono ?_);rintro e w' ⟨rfl,⟨nd,rfl⟩⟩;refine ⟨_,rfl,?_⟩) | (go_at_call 69;(with_reducible refine (spec_l02Node.calls a0_1 true _ A6.out).mono ?_);rintro e w' ⟨rfl,⟨nd,rfl⟩⟩) | (go_at_call 69;(with_reducible refine (spec_l02Node.calls a0_2 true _ A8.out).mono ?_);rintro e w' ⟨rfl,⟨nd,rfl⟩⟩) | (go_at_call 69;(with_reducible refine (spec_l02Node.calls a0_5 true _ A10.out).mono ?_);rintro e w' ⟨rfl,⟨nd,rfl⟩⟩) | (go_at_call 81;(with_reducible refine (spec_l02Time.calls a0_3 true _ A12.out).mono ?_);rintro e w' ⟨rfl,⟨nd,rfl⟩⟩) | (go_at_call 38;(with_reducible refine (spec_NameRight.calls k a0_4 false _ A14.out).mono ?_);rintro e w' ⟨rfl,⟨nd,rfl⟩⟩))
        go_meet
        case rel=>exact ⟨_,(true),(z2_),H',⟨by first | omega | exact Nat.le_refl _⟩,⟨z3_ BK135.out⟩,⟨z4_ HB.out GE135.out⟩⟩
      ·replace c13:=Bool.eq_false_iff.mpr c13
       subst c13
       have H1:(spec_MsgRight.j0 k true a0_0 a0_1 a0_2 a0_3 a0_4 a0_5 l0_6 l0_7)=some r:=by rw [if_neg (show ¬ (false=true) by decide)] at H;exact H
       clear H
       have H:=H1
       clear H1
       have H':=Aside0.mk H
       clear H
       have ⟨hcz20_0,hcz20_1,hcz20_2,hcz20_3,hcz20_4,hcz20_5,hcz20_6,hcz20_7,hfz20_0,hfz20_1,hfz20_2,hfz20_3,hfz20_4,hfz20_5,hfz20_6,hfz20_7⟩:=cz8_ BK135.out
       go_wp2_with (first | ((with_reducible refine gc_ 37 ?_);refine gl_ (some 5) Try.func37 #[.int .i64 a0_0,.int .i64 1,.int .i64 4] ?_;(with_reducible refine (spec_l02Is.calls a0_0 1 4 true _ A4.out).mono ?_);rintro e w' ⟨rfl,⟨nd,rfl⟩⟩;refine ⟨_,rfl,?_⟩) | (go_at_call 69;(with_reducible refine (spec_l02Node.calls a0_1 true _ A6.out).mono ?_);rintro e w' ⟨rfl,⟨nd,rfl⟩⟩) | (go_at_call 69;(with_reducible refine (spec_l02Node.calls a0_2 true _ A8.out).mono ?_);rintro e w' ⟨rfl,⟨nd,rfl⟩⟩) | (go_at_call 69;(with_reducible refine (spec_l02Node.calls a0_5 true _ A10.out).mono ?_);rintro e w' ⟨rfl,⟨nd,rfl⟩⟩) | (go_at_call 81;(with_reducible refine (spec_l02Time.calls a0_3 false _ A12.out).mono ?_);rintro e w' ⟨rfl,⟨nd,rfl⟩⟩))
       go_meet
       case rel=>exact ⟨_,(true),(z2_),H',⟨by first | omega | exact Nat.le_refl _⟩,⟨z3_ BK135.out⟩,⟨z4_ HB.out GE135.out⟩⟩
     ·replace c11:=Bool.eq_false_iff.mpr c11
      subst c11
      have H1:(spec_MsgRight.j0 k true a0_0 a0_1 a0_2 a0_3 a0_4 a0_5 l0_6 l0_7)=some r:=by rw [if_neg (show ¬ (false=true) by decide)] at H;exact H
      clear H
      have H:=H1
      clear H1
      have H':=Aside0.mk H
      clear H
      have ⟨hcz21_0,hcz21_1,hcz21_2,hcz21_3,hcz21_4,hcz21_5,hcz21_6,hcz21_7,hfz21_0,hfz21_1,hfz21_2,hfz21_3,hfz21_4,hfz21_5,hfz21_6,hfz21_7⟩:=cz8_ BK135.out
      go_wp2_with (first | ((with_reducible refine gc_ 37 ?_);refine gl_ (some 5) Try.func37 #[.int .i64 a0_0,.int .i64 1,.int .i64 4] ?_;(with_reducible refine (spec_l02Is.calls a0_0 1 4 true _ A4.out).mono ?_);rintro e w' ⟨rfl,⟨nd,rfl⟩⟩;refine ⟨_,rfl,?_⟩) | (go_at_call 69;(with_reducible refine (spec_l02Node.calls a0_1 true _ A6.out).mono ?_);rintro e w' ⟨rfl,⟨nd,rfl⟩⟩) | (go_at_call 69;(with_reducible refine (spec_l02Node.calls a0_2 true _ A8.out).mono ?_);rintro e w' ⟨rfl,⟨nd,rfl⟩⟩) | (go_at_call 69;(with_reducible refine (spec_l02Node.calls a0_5 false _ A10.out).mono ?_);rintro e w' ⟨rfl,⟨nd,rfl⟩⟩))
      go_meet
      case rel=>exact ⟨_,(true),(z2_),H',⟨by first | omega | exact Nat.le_refl _⟩,⟨z3_ BK135.out⟩,⟨z4_ HB.out GE135.out⟩⟩
    ·replace c9:=Bool.eq_false_iff.mpr c9
     subst c9
     have H1:(spec_MsgRight.j0 k true a0_0 a0_1 a0_2 a0_3 a0_4 a0_5 l0_6 l0_7)=some r:=by rw [if_neg (show ¬ (false=true) by decide)] at H;exact H
     clear H
     have H:=H1
     clear H1
     have H':=Aside0.mk H
     clear H
     have ⟨hcz22_0,hcz22_1,hcz22_2,hcz22_3,hcz22_4,hcz22_5,hcz22_6,hcz22_7,hfz22_0,hfz22_1,hfz22_2,hfz22_3,hfz22_4,hfz22_5,hfz22_6,hfz22_7⟩:=cz8_ BK135.out
     go_wp2_with (first | ((with_reducible refine gc_ 37 ?_);refine gl_ (some 5) Try.func37 #[.int .i64 a0_0,.int .i64 1,.int .i64 4] ?_;(with_reducible refine (spec_l02Is.calls a0_0 1 4 true _ A4.out).mono ?_);rintro e w' ⟨rfl,⟨nd,rfl⟩⟩;refine ⟨_,rfl,?_⟩) | (go_at_call 69;(with_reducible refine (spec_l02Node.calls a0_1 true _ A6.out).mono ?_);rintro e w' ⟨rfl,⟨nd,rfl⟩⟩) | (go_at_call 69;(with_reducible refine (spec_l02Node.calls a0_2 false _ A8.out).mono ?_);rintro e w' ⟨rfl,⟨nd,rfl⟩⟩))
     go_meet
     case rel=>exact ⟨_,(true),(z2_),H',⟨by first | omega | exact Nat.le_refl _⟩,⟨z3_ BK135.out⟩,⟨z4_ HB.out GE135.out⟩⟩
   ·replace c7:=Bool.eq_false_iff.mpr c7
    subst c7
    have H1:(spec_MsgRight.j0 k true a0_0 a0_1 a0_2 a0_3 a0_4 a0_5 l0_6 l0_7)=some r:=by rw [if_neg (show ¬ (false=true) by decide)] at H;exact H
    clear H
    have H:=H1
    clear H1
    have H':=Aside0.mk H
    clear H
    have ⟨hcz23_0,hcz23_1,hcz23_2,hcz23_3,hcz23_4,hcz23_5,hcz23_6,hcz23_7,hfz23_0,hfz23_1,hfz23_2,hfz23_3,hfz23_4,hfz23_5,hfz23_6,hfz23_7⟩:=cz8_ BK135.out
    go_wp2_with (first | ((with_reducible refine gc_ 37 ?_);refine gl_ (some 5) Try.func37 #[.int .i64 a0_0,.int .i64 1,.int .i64 4] ?_;(with_reducible refine (spec_l02Is.calls a0_0 1 4 true _ A4.out).mono ?_);rintro e w' ⟨rfl,⟨nd,rfl⟩⟩;refine ⟨_,rfl,?_⟩) | (go_at_call 69;(with_reducible refine (spec_l02Node.calls a0_1 false _ A6.out).mono ?_);rintro e w' ⟨rfl,⟨nd,rfl⟩⟩))
    go_meet
    case rel=>exact ⟨_,(true),(z2_),H',⟨by first | omega | exact Nat.le_refl _⟩,⟨z3_ BK135.out⟩,⟨z4_ HB.out GE135.out⟩⟩
  ·replace c5:=Bool.eq_false_iff.mpr c5
   subst c5
   have H1:(spec_MsgRight.j0 k true a0_0 a0_1 a0_2 a0_3 a0_4 a0_5 l0_6 l0_7)=some r:=by rw [if_neg (show ¬ (false=true) by decide)] at H;exact H
   clear H
   have H:=H1
   clear H1
   have H':=Aside0.mk H
   clear H
   have ⟨hcz24_0,hcz24_1,hcz24_2,hcz24_3,hcz24_4,hcz24_5,hcz24_6,hcz24_7,hfz24_0,hfz24_1,hfz24_2,hfz24_3,hfz24_4,hfz24_5,hfz24_6,hfz24_7⟩:=cz8_ BK135.out
   go_wp2_with (first | ((with_reducible refine gc_ 37 ?_);refine gl_ (some 5) Try.func37 #[.int .i64 a0_0,.int .i64 1,.int .i64 4] ?_;(with_reducible refine (spec_l02Is.calls a0_0 1 4 false _ A4.out).mono ?_);rintro e w' ⟨rfl,⟨nd,rfl⟩⟩;refine ⟨_,rfl,?_⟩))
   go_meet
   case rel=>exact ⟨_,(true),(z2_),H',⟨by first | omega | exact Nat.le_refl _⟩,⟨z3_ BK135.out⟩,⟨z4_ HB.out GE135.out⟩⟩
 case rest =>
  clear HC2
  try clear c1
  try clear p2
  try clear c3
  try clear c5
  try clear c7
  try clear c9
  try clear c11
  try clear c13
  try clear c15
  try clear hcz17_0
  try clear hcz17_1
  try clear hcz17_2
  try clear hcz17_3
  try clear hcz17_4
  try clear hcz17_5
  try clear hcz17_6
  try clear hcz17_7
  try clear hcz19_0
  try clear hcz19_1
  try clear hcz19_2
  try clear hcz19_3
  try clear hcz19_4
  try clear hcz19_5
  try clear hcz19_6
  try clear hcz19_7
  try clear hcz20_0
  try clear hcz20_1
  try clear hcz20_2
  try clear hcz20_3
  try clear hcz20_4
  try clear hcz20_5
  try clear hcz20_6
  try clear hcz20_7
  try clear hcz21_0
  try clear hcz21_1
  try clear hcz21_2
  try clear hcz21_3
  try clear hcz21_4
  try clear hcz21_5
  try clear hcz21_6
  try clear hcz21_7
  try clear hcz22_0
  try clear hcz22_1
  try clear hcz22_2
  try clear hcz22_3
  try clear hcz22_4
  try clear hcz22_5
  try clear hcz22_6
  try clear hcz22_7
  try clear hcz23_0
  try clear hcz23_1
  try clear hcz23_2
  try clear hcz23_3
  try clear hcz23_4
  try clear hcz23_5
  try clear hcz23_6
  try clear hcz23_7
  try clear hcz24_0
  try clear hcz24_1
  try clear hcz24_2
  try clear hcz24_3
  try clear hcz24_4
  try clear hcz24_5
  try clear hcz24_6
  try clear hcz24_7
  try clear hfz17_0
  try clear hfz17_1
  try clear hfz17_2
  try clear hfz17_3
  try clear hfz17_4
  try clear hfz17_5
  try clear hfz17_6
  try clear hfz17_7
  try clear hfz19_0
  try clear hfz19_1
  try clear hfz19_2
  try clear hfz19_3
  try clear hfz19_4
  try clear hfz19_5
  try clear hfz19_6
  try clear hfz19_7
  try clear hfz20_0
  try clear hfz20_1
  try clear hfz20_2
  try clear hfz20_3
  try clear hfz20_4
  try clear hfz20_5
  try clear hfz20_6
  try clear hfz20_7
  try clear hfz21_0
  try clear hfz21_1
  try clear hfz21_2
  try clear hfz21_3
  try clear hfz21_4
  try clear hfz21_5
  try clear hfz21_6
  try clear hfz21_7
  try clear hfz22_0
  try clear hfz22_1
  try clear hfz22_2
  try clear hfz22_3
  try clear hfz22_4
  try clear hfz22_5
  try clear hfz22_6
  try clear hfz22_7
  try clear hfz23_0
  try clear hfz23_1
  try clear hfz23_2
  try clear hfz23_3
  try clear hfz23_4
  try clear hfz23_5
  try clear hfz23_6
  try clear hfz23_7
  try clear hfz24_0
  try clear hfz24_1
  try clear hfz24_2
  try clear hfz24_3
  try clear hfz24_4
  try clear hfz24_5
  try clear hfz24_6
  try clear hfz24_7
  obtain ⟨kq,x42_1,rfl,HA,HJ1,BK135,HB⟩:=hcut
  cases kq with
  | zero=>exact absurd HA.out (by simp [spec_MsgRight.j0])
  | succ kj1 =>
   have H:=HA.out
   clear HA
   simp only [spec_MsgRight.j0] at H
   by_cases c25:x42_1=true
   ·subst c25
    have H1:(some false)=some r:=by rw [if_pos rfl] at H;exact H
    clear H
    have H:=H1
    clear H1
    obtain rfl:=Option.some.inj H
    go_wp2
    go_ret
    exact ⟨z8_,z4_ HB.out GE135.out⟩
   ·replace c25:=Bool.eq_false_iff.mpr c25
    subst c25
    have H1:(if a0_0=1 then (if a0_3>0 then (some ((l0_6.length:Int) == 0)) else (some false)) else (if a0_0=2 then (some (decide (a0_3>0))) else (if a0_0=3 then (some (decide ((l0_6.length:Int)>0))) else (if (l0_6.length:Int)>0 then (some ((l0_7.length:Int) == 0)) else (some false)))))=some r:=by rw [if_neg (show ¬ (false=true) by decide)] at H;exact H
    clear H
    have H:=H1
    clear H1
    by_cases c26:a0_0=1
    ·rw [if_pos c26] at H
     have c26b0:(a0_0 == 1)=true:=beq_iff_eq.mpr c26
     have c26b1:(a0_0 != 1)=false:=bne_eq_false_iff_eq.mpr c26
     clear c26
     by_cases c27:a0_3>0
     ·rw [if_pos c27] at H
      have c27b0:decide (0<a0_3)=true:=decide_eq_true c27
      clear c27
      obtain rfl:=Option.some.inj H
      have ⟨hcz28_0,hcz28_1,hcz28_2,hcz28_3,hcz28_4,hcz28_5,hcz28_6,hcz28_7,hfz28_0,hfz28_1,hfz28_2,hfz28_3,hfz28_4,hfz28_5,hfz28_6,hfz28_7⟩:=cz8_ BK135.out
      go_wp2
      go_ret
      exact ⟨z8_,z4_ HB.out GE135.out⟩
     ·rw [if_neg c27] at H
      have c27b0:decide (0<a0_3)=false:=decide_eq_false c27
      clear c27
      obtain rfl:=Option.some.inj H
      have ⟨hcz29_0,hcz29_1,hcz29_2,hcz29_3,hcz29_4,hcz29_5,hcz29_6,hcz29_7,hfz29_0,hfz29_1,hfz29_2,hfz29_3,hfz29_4,hfz29_5,hfz29_6,hfz29_7⟩:=cz8_ BK135.out
      go_wp2
      go_ret
      exact ⟨z8_,z4_ HB.out GE135.out⟩
    ·rw [if_neg c26] at H
     have c26b0:(a0_0 == 1)=false:=beq_eq_false_iff_ne.mpr c26
     have c26b1:(a0_0 != 1)=true:=bne_iff_ne.mpr c26
     by_cases c30:a0_0=2
     ·rw [if_pos c30] at H
      have c30b0:(a0_0 == 2)=true:=beq_iff_eq.mpr c30
      have c30b1:(a0_0 != 2)=false:=bne_eq_false_iff_eq.mpr c30
      clear c30
      obtain rfl:=Option.some.inj H
      have ⟨hcz31_0,hcz31_1,hcz31_2,hcz31_3,hcz31_4,hcz31_5,hcz31_6,hcz31_7,hfz31_0,hfz31_1,hfz31_2,hfz31_3,hfz31_4,hfz31_5,hfz31_6,hfz31_7⟩:=cz8_ BK135.out
      go_wp2
      go_ret
      exact ⟨z8_,z4_ HB.out GE135.out⟩
     ·rw [if_neg c30] at H
      have c30b0:(a0_0 == 2)=false:=beq_eq_false_iff_ne.mpr c30
      have c30b1:(a0_0 != 2)=true:=bne_iff_ne.mpr c30
      by_cases c32:a0_0=3
      ·rw [if_pos c32] at H
       have c32b0:(a0_0 == 3)=true:=beq_iff_eq.mpr c32
       have c32b1:(a0_0 != 3)=false:=bne_eq_false_iff_eq.mpr c32
       clear c32
       obtain rfl:=Option.some.inj H
       have ⟨hcz33_0,hcz33_1,hcz33_2,hcz33_3,hcz33_4,hcz33_5,hcz33_6,hcz33_7,hfz33_0,hfz33_1,hfz33_2,hfz33_3,hfz33_4,hfz33_5,hfz33_6,hfz33_7⟩:=cz8_ BK135.out
       go_wp2
       go_ret
       exact ⟨z8_,z4_ HB.out GE135.out⟩
      ·rw [if_neg c32] at H
       have c32b0:(a0_0 == 3)=false:=beq_eq_false_iff_ne.mpr c32
       have c32b1:(a0_0 != 3)=true:=bne_iff_ne.mpr c32
       by_cases c34:(l0_6.length:Int)>0
       ·rw [if_pos c34] at H
        have c34b0:decide (0<(l0_6.length:Int))=true:=decide_eq_true c34
        have c34b1:decide (0<l0_6.length)=true:=decide_eq_true (by omega)
        clear c34
        obtain rfl:=Option.some.inj H
        have ⟨hcz35_0,hcz35_1,hcz35_2,hcz35_3,hcz35_4,hcz35_5,hcz35_6,hcz35_7,hfz35_0,hfz35_1,hfz35_2,hfz35_3,hfz35_4,hfz35_5,hfz35_6,hfz35_7⟩:=cz8_ BK135.out
        go_wp2
        go_ret
        exact ⟨z8_,z4_ HB.out GE135.out⟩
       ·rw [if_neg c34] at H
        have c34b0:decide (0<(l0_6.length:Int))=false:=decide_eq_false c34
        have c34b1:decide (0<l0_6.length)=false:=decide_eq_false (by omega)
        clear c34
        obtain rfl:=Option.some.inj H
        have ⟨hcz36_0,hcz36_1,hcz36_2,hcz36_3,hcz36_4,hcz36_5,hcz36_6,hcz36_7,hfz36_0,hfz36_1,hfz36_2,hfz36_3,hfz36_4,hfz36_5,hfz36_6,hfz36_7⟩:=cz8_ BK135.out
        go_wp2
        go_ret
        exact ⟨z8_,z4_ HB.out GE135.out⟩


/-! ### spec_l03Copy: function 83 -/
def spec_l03Copy.f (l0_0:List (S56)) (l0_1:List (S91)):Option ((List (S56)) × (List (S91))):=(some (([]:List (S56)):List (S56))).bind fun y145=>(if y145.length+l0_0.length<8796093022208 then ((some (([]:List (S91)):List (S91))).bind fun y151=>(if y151.length+l0_1.length<3518437208883 then (some ((y145 ++ l0_0),(y151 ++ l0_1))) else (none))) else (none))
def spec_l03Copy.T1:Bool × List (List Nat × List Nat):=(true,[([],[]),([],[]),([1],[1]),([0,2],[0,2]),([],[]),([],[]),([5],[5]),([4,6,3],[4,6]),([3,7],[3,7]),([8,7,0,1,2,3,4,5,6,7,8],[8])])
def spec_l03Copy.B1:List Nat:=[0,0,2,7,0,0,32,127,255,511]
theorem spec_l03Copy.tab1:rtab .any (opsOf Try.f83 1)=spec_l03Copy.T1:=by kernel_rfl
theorem spec_l03Copy.bits1:waitsOk spec_l03Copy.T1.2 spec_l03Copy.B1=true:=by kernel_rfl
set_option maxHeartbeats 8000000 in
set_option maxRecDepth 100000 in
theorem spec_l03Copy.calls (A0_0:Option Addr) (c0_0:Nat) (l0_0:List (S56)) (A0_1:Option Addr) (c0_1:Nat) (l0_1:List (S91)) (r1:List (S56)) (r2:List (S91)) (w:World) (hr0_0:Kd.C k56 w A0_0 l0_0.length l0_0) (hc0_0:l0_0.length≤c0_0) (hr0_1:Kd.C k91 w A0_1 l0_1.length l0_1) (hc0_1:l0_1.length≤c0_1) (h:spec_l03Copy.f l0_0 l0_1=some (r1,r2)) :
  Calls Try.prog 83 #[.agg #[.slice A0_0 l0_0.length c0_0,.slice A0_1 l0_1.length c0_1]] w fun e w'=>∃ v0_ v1_:Value,e = .returned (.agg #[v0_,v1_])∧Kd.R k56 56 w' w.heap.size (fun _=>True) v0_ r1∧Kd.R k91 91 w' w.heap.size (fun _=>True) v1_ r2∧Below w.heap.size w w':=by
 have hu40:=Try.underlying40
 have HR0_0:=Aside0.mk hr0_0
 have HC0_0:=Aside0.mk hc0_0
 clear hr0_0 hc0_0
 have HR0_1:=Aside0.mk hr0_1
 have HC0_1:=Aside0.mk hc0_1
 clear hr0_1 hc0_1
 have HB:=Aside0.mk (Below.refl w.heap.size w)
 have H:((some (([]:List (S56)):List (S56))).bind fun y145=>(if y145.length+l0_0.length<8796093022208 then ((some (([]:List (S91)):List (S91))).bind fun y151=>(if y151.length+l0_1.length<3518437208883 then (some ((y145 ++ l0_0),(y151 ++ l0_1))) else (none))) else (none)))=some (r1,r2):=h
 clear h
 obtain ⟨y145,hy145⟩:∃ y_:List (S56),y_=(([]:List (S56))):=⟨_,rfl⟩
 replace H:(if y145.length+l0_0.length<8796093022208 then ((some (([]:List (S91)):List (S91))).bind fun y151=>(if y151.length+l0_1.length<3518437208883 then (some ((y145 ++ l0_0),(y151 ++ l0_1))) else (none))) else (none))=some (r1,r2):=by first | (rw [hy145];with_reducible exact H) | (have H2_:=(Option.bind_some _ _).symm.trans H;rw [hy145];with_reducible exact H2_) | (have H2_:=(Option.bind_some _ _).symm.trans H;with_reducible exact H2_) | with_reducible exact H | (rw [hy145];exact H) | exact H
 have Ny145:=Aside0.mk hy145
 clear hy145
 by_cases c2:y145.length+l0_0.length<8796093022208
 ·rw [if_pos c2] at H
  have LMc2:=Aside0.mk c2
  clear c2
  obtain ⟨y148,hy148⟩:∃ y_:List (S56),y_=(y145 ++ l0_0):=⟨_,rfl⟩
  replace H:((some (([]:List (S91)):List (S91))).bind fun y151=>(if y151.length+l0_1.length<3518437208883 then (some (y148,(y151 ++ l0_1))) else (none)))=some (r1,r2):=by first | (rw [hy148];with_reducible exact H) | (have H2_:=(Option.bind_some _ _).symm.trans H;rw [hy148];with_reducible exact H2_) | (have H2_:=(Option.bind_some _ _).symm.trans H;with_reducible exact H2_) | with_reducible exact H | (rw [hy148];exact H) | exact H
  have Ny148:=Aside0.mk hy148
  clear hy148
  obtain ⟨y151,hy151⟩:∃ y_:List (S91),y_=(([]:List (S91))):=⟨_,rfl⟩
  replace H:(if y151.length+l0_1.length<3518437208883 then (some (y148,(y151 ++ l0_1))) else (none))=some (r1,r2):=by first | (rw [hy151];with_reducible exact H) | (have H2_:=(Option.bind_some _ _).symm.trans H;rw [hy151];with_reducible exact H2_) | (have H2_:=(Option.bind_some _ _).symm.trans H;with_reducible exact H2_) | with_reducible exact H | (rw [hy151];exact H) | exact H
  have Ny151:=Aside0.mk hy151
  clear hy151
  by_cases c3:y151.length+l0_1.length<3518437208883
  ·rw [if_pos c3] at H
   have LMc3:=Aside0.mk c3
   clear c3
   obtain ⟨y154,hy154⟩:∃ y_:List (S91),y_=(y151 ++ l0_1):=⟨_,rfl⟩
   replace H:(some (y148,y154))=some (r1,r2):=by first | (rw [hy154];with_reducible exact H) | (have H2_:=(Option.bind_some _ _).symm.trans H;rw [hy154];with_reducible exact H2_) | (have H2_:=(Option.bind_some _ _).symm.trans H;with_reducible exact H2_) | with_reducible exact H | (rw [hy154];exact H) | exact H
   have Ny154:=Aside0.mk hy154
   clear hy154
   simp only [Option.some.injEq,Prod.mk.injEq] at H
   obtain ⟨rfl,rfl⟩:=H
   go_enter Try.func83,Try.ntmps83
   try go_wp2_with (first | ((with_reducible refine gd_ 1 ?_);refine be_ 1 #[.slice A0_0 l0_0.length c0_0,.slice A0_1 l0_1.length c0_1] 40 ?_;intro gb143 hg w4 hbox hb;refine as4_ (below_step (z5_ HB.out) hb) (hbox) ((z7_ HB.out:w.heap.size≤gb143)) ((z7_ HB.out:w.heap.size≤gb143)) ?_;clear HB;intro HB BK143 GW143 GE143;clear hb hbox hg) | ((with_reducible refine gd_ 2 ?_);refine be_ 2 #[.slice none 0 0,.slice none 0 0] 40 ?_;intro gb144 hg w5 hbox hb;refine as7_ (blkB_ BK143.out hb) (below_step (z4_ HB.out GE143.out) hb) (hbox) ((z11_ HB.out GE143.out:w.heap.size≤gb144)) ((z11_ HB.out GE143.out:w.heap.size≤gb144)) (neL_ BK143.out hg) (neG_ BK143.out hg) ?_;clear BK143 HB;intro BK143 HB BK144 GW144 GE144 NB143_144 NB144_143;clear hb hbox hg))
   refine as3_ (blk_drew BK143.out) (blk_drew BK144.out) (below_drew1 HB.out) ?_
   clear BK143 BK144 HB
   intro BK143 BK144 HB
   refine start_ (n:=10) (S:=fun w'=>w'.cell? ⟨gb143,0,none⟩=some (.slice A0_0 l0_0.length c0_0)∧w'.cell? ⟨gb143,1,none⟩=some (.slice A0_1 l0_1.length c0_1)) (ds:=[]) #[O,O,O,O,O,O,O,O,O,O] (by kernel_rfl) rfl rfl (cc2_ BK143.out) (fun hHeld=>?_);refine with_tabW spec_l03Copy.tab1 spec_l03Copy.bits1 (fun HT_ HW_=>?_)
   generalize w5.drew=w6 at BK143 BK144 HB hHeld ⊢
   refine pu_ 1 4 #[O,I,O,O,O,O,O,O,O,O] HT_.out ?_
   refine pu_ 5 8 #[O,I,O,O,O,I,O,O,O,O] HT_.out ?_
   refine tk2_ 2 5 #[O,I,I,O,O,I,O,O,O,O] HT_.out HW_.out hHeld ?_
   refine tk2_ 6 9 #[O,I,I,O,O,I,I,O,O,O] HT_.out HW_.out hHeld ?_
   refine join_ (σ:=Value × Value × Value) 3 #[I,I,I,I,I,I,I,O,O,O] (fun s_=>[(3,s_.1),(6,s_.2.1),(7,s_.2.2)]) (fun s_ w'=>(w'.cell? ⟨gb143,0,none⟩=some (.slice A0_0 l0_0.length c0_0)∧w'.cell? ⟨gb143,1,none⟩=some (.slice A0_1 l0_1.length c0_1))∧(Kd.R k56 56 w' w.heap.size (fun _=>True) s_.2.1 y148)∧(Kd.R k91 91 w' w.heap.size (fun _=>True) s_.2.2 y151)∧(w'.heap[gb143]? = some (.cells #[.slice A0_0 l0_0.length c0_0,.slice A0_1 l0_1.length c0_1] 40 (0,0)))∧(w'.heap[gb144]? = some (.cells #[.slice none 0 0,.slice none 0 0] 40 (0,0)))∧(Below w.heap.size w w')) ?_ ?_
   rotate_left
   ·intro hCont
    refine o2_ 0 4 3 7 #[I,I,I,O,O,I,I,O,O,O] #[O,I,I,O,I,I,I,O,O,O] HT_.out (fun K hK=>?_) (fun K hK=>?_)
    ·skip
     refine Kd.R_lit_step k56 _ 56 ?hg (N:=3) ?hd (xs:=([]:List (S56))) (inner:=[]) (ok:=fun _=>True) (okp:=fun _=>True) ?hr ?hp (fun _ hk=>hk) trivial (Below.refl _ _) (Nat.le_refl _) (by simp) ?_;(case hd=>rfl);(case hg=>rfl);(case hr=>first | (go_simp;done) | (go_simp;rfl));(case hp=>exact (Reps.none _ _))
     intro v146 w7 ho8 hb hg_ hnew_
     clear hg_ hnew_
     (first | rw [← Ny145.out] at ho8 | (simp only [Int.reduceToNat] at ho8;rw [← Ny145.out] at ho8))
     refine as4_ (Kd.R_lower ho8 (below_size (z6_ HB.out GE143.out GE144.out))) (blkB_ BK143.out hb) (blkB_ BK144.out hb) (below_step (z6_ HB.out GE143.out GE144.out) hb) ?_
     clear BK143 BK144 HB
     intro HO147 BK143 BK144 HB
     clear hb ho8
     refine hK.out _ _ (cc2_ BK143.out) (fun hHeld=>?_)
     clear hK K
     refine nm_ 3 ?_
     refine o2_ 3 4 6 7 #[I,I,I,I,O,I,I,O,O,O] #[I,I,I,O,I,I,I,O,O,O] HT_.out (fun K hK=>?_) (fun K hK=>?_)
     ·skip
      refine Kd.R_append_rows_step k56 (w0:=w) w.heap.size (by rfl) (.tmp 3) (.tmp 5) 37 56 (.agg #[(.int .i64 0),(.int .i64 0)]) 16 rfl Try.underlying37 info56 rfl (by decide) (by omega) v146 y145 l0_0 _ _ _ (fun _=>True) (fun _=>False) rfl rfl ?aO ?aR (fun _ _ h=>h) (fun _ h=>h.elim) ?aF ?aB ?aS ?aL ?_
      (case aR=>repeat (first | exact (Kd.C_below HR0_0.out HB.out) | (with_reducible refine Kd.C_alloc ?_ _) | (with_reducible refine Kd.C_drewN ?_ _) | (with_reducible refine Kd.C_drew ?_)))
      (case aB=>exact (z6_ HB.out GE143.out GE144.out))
      (case aF=>exact (fun _ _=>trivial))
      (case aO=>exact (z0_ HO147.out))
      (case aS=>exact (below_size (z6_ HB.out GE143.out GE144.out)))
      (case aL=>have:=LMc2.out;omega)
      intro v149 w9 ho hb hg hat
      rw [← Ny148.out] at ho
      refine as4_ (blk_grown (g:=gb143) (o:=.cells #[.slice A0_0 l0_0.length c0_0,.slice A0_1 l0_1.length c0_1] 40 (0,0)) (z3_ BK143.out) hg (Kd.R_ne HO147.out BK143.out (by decide))) (blk_grown (g:=gb144) (o:=.cells #[.slice none 0 0,.slice none 0 0] 40 (0,0)) (z3_ BK144.out) hg (Kd.R_ne HO147.out BK144.out (by decide))) (hb) (ho) ?_
      clear BK143 BK144 HB HO147
      intro BK143 BK144 HB HO150
      clear ho hb hg hat
      refine hK.out _ _ (cc2_ BK143.out) (fun hHeld=>?_)
      clear hK K
      refine nm_ 6 ?_
      refine o1_ 4 7 #[I,I,I,I,I,I,I,O,O,O] HT_.out (fun K hK=>?_)
      refine Kd.R_lit_step k91 _ 91 ?hg (N:=7) ?hd (xs:=([]:List (S91))) (inner:=[]) (ok:=fun _=>True) (okp:=fun _=>True) ?hr ?hp (fun _ hk=>hk) trivial (Below.refl _ _) (Nat.le_refl _) (by simp) ?_;(case hd=>rfl);(case hg=>rfl);(case hr=>first | (go_simp;done) | (go_simp;rfl));(case hp=>exact (Reps.none _ _))
      intro v152 w10 ho11 hb hg_ hnew_
      clear hg_ hnew_
      (first | rw [← Ny151.out] at ho11 | (simp only [Int.reduceToNat] at ho11;rw [← Ny151.out] at ho11))
      refine as5_ (Kd.R_below (z0_ HO150.out) hb) (Kd.R_lower ho11 (below_size (z6_ HB.out GE143.out GE144.out))) (blkB_ BK143.out hb) (blkB_ BK144.out hb) (below_step (z6_ HB.out GE143.out GE144.out) hb) ?_
      clear HO150 BK143 BK144 HB
      intro HO150 HO153 BK143 BK144 HB
      clear hb ho11
      refine hK.out _ _ (cc2_ BK143.out) (fun hHeld=>?_)
      clear hK K
      refine nm_ 7 ?_
      exact norm_ (z30_) (hCont (v146,v149,v152) _ ⟨hHeld,(z0_ HO150.out),(z0_ HO153.out),(z3_ BK143.out),(z3_ BK144.out),(z6_ HB.out GE143.out GE144.out)⟩)
     ·skip
      refine Kd.R_lit_step k91 _ 91 ?hg (N:=7) ?hd (xs:=([]:List (S91))) (inner:=[]) (ok:=fun _=>True) (okp:=fun _=>True) ?hr ?hp (fun _ hk=>hk) trivial (Below.refl _ _) (Nat.le_refl _) (by simp) ?_;(case hd=>rfl);(case hg=>rfl);(case hr=>first | (go_simp;done) | (go_simp;rfl));(case hp=>exact (Reps.none _ _))
      intro v152 w9 ho10 hb hg_ hnew_
      clear hg_ hnew_
      (first | rw [← Ny151.out] at ho10 | (simp only [Int.reduceToNat] at ho10;rw [← Ny151.out] at ho10))
      refine as5_ (Kd.R_below (z0_ HO147.out) hb) (Kd.R_lower ho10 (below_size (z6_ HB.out GE143.out GE144.out))) (blkB_ BK143.out hb) (blkB_ BK144.out hb) (below_step (z6_ HB.out GE143.out GE144.out) hb) ?_
      clear HO147 BK143 BK144 HB
      intro HO147 HO153 BK143 BK144 HB
      clear hb ho10
      refine hK.out _ _ (cc2_ BK143.out) (fun hHeld=>?_)
      clear hK K
      refine nm_ 7 ?_
      refine o1_ 3 6 #[I,I,I,I,I,I,I,O,O,O] HT_.out (fun K hK=>?_)
      refine Kd.R_append_rows_step k56 (w0:=w) w.heap.size (by rfl) (.tmp 3) (.tmp 5) 37 56 (.agg #[(.int .i64 0),(.int .i64 0)]) 16 rfl Try.underlying37 info56 rfl (by decide) (by omega) v146 y145 l0_0 _ _ _ (fun _=>True) (fun _=>False) rfl rfl ?aO ?aR (fun _ _ h=>h) (fun _ h=>h.elim) ?aF ?aB ?aS ?aL ?_
      (case aR=>repeat (first | exact (Kd.C_below HR0_0.out HB.out) | (with_reducible refine Kd.C_alloc ?_ _) | (with_reducible refine Kd.C_drewN ?_ _) | (with_reducible refine Kd.C_drew ?_)))
      (case aB=>exact (z6_ HB.out GE143.out GE144.out))
      (case aF=>exact (fun _ _=>trivial))
      (case aO=>exact (z0_ HO147.out))
      (case aS=>exact (below_size (z6_ HB.out GE143.out GE144.out)))
      (case aL=>have:=LMc2.out;omega)
      intro v149 w11 ho hb hg hat
      rw [← Ny148.out] at ho
      refine as5_ (blk_grown (g:=gb143) (o:=.cells #[.slice A0_0 l0_0.length c0_0,.slice A0_1 l0_1.length c0_1] 40 (0,0)) (z3_ BK143.out) hg (Kd.R_ne HO147.out BK143.out (by decide))) (blk_grown (g:=gb144) (o:=.cells #[.slice none 0 0,.slice none 0 0] 40 (0,0)) (z3_ BK144.out) hg (Kd.R_ne HO147.out BK144.out (by decide))) (Kd.R_over' (z0_ HO153.out) (Kd.R_typed (z0_ HO147.out)) (by decide) hg) (hb) (ho) ?_
      clear BK143 BK144 HO153 HB HO147
      intro BK143 BK144 HO153 HB HO150
      clear ho hb hg hat
      refine hK.out _ _ (cc2_ BK143.out) (fun hHeld=>?_)
      clear hK K
      refine nm_ 6 ?_
      exact norm_ (z30_) (hCont (v146,v149,v152) _ ⟨hHeld,(z0_ HO150.out),(z0_ HO153.out),(z3_ BK143.out),(z3_ BK144.out),(z6_ HB.out GE143.out GE144.out)⟩)
    ·skip
     refine Kd.R_lit_step k91 _ 91 ?hg (N:=7) ?hd (xs:=([]:List (S91))) (inner:=[]) (ok:=fun _=>True) (okp:=fun _=>True) ?hr ?hp (fun _ hk=>hk) trivial (Below.refl _ _) (Nat.le_refl _) (by simp) ?_;(case hd=>rfl);(case hg=>rfl);(case hr=>first | (go_simp;done) | (go_simp;rfl));(case hp=>exact (Reps.none _ _))
     intro v152 w7 ho8 hb hg_ hnew_
     clear hg_ hnew_
     (first | rw [← Ny151.out] at ho8 | (simp only [Int.reduceToNat] at ho8;rw [← Ny151.out] at ho8))
     refine as4_ (Kd.R_lower ho8 (below_size (z6_ HB.out GE143.out GE144.out))) (blkB_ BK143.out hb) (blkB_ BK144.out hb) (below_step (z6_ HB.out GE143.out GE144.out) hb) ?_
     clear BK143 BK144 HB
     intro HO153 BK143 BK144 HB
     clear hb ho8
     refine hK.out _ _ (cc2_ BK143.out) (fun hHeld=>?_)
     clear hK K
     refine nm_ 7 ?_
     refine o1_ 0 3 #[I,I,I,O,I,I,I,O,O,O] HT_.out (fun K hK=>?_)
     refine Kd.R_lit_step k56 _ 56 ?hg (N:=3) ?hd (xs:=([]:List (S56))) (inner:=[]) (ok:=fun _=>True) (okp:=fun _=>True) ?hr ?hp (fun _ hk=>hk) trivial (Below.refl _ _) (Nat.le_refl _) (by simp) ?_;(case hd=>rfl);(case hg=>rfl);(case hr=>first | (go_simp;done) | (go_simp;rfl));(case hp=>exact (Reps.none _ _))
     intro v146 w9 ho10 hb hg_ hnew_
     clear hg_ hnew_
     (first | rw [← Ny145.out] at ho10 | (simp only [Int.reduceToNat] at ho10;rw [← Ny145.out] at ho10))
     refine as5_ (Kd.R_below (z0_ HO153.out) hb) (Kd.R_lower ho10 (below_size (z6_ HB.out GE143.out GE144.out))) (blkB_ BK143.out hb) (blkB_ BK144.out hb) (below_step (z6_ HB.out GE143.out GE144.out) hb) ?_
     clear HO153 BK143 BK144 HB
     intro HO153 HO147 BK143 BK144 HB
     clear hb ho10
     refine hK.out _ _ (cc2_ BK143.out) (fun hHeld=>?_)
     clear hK K
     refine nm_ 3 ?_
     refine o1_ 3 6 #[I,I,I,I,I,I,I,O,O,O] HT_.out (fun K hK=>?_)
     refine Kd.R_append_rows_step k56 (w0:=w) w.heap.size (by rfl) (.tmp 3) (.tmp 5) 37 56 (.agg #[(.int .i64 0),(.int .i64 0)]) 16 rfl Try.underlying37 info56 rfl (by decide) (by omega) v146 y145 l0_0 _ _ _ (fun _=>True) (fun _=>False) rfl rfl ?aO ?aR (fun _ _ h=>h) (fun _ h=>h.elim) ?aF ?aB ?aS ?aL ?_
     (case aR=>repeat (first | exact (Kd.C_below HR0_0.out HB.out) | (with_reducible refine Kd.C_alloc ?_ _) | (with_reducible refine Kd.C_drewN ?_ _) | (with_reducible refine Kd.C_drew ?_)))
     (case aB=>exact (z6_ HB.out GE143.out GE144.out))
     (case aF=>exact (fun _ _=>trivial))
     (case aO=>exact (z0_ HO147.out))
     (case aS=>exact (below_size (z6_ HB.out GE143.out GE144.out)))
     (case aL=>have:=LMc2.out;omega)
     intro v149 w11 ho hb hg hat
     rw [← Ny148.out] at ho
     refine as5_ (blk_grown (g:=gb143) (o:=.cells #[.slice A0_0 l0_0.length c0_0,.slice A0_1 l0_1.length c0_1] 40 (0,0)) (z3_ BK143.out) hg (Kd.R_ne HO147.out BK143.out (by decide))) (blk_grown (g:=gb144) (o:=.cells #[.slice none 0 0,.slice none 0 0] 40 (0,0)) (z3_ BK144.out) hg (Kd.R_ne HO147.out BK144.out (by decide))) (Kd.R_over' (z0_ HO153.out) (Kd.R_typed (z0_ HO147.out)) (by decide) hg) (hb) (ho) ?_
     clear BK143 BK144 HO153 HB HO147
     intro BK143 BK144 HO153 HB HO150
     clear ho hb hg hat
     refine hK.out _ _ (cc2_ BK143.out) (fun hHeld=>?_)
     clear hK K
     refine nm_ 6 ?_
     exact norm_ (z30_) (hCont (v146,v149,v152) _ ⟨hHeld,(z0_ HO150.out),(z0_ HO153.out),(z3_ BK143.out),(z3_ BK144.out),(z6_ HB.out GE143.out GE144.out)⟩)
   rintro ⟨v146,v149,v152⟩ w12 ⟨hS_,h0_,h1_,h2_,h3_,h4_⟩
   have n0_:Aside0 (Kd.R k56 56 w12 w.heap.size (fun _=>True) v149 y148):=⟨h0_⟩
   have n1_:Aside0 (Kd.R k91 91 w12 w.heap.size (fun _=>True) v152 y151):=⟨h1_⟩
   have n2_:Aside0 (w12.heap[gb143]? = some (.cells #[.slice A0_0 l0_0.length c0_0,.slice A0_1 l0_1.length c0_1] 40 (0,0))):=⟨h2_⟩
   have n3_:Aside0 (w12.heap[gb144]? = some (.cells #[.slice none 0 0,.slice none 0 0] 40 (0,0))):=⟨h3_⟩
   have n4_:Aside0 (Below w.heap.size w w12):=⟨h4_⟩
   clear BK143
   clear BK144
   clear HB
   clear h0_ h1_ h2_ h3_ h4_
   have HO150:=n0_
   have HO153:=n1_
   have BK143:=n2_
   have BK144:=n3_
   have HB:=n4_
   clear n0_ n1_ n2_ n3_ n4_
   have hHeld:w12.cell? ⟨gb143,0,none⟩=some (.slice A0_0 l0_0.length c0_0)∧w12.cell? ⟨gb143,1,none⟩=some (.slice A0_1 l0_1.length c0_1):=hS_
   refine norm_ (a':=?_) ?_ ?_
   rotate_left
   ·simp only [putAll,Act.put,List.setIfInBounds_toArray,List.set_cons_zero,List.set_cons_succ]
    rfl
   refine o1_ 7 10 #[I,I,I,I,I,I,I,I,O,O] HT_.out (fun K hK=>?_)
   refine Kd.R_append_rows_step k91 (w0:=w) w.heap.size (by rfl) (.tmp 7) (.tmp 9) 38 91 (.agg #[(.int .i64 0),(.int .i64 0),(.bool false),(.string ⟨#[]⟩)]) 40 rfl Try.underlying38 info91 rfl (by decide) (by omega) v152 y151 l0_1 _ _ _ (fun _=>True) (fun _=>False) rfl rfl ?aO ?aR (fun _ _ h=>h) (fun _ h=>h.elim) ?aF ?aB ?aS ?aL ?_
   (case aR=>repeat (first | exact (Kd.C_below HR0_1.out HB.out) | (with_reducible refine Kd.C_alloc ?_ _) | (with_reducible refine Kd.C_drewN ?_ _) | (with_reducible refine Kd.C_drew ?_)))
   (case aB=>exact (z6_ HB.out GE143.out GE144.out))
   (case aF=>exact (fun _ _=>trivial))
   (case aO=>exact (z0_ HO153.out))
   (case aS=>exact (below_size (z6_ HB.out GE143.out GE144.out)))
   (case aL=>have:=LMc3.out;omega)
   intro v155 w13 ho hb hg hat
   rw [← Ny154.out] at ho
   refine as5_ (blk_grown (g:=gb143) (o:=.cells #[.slice A0_0 l0_0.length c0_0,.slice A0_1 l0_1.length c0_1] 40 (0,0)) (z3_ BK143.out) hg (Kd.R_ne HO153.out BK143.out (by decide))) (blk_grown (g:=gb144) (o:=.cells #[.slice none 0 0,.slice none 0 0] 40 (0,0)) (z3_ BK144.out) hg (Kd.R_ne HO153.out BK144.out (by decide))) (Kd.R_over' (z0_ HO150.out) (Kd.R_typed (z0_ HO153.out)) (by decide) hg) (hb) (ho) ?_
   clear BK143 BK144 HO150 HB HO153
   intro BK143 BK144 HO150 HB HO156
   clear ho hb hg hat
   obtain ⟨Ao14,co14,eo14⟩:=Kd.R_slice HO156.out
   (first | subst eo14 | (injection eo14 with f1_ f2_ f3_;have f4_:=f1_.symm;have f5_:=f3_.symm;clear f1_ f2_ f3_;subst f4_;subst f5_))
   obtain ⟨Ao15,co15,eo15⟩:=Kd.R_slice HO150.out
   (first | subst eo15 | (injection eo15 with f1_ f2_ f3_;have f4_:=f1_.symm;have f5_:=f3_.symm;clear f1_ f2_ f3_;subst f4_;subst f5_))
   refine hK.out _ _ (cc2_ BK143.out) (fun hHeld=>?_)
   clear hK K
   refine nm_ 10 ?_
   refine pu_ 8 11 #[I,I,I,I,I,I,I,I,I,O] HT_.out ?_
   refine one_ (i:=9) (N:=none) #[I,I,I,I,I,I,I,I,I,I] rfl rfl (one_of HT_.out (by kernel_rfl)) (by decide) (fun K hK=>?_)
   have hs16:w13.cell? ⟨gb144,0,none⟩=some (.slice none 0 0):=(blk_cell BK144.out 0).trans rfl
   have hfs16:=blk_frozen BK144.out 0
   have hns16_0:=NB143_144.out
   have hms16_0:=NB144_143.out
   have hs17:w13.cell? ⟨gb144,1,none⟩=some (.slice none 0 0):=(blk_cell BK144.out 1).trans rfl
   have hfs17:=blk_frozen BK144.out 1
   have hns17_0:=NB143_144.out
   have hms17_0:=NB144_143.out
   refine skip_ (w1:=?_) (by rfl) rfl ?_ ?_
   rotate_left
   ·go_simp
    rfl
   refine hK.out _ _ ⟨((cell_far (p:=⟨gb144,_,none⟩) NB143_144.out _).trans (((cell_far (p:=⟨gb144,_,none⟩) NB143_144.out _).trans (hHeld.1)))),((cell_far (p:=⟨gb144,_,none⟩) NB143_144.out _).trans (((cell_far (p:=⟨gb144,_,none⟩) NB143_144.out _).trans (hHeld.2))))⟩ (fun hHeld=>?_)
   clear hK K
   refine done_ (done_of HT_.out (by kernel_rfl)) ?_
   try go_wp2
   refine bodyPost_ret (results_cell_row rfl _ _ gb144 40 #[.slice Ao15 y148.length co15,.slice Ao14 y154.length co14] (0,0) _ rfl (z35_ BK144.out) Try.underlying40 rfl (by kernel_rfl)) rfl ?_
   exact ⟨_,_,z8_,z39_ HO150.out BK144.out,z39_ HO156.out BK144.out,z6_ HB.out GE143.out GE144.out⟩
  ·rw [if_neg c3] at H
   exact absurd H (by simp)
 ·rw [if_neg c2] at H
  exact absurd H (by simp)


/-! ### spec_l08Turn: function 52 -/
def spec_l08Turn.f (a0_0:Int) (a0_1:Int) (a0_2:Int) (a0_3:Int) (a0_4:ByteArray) (a0_5:Int) (l0_6:List (S56)) (l0_7:List (S91)) (a1:Int) (l2_0:List (S56)) (l2_1:List (S91)):Option (Int × Int × Int × Int × ByteArray × Int × (List (S56)) × (List (S91))):=(spec_l03Copy.f l2_0 l2_1).bind fun bt160=>(some (a1,a0_2,a0_1,a0_3,a0_4,a0_5,bt160.1,bt160.2))
def spec_l08Turn.T1:Bool × List (List Nat × List Nat):=(true,[([],[]),([],[]),([1],[1]),([],[]),([3],[3]),([],[]),([5],[5]),([],[]),([7],[7]),([],[]),([9],[9]),([],[]),([11],[11]),([0,2,4,6,8,10,12],[0,2,4,6,8,10,12]),([13,12,0,1,2,3,4,5,6,7,8,9,10,11,12,13],[13])])
def spec_l08Turn.B1:List Nat:=[0,0,2,0,8,0,32,0,128,0,512,0,2048,8191,16383]
theorem spec_l08Turn.tab1:rtab .any (opsOf Try.f52 1)=spec_l08Turn.T1:=by kernel_rfl
theorem spec_l08Turn.bits1:waitsOk spec_l08Turn.T1.2 spec_l08Turn.B1=true:=by kernel_rfl
set_option maxHeartbeats 8000000 in
set_option maxRecDepth 100000 in
theorem spec_l08Turn.calls (a0_0:Int) (a0_1:Int) (a0_2:Int) (a0_3:Int) (a0_4:ByteArray) (a0_5:Int) (A0_6:Option Addr) (c0_6:Nat) (l0_6:List (S56)) (A0_7:Option Addr) (c0_7:Nat) (l0_7:List (S91)) (a1:Int) (A2_0:Option Addr) (c2_0:Nat) (l2_0:List (S56)) (A2_1:Option Addr) (c2_1:Nat) (l2_1:List (S91)) (r1:Int) (r2:Int) (r3:Int) (r4:Int) (r5:ByteArray) (r6:Int) (r7:List (S56)) (r8:List (S91)) (w:World) (hr0_6:Kd.C k56 w A0_6 l0_6.length l0_6) (hc0_6:l0_6.length≤c0_6) (hr0_7:Kd.C k91 w A0_7 l0_7.length l0_7) (hc0_7:l0_7.length≤c0_7) (hr2_0:Kd.C k56 w A2_0 l2_0.length l2_0) (hc2_0:l2_0.length≤c2_0) (hr2_1:Kd.C k91 w A2_1 l2_1.length l2_1) (hc2_1:l2_1.length≤c2_1) (h:spec_l08Turn.f a0_0 a0_1 a0_2 a0_3 a0_4 a0_5 l0_6 l0_7 a1 l2_0 l2_1=some (r1,r2,r3,r4,r5,r6,r7,r8)) :
  Calls Try.prog 52 #[.agg #[.int .i64 a0_0,.int .i64 a0_1,.int .i64 a0_2,.int .i64 a0_3,.string a0_4,.int .i64 a0_5,.slice A0_6 l0_6.length c0_6,.slice A0_7 l0_7.length c0_7],.int .i64 a1,.agg #[.slice A2_0 l2_0.length c2_0,.slice A2_1 l2_1.length c2_1]] w fun e w'=>∃ v6_ v7_:Value,e = .returned (.agg #[.int .i64 r1,.int .i64 r2,.int .i64 r3,.int .i64 r4,.string r5,.int .i64 r6,v6_,v7_])∧Kd.R k56 56 w' w.heap.size (fun _=>True) v6_ r7∧Kd.R k91 91 w' w.heap.size (fun _=>True) v7_ r8∧Below w.heap.size w w':=by
 have hu42:=Try.underlying42
 have hu40:=Try.underlying40
 have HR0_6:=Aside0.mk hr0_6
 have HC0_6:=Aside0.mk hc0_6
 clear hr0_6 hc0_6
 have HR0_7:=Aside0.mk hr0_7
 have HC0_7:=Aside0.mk hc0_7
 clear hr0_7 hc0_7
 have HR2_0:=Aside0.mk hr2_0
 have HC2_0:=Aside0.mk hc2_0
 clear hr2_0 hc2_0
 have HR2_1:=Aside0.mk hr2_1
 have HC2_1:=Aside0.mk hc2_1
 clear hr2_1 hc2_1
 have HB:=Aside0.mk (Below.refl w.heap.size w)
 have H:((spec_l03Copy.f l2_0 l2_1).bind fun bt160=>(some (a1,a0_2,a0_1,a0_3,a0_4,a0_5,bt160.1,bt160.2)))=some (r1,r2,r3,r4,r5,r6,r7,r8):=h
 clear h
 replace H:=Option.bind_eq_some_iff.mp H
 obtain ⟨⟨t160,t163⟩,A40,H⟩:=H
 replace H:(some (a1,a0_2,a0_1,a0_3,a0_4,a0_5,t160,t163))=some (r1,r2,r3,r4,r5,r6,r7,r8):=H
 have A4:=Aside0.mk A40
 clear A40
 simp only [Option.some.injEq,Prod.mk.injEq] at H
 obtain ⟨rfl,rfl,rfl,rfl,rfl,rfl,rfl,rfl⟩:=H
 go_enter Try.func52,Try.ntmps52
 try go_wp2_with (first | ((with_reducible refine gd_ 3 ?_);refine be_ 3 #[.int .i64 a0_0,.int .i64 a0_1,.int .i64 a0_2,.int .i64 a0_3,.string a0_4,.int .i64 a0_5,.slice A0_6 l0_6.length c0_6,.slice A0_7 l0_7.length c0_7] 42 ?_;intro gb157 hg w5 hbox hb;refine as4_ (below_step (z5_ HB.out) hb) (hbox) ((z7_ HB.out:w.heap.size≤gb157)) ((z7_ HB.out:w.heap.size≤gb157)) ?_;clear HB;intro HB BK157 GW157 GE157;clear hb hbox hg) | ((with_reducible refine gd_ 5 ?_);refine be_ 5 #[.slice A2_0 l2_0.length c2_0,.slice A2_1 l2_1.length c2_1] 40 ?_;intro gb158 hg w6 hbox hb;refine as7_ (blkB_ BK157.out hb) (below_step (z4_ HB.out GE157.out) hb) (hbox) ((z11_ HB.out GE157.out:w.heap.size≤gb158)) ((z11_ HB.out GE157.out:w.heap.size≤gb158)) (neL_ BK157.out hg) (neG_ BK157.out hg) ?_;clear BK157 HB;intro BK157 HB BK158 GW158 GE158 NB157_158 NB158_157;clear hb hbox hg) | ((with_reducible refine gd_ 6 ?_);refine be_ 6 #[.int .i64 0,.int .i64 0,.int .i64 0,.int .i64 0,.string (⟨#[]⟩:ByteArray),.int .i64 0,.slice none 0 0,.slice none 0 0] 42 ?_;intro gb159 hg w7 hbox hb;refine as10_ (blkB_ BK157.out hb) (blkB_ BK158.out hb) (below_step (z6_ HB.out GE157.out GE158.out) hb) (hbox) ((z18_ HB.out GE157.out GE158.out:w.heap.size≤gb159)) ((z18_ HB.out GE157.out GE158.out:w.heap.size≤gb159)) (neL_ BK157.out hg) (neG_ BK157.out hg) (neL_ BK158.out hg) (neG_ BK158.out hg) ?_;clear BK157 BK158 HB;intro BK157 BK158 HB BK159 GW159 GE159 NB157_159 NB159_157 NB158_159 NB159_158;clear hb hbox hg))
 refine as4_ (blk_drew BK157.out) (blk_drew BK158.out) (blk_drew BK159.out) (below_drew1 HB.out) ?_
 clear BK157 BK158 BK159 HB
 intro BK157 BK158 BK159 HB
 refine start_ (n:=15) (S:=fun w'=>w'.cell? ⟨gb157,0,none⟩=some (.int .i64 a0_0)∧w'.cell? ⟨gb157,1,none⟩=some (.int .i64 a0_1)∧w'.cell? ⟨gb157,2,none⟩=some (.int .i64 a0_2)∧w'.cell? ⟨gb157,3,none⟩=some (.int .i64 a0_3)∧w'.cell? ⟨gb157,4,none⟩=some (.string a0_4)∧w'.cell? ⟨gb157,5,none⟩=some (.int .i64 a0_5)∧w'.cell? ⟨gb157,6,none⟩=some (.slice A0_6 l0_6.length c0_6)∧w'.cell? ⟨gb157,7,none⟩=some (.slice A0_7 l0_7.length c0_7)∧w'.cell? ⟨gb158,0,none⟩=some (.slice A2_0 l2_0.length c2_0)∧w'.cell? ⟨gb158,1,none⟩=some (.slice A2_1 l2_1.length c2_1)) (ds:=[]) #[O,O,O,O,O,O,O,O,O,O,O,O,O,O,O] (by kernel_rfl) rfl rfl (cj8_ BK157.out (cc2_ BK158.out)) (fun hHeld=>?_);refine with_tabW spec_l08Turn.tab1 spec_l08Turn.bits1 (fun HT_ HW_=>?_)
 generalize w7.drew=w8 at BK157 BK158 BK159 HB hHeld ⊢
 refine pu_ 0 7 #[I,O,O,O,O,O,O,O,O,O,O,O,O,O,O] HT_.out ?_
 refine pu_ 1 8 #[I,I,O,O,O,O,O,O,O,O,O,O,O,O,O] HT_.out ?_
 refine pu_ 3 10 #[I,I,O,I,O,O,O,O,O,O,O,O,O,O,O] HT_.out ?_
 refine pu_ 5 12 #[I,I,O,I,O,I,O,O,O,O,O,O,O,O,O] HT_.out ?_
 refine pu_ 7 14 #[I,I,O,I,O,I,O,I,O,O,O,O,O,O,O] HT_.out ?_
 refine pu_ 9 16 #[I,I,O,I,O,I,O,I,O,I,O,O,O,O,O] HT_.out ?_
 refine tk10_ 2 9 #[I,I,I,I,O,I,O,I,O,I,O,O,O,O,O] HT_.out HW_.out hHeld ?_
 refine tk10_ 4 11 #[I,I,I,I,I,I,O,I,O,I,O,O,O,O,O] HT_.out HW_.out hHeld ?_
 refine tk10_ 6 13 #[I,I,I,I,I,I,I,I,O,I,O,O,O,O,O] HT_.out HW_.out hHeld ?_
 refine tk10_ 8 15 #[I,I,I,I,I,I,I,I,I,I,O,O,O,O,O] HT_.out HW_.out hHeld ?_
 refine tk10_ 10 17 #[I,I,I,I,I,I,I,I,I,I,I,O,O,O,O] HT_.out HW_.out hHeld ?_
 refine tk10_ 11 18 #[I,I,I,I,I,I,I,I,I,I,I,I,O,O,O] HT_.out HW_.out hHeld ?_
 refine o1_ 12 19 #[I,I,I,I,I,I,I,I,I,I,I,I,I,O,O] HT_.out (fun K hK=>?_)
 refine gs_ Try.func83 #[.agg #[.slice A2_0 l2_0.length c2_0,.slice A2_1 l2_1.length c2_1]] ?_
 with_reducible refine (spec_l03Copy.calls _ _ l2_0 _ _ l2_1 t160 t163 _ ?s1 ?s2 ?s3 ?s4 A4.out).mono ?_
 (case s1=>repeat (first | exact (Kd.C_below HR2_0.out HB.out) | (with_reducible refine Kd.C_alloc ?_ _) | (with_reducible refine Kd.C_drewN ?_ _) | (with_reducible refine Kd.C_drew ?_)))
 (case s2=>exact HC2_0.out)
 (case s3=>repeat (first | exact (Kd.C_below HR2_1.out HB.out) | (with_reducible refine Kd.C_alloc ?_ _) | (with_reducible refine Kd.C_drewN ?_ _) | (with_reducible refine Kd.C_drew ?_)))
 (case s4=>exact HC2_1.out)
 rintro e w9 ⟨v161,v164,rfl,ho0,ho1,hb⟩
 refine ⟨_,rfl,?_⟩
 refine as6_ (Kd.R_lower ho0 (below_size (z9_ HB.out GE157.out GE158.out GE159.out))) (Kd.R_lower ho1 (below_size (z9_ HB.out GE157.out GE158.out GE159.out))) (blkB_ BK157.out hb) (blkB_ BK158.out hb) (blkB_ BK159.out hb) (below_step (z9_ HB.out GE157.out GE158.out GE159.out) hb) ?_
 clear BK157 BK158 BK159 HB
 intro HO162 HO165 BK157 BK158 BK159 HB
 (try clear hb)
 (try clear ho0)
 (try clear ho1)
 obtain ⟨Ao10,co10,eo10⟩:=Kd.R_slice HO165.out
 (first | subst eo10 | (injection eo10 with f1_ f2_ f3_;have f4_:=f1_.symm;have f5_:=f3_.symm;clear f1_ f2_ f3_;subst f4_;subst f5_))
 obtain ⟨Ao11,co11,eo11⟩:=Kd.R_slice HO162.out
 (first | subst eo11 | (injection eo11 with f1_ f2_ f3_;have f4_:=f1_.symm;have f5_:=f3_.symm;clear f1_ f2_ f3_;subst f4_;subst f5_))
 refine hK.out _ _ (cj8_ BK157.out (cc2_ BK158.out)) (fun hHeld=>?_)
 clear hK K
 refine nm_ 19 ?_
 refine pu_ 13 20 #[I,I,I,I,I,I,I,I,I,I,I,I,I,I,O] HT_.out ?_
 refine one_ (i:=14) (N:=none) #[I,I,I,I,I,I,I,I,I,I,I,I,I,I,I] rfl rfl (one_of HT_.out (by kernel_rfl)) (by decide) (fun K hK=>?_)
 have hs12:w9.cell? ⟨gb159,0,none⟩=some (.int .i64 0):=(blk_cell BK159.out 0).trans rfl
 have hfs12:=blk_frozen BK159.out 0
 have hns12_0:=NB157_159.out
 have hns12_1:=NB158_159.out
 have hms12_0:=NB159_157.out
 have hms12_1:=NB159_158.out
 have hs13:w9.cell? ⟨gb159,1,none⟩=some (.int .i64 0):=(blk_cell BK159.out 1).trans rfl
 have hfs13:=blk_frozen BK159.out 1
 have hns13_0:=NB157_159.out
 have hns13_1:=NB158_159.out
 have hms13_0:=NB159_157.out
 have hms13_1:=NB159_158.out
 have hs14:w9.cell? ⟨gb159,2,none⟩=some (.int .i64 0):=(blk_cell BK159.out 2).trans rfl
 have hfs14:=blk_frozen BK159.out 2
 have hns14_0:=NB157_159.out
 have hns14_1:=NB158_159.out
 have hms14_0:=NB159_157.out
 have hms14_1:=NB159_158.out
 have hs15:w9.cell? ⟨gb159,3,none⟩=some (.int .i64 0):=(blk_cell BK159.out 3).trans rfl
 have hfs15:=blk_frozen BK159.out 3
 have hns15_0:=NB157_159.out
 have hns15_1:=NB158_159.out
 have hms15_0:=NB159_157.out
 have hms15_1:=NB159_158.out
 have hs16:w9.cell? ⟨gb159,4,none⟩=some (.string (⟨#[]⟩:ByteArray)):=(blk_cell BK159.out 4).trans rfl
 have hfs16:=blk_frozen BK159.out 4
 have hns16_0:=NB157_159.out
 have hns16_1:=NB158_159.out
 have hms16_0:=NB159_157.out
 have hms16_1:=NB159_158.out
 have hs17:w9.cell? ⟨gb159,5,none⟩=some (.int .i64 0):=(blk_cell BK159.out 5).trans rfl
 have hfs17:=blk_frozen BK159.out 5
 have hns17_0:=NB157_159.out
 have hns17_1:=NB158_159.out
 have hms17_0:=NB159_157.out
 have hms17_1:=NB159_158.out
 have hs18:w9.cell? ⟨gb159,6,none⟩=some (.slice none 0 0):=(blk_cell BK159.out 6).trans rfl
 have hfs18:=blk_frozen BK159.out 6
 have hns18_0:=NB157_159.out
 have hns18_1:=NB158_159.out
 have hms18_0:=NB159_157.out
 have hms18_1:=NB159_158.out
 have hs19:w9.cell? ⟨gb159,7,none⟩=some (.slice none 0 0):=(blk_cell BK159.out 7).trans rfl
 have hfs19:=blk_frozen BK159.out 7
 have hns19_0:=NB157_159.out
 have hns19_1:=NB158_159.out
 have hms19_0:=NB159_157.out
 have hms19_1:=NB159_158.out
 refine skip_ (w1:=?_) (by rfl) rfl ?_ ?_
 rotate_left
 ·go_simp
  rfl
 refine hK.out _ _ ⟨((cell_far (p:=⟨gb159,_,none⟩) NB157_159.out _).trans (((cell_far (p:=⟨gb159,_,none⟩) NB157_159.out _).trans (((cell_far (p:=⟨gb159,_,none⟩) NB157_159.out _).trans (((cell_far (p:=⟨gb159,_,none⟩) NB157_159.out _).trans (((cell_far (p:=⟨gb159,_,none⟩) NB157_159.out _).trans (((cell_far (p:=⟨gb159,_,none⟩) NB157_159.out _).trans (((cell_far (p:=⟨gb159,_,none⟩) NB157_159.out _).trans (((cell_far (p:=⟨gb159,_,none⟩) NB157_159.out _).trans (hHeld.1)))))))))))))))),((cell_far (p:=⟨gb159,_,none⟩) NB157_159.out _).trans (((cell_far (p:=⟨gb159,_,none⟩) NB157_159.out _).trans (((cell_far (p:=⟨gb159,_,none⟩) NB157_159.out _).trans (((cell_far (p:=⟨gb159,_,none⟩) NB157_159.out _).trans (((cell_far (p:=⟨gb159,_,none⟩) NB157_159.out _).trans (((cell_far (p:=⟨gb159,_,none⟩) NB157_159.out _).trans (((cell_far (p:=⟨gb159,_,none⟩) NB157_159.out _).trans (((cell_far (p:=⟨gb159,_,none⟩) NB157_159.out _).trans (hHeld.2.1)))))))))))))))),((cell_far (p:=⟨gb159,_,none⟩) NB157_159.out _).trans (((cell_far (p:=⟨gb159,_,none⟩) NB157_159.out _).trans (((cell_far (p:=⟨gb159,_,none⟩) NB157_159.out _).trans (((cell_far (p:=⟨gb159,_,none⟩) NB157_159.out _).trans (((cell_far (p:=⟨gb159,_,none⟩) NB157_159.out _).trans (((cell_far (p:=⟨gb159,_,none⟩) NB157_159.out _).trans (((cell_far (p:=⟨gb159,_,none⟩) NB157_159.out _).trans (((cell_far (p:=⟨gb159,_,none⟩) NB157_159.out _).trans (hHeld.2.2.1)))))))))))))))),((cell_far (p:=⟨gb159,_,none⟩) NB157_159.out _).trans (((cell_far (p:=⟨gb159,_,none⟩) NB157_159.out _).trans (((cell_far (p:=⟨gb159,_,none⟩) NB157_159.out _).trans (((cell_far (p:=⟨gb159,_,none⟩) NB157_159.out _).trans (((cell_far (p:=⟨gb159,_,none⟩) NB157_159.out _).trans (((cell_far (p:=⟨gb159,_,none⟩) NB157_159.out _).trans (((cell_far (p:=⟨gb159,_,none⟩) NB157_159.out _).trans (((cell_far (p:=⟨gb159,_,none⟩) NB157_159.out _).trans (hHeld.2.2.2.1)))))))))))))))),((cell_far (p:=⟨gb159,_,none⟩) NB157_159.out _).trans (((cell_far (p:=⟨gb159,_,none⟩) NB157_159.out _).trans (((cell_far (p:=⟨gb159,_,none⟩) NB157_159.out _).trans (((cell_far (p:=⟨gb159,_,none⟩) NB157_159.out _).trans (((cell_far (p:=⟨gb159,_,none⟩) NB157_159.out _).trans (((cell_far (p:=⟨gb159,_,none⟩) NB157_159.out _).trans (((cell_far (p:=⟨gb159,_,none⟩) NB157_159.out _).trans (((cell_far (p:=⟨gb159,_,none⟩) NB157_159.out _).trans (hHeld.2.2.2.2.1)))))))))))))))),((cell_far (p:=⟨gb159,_,none⟩) NB157_159.out _).trans (((cell_far (p:=⟨gb159,_,none⟩) NB157_159.out _).trans (((cell_far (p:=⟨gb159,_,none⟩) NB157_159.out _).trans (((cell_far (p:=⟨gb159,_,none⟩) NB157_159.out _).trans (((cell_far (p:=⟨gb159,_,none⟩) NB157_159.out _).trans (((cell_far (p:=⟨gb159,_,none⟩) NB157_159.out _).trans (((cell_far (p:=⟨gb159,_,none⟩) NB157_159.out _).trans (((cell_far (p:=⟨gb159,_,none⟩) NB157_159.out _).trans (hHeld.2.2.2.2.2.1)))))))))))))))),((cell_far (p:=⟨gb159,_,none⟩) NB157_159.out _).trans (((cell_far (p:=⟨gb159,_,none⟩) NB157_159.out _).trans (((cell_far (p:=⟨gb159,_,none⟩) NB157_159.out _).trans (((cell_far (p:=⟨gb159,_,none⟩) NB157_159.out _).trans (((cell_far (p:=⟨gb159,_,none⟩) NB157_159.out _).trans (((cell_far (p:=⟨gb159,_,none⟩) NB157_159.out _).trans (((cell_far (p:=⟨gb159,_,none⟩) NB157_159.out _).trans (((cell_far (p:=⟨gb159,_,none⟩) NB157_159.out _).trans (hHeld.2.2.2.2.2.2.1)))))))))))))))),((cell_far (p:=⟨gb159,_,none⟩) NB157_159.out _).trans (((cell_far (p:=⟨gb159,_,none⟩) NB157_159.out _).trans (((cell_far (p:=⟨gb159,_,none⟩) NB157_159.out _).trans (((cell_far (p:=⟨gb159,_,none⟩) NB157_159.out _).trans (((cell_far (p:=⟨gb159,_,none⟩) NB157_159.out _).trans (((cell_far (p:=⟨gb159,_,none⟩) NB157_159.out _).trans (((cell_far (p:=⟨gb159,_,none⟩) NB157_159.out _).trans (((cell_far (p:=⟨gb159,_,none⟩) NB157_159.out _).trans (hHeld.2.2.2.2.2.2.2.1)))))))))))))))),((cell_far (p:=⟨gb159,_,none⟩) NB158_159.out _).trans (((cell_far (p:=⟨gb159,_,none⟩) NB158_159.out _).trans (((cell_far (p:=⟨gb159,_,none⟩) NB158_159.out _).trans (((cell_far (p:=⟨gb159,_,none⟩) NB158_159.out _).trans (((cell_far (p:=⟨gb159,_,none⟩) NB158_159.out _).trans (((cell_far (p:=⟨gb159,_,none⟩) NB158_159.out _).trans (((cell_far (p:=⟨gb159,_,none⟩) NB158_159.out _).trans (((cell_far (p:=⟨gb159,_,none⟩) NB158_159.out _).trans (hHeld.2.2.2.2.2.2.2.2.1)))))))))))))))),((cell_far (p:=⟨gb159,_,none⟩) NB158_159.out _).trans (((cell_far (p:=⟨gb159,_,none⟩) NB158_159.out _).trans (((cell_far (p:=⟨gb159,_,none⟩) NB158_159.out _).trans (((cell_far (p:=⟨gb159,_,none⟩) NB158_159.out _).trans (((cell_far (p:=⟨gb159,_,none⟩) NB158_159.out _).trans (((cell_far (p:=⟨gb159,_,none⟩) NB158_159.out _).trans (((cell_far (p:=⟨gb159,_,none⟩) NB158_159.out _).trans (((cell_far (p:=⟨gb159,_,none⟩) NB158_159.out _).trans (hHeld.2.2.2.2.2.2.2.2.2))))))))))))))))⟩ (fun hHeld=>?_)
 clear hK K
 refine done_ (done_of HT_.out (by kernel_rfl)) ?_
 try go_wp2
 refine bodyPost_ret (results_cell_row rfl _ _ gb159 42 #[.int .i64 a1,.int .i64 a0_2,.int .i64 a0_1,.int .i64 a0_3,.string a0_4,.int .i64 a0_5,.slice Ao11 t160.length co11,.slice Ao10 t163.length co10] (0,0) _ rfl (z36_ BK159.out) Try.underlying42 rfl (by kernel_rfl)) rfl ?_
 exact ⟨_,_,z8_,by (with_reducible repeat (first | apply Kd.R_alloc | apply Kd.R_drewN | apply Kd.R_drew));exact Kd.R_mono (rf8_ (Kd.R_types HO162.out BK159.out (by decide)) (fun _ hk=>hk.2)) (fun _ hk=>trivial),by (with_reducible repeat (first | apply Kd.R_alloc | apply Kd.R_drewN | apply Kd.R_drew));exact Kd.R_mono (rf8_ (Kd.R_types HO165.out BK159.out (by decide)) (fun _ hk=>hk.2)) (fun _ hk=>trivial),z9_ HB.out GE157.out GE158.out GE159.out⟩


/-! ### spec_MsgTurn: function 13 -/
def spec_MsgTurn.j0:Nat→Int→Bool→Int→Int→Int→Int→ByteArray→Int→List (S56)→List (S91)→List (S56)→List (S91)→Option (Int × Int × Int × Int × ByteArray × Int × (List (S56)) × (List (S91)) × Int)
 | 0,_,_,_,_,_,_,_,_,_,_,_,_=>none
 | k+1,x1,x15,x167000,x167001,x167002,x167003,x167004,x167005,x167006,x167007,x168000,x168001=>if x15=true then (some (0,0,0,0,(⟨#[]⟩:ByteArray),0,([]:List (S56)),([]:List (S91)),1)) else ((spec_l08Turn.f x167000 x167001 x167002 x167003 x167004 x167005 x167006 x167007 x1 x168000 x168001).bind fun bt171=>((spec_MsgRight.f k bt171.1 bt171.2.1 bt171.2.2.1 bt171.2.2.2.1 bt171.2.2.2.2.1 bt171.2.2.2.2.2.1 bt171.2.2.2.2.2.2.1 bt171.2.2.2.2.2.2.2).bind fun t184=>(if t184=true then (some (bt171.1,bt171.2.1,bt171.2.2.1,bt171.2.2.2.1,bt171.2.2.2.2.1,bt171.2.2.2.2.2.1,bt171.2.2.2.2.2.2.1,bt171.2.2.2.2.2.2.2,0)) else (some (0,0,0,0,(⟨#[]⟩:ByteArray),0,([]:List (S56)),([]:List (S91)),1)))))
def spec_MsgTurn.f (k:Nat) (a0_0:Int) (a0_1:Int) (a0_2:Int) (a0_3:Int) (a0_4:ByteArray) (a0_5:Int) (l0_6:List (S56)) (l0_7:List (S91)) (a1:Int) (l2_0:List (S56)) (l2_1:List (S91)):Option (Int × Int × Int × Int × ByteArray × Int × (List (S56)) × (List (S91)) × Int):=(spec_MsgRight.f k a0_0 a0_1 a0_2 a0_3 a0_4 a0_5 l0_6 l0_7).bind fun t169=>(if t169=true then ((spec_SetRight.f k l2_0 l2_1).bind fun t170=>(spec_MsgTurn.j0 k a1 (!t170) a0_0 a0_1 a0_2 a0_3 a0_4 a0_5 l0_6 l0_7 l2_0 l2_1)) else (spec_MsgTurn.j0 k a1 true a0_0 a0_1 a0_2 a0_3 a0_4 a0_5 l0_6 l0_7 l2_0 l2_1))
theorem spec_MsgTurn.mono_l:∀ k,(∀ y0 y1 y2 y3 y4 y5 y6 y7 y8 y9 y10 y11,LeO (spec_MsgTurn.j0 k y0 y1 y2 y3 y4 y5 y6 y7 y8 y9 y10 y11) (spec_MsgTurn.j0 (k+1) y0 y1 y2 y3 y4 y5 y6 y7 y8 y9 y10 y11))
 | 0=>fun _ _ _ _ _ _ _ _ _ _ _ _ r h=>by simp [spec_MsgTurn.j0] at h
 | k+1=>by
  have ih0:=spec_MsgTurn.mono_l k
  ·intro y0 y1 y2 y3 y4 y5 y6 y7 y8 y9 y10 y11
   unfold spec_MsgTurn.j0
   repeat' first
   | (with_reducible exact ih0 _ _ _ _ _ _ _ _ _ _ _ _)
   | (with_reducible exact spec_MsgRight.mono _ _ _ _ _ _ _ _ _)
   | (with_reducible exact spec_SetRight.mono _ _ _)
   | (with_reducible exact LeO.refl _)
   | (with_reducible exact LeO.none _)
   | (with_reducible refine LeO.ite ?_ ?_)
   | (with_reducible refine LeO.bind ?_ (fun _=>?_))
   | exact ih0 _ _ _ _ _ _ _ _ _ _ _ _
   | exact spec_MsgRight.mono _ _ _ _ _ _ _ _ _
   | exact spec_SetRight.mono _ _ _
   | exact LeO.none _
   | refine LeO.ite ?_ ?_
   | refine LeO.bind ?_ (fun _=>?_)
theorem spec_MsgTurn.mono:∀ a0 a1 a2 a3 a4 a5 a6 a7 a8 a9 a10 k,LeO (spec_MsgTurn.f k a0 a1 a2 a3 a4 a5 a6 a7 a8 a9 a10) (spec_MsgTurn.f (k+1) a0 a1 a2 a3 a4 a5 a6 a7 a8 a9 a10):=by
 intro a0 a1 a2 a3 a4 a5 a6 a7 a8 a9 a10 k
 have ih0:=spec_MsgTurn.mono_l k
 unfold spec_MsgTurn.f
 repeat' first
   | (with_reducible exact ih0 _ _ _ _ _ _ _ _ _ _ _ _)
   | (with_reducible exact spec_MsgRight.mono _ _ _ _ _ _ _ _ _)
   | (with_reducible exact spec_SetRight.mono _ _ _)
   | (with_reducible exact LeO.refl _)
   | (with_reducible exact LeO.none _)
   | (with_reducible refine LeO.ite ?_ ?_)
   | (with_reducible refine LeO.bind ?_ (fun _=>?_))
   | exact ih0 _ _ _ _ _ _ _ _ _ _ _ _
   | exact spec_MsgRight.mono _ _ _ _ _ _ _ _ _
   | exact spec_SetRight.mono _ _ _
   | exact LeO.none _
   | refine LeO.ite ?_ ?_
   | refine LeO.bind ?_ (fun _=>?_)
set_option maxHeartbeats 8000000 in
set_option maxRecDepth 100000 in
theorem spec_MsgTurn.calls (k:Nat) (a0_0:Int) (a0_1:Int) (a0_2:Int) (a0_3:Int) (a0_4:ByteArray) (a0_5:Int) (A0_6:Option Addr) (c0_6:Nat) (l0_6:List (S56)) (A0_7:Option Addr) (c0_7:Nat) (l0_7:List (S91)) (a1:Int) (A2_0:Option Addr) (c2_0:Nat) (l2_0:List (S56)) (A2_1:Option Addr) (c2_1:Nat) (l2_1:List (S91)) (r1:Int) (r2:Int) (r3:Int) (r4:Int) (r5:ByteArray) (r6:Int) (r7:List (S56)) (r8:List (S91)) (r9:Int) (w:World) (hr0_6:Kd.C k56 w A0_6 l0_6.length l0_6) (hc0_6:l0_6.length≤c0_6) (hr0_7:Kd.C k91 w A0_7 l0_7.length l0_7) (hc0_7:l0_7.length≤c0_7) (hr2_0:Kd.C k56 w A2_0 l2_0.length l2_0) (hc2_0:l2_0.length≤c2_0) (hr2_1:Kd.C k91 w A2_1 l2_1.length l2_1) (hc2_1:l2_1.length≤c2_1) (h:spec_MsgTurn.f k a0_0 a0_1 a0_2 a0_3 a0_4 a0_5 l0_6 l0_7 a1 l2_0 l2_1=some (r1,r2,r3,r4,r5,r6,r7,r8,r9)) :
  Calls Try.prog 13 #[.agg #[.int .i64 a0_0,.int .i64 a0_1,.int .i64 a0_2,.int .i64 a0_3,.string a0_4,.int .i64 a0_5,.slice A0_6 l0_6.length c0_6,.slice A0_7 l0_7.length c0_7],.int .i64 a1,.agg #[.slice A2_0 l2_0.length c2_0,.slice A2_1 l2_1.length c2_1]] w fun e w'=>∃ v6_ v7_:Value,e = .returned (.agg #[.int .i64 r1,.int .i64 r2,.int .i64 r3,.int .i64 r4,.string r5,.int .i64 r6,v6_,v7_,.int .i64 r9])∧Kd.R k56 56 w' w.heap.size (fun _=>True) v6_ r7∧Kd.R k91 91 w' w.heap.size (fun _=>True) v7_ r8∧Below w.heap.size w w':=by
 have hu42:=Try.underlying42
 have hu40:=Try.underlying40
 have hu44:=Try.underlying44
 have HR0_6:=Aside0.mk hr0_6
 have HC0_6:=Aside0.mk hc0_6
 clear hr0_6 hc0_6
 have HR0_7:=Aside0.mk hr0_7
 have HC0_7:=Aside0.mk hc0_7
 clear hr0_7 hc0_7
 have HR2_0:=Aside0.mk hr2_0
 have HC2_0:=Aside0.mk hc2_0
 clear hr2_0 hc2_0
 have HR2_1:=Aside0.mk hr2_1
 have HC2_1:=Aside0.mk hc2_1
 clear hr2_1 hc2_1
 have HB:=Aside0.mk (Below.refl w.heap.size w)
 have H:((spec_MsgRight.f k a0_0 a0_1 a0_2 a0_3 a0_4 a0_5 l0_6 l0_7).bind fun t169=>(if t169=true then ((spec_SetRight.f k l2_0 l2_1).bind fun t170=>(spec_MsgTurn.j0 k a1 (!t170) a0_0 a0_1 a0_2 a0_3 a0_4 a0_5 l0_6 l0_7 l2_0 l2_1)) else (spec_MsgTurn.j0 k a1 true a0_0 a0_1 a0_2 a0_3 a0_4 a0_5 l0_6 l0_7 l2_0 l2_1)))=some (r1,r2,r3,r4,r5,r6,r7,r8,r9):=h
 clear h
 have HC4:=Aside0.mk H
 clear H
 go_enter Try.func13,Try.ntmps13
 go_upto_region 1 with (first | ((with_reducible refine gd_ 3 ?_);refine be_ 3 #[.int .i64 a0_0,.int .i64 a0_1,.int .i64 a0_2,.int .i64 a0_3,.string a0_4,.int .i64 a0_5,.slice A0_6 l0_6.length c0_6,.slice A0_7 l0_7.length c0_7] 42 ?_;intro gb166 hg w5 hbox hb;refine as4_ (below_step (z5_ HB.out) hb) (hbox) ((z7_ HB.out:w.heap.size≤gb166)) ((z7_ HB.out:w.heap.size≤gb166)) ?_;clear HB;intro HB BK166 GW166 GE166;clear hb hbox hg) | ((with_reducible refine gd_ 5 ?_);refine be_ 5 #[.slice A2_0 l2_0.length c2_0,.slice A2_1 l2_1.length c2_1] 40 ?_;intro gb167 hg w6 hbox hb;refine as7_ (blkB_ BK166.out hb) (below_step (z4_ HB.out GE166.out) hb) (hbox) ((z11_ HB.out GE166.out:w.heap.size≤gb167)) ((z11_ HB.out GE166.out:w.heap.size≤gb167)) (neL_ BK166.out hg) (neG_ BK166.out hg) ?_;clear BK166 HB;intro BK166 HB BK167 GW167 GE167 NB166_167 NB167_166;clear hb hbox hg) | ((with_reducible refine gd_ 6 ?_);refine be_ 6 #[.int .i64 0,.int .i64 0,.int .i64 0,.int .i64 0,.string (⟨#[]⟩:ByteArray),.int .i64 0,.slice none 0 0,.slice none 0 0,.int .i64 0] 44 ?_;intro gb168 hg w7 hbox hb;refine as10_ (blkB_ BK166.out hb) (blkB_ BK167.out hb) (below_step (z6_ HB.out GE166.out GE167.out) hb) (hbox) ((z18_ HB.out GE166.out GE167.out:w.heap.size≤gb168)) ((z18_ HB.out GE166.out GE167.out:w.heap.size≤gb168)) (neL_ BK166.out hg) (neG_ BK166.out hg) (neL_ BK167.out hg) (neG_ BK167.out hg) ?_;clear BK166 BK167 HB;intro BK166 BK167 HB BK168 GW168 GE168 NB166_168 NB168_166 NB167_168 NB168_167;clear hb hbox hg))
 (try simp only [Act.put,sa_,s0_,ss_])
 go_cut [15] (fun v15 wc=>∃ (kq:Nat) (x15_3:Bool),v15 = .bool x15_3∧Aside0 (spec_MsgTurn.j0 kq a1 x15_3 a0_0 a0_1 a0_2 a0_3 a0_4 a0_5 l0_6 l0_7 l2_0 l2_1=some (r1,r2,r3,r4,r5,r6,r7,r8,r9))∧Aside0 (kq≤k)∧Aside0 (wc.heap[gb166]? = some (.cells #[.int .i64 a0_0,.int .i64 a0_1,.int .i64 a0_2,.int .i64 a0_3,.string a0_4,.int .i64 a0_5,(.slice A0_6 l0_6.length c0_6),(.slice A0_7 l0_7.length c0_7)] 42 (0,0)))∧Aside0 (wc.heap[gb167]? = some (.cells #[(.slice A2_0 l2_0.length c2_0),(.slice A2_1 l2_1.length c2_1)] 40 (0,0)))∧Aside0 (wc.heap[gb168]? = some (.cells #[.int .i64 0,.int .i64 0,.int .i64 0,.int .i64 0,.string (⟨#[]⟩:ByteArray),.int .i64 0,(.slice none 0 0),(.slice none 0 0),.int .i64 0] 44 (0,0)))∧Aside0 (Below w.heap.size w wc))
 case first =>
  have H:=HC4.out
  clear HC4
  replace H:=Option.bind_eq_some_iff.mp H
  obtain ⟨t169,A80,H⟩:=H
  replace H:(if t169=true then ((spec_SetRight.f k l2_0 l2_1).bind fun t170=>(spec_MsgTurn.j0 k a1 (!t170) a0_0 a0_1 a0_2 a0_3 a0_4 a0_5 l0_6 l0_7 l2_0 l2_1)) else (spec_MsgTurn.j0 k a1 true a0_0 a0_1 a0_2 a0_3 a0_4 a0_5 l0_6 l0_7 l2_0 l2_1))=some (r1,r2,r3,r4,r5,r6,r7,r8,r9):=H
  have A8:=Aside0.mk A80
  clear A80
  by_cases c9:t169=true
  ·subst c9
   have H1:((spec_SetRight.f k l2_0 l2_1).bind fun t170=>(spec_MsgTurn.j0 k a1 (!t170) a0_0 a0_1 a0_2 a0_3 a0_4 a0_5 l0_6 l0_7 l2_0 l2_1))=some (r1,r2,r3,r4,r5,r6,r7,r8,r9):=by rw [if_pos rfl] at H;exact H
   clear H
   have H:=H1
   clear H1
   replace H:=Option.bind_eq_some_iff.mp H
   obtain ⟨t170,A100,H⟩:=H
   replace H:(spec_MsgTurn.j0 k a1 (!t170) a0_0 a0_1 a0_2 a0_3 a0_4 a0_5 l0_6 l0_7 l2_0 l2_1)=some (r1,r2,r3,r4,r5,r6,r7,r8,r9):=H
   have A10:=Aside0.mk A100
   clear A100
   have H':=Aside0.mk H
   clear H
   have hnb11:=NB166_167.out
   have hnc11:=NB167_166.out
   have hnb12:=NB166_168.out
   have hnc12:=NB168_166.out
   have ⟨hcz13_0,hcz13_1,hcz13_2,hcz13_3,hcz13_4,hcz13_5,hcz13_6,hcz13_7,hfz13_0,hfz13_1,hfz13_2,hfz13_3,hfz13_4,hfz13_5,hfz13_6,hfz13_7⟩:=cz8_ BK166.out
   go_wp2_with (first | ((with_reducible refine gc_ 50 ?_);refine gl_ (some 9) Try.func50 #[.agg #[.int .i64 a0_0,.int .i64 a0_1,.int .i64 a0_2,.int .i64 a0_3,.string a0_4,.int .i64 a0_5,.slice A0_6 l0_6.length c0_6,.slice A0_7 l0_7.length c0_7]] ?_;(with_reducible refine (spec_MsgRight.calls k a0_0 a0_1 a0_2 a0_3 a0_4 a0_5 _ _ l0_6 _ _ l0_7 true _ ?s1 ?s2 ?s3 ?s4 A8.out).mono ?_);(case s1=>repeat (first | exact (Kd.C_below HR0_6.out HB.out) | (with_reducible refine Kd.C_alloc ?_ _) | (with_reducible refine Kd.C_drewN ?_ _) | (with_reducible refine Kd.C_drew ?_)));(case s2=>exact HC0_6.out);(case s3=>repeat (first | exact (Kd.C_below HR0_7.out HB.out) | (with_reducible refine Kd.C_alloc ?_ _) | (with_reducible refine Kd.C_drewN ?_ _) | (with_reducible refine Kd.C_drew ?_)));(case s4=>exact HC0_7.out);rintro e w14 ⟨rfl,hb⟩;refine ⟨_,rfl,?_⟩;refine as4_ (blkB_ BK166.out hb) (blkB_ BK167.out hb) (blkB_ BK168.out hb) (below_step (z9_ HB.out GE166.out GE167.out GE168.out) hb) ?_;clear BK166 BK167 BK168 HB;intro BK166 BK167 BK168 HB;(try clear hb);have hnb15:=NB167_168.out;have hnc15:=NB168_167.out;have ⟨hcz16_0,hcz16_1,hfz16_0,hfz16_1⟩:=cz2_ BK167.out) | (go_at_call 51;(with_reducible refine (spec_SetRight.calls k _ _ l2_0 _ _ l2_1 t170 _ ?s1 ?s2 ?s3 ?s4 A10.out).mono ?_);(case s1=>repeat (first | exact (Kd.C_below HR2_0.out HB.out) | (with_reducible refine Kd.C_alloc ?_ _) | (with_reducible refine Kd.C_drewN ?_ _) | (with_reducible refine Kd.C_drew ?_)));(case s2=>exact HC2_0.out);(case s3=>repeat (first | exact (Kd.C_below HR2_1.out HB.out) | (with_reducible refine Kd.C_alloc ?_ _) | (with_reducible refine Kd.C_drewN ?_ _) | (with_reducible refine Kd.C_drew ?_)));(case s4=>exact HC2_1.out);rintro e w17 ⟨rfl,hb⟩;refine as4_ (blkB_ BK166.out hb) (blkB_ BK167.out hb) (blkB_ BK168.out hb) (below_step (z9_ HB.out GE166.out GE167.out GE168.out) hb) ?_;clear BK166 BK167 BK168 HB;intro BK166 BK167 BK168 HB;(try clear hb)))
   go_meet
   case rel=>exact ⟨_,(!t170),(z2_),H',⟨by first | omega | exact Nat.le_refl _⟩,⟨z3_ BK166.out⟩,⟨z3_ BK167.out⟩,⟨z3_ BK168.out⟩,⟨z9_ HB.out GE166.out GE167.out GE168.out⟩⟩
  ·replace c9:=Bool.eq_false_iff.mpr c9
   subst c9
   have H1:(spec_MsgTurn.j0 k a1 true a0_0 a0_1 a0_2 a0_3 a0_4 a0_5 l0_6 l0_7 l2_0 l2_1)=some (r1,r2,r3,r4,r5,r6,r7,r8,r9):=by rw [if_neg (show ¬ (false=true) by decide)] at H;exact H
   clear H
   have H:=H1
   clear H1
   have H':=Aside0.mk H
   clear H
   have hnb18:=NB166_167.out
   have hnc18:=NB167_166.out
   have hnb19:=NB166_168.out
   have hnc19:=NB168_166.out
   have ⟨hcz20_0,hcz20_1,hcz20_2,hcz20_3,hcz20_4,hcz20_5,hcz20_6,hcz20_7,hfz20_0,hfz20_1,hfz20_2,hfz20_3,hfz20_4,hfz20_5,hfz20_6,hfz20_7⟩:=cz8_ BK166.out
   go_wp2_with (first | ((with_reducible refine gc_ 50 ?_);refine gl_ (some 9) Try.func50 #[.agg #[.int .i64 a0_0,.int .i64 a0_1,.int .i64 a0_2,.int .i64 a0_3,.string a0_4,.int .i64 a0_5,.slice A0_6 l0_6.length c0_6,.slice A0_7 l0_7.length c0_7]] ?_;(with_reducible refine (spec_MsgRight.calls k a0_0 a0_1 a0_2 a0_3 a0_4 a0_5 _ _ l0_6 _ _ l0_7 false _ ?s1 ?s2 ?s3 ?s4 A8.out).mono ?_);(case s1=>repeat (first | exact (Kd.C_below HR0_6.out HB.out) | (with_reducible refine Kd.C_alloc ?_ _) | (with_reducible refine Kd.C_drewN ?_ _) | (with_reducible refine Kd.C_drew ?_)));(case s2=>exact HC0_6.out);(case s3=>repeat (first | exact (Kd.C_below HR0_7.out HB.out) | (with_reducible refine Kd.C_alloc ?_ _) | (with_reducible refine Kd.C_drewN ?_ _) | (with_reducible refine Kd.C_drew ?_)));(case s4=>exact HC0_7.out);rintro e w21 ⟨rfl,hb⟩;refine ⟨_,rfl,?_⟩;refine as4_ (blkB_ BK166.out hb) (blkB_ BK167.out hb) (blkB_ BK168.out hb) (below_step (z9_ HB.out GE166.out GE167.out GE168.out) hb) ?_;clear BK166 BK167 BK168 HB;intro BK166 BK167 BK168 HB;(try clear hb)))
   go_meet
   case rel=>exact ⟨_,(true),(z2_),H',⟨by first | omega | exact Nat.le_refl _⟩,⟨z3_ BK166.out⟩,⟨z3_ BK167.out⟩,⟨z3_ BK168.out⟩,⟨z9_ HB.out GE166.out GE167.out GE168.out⟩⟩
 case rest =>
  clear HC4
  try clear c1
  try clear c2
  try clear p2
  try clear c5
  try clear c9
  try clear c11
  try clear c12
  try clear c13
  try clear c15
  try clear c18
  try clear c19
  try clear hcz13_0
  try clear hcz13_1
  try clear hcz13_2
  try clear hcz13_3
  try clear hcz13_4
  try clear hcz13_5
  try clear hcz13_6
  try clear hcz13_7
  try clear hcz16_0
  try clear hcz16_1
  try clear hcz20_0
  try clear hcz20_1
  try clear hcz20_2
  try clear hcz20_3
  try clear hcz20_4
  try clear hcz20_5
  try clear hcz20_6
  try clear hcz20_7
  try clear hfz13_0
  try clear hfz13_1
  try clear hfz13_2
  try clear hfz13_3
  try clear hfz13_4
  try clear hfz13_5
  try clear hfz13_6
  try clear hfz13_7
  try clear hfz16_0
  try clear hfz16_1
  try clear hfz20_0
  try clear hfz20_1
  try clear hfz20_2
  try clear hfz20_3
  try clear hfz20_4
  try clear hfz20_5
  try clear hfz20_6
  try clear hfz20_7
  obtain ⟨kq,x15_3,rfl,HA,HJ3,BK166,BK167,BK168,HB⟩:=hcut
  cases kq with
  | zero=>exact absurd HA.out (by simp [spec_MsgTurn.j0])
  | succ kj3 =>
   have H:=HA.out
   clear HA
   simp only [spec_MsgTurn.j0] at H
   by_cases c22:x15_3=true
   ·subst c22
    have H1:(some (0,0,0,0,(⟨#[]⟩:ByteArray),0,([]:List (S56)),([]:List (S91)),1))=some (r1,r2,r3,r4,r5,r6,r7,r8,r9):=by rw [if_pos rfl] at H;exact H
    clear H
    have H:=H1
    clear H1
    simp only [Option.some.injEq,Prod.mk.injEq] at H
    obtain ⟨rfl,rfl,rfl,rfl,rfl,rfl,rfl,rfl,rfl⟩:=H
    have hnb23:=NB168_166.out
    have hnc23:=NB166_168.out
    have hnb24:=NB168_167.out
    have hnc24:=NB167_168.out
    have ⟨hcz25_0,hcz25_1,hcz25_2,hcz25_3,hcz25_4,hcz25_5,hcz25_6,hcz25_7,hcz25_8,hfz25_0,hfz25_1,hfz25_2,hfz25_3,hfz25_4,hfz25_5,hfz25_6,hfz25_7,hfz25_8⟩:=cz9_ BK168.out
    go_wp2
    refine bodyPost_ret (results_cell_row rfl _ _ gb168 44 #[.int .i64 0,.int .i64 0,.int .i64 0,.int .i64 0,.string (⟨#[]⟩:ByteArray),.int .i64 0,.slice none 0 0,.slice none 0 0,.int .i64 1] (0,0) _ rfl (z32_ BK168.out) Try.underlying44 rfl (by kernel_rfl)) rfl ?_
    exact ⟨_,_,z8_,z38_,z38_,z9_ HB.out GE166.out GE167.out GE168.out⟩
   ·replace c22:=Bool.eq_false_iff.mpr c22
    subst c22
    have H1:((spec_l08Turn.f a0_0 a0_1 a0_2 a0_3 a0_4 a0_5 l0_6 l0_7 a1 l2_0 l2_1).bind fun bt171=>((spec_MsgRight.f kj3 bt171.1 bt171.2.1 bt171.2.2.1 bt171.2.2.2.1 bt171.2.2.2.2.1 bt171.2.2.2.2.2.1 bt171.2.2.2.2.2.2.1 bt171.2.2.2.2.2.2.2).bind fun t184=>(if t184=true then (some (bt171.1,bt171.2.1,bt171.2.2.1,bt171.2.2.2.1,bt171.2.2.2.2.1,bt171.2.2.2.2.2.1,bt171.2.2.2.2.2.2.1,bt171.2.2.2.2.2.2.2,0)) else (some (0,0,0,0,(⟨#[]⟩:ByteArray),0,([]:List (S56)),([]:List (S91)),1)))))=some (r1,r2,r3,r4,r5,r6,r7,r8,r9):=by rw [if_neg (show ¬ (false=true) by decide)] at H;exact H
    clear H
    have H:=H1
    clear H1
    replace H:=Option.bind_eq_some_iff.mp H
    obtain ⟨⟨t171,t172,t173,t174,t175,t176,t177,t180⟩,A260,H⟩:=H
    replace H:((spec_MsgRight.f kj3 t171 t172 t173 t174 t175 t176 t177 t180).bind fun t184=>(if t184=true then (some (t171,t172,t173,t174,t175,t176,t177,t180,0)) else (some (0,0,0,0,(⟨#[]⟩:ByteArray),0,([]:List (S56)),([]:List (S91)),1))))=some (r1,r2,r3,r4,r5,r6,r7,r8,r9):=H
    have A26:=Aside0.mk A260
    clear A260
    replace H:=Option.bind_eq_some_iff.mp H
    obtain ⟨t184,A270,H⟩:=H
    replace H:(if t184=true then (some (t171,t172,t173,t174,t175,t176,t177,t180,0)) else (some (0,0,0,0,(⟨#[]⟩:ByteArray),0,([]:List (S56)),([]:List (S91)),1)))=some (r1,r2,r3,r4,r5,r6,r7,r8,r9):=H
    have A27:=Aside0.mk A270
    clear A270
    by_cases c28:t184=true
    ·subst c28
     have H1:(some (t171,t172,t173,t174,t175,t176,t177,t180,0))=some (r1,r2,r3,r4,r5,r6,r7,r8,r9):=by rw [if_pos rfl] at H;exact H
     clear H
     have H:=H1
     clear H1
     simp only [Option.some.injEq,Prod.mk.injEq] at H
     obtain ⟨rfl,rfl,rfl,rfl,rfl,rfl,rfl,rfl,rfl⟩:=H
     have hnb29:=NB166_167.out
     have hnc29:=NB167_166.out
     have hnb30:=NB166_168.out
     have hnc30:=NB168_166.out
     have ⟨hcz31_0,hcz31_1,hcz31_2,hcz31_3,hcz31_4,hcz31_5,hcz31_6,hcz31_7,hfz31_0,hfz31_1,hfz31_2,hfz31_3,hfz31_4,hfz31_5,hfz31_6,hfz31_7⟩:=cz8_ BK166.out
     have hnb32:=NB167_168.out
     have hnc32:=NB168_167.out
     have ⟨hcz33_0,hcz33_1,hfz33_0,hfz33_1⟩:=cz2_ BK167.out
     go_wp2_with (first | ((with_reducible refine gc_ 52 ?_);refine gl_ (some 20) Try.func52 #[.agg #[.int .i64 a0_0,.int .i64 a0_1,.int .i64 a0_2,.int .i64 a0_3,.string a0_4,.int .i64 a0_5,.slice A0_6 l0_6.length c0_6,.slice A0_7 l0_7.length c0_7],.int .i64 a1,.agg #[.slice A2_0 l2_0.length c2_0,.slice A2_1 l2_1.length c2_1]] ?_;(with_reducible refine (spec_l08Turn.calls a0_0 a0_1 a0_2 a0_3 a0_4 a0_5 _ _ l0_6 _ _ l0_7 a1 _ _ l2_0 _ _ l2_1 t171 t172 t173 t174 t175 t176 t177 t180 _ ?s1 ?s2 ?s3 ?s4 ?s5 ?s6 ?s7 ?s8 A26.out).mono ?_);(case s1=>repeat (first | exact (Kd.C_below HR0_6.out HB.out) | (with_reducible refine Kd.C_alloc ?_ _) | (with_reducible refine Kd.C_drewN ?_ _) | (with_reducible refine Kd.C_drew ?_)));(case s2=>exact HC0_6.out);(case s3=>repeat (first | exact (Kd.C_below HR0_7.out HB.out) | (with_reducible refine Kd.C_alloc ?_ _) | (with_reducible refine Kd.C_drewN ?_ _) | (with_reducible refine Kd.C_drew ?_)));(case s4=>exact HC0_7.out);(case s5=>repeat (first | exact (Kd.C_below HR2_0.out HB.out) | (with_reducible refine Kd.C_alloc ?_ _) | (with_reducible refine Kd.C_drewN ?_ _) | (with_reducible refine Kd.C_drew ?_)));(case s6=>exact HC2_0.out);(case s7=>repeat (first | exact (Kd.C_below HR2_1.out HB.out) | (with_reducible refine Kd.C_alloc ?_ _) | (with_reducible refine Kd.C_drewN ?_ _) | (with_reducible refine Kd.C_drew ?_)));(case s8=>exact HC2_1.out);rintro e w34 ⟨v178,v181,rfl,ho0,ho1,hb⟩;refine ⟨_,rfl,?_⟩;refine as6_ (Kd.R_lower ho0 (below_size (z9_ HB.out GE166.out GE167.out GE168.out))) (Kd.R_lower ho1 (below_size (z9_ HB.out GE166.out GE167.out GE168.out))) (blkB_ BK166.out hb) (blkB_ BK167.out hb) (blkB_ BK168.out hb) (below_step (z9_ HB.out GE166.out GE167.out GE168.out) hb) ?_;clear BK166 BK167 BK168 HB;intro HO179 HO182 BK166 BK167 BK168 HB;(try clear hb);(try clear ho0);(try clear ho1)) | ((with_reducible refine gd_ 7 ?_);refine be_ 7 #[.int .i64 0,.int .i64 0,.int .i64 0,.int .i64 0,.string (⟨#[]⟩:ByteArray),.int .i64 0,.slice none 0 0,.slice none 0 0] 42 ?_;intro gb183 hg w35 hbox hb;refine as15_ (Kd.R_below (z0_ HO179.out) hb) (Kd.R_below (z0_ HO182.out) hb) (blkB_ BK166.out hb) (blkB_ BK167.out hb) (blkB_ BK168.out hb) (below_step (z9_ HB.out GE166.out GE167.out GE168.out) hb) (hbox) ((z33_ HB.out GE166.out GE167.out GE168.out:w.heap.size≤gb183)) ((z33_ HB.out GE166.out GE167.out GE168.out:w.heap.size≤gb183)) (neL_ BK166.out hg) (neG_ BK166.out hg) (neL_ BK167.out hg) (neG_ BK167.out hg) (neL_ BK168.out hg) (neG_ BK168.out hg) ?_;clear HO179 HO182 BK166 BK167 BK168 HB;intro HO179 HO182 BK166 BK167 BK168 HB BK183 GW183 GE183 NB166_183 NB183_166 NB167_183 NB183_167 NB168_183 NB183_168;clear hb hbox hg;have hnb36:=NB183_166.out;have hnc36:=NB166_183.out;have hnb37:=NB183_167.out;have hnc37:=NB167_183.out;have hnb38:=NB183_168.out;have hnc38:=NB168_183.out;have ⟨hcz39_0,hcz39_1,hcz39_2,hcz39_3,hcz39_4,hcz39_5,hcz39_6,hcz39_7,hfz39_0,hfz39_1,hfz39_2,hfz39_3,hfz39_4,hfz39_5,hfz39_6,hfz39_7⟩:=cz8_ BK183.out;obtain ⟨Ao40,co40,eo40⟩:=Kd.R_slice HO179.out;subst eo40;obtain ⟨Ao41,co41,eo41⟩:=Kd.R_slice HO182.out;subst eo41) | ((with_reducible refine gc_ 50 ?_);refine gl_ (some 22) Try.func50 #[.agg #[.int .i64 t171,.int .i64 t172,.int .i64 t173,.int .i64 t174,.string t175,.int .i64 t176,.slice Ao40 t177.length co40,.slice Ao41 t180.length co41]] ?_;(with_reducible refine (spec_MsgRight.calls kj3 t171 t172 t173 t174 t175 t176 _ _ t177 _ _ t180 true _ ?s1 ?s2 ?s3 ?s4 A27.out).mono ?_);(case s1=>refine (Kd.R_reads' (e:=56) (base:=w.heap.size) (ok:=fun k_=>True) (n:=t177.length) (c:=co40) ?_).2.2;exact (z14_ HO179.out BK183.out));(case s2=>exact (Kd.R_reads' HO179.out).2.1);(case s3=>refine (Kd.R_reads' (e:=91) (base:=w.heap.size) (ok:=fun k_=>True) (n:=t180.length) (c:=co41) ?_).2.2;exact (z14_ HO182.out BK183.out));(case s4=>exact (Kd.R_reads' HO182.out).2.1);rintro e w42 ⟨rfl,hb⟩;refine ⟨_,rfl,?_⟩;refine as7_ (Kd.R_below (z14_ HO179.out BK183.out) hb) (Kd.R_below (z14_ HO182.out BK183.out) hb) (blk_below (g:=gb166) (o:=.cells #[.int .i64 a0_0,.int .i64 a0_1,.int .i64 a0_2,.int .i64 a0_3,.string a0_4,.int .i64 a0_5,.slice A0_6 l0_6.length c0_6,.slice A0_7 l0_7.length c0_7] 42 (0,0)) (z23_ NB166_183.out BK166.out) hb) (blk_below (g:=gb167) (o:=.cells #[.slice A2_0 l2_0.length c2_0,.slice A2_1 l2_1.length c2_1] 40 (0,0)) (z23_ NB167_183.out BK167.out) hb) (blk_below (g:=gb168) (o:=.cells #[.int .i64 0,.int .i64 0,.int .i64 0,.int .i64 0,.string (⟨#[]⟩:ByteArray),.int .i64 0,.slice none 0 0,.slice none 0 0,.int .i64 0] 44 (0,0)) (z23_ NB168_183.out BK168.out) hb) (blk_below (g:=gb183) (o:=.cells #[.int .i64 t171,.int .i64 t172,.int .i64 t173,.int .i64 t174,.string t175,.int .i64 t176,.slice Ao40 t177.length co40,.slice Ao41 t180.length co41] 42 (0,0)) (z36_ BK183.out) hb) (below_step (z15_ HB.out GE166.out GE167.out GE168.out GE183.out) hb) ?_;clear HO179 HO182 BK166 BK167 BK168 BK183 HB;intro HO179 HO182 BK166 BK167 BK168 BK183 HB;(try clear hb);(try clear hb2);(try clear hk);(try clear hi);have ⟨hcz43_0,hcz43_1,hcz43_2,hcz43_3,hcz43_4,hcz43_5,hcz43_6,hcz43_7,hfz43_0,hfz43_1,hfz43_2,hfz43_3,hfz43_4,hfz43_5,hfz43_6,hfz43_7⟩:=cz8_ BK183.out;have ⟨hcz44_0,hcz44_1,hcz44_2,hcz44_3,hcz44_4,hcz44_5,hcz44_6,hcz44_7,hcz44_8,hfz44_0,hfz44_1,hfz44_2,hfz44_3,hfz44_4,hfz44_5,hfz44_6,hfz44_7,hfz44_8⟩:=cz9_ BK168.out))
     refine bodyPost_ret (results_cell_row rfl _ _ gb168 44 #[.int .i64 t171,.int .i64 t172,.int .i64 t173,.int .i64 t174,.string t175,.int .i64 t176,.slice Ao40 t177.length co40,.slice Ao41 t180.length co41,.int .i64 0] (0,0) _ rfl (z32_ BK168.out) Try.underlying44 rfl (by kernel_rfl)) rfl ?_
     exact ⟨_,_,z8_,z40_ HO179.out BK168.out,z40_ HO182.out BK168.out,z15_ HB.out GE166.out GE167.out GE168.out GE183.out⟩
    ·replace c28:=Bool.eq_false_iff.mpr c28
     subst c28
     have H1:(some (0,0,0,0,(⟨#[]⟩:ByteArray),0,([]:List (S56)),([]:List (S91)),1))=some (r1,r2,r3,r4,r5,r6,r7,r8,r9):=by rw [if_neg (show ¬ (false=true) by decide)] at H;exact H
     clear H
     have H:=H1
     clear H1
     simp only [Option.some.injEq,Prod.mk.injEq] at H
     obtain ⟨rfl,rfl,rfl,rfl,rfl,rfl,rfl,rfl,rfl⟩:=H
     have hnb45:=NB166_167.out
     have hnc45:=NB167_166.out
     have hnb46:=NB166_168.out
     have hnc46:=NB168_166.out
     have ⟨hcz47_0,hcz47_1,hcz47_2,hcz47_3,hcz47_4,hcz47_5,hcz47_6,hcz47_7,hfz47_0,hfz47_1,hfz47_2,hfz47_3,hfz47_4,hfz47_5,hfz47_6,hfz47_7⟩:=cz8_ BK166.out
     have hnb48:=NB167_168.out
     have hnc48:=NB168_167.out
     have ⟨hcz49_0,hcz49_1,hfz49_0,hfz49_1⟩:=cz2_ BK167.out
     go_wp2_with (first | ((with_reducible refine gc_ 52 ?_);refine gl_ (some 20) Try.func52 #[.agg #[.int .i64 a0_0,.int .i64 a0_1,.int .i64 a0_2,.int .i64 a0_3,.string a0_4,.int .i64 a0_5,.slice A0_6 l0_6.length c0_6,.slice A0_7 l0_7.length c0_7],.int .i64 a1,.agg #[.slice A2_0 l2_0.length c2_0,.slice A2_1 l2_1.length c2_1]] ?_;(with_reducible refine (spec_l08Turn.calls a0_0 a0_1 a0_2 a0_3 a0_4 a0_5 _ _ l0_6 _ _ l0_7 a1 _ _ l2_0 _ _ l2_1 t171 t172 t173 t174 t175 t176 t177 t180 _ ?s1 ?s2 ?s3 ?s4 ?s5 ?s6 ?s7 ?s8 A26.out).mono ?_);(case s1=>repeat (first | exact (Kd.C_below HR0_6.out HB.out) | (with_reducible refine Kd.C_alloc ?_ _) | (with_reducible refine Kd.C_drewN ?_ _) | (with_reducible refine Kd.C_drew ?_)));(case s2=>exact HC0_6.out);(case s3=>repeat (first | exact (Kd.C_below HR0_7.out HB.out) | (with_reducible refine Kd.C_alloc ?_ _) | (with_reducible refine Kd.C_drewN ?_ _) | (with_reducible refine Kd.C_drew ?_)));(case s4=>exact HC0_7.out);(case s5=>repeat (first | exact (Kd.C_below HR2_0.out HB.out) | (with_reducible refine Kd.C_alloc ?_ _) | (with_reducible refine Kd.C_drewN ?_ _) | (with_reducible refine Kd.C_drew ?_)));(case s6=>exact HC2_0.out);(case s7=>repeat (first | exact (Kd.C_below HR2_1.out HB.out) | (with_reducible refine Kd.C_alloc ?_ _) | (with_reducible refine Kd.C_drewN ?_ _) | (with_reducible refine Kd.C_drew ?_)));(case s8=>exact HC2_1.out);rintro e w50 ⟨v178,v181,rfl,ho0,ho1,hb⟩;refine ⟨_,rfl,?_⟩;refine as6_ (Kd.R_lower ho0 (below_size (z9_ HB.out GE166.out GE167.out GE168.out))) (Kd.R_lower ho1 (below_size (z9_ HB.out GE166.out GE167.out GE168.out))) (blkB_ BK166.out hb) (blkB_ BK167.out hb) (blkB_ BK168.out hb) (below_step (z9_ HB.out GE166.out GE167.out GE168.out) hb) ?_;clear BK166 BK167 BK168 HB;intro HO179 HO182 BK166 BK167 BK168 HB;(try clear hb);(try clear ho0);(try clear ho1)) | ((with_reducible refine gd_ 7 ?_);refine be_ 7 #[.int .i64 0,.int .i64 0,.int .i64 0,.int .i64 0,.string (⟨#[]⟩:ByteArray),.int .i64 0,.slice none 0 0,.slice none 0 0] 42 ?_;intro gb183 hg w51 hbox hb;refine as15_ (Kd.R_below (z0_ HO179.out) hb) (Kd.R_below (z0_ HO182.out) hb) (blkB_ BK166.out hb) (blkB_ BK167.out hb) (blkB_ BK168.out hb) (below_step (z9_ HB.out GE166.out GE167.out GE168.out) hb) (hbox) ((z33_ HB.out GE166.out GE167.out GE168.out:w.heap.size≤gb183)) ((z33_ HB.out GE166.out GE167.out GE168.out:w.heap.size≤gb183)) (neL_ BK166.out hg) (neG_ BK166.out hg) (neL_ BK167.out hg) (neG_ BK167.out hg) (neL_ BK168.out hg) (neG_ BK168.out hg) ?_;clear HO179 HO182 BK166 BK167 BK168 HB;intro HO179 HO182 BK166 BK167 BK168 HB BK183 GW183 GE183 NB166_183 NB183_166 NB167_183 NB183_167 NB168_183 NB183_168;clear hb hbox hg;have hnb52:=NB183_166.out;have hnc52:=NB166_183.out;have hnb53:=NB183_167.out;have hnc53:=NB167_183.out;have hnb54:=NB183_168.out;have hnc54:=NB168_183.out;have ⟨hcz55_0,hcz55_1,hcz55_2,hcz55_3,hcz55_4,hcz55_5,hcz55_6,hcz55_7,hfz55_0,hfz55_1,hfz55_2,hfz55_3,hfz55_4,hfz55_5,hfz55_6,hfz55_7⟩:=cz8_ BK183.out;obtain ⟨Ao56,co56,eo56⟩:=Kd.R_slice HO179.out;subst eo56;obtain ⟨Ao57,co57,eo57⟩:=Kd.R_slice HO182.out;subst eo57) | ((with_reducible refine gc_ 50 ?_);refine gl_ (some 22) Try.func50 #[.agg #[.int .i64 t171,.int .i64 t172,.int .i64 t173,.int .i64 t174,.string t175,.int .i64 t176,.slice Ao56 t177.length co56,.slice Ao57 t180.length co57]] ?_;(with_reducible refine (spec_MsgRight.calls kj3 t171 t172 t173 t174 t175 t176 _ _ t177 _ _ t180 false _ ?s1 ?s2 ?s3 ?s4 A27.out).mono ?_);(case s1=>refine (Kd.R_reads' (e:=56) (base:=w.heap.size) (ok:=fun k_=>True) (n:=t177.length) (c:=co56) ?_).2.2;exact (z14_ HO179.out BK183.out));(case s2=>exact (Kd.R_reads' HO179.out).2.1);(case s3=>refine (Kd.R_reads' (e:=91) (base:=w.heap.size) (ok:=fun k_=>True) (n:=t180.length) (c:=co57) ?_).2.2;exact (z14_ HO182.out BK183.out));(case s4=>exact (Kd.R_reads' HO182.out).2.1);rintro e w58 ⟨rfl,hb⟩;refine ⟨_,rfl,?_⟩;refine as7_ (Kd.R_below (z14_ HO179.out BK183.out) hb) (Kd.R_below (z14_ HO182.out BK183.out) hb) (blk_below (g:=gb166) (o:=.cells #[.int .i64 a0_0,.int .i64 a0_1,.int .i64 a0_2,.int .i64 a0_3,.string a0_4,.int .i64 a0_5,.slice A0_6 l0_6.length c0_6,.slice A0_7 l0_7.length c0_7] 42 (0,0)) (z23_ NB166_183.out BK166.out) hb) (blk_below (g:=gb167) (o:=.cells #[.slice A2_0 l2_0.length c2_0,.slice A2_1 l2_1.length c2_1] 40 (0,0)) (z23_ NB167_183.out BK167.out) hb) (blk_below (g:=gb168) (o:=.cells #[.int .i64 0,.int .i64 0,.int .i64 0,.int .i64 0,.string (⟨#[]⟩:ByteArray),.int .i64 0,.slice none 0 0,.slice none 0 0,.int .i64 0] 44 (0,0)) (z23_ NB168_183.out BK168.out) hb) (blk_below (g:=gb183) (o:=.cells #[.int .i64 t171,.int .i64 t172,.int .i64 t173,.int .i64 t174,.string t175,.int .i64 t176,.slice Ao56 t177.length co56,.slice Ao57 t180.length co57] 42 (0,0)) (z36_ BK183.out) hb) (below_step (z15_ HB.out GE166.out GE167.out GE168.out GE183.out) hb) ?_;clear HO179 HO182 BK166 BK167 BK168 BK183 HB;intro HO179 HO182 BK166 BK167 BK168 BK183 HB;(try clear hb);(try clear hb2);(try clear hk);(try clear hi);have ⟨hcz59_0,hcz59_1,hcz59_2,hcz59_3,hcz59_4,hcz59_5,hcz59_6,hcz59_7,hcz59_8,hfz59_0,hfz59_1,hfz59_2,hfz59_3,hfz59_4,hfz59_5,hfz59_6,hfz59_7,hfz59_8⟩:=cz9_ BK168.out))
     refine bodyPost_ret (results_cell_row rfl _ _ gb168 44 #[.int .i64 0,.int .i64 0,.int .i64 0,.int .i64 0,.string (⟨#[]⟩:ByteArray),.int .i64 0,.slice none 0 0,.slice none 0 0,.int .i64 1] (0,0) _ rfl (z32_ BK168.out) Try.underlying44 rfl (by kernel_rfl)) rfl ?_
     exact ⟨_,_,z8_,z38_,z38_,z15_ HB.out GE166.out GE167.out GE168.out GE183.out⟩


/-! ### laws_toMark: function 74 -/
def laws_toMark.f (a0_0:Int) (a0_1:Int):Option (Int × Int):=some (a0_0,a0_1)
set_option maxHeartbeats 8000000 in
set_option maxRecDepth 100000 in
theorem laws_toMark.calls (a0_0:Int) (a0_1:Int) (r1:Int) (r2:Int) (w:World) (h:laws_toMark.f a0_0 a0_1=some (r1,r2)) :
  Calls Try.prog 74 #[.agg #[.int .i64 a0_0,.int .i64 a0_1]] w fun e w'=>e = .returned (.agg #[.int .i64 r1,.int .i64 r2])∧Below w.heap.size w w':=by
 have hu100:=Try.underlying100
 have hu56:=Try.underlying56
 have HB:=Aside0.mk (Below.refl w.heap.size w)
 have H:(some (a0_0,a0_1))=some (r1,r2):=h
 clear h
 simp only [Option.some.injEq,Prod.mk.injEq] at H
 obtain ⟨rfl,rfl⟩:=H
 go_enter Try.func74,Try.ntmps74
 go_wp2_with (first | ((with_reducible refine gd_ 1 ?_);refine be_ 1 #[.int .i64 a0_0,.int .i64 a0_1] 100 ?_;intro gb185 hg w2 hbox hb;refine as4_ (below_step (z5_ HB.out) hb) (hbox) ((z7_ HB.out:w.heap.size≤gb185)) ((z7_ HB.out:w.heap.size≤gb185)) ?_;clear HB;intro HB BK185 GW185 GE185;clear hb hbox hg) | ((with_reducible refine gd_ 2 ?_);refine be_ 2 #[.int .i64 0,.int .i64 0] 56 ?_;intro gb186 hg w3 hbox hb;refine as7_ (blkB_ BK185.out hb) (below_step (z4_ HB.out GE185.out) hb) (hbox) ((z11_ HB.out GE185.out:w.heap.size≤gb186)) ((z11_ HB.out GE185.out:w.heap.size≤gb186)) (neL_ BK185.out hg) (neG_ BK185.out hg) ?_;clear BK185 HB;intro BK185 HB BK186 GW186 GE186 NB185_186 NB186_185;clear hb hbox hg) | ((with_reducible refine gd_ 3 ?_);refine be_ 3 #[.int .i64 0,.int .i64 0] 56 ?_;intro gb187 hg w4 hbox hb;refine as10_ (blkB_ BK185.out hb) (blkB_ BK186.out hb) (below_step (z6_ HB.out GE185.out GE186.out) hb) (hbox) ((z18_ HB.out GE185.out GE186.out:w.heap.size≤gb187)) ((z18_ HB.out GE185.out GE186.out:w.heap.size≤gb187)) (neL_ BK185.out hg) (neG_ BK185.out hg) (neL_ BK186.out hg) (neG_ BK186.out hg) ?_;clear BK185 BK186 HB;intro BK185 BK186 HB BK187 GW187 GE187 NB185_187 NB187_185 NB186_187 NB187_186;clear hb hbox hg;have hnb5:=NB185_186.out;have hnc5:=NB186_185.out;have hnb6:=NB185_187.out;have hnc6:=NB187_185.out;have ⟨hcz7_0,hcz7_1,hfz7_0,hfz7_1⟩:=cz2_ BK185.out;have hnb8:=NB187_186.out;have hnc8:=NB186_187.out;have ⟨hcz9_0,hcz9_1,hfz9_0,hfz9_1⟩:=cz2_ BK187.out;have ⟨hcz10_0,hcz10_1,hfz10_0,hfz10_1⟩:=cz2_ BK186.out))
 refine bodyPost_ret (results_cell_row rfl _ _ gb186 56 #[.int .i64 a0_0,.int .i64 a0_1] (0,0) _ rfl (by (with_reducible repeat (first | refine blk_drewN ?_ _ | refine blk_drew ?_ | refine blk_alloc ?_ _));apply put2_;(with_reducible repeat (first | refine blk_drewN ?_ _ | refine blk_drew ?_ | refine blk_alloc ?_ _));refine blk_far ?_ NB186_187.out _;(with_reducible repeat (first | refine blk_drewN ?_ _ | refine blk_drew ?_ | refine blk_alloc ?_ _));refine blk_far ?_ NB186_187.out _;(with_reducible repeat (first | refine blk_drewN ?_ _ | refine blk_drew ?_ | refine blk_alloc ?_ _));exact BK186.out) Try.underlying56 rfl (by kernel_rfl)) rfl ?_
 exact ⟨z8_,z9_ HB.out GE185.out GE186.out GE187.out⟩


/-! ### laws_toMarkS: function 31 -/
def laws_toMarkS.l0:Nat→List (S100)→List (S56)→Int→Option ((List (S56)))
 | 0,_,_,_=>none
 | k+1,x0,x3,x4=>if x4<(x0.length:Int) then (if 0≤x4 then ((laws_toMark.f ((rd_T100 x0 x4).f0) ((rd_T100 x0 x4).f1)).bind fun bt192=>(if x4<(x3.length:Int) then (laws_toMarkS.l0 k x0 (x3.set (x4:Int).toNat (⟨bt192.1,bt192.2⟩:S56)) (wrap64 (x4+1))) else (none))) else (none)) else (some x3)
def laws_toMarkS.f (k:Nat) (l0:List (S100)):Option ((List (S56))):=if 0≤(l0.length:Int) then (if ((l0.length:Int):Int).toNat≤17592186044416 then (laws_toMarkS.l0 k l0 (List.replicate ((l0.length:Int):Int).toNat z56) 0) else (none)) else (none)
theorem laws_toMarkS.mono_l:∀ k,(∀ y0 y1 y2,LeO (laws_toMarkS.l0 k y0 y1 y2) (laws_toMarkS.l0 (k+1) y0 y1 y2))
 | 0=>fun _ _ _ r h=>by simp [laws_toMarkS.l0] at h
 | k+1=>by
  have ih0:=laws_toMarkS.mono_l k
  ·intro y0 y1 y2
   unfold laws_toMarkS.l0
   repeat' first
   | (with_reducible exact ih0 _ _ _)
   | (with_reducible exact LeO.refl _)
   | (with_reducible exact LeO.none _)
   | (with_reducible refine LeO.ite ?_ ?_)
   | (with_reducible refine LeO.bind ?_ (fun _=>?_))
   | exact ih0 _ _ _
   | exact LeO.none _
   | refine LeO.ite ?_ ?_
   | refine LeO.bind ?_ (fun _=>?_)
theorem laws_toMarkS.mono:∀ a0 k,LeO (laws_toMarkS.f k a0) (laws_toMarkS.f (k+1) a0):=by
 intro a0 k
 have ih0:=laws_toMarkS.mono_l k
 unfold laws_toMarkS.f
 repeat' first
   | (with_reducible exact ih0 _ _ _)
   | (with_reducible exact LeO.refl _)
   | (with_reducible exact LeO.none _)
   | (with_reducible refine LeO.ite ?_ ?_)
   | (with_reducible refine LeO.bind ?_ (fun _=>?_))
   | exact ih0 _ _ _
   | exact LeO.none _
   | refine LeO.ite ?_ ?_
   | refine LeO.bind ?_ (fun _=>?_)
set_option maxHeartbeats 8000000 in
set_option maxRecDepth 100000 in
theorem laws_toMarkS.calls (k:Nat) (A0:Option Addr) (c0:Nat) (l0:List (S100)) (r:List (S56)) (w:World) (hr0:Kd.C k100 w A0 l0.length l0) (hc0:l0.length≤c0) (h:laws_toMarkS.f k l0=some r) :
  Calls Try.prog 31 #[.slice A0 l0.length c0] w fun e w'=>∃ v0_:Value,e = .returned (v0_)∧Kd.R k56 56 w' w.heap.size (fun _=>True) v0_ r∧Below w.heap.size w w':=by
 have hu100:=Try.underlying100
 have hu56:=Try.underlying56
 have HR0:=Aside0.mk hr0
 have HC0:=Aside0.mk hc0
 clear hr0 hc0
 have HB:=Aside0.mk (Below.refl w.heap.size w)
 have H:(if 0≤(l0.length:Int) then (if ((l0.length:Int):Int).toNat≤17592186044416 then (laws_toMarkS.l0 k l0 (List.replicate ((l0.length:Int):Int).toNat z56) 0) else (none)) else (none))=some r:=h
 clear h
 by_cases c2:0≤(l0.length:Int)
 ·rw [if_pos c2] at H
  have c2b0:=eq_true c2
  have c2b1:decide (0≤(l0.length:Int))=true:=decide_eq_true c2
  clear c2
  by_cases c3:((l0.length:Int):Int).toNat≤17592186044416
  ·rw [if_pos c3] at H
   have c3b0:=eq_true c3
   have c3b1:decide (((l0.length:Int):Int).toNat≤17592186044416)=true:=decide_eq_true c3
   clear c3
   obtain ⟨y188,hy188⟩:∃ y_:List (S56),y_=(List.replicate ((l0.length:Int):Int).toNat z56):=⟨_,rfl⟩
   replace H:(laws_toMarkS.l0 k l0 y188 0)=some r:=by first | (rw [hy188];with_reducible exact H) | (have H2_:=(Option.bind_some _ _).symm.trans H;rw [hy188];with_reducible exact H2_) | (have H2_:=(Option.bind_some _ _).symm.trans H;with_reducible exact H2_) | with_reducible exact H | (rw [hy188];exact H) | exact H
   have Ny188:=Aside0.mk hy188
   clear hy188
   have H':=Aside0.mk H
   clear H
   go_enter Try.func31,Try.ntmps31
   go_wp2_with (first | ((with_reducible refine gd_ 7 ?_);refine Kd.R_make k56 _ 56 rfl (N:=7) rfl 37 _ _ rfl (l0.length:Int) rfl rfl Try.underlying37 (.agg #[(.int .i64 0),(.int .i64 0)]) 16 info56 rfl (by decide) (by omega) z56 (ok:=fun _=>True) (okp:=fun _=>True) (k56_mkM _ _ _ z56 ) (fun _ hk=>hk) trivial (of_decide_eq_true (z1_)) (Nat.le_trans (Nat.mul_le_mul_right _ (of_decide_eq_true (z1_):(l0.length:Int).toNat≤17592186044416)) (by omega)) (Below.refl _ _) (Nat.le_refl _) ?_;intro v189 w4 ho5 hb hg_ hnew_;clear hg_ hnew_;(first | rw [← Ny188.out] at ho5 | (simp only [Int.reduceToNat] at ho5;rw [← Ny188.out] at ho5));refine as2_ (Kd.R_lower ho5 (below_size (z5_ HB.out))) (below_step (z5_ HB.out) hb) ?_;clear HB;intro HO190 HB;clear hb ho5))
   go_loopg [4] k (fun kq v4 w'=>∃ (x3_1:List (S56)) (x4_1:Int),v4 = .int .i64 x4_1∧Aside0 (laws_toMarkS.l0 kq l0 x3_1 x4_1=some r)∧Aside0 (kq≤k)∧Aside0 (Kd.R k56 56 w' w.heap.size (fun _=>True) v189 x3_1)∧Aside0 (Below w.heap.size w w'))
   case atStart=>exact ⟨(y188),(0),(z2_),H',⟨Nat.le_refl _⟩,⟨z0_ HO190.out⟩,⟨z5_ HB.out⟩⟩
   case round =>
    clear H'
    try clear c2
    try clear c2b0
    try clear c2b1
    try clear p2
    try clear c3
    try clear c3b0
    try clear c3b1
    obtain ⟨x3_1,x4_1,rfl,HA,HK1,HO_3,HB⟩:=hrel
    cases gk with
    | zero=>exact absurd HA.out (by simp [laws_toMarkS.l0])
    | succ k1 =>
     have H:=HA.out
     clear HA
     simp only [laws_toMarkS.l0] at H
     by_cases c6:x4_1<(l0.length:Int)
     ·rw [if_pos c6] at H
      have c6b0:decide (x4_1<(l0.length:Int))=true:=decide_eq_true c6
      clear c6
      by_cases c7:0≤x4_1
      ·rw [if_pos c7] at H
       have c7b0:decide (0≤x4_1)=true:=decide_eq_true c7
       clear c7
       replace H:=Option.bind_eq_some_iff.mp H
       obtain ⟨⟨t192,t193⟩,A80,H⟩:=H
       replace H:(if x4_1<(x3_1.length:Int) then (laws_toMarkS.l0 k1 l0 (x3_1.set (x4_1:Int).toNat (⟨t192,t193⟩:S56)) (wrap64 (x4_1+1))) else (none))=some r:=H
       have A8:=Aside0.mk A80
       clear A80
       by_cases c9:x4_1<(x3_1.length:Int)
       ·rw [if_pos c9] at H
        have c9b0:decide (x4_1<(x3_1.length:Int))=true:=decide_eq_true c9
        clear c9
        obtain ⟨y194,hy194⟩:∃ y_:List (S56),y_=(x3_1.set (x4_1:Int).toNat (⟨t192,t193⟩:S56)):=⟨_,rfl⟩
        replace H:(laws_toMarkS.l0 k1 l0 y194 (wrap64 (x4_1+1)))=some r:=by first | (rw [hy194];with_reducible exact H) | (have H2_:=(Option.bind_some _ _).symm.trans H;rw [hy194];with_reducible exact H2_) | (have H2_:=(Option.bind_some _ _).symm.trans H;with_reducible exact H2_) | with_reducible exact H | (rw [hy194];exact H) | exact H
        have Ny194:=Aside0.mk hy194
        clear hy194
        have H':=Aside0.mk H
        clear H
        have p191:0≤(x4_1:Int):=of_decide_eq_true (z1_)
        have q191:x4_1<(l0.length:Int):=of_decide_eq_true (z1_)
        obtain ⟨ad191,e191,hx191_0,hx191_1⟩:=at_T100 HR0.out x4_1 p191 q191
        cases e191
        replace hx191_0:=(HB.out.cell (World.block_lt_of_cell? w _ hx191_0)).trans hx191_0
        replace hx191_1:=(HB.out.cell (World.block_lt_of_cell? w _ hx191_1)).trans hx191_1
        replace p191:=eq_true p191
        replace q191:=eq_true q191
        go_wp2_with (first | ((with_reducible refine gc_ 74 ?_);refine gl_ (some 20) Try.func74 #[.agg #[.int .i64 ((rd_T100 l0 x4_1).f0),.int .i64 ((rd_T100 l0 x4_1).f1)]] ?_;(with_reducible refine (laws_toMark.calls ((rd_T100 l0 x4_1).f0) ((rd_T100 l0 x4_1).f1) t192 t193 _ A8.out).mono ?_);rintro e w11 ⟨rfl,hb⟩;refine ⟨_,rfl,?_⟩;refine as2_ (Kd.R_below (z0_ HO_3.out) hb) (below_step (z5_ HB.out) hb) ?_;clear HO_3 HB;intro HO_3 HB;(try clear hb);have p10:0≤(x4_1:Int):=of_decide_eq_true (z1_);have q10:(x4_1:Int)<((x3_1.length:Int):Int):=of_decide_eq_true (z1_);obtain ⟨go10,co10,eo10,gb10,gl10,cl10,HG10⟩:=Kd.R_form HO_3.out (by omega);(first | cases eo10 | (injection eo10 with ea_ en_ ec_;(first | subst ea_ | (injection ea_ with ea_;subst ea_));subst ec_;clear en_));have GB10:=Aside0.mk gb10;have GG10:=Aside0.mk HG10;clear gb10 gl10 HG10;obtain ⟨ce10,hcl10,hM10,hcc10,hfr10⟩:=Kd.R_elem HO_3.out z56 (x4_1:Int) p10 q10;obtain rfl:=k56_openM hM10;have hx10_0:w11.cell? ⟨go10,(x4_1:Int).toNat*2,none⟩=some (.int .i64 ((rd_T56 x3_1 x4_1).f0)):=hcc10 0 _ rfl;have hx10_1:w11.cell? ⟨go10,(x4_1:Int).toNat*2+1,none⟩=some (.int .i64 ((rd_T56 x3_1 x4_1).f1)):=hcc10 1 _ rfl;have hf10_0:w11.frozen? ⟨go10,(x4_1:Int).toNat*2,none⟩=false:=hfr10 0;have hf10_1:w11.frozen? ⟨go10,(x4_1:Int).toNat*2+1,none⟩=false:=hfr10 1;clear hcl10 hcc10 hfr10 hM10;replace p10:=eq_true p10;replace q10:=eq_true q10;have HX12:=Aside0.mk (show Kd.R k56 56 w11 w.heap.size (fun _=>True) (.slice (some ⟨go10,0,none⟩) x3_1.length co10) x3_1 from (z0_ HO_3.out));obtain ⟨ce12,hcl12,hM12,hcc12,hfr12⟩:=Kd.R_elem HX12.out z56 (x4_1:Int) (of_decide_eq_true (z1_)) (z41_ HO_3.out);obtain rfl:=k56_openM hM12;have HP12:=Kd.R_seg HX12.out (x4_1:Int) (of_decide_eq_true (z1_)) (z41_ HO_3.out) (seg:=[.int .i64 t192,.int .i64 t193]) (j:=0) hcl12 hcc12 (show 2≤2 from by decide) (x':=(⟨t192,t193⟩:S56)) (k56_mkM _ _ _ (⟨t192,t193⟩:S56) ) (fun _ hk=>hk);have hx12_0:=hcc12 0 _ rfl;(try simp only [show (k56).sz=2 from rfl,Nat.mul_one,Nat.add_zero] at hx12_0);have hf12_0:=hfr12 0;(try simp only [show (k56).sz=2 from rfl,Nat.mul_one,Nat.add_zero] at hf12_0);have hx12_1:=hcc12 1 _ rfl;(try simp only [show (k56).sz=2 from rfl,Nat.mul_one,Nat.add_zero] at hx12_1);have hf12_1:=hfr12 1;(try simp only [show (k56).sz=2 from rfl,Nat.mul_one,Nat.add_zero] at hf12_1);clear hcl12 hcc12 hfr12 hM12) | ((with_reducible refine gate_store (t:=56) (p:=21) rfl ?_);refine store_event (t:=56) (p:=21) (v:=?vo_w13) (w1:=((w11.setCell ⟨go10,(x4_1:Int).toNat*2,none⟩ (.int .i64 t192)).setCell ⟨go10,(x4_1:Int).toNat*2+1,none⟩ (.int .i64 t193))) ?hg ?ho ?hn ?hr ?_;(case ho=>rfl);(case hg=>rfl);(case hn=>rfl);(case hr=>first | (go_simp;done) | (go_simp;rfl));intro w13 hw;have hg:w11.grownBy w13 (some go10):=(by rw [hw];exact HP12.2);have hp_:Kd.R k56 56 w13 w.heap.size (fun _=>True) (.slice (some ⟨go10,0,none⟩) x3_1.length co10) y194:=(by rw [hw,Ny194.out];exact HP12.1);clear HP12;refine as2_ (hp_) ((by rw [hw];exact below_set (below_set (HB.out) GB10.out) GB10.out:Below w.heap.size w w13)) ?_;clear HO_3 HB;intro HO_3 HB;clear hg hw hp_))
        go_roundg k1
        case measure=>have:=HK1.out;omega
        case rel=>exact ⟨(y194),(wrap64 (x4_1+1)),(z2_),H',⟨by have:=HK1.out;omega⟩,⟨z0_ HO_3.out⟩,⟨z5_ HB.out⟩⟩
       ·rw [if_neg c9] at H
        exact absurd H (by simp)
      ·rw [if_neg c7] at H
       exact absurd H (by simp)
     ·rw [if_neg c6] at H
      have c6b0:decide (x4_1<(l0.length:Int))=false:=decide_eq_false c6
      clear c6
      obtain rfl:=Option.some.inj H
      go_wp2
      go_ret
      exact ⟨_,z8_,z0_ HO_3.out,z5_ HB.out⟩
  ·rw [if_neg c3] at H
   exact absurd H (by simp)
 ·rw [if_neg c2] at H
  exact absurd H (by simp)


/-! ### laws_toSib: function 84 -/
def laws_toSib.f (a0_0:Int) (a0_1:Int) (a0_2:Bool) (a0_3:ByteArray):Option (Int × Int × Bool × ByteArray):=(laws_toMark.f a0_0 a0_1).bind fun bt198=>(some (bt198.1,bt198.2,a0_2,a0_3))
set_option maxHeartbeats 8000000 in
set_option maxRecDepth 100000 in
theorem laws_toSib.calls (a0_0:Int) (a0_1:Int) (a0_2:Bool) (a0_3:ByteArray) (r1:Int) (r2:Int) (r3:Bool) (r4:ByteArray) (w:World) (h:laws_toSib.f a0_0 a0_1 a0_2 a0_3=some (r1,r2,r3,r4)) :
  Calls Try.prog 84 #[.agg #[.int .i64 a0_0,.int .i64 a0_1,.bool a0_2,.string a0_3]] w fun e w'=>e = .returned (.agg #[.int .i64 r1,.int .i64 r2,.bool r3,.string r4])∧Below w.heap.size w w':=by
 have hu107:=Try.underlying107
 have hu91:=Try.underlying91
 have hu100:=Try.underlying100
 have hu56:=Try.underlying56
 have HB:=Aside0.mk (Below.refl w.heap.size w)
 have H:((laws_toMark.f a0_0 a0_1).bind fun bt198=>(some (bt198.1,bt198.2,a0_2,a0_3)))=some (r1,r2,r3,r4):=h
 clear h
 replace H:=Option.bind_eq_some_iff.mp H
 obtain ⟨⟨t198,t199⟩,A20,H⟩:=H
 replace H:(some (t198,t199,a0_2,a0_3))=some (r1,r2,r3,r4):=H
 have A2:=Aside0.mk A20
 clear A20
 simp only [Option.some.injEq,Prod.mk.injEq] at H
 obtain ⟨rfl,rfl,rfl,rfl⟩:=H
 go_enter Try.func84,Try.ntmps84
 go_wp2_with (first | ((with_reducible refine gd_ 1 ?_);refine be_ 1 #[.int .i64 a0_0,.int .i64 a0_1,.bool a0_2,.string a0_3] 107 ?_;intro gb195 hg w3 hbox hb;refine as4_ (below_step (z5_ HB.out) hb) (hbox) ((z7_ HB.out:w.heap.size≤gb195)) ((z7_ HB.out:w.heap.size≤gb195)) ?_;clear HB;intro HB BK195 GW195 GE195;clear hb hbox hg) | ((with_reducible refine gd_ 2 ?_);refine be_ 2 #[.int .i64 0,.int .i64 0,.bool false,.string (⟨#[]⟩:ByteArray)] 91 ?_;intro gb196 hg w4 hbox hb;refine as7_ (blkB_ BK195.out hb) (below_step (z4_ HB.out GE195.out) hb) (hbox) ((z11_ HB.out GE195.out:w.heap.size≤gb196)) ((z11_ HB.out GE195.out:w.heap.size≤gb196)) (neL_ BK195.out hg) (neG_ BK195.out hg) ?_;clear BK195 HB;intro BK195 HB BK196 GW196 GE196 NB195_196 NB196_195;clear hb hbox hg) | ((with_reducible refine gd_ 3 ?_);refine be_ 3 #[.int .i64 0,.int .i64 0,.bool false,.string (⟨#[]⟩:ByteArray)] 91 ?_;intro gb197 hg w5 hbox hb;refine as10_ (blkB_ BK195.out hb) (blkB_ BK196.out hb) (below_step (z6_ HB.out GE195.out GE196.out) hb) (hbox) ((z18_ HB.out GE195.out GE196.out:w.heap.size≤gb197)) ((z18_ HB.out GE195.out GE196.out:w.heap.size≤gb197)) (neL_ BK195.out hg) (neG_ BK195.out hg) (neL_ BK196.out hg) (neG_ BK196.out hg) ?_;clear BK195 BK196 HB;intro BK195 BK196 HB BK197 GW197 GE197 NB195_197 NB197_195 NB196_197 NB197_196;clear hb hbox hg;have hnb6:=NB195_196.out;have hnc6:=NB196_195.out;have hnb7:=NB195_197.out;have hnc7:=NB197_195.out;have ⟨hcz8_0,hcz8_1,hcz8_2,hcz8_3,hfz8_0,hfz8_1,hfz8_2,hfz8_3⟩:=cz4_ BK195.out) | ((with_reducible refine gc_ 74 ?_);refine gl_ (some 6) Try.func74 #[.agg #[.int .i64 a0_0,.int .i64 a0_1]] ?_;(with_reducible refine (laws_toMark.calls a0_0 a0_1 t198 t199 _ A2.out).mono ?_);rintro e w9 ⟨rfl,hb⟩;refine ⟨_,rfl,?_⟩;refine as4_ (blkB_ BK195.out hb) (blkB_ BK196.out hb) (blkB_ BK197.out hb) (below_step (z9_ HB.out GE195.out GE196.out GE197.out) hb) ?_;clear BK195 BK196 BK197 HB;intro BK195 BK196 BK197 HB;(try clear hb);have hnb10:=NB197_196.out;have hnc10:=NB196_197.out;have ⟨hcz11_0,hcz11_1,hcz11_2,hcz11_3,hfz11_0,hfz11_1,hfz11_2,hfz11_3⟩:=cz4_ BK197.out;have ⟨hcz12_0,hcz12_1,hcz12_2,hcz12_3,hfz12_0,hfz12_1,hfz12_2,hfz12_3⟩:=cz4_ BK195.out;have ⟨hcz13_0,hcz13_1,hcz13_2,hcz13_3,hfz13_0,hfz13_1,hfz13_2,hfz13_3⟩:=cz4_ BK196.out))
 refine bodyPost_ret (results_cell_row rfl _ _ gb196 91 #[.int .i64 t198,.int .i64 t199,.bool a0_2,.string a0_3] (0,0) _ rfl (by (with_reducible repeat (first | refine blk_drewN ?_ _ | refine blk_drew ?_ | refine blk_alloc ?_ _));apply put4_;(with_reducible repeat (first | refine blk_drewN ?_ _ | refine blk_drew ?_ | refine blk_alloc ?_ _));refine blk_far ?_ NB196_197.out _;(with_reducible repeat (first | refine blk_drewN ?_ _ | refine blk_drew ?_ | refine blk_alloc ?_ _));refine blk_far ?_ NB196_197.out _;(with_reducible repeat (first | refine blk_drewN ?_ _ | refine blk_drew ?_ | refine blk_alloc ?_ _));refine blk_far ?_ NB196_197.out _;(with_reducible repeat (first | refine blk_drewN ?_ _ | refine blk_drew ?_ | refine blk_alloc ?_ _));refine blk_far ?_ NB196_197.out _;(with_reducible repeat (first | refine blk_drewN ?_ _ | refine blk_drew ?_ | refine blk_alloc ?_ _));exact BK196.out) Try.underlying91 rfl (by kernel_rfl)) rfl ?_
 exact ⟨z8_,z9_ HB.out GE195.out GE196.out GE197.out⟩


/-! ### laws_toSibS: function 53 -/
def laws_toSibS.l0:Nat→List (S107)→List (S91)→Int→Option ((List (S91)))
 | 0,_,_,_=>none
 | k+1,x0,x3,x4=>if x4<(x0.length:Int) then (if 0≤x4 then ((laws_toSib.f ((rd_T107 x0 x4).f0.f0) ((rd_T107 x0 x4).f0.f1) ((rd_T107 x0 x4).f1) ((rd_T107 x0 x4).f2)).bind fun bt204=>(if x4<(x3.length:Int) then (laws_toSibS.l0 k x0 (x3.set (x4:Int).toNat (⟨(⟨bt204.1,bt204.2.1⟩:S56),bt204.2.2.1,bt204.2.2.2⟩:S91)) (wrap64 (x4+1))) else (none))) else (none)) else (some x3)
def laws_toSibS.f (k:Nat) (l0:List (S107)):Option ((List (S91))):=if 0≤(l0.length:Int) then (if ((l0.length:Int):Int).toNat≤7036874417766 then (laws_toSibS.l0 k l0 (List.replicate ((l0.length:Int):Int).toNat z91) 0) else (none)) else (none)
theorem laws_toSibS.mono_l:∀ k,(∀ y0 y1 y2,LeO (laws_toSibS.l0 k y0 y1 y2) (laws_toSibS.l0 (k+1) y0 y1 y2))
 | 0=>fun _ _ _ r h=>by simp [laws_toSibS.l0] at h
 | k+1=>by
  have ih0:=laws_toSibS.mono_l k
  ·intro y0 y1 y2
   unfold laws_toSibS.l0
   repeat' first
   | (with_reducible exact ih0 _ _ _)
   | (with_reducible exact LeO.refl _)
   | (with_reducible exact LeO.none _)
   | (with_reducible refine LeO.ite ?_ ?_)
   | (with_reducible refine LeO.bind ?_ (fun _=>?_))
   | exact ih0 _ _ _
   | exact LeO.none _
   | refine LeO.ite ?_ ?_
   | refine LeO.bind ?_ (fun _=>?_)
theorem laws_toSibS.mono:∀ a0 k,LeO (laws_toSibS.f k a0) (laws_toSibS.f (k+1) a0):=by
 intro a0 k
 have ih0:=laws_toSibS.mono_l k
 unfold laws_toSibS.f
 repeat' first
   | (with_reducible exact ih0 _ _ _)
   | (with_reducible exact LeO.refl _)
   | (with_reducible exact LeO.none _)
   | (with_reducible refine LeO.ite ?_ ?_)
   | (with_reducible refine LeO.bind ?_ (fun _=>?_))
   | exact ih0 _ _ _
   | exact LeO.none _
   | refine LeO.ite ?_ ?_
   | refine LeO.bind ?_ (fun _=>?_)
set_option maxHeartbeats 8000000 in
set_option maxRecDepth 100000 in
theorem laws_toSibS.calls (k:Nat) (A0:Option Addr) (c0:Nat) (l0:List (S107)) (r:List (S91)) (w:World) (hr0:Kd.C k107 w A0 l0.length l0) (hc0:l0.length≤c0) (h:laws_toSibS.f k l0=some r) :
  Calls Try.prog 53 #[.slice A0 l0.length c0] w fun e w'=>∃ v0_:Value,e = .returned (v0_)∧Kd.R k91 91 w' w.heap.size (fun _=>True) v0_ r∧Below w.heap.size w w':=by
 have hu107:=Try.underlying107
 have hu91:=Try.underlying91
 have HR0:=Aside0.mk hr0
 have HC0:=Aside0.mk hc0
 clear hr0 hc0
 have HB:=Aside0.mk (Below.refl w.heap.size w)
 have H:(if 0≤(l0.length:Int) then (if ((l0.length:Int):Int).toNat≤7036874417766 then (laws_toSibS.l0 k l0 (List.replicate ((l0.length:Int):Int).toNat z91) 0) else (none)) else (none))=some r:=h
 clear h
 by_cases c2:0≤(l0.length:Int)
 ·rw [if_pos c2] at H
  have c2b0:=eq_true c2
  have c2b1:decide (0≤(l0.length:Int))=true:=decide_eq_true c2
  clear c2
  by_cases c3:((l0.length:Int):Int).toNat≤7036874417766
  ·rw [if_pos c3] at H
   have c3b0:=eq_true c3
   have c3b1:decide (((l0.length:Int):Int).toNat≤7036874417766)=true:=decide_eq_true c3
   clear c3
   obtain ⟨y200,hy200⟩:∃ y_:List (S91),y_=(List.replicate ((l0.length:Int):Int).toNat z91):=⟨_,rfl⟩
   replace H:(laws_toSibS.l0 k l0 y200 0)=some r:=by first | (rw [hy200];with_reducible exact H) | (have H2_:=(Option.bind_some _ _).symm.trans H;rw [hy200];with_reducible exact H2_) | (have H2_:=(Option.bind_some _ _).symm.trans H;with_reducible exact H2_) | with_reducible exact H | (rw [hy200];exact H) | exact H
   have Ny200:=Aside0.mk hy200
   clear hy200
   have H':=Aside0.mk H
   clear H
   go_enter Try.func53,Try.ntmps53
   go_wp2_with (first | ((with_reducible refine gd_ 7 ?_);refine Kd.R_make k91 _ 91 rfl (N:=7) rfl 38 _ _ rfl (l0.length:Int) rfl rfl Try.underlying38 (.agg #[(.int .i64 0),(.int .i64 0),(.bool false),(.string ⟨#[]⟩)]) 40 info91 rfl (by decide) (by omega) z91 (ok:=fun _=>True) (okp:=fun _=>True) (k91_mkM _ _ _ z91 ) (fun _ hk=>hk) trivial (of_decide_eq_true (z1_)) (Nat.le_trans (Nat.mul_le_mul_right _ (of_decide_eq_true (z1_):(l0.length:Int).toNat≤7036874417766)) (by omega)) (Below.refl _ _) (Nat.le_refl _) ?_;intro v201 w4 ho5 hb hg_ hnew_;clear hg_ hnew_;(first | rw [← Ny200.out] at ho5 | (simp only [Int.reduceToNat] at ho5;rw [← Ny200.out] at ho5));refine as2_ (Kd.R_lower ho5 (below_size (z5_ HB.out))) (below_step (z5_ HB.out) hb) ?_;clear HB;intro HO202 HB;clear hb ho5))
   go_loopg [4] k (fun kq v4 w'=>∃ (x3_1:List (S91)) (x4_1:Int),v4 = .int .i64 x4_1∧Aside0 (laws_toSibS.l0 kq l0 x3_1 x4_1=some r)∧Aside0 (kq≤k)∧Aside0 (Kd.R k91 91 w' w.heap.size (fun _=>True) v201 x3_1)∧Aside0 (Below w.heap.size w w'))
   case atStart=>exact ⟨(y200),(0),(z2_),H',⟨Nat.le_refl _⟩,⟨z0_ HO202.out⟩,⟨z5_ HB.out⟩⟩
   case round =>
    clear H'
    try clear c2
    try clear c2b0
    try clear c2b1
    try clear p2
    try clear c3
    try clear c3b0
    try clear c3b1
    try clear c5
    obtain ⟨x3_1,x4_1,rfl,HA,HK1,HO_3,HB⟩:=hrel
    cases gk with
    | zero=>exact absurd HA.out (by simp [laws_toSibS.l0])
    | succ k1 =>
     have H:=HA.out
     clear HA
     simp only [laws_toSibS.l0] at H
     by_cases c6:x4_1<(l0.length:Int)
     ·rw [if_pos c6] at H
      have c6b0:decide (x4_1<(l0.length:Int))=true:=decide_eq_true c6
      clear c6
      by_cases c7:0≤x4_1
      ·rw [if_pos c7] at H
       have c7b0:decide (0≤x4_1)=true:=decide_eq_true c7
       clear c7
       replace H:=Option.bind_eq_some_iff.mp H
       obtain ⟨⟨t204,t205,t206,t207⟩,A80,H⟩:=H
       replace H:(if x4_1<(x3_1.length:Int) then (laws_toSibS.l0 k1 l0 (x3_1.set (x4_1:Int).toNat (⟨(⟨t204,t205⟩:S56),t206,t207⟩:S91)) (wrap64 (x4_1+1))) else (none))=some r:=H
       have A8:=Aside0.mk A80
       clear A80
       by_cases c9:x4_1<(x3_1.length:Int)
       ·rw [if_pos c9] at H
        have c9b0:decide (x4_1<(x3_1.length:Int))=true:=decide_eq_true c9
        clear c9
        obtain ⟨y208,hy208⟩:∃ y_:List (S91),y_=(x3_1.set (x4_1:Int).toNat (⟨(⟨t204,t205⟩:S56),t206,t207⟩:S91)):=⟨_,rfl⟩
        replace H:(laws_toSibS.l0 k1 l0 y208 (wrap64 (x4_1+1)))=some r:=by first | (rw [hy208];with_reducible exact H) | (have H2_:=(Option.bind_some _ _).symm.trans H;rw [hy208];with_reducible exact H2_) | (have H2_:=(Option.bind_some _ _).symm.trans H;with_reducible exact H2_) | with_reducible exact H | (rw [hy208];exact H) | exact H
        have Ny208:=Aside0.mk hy208
        clear hy208
        have H':=Aside0.mk H
        clear H
        have p203:0≤(x4_1:Int):=of_decide_eq_true (z1_)
        have q203:x4_1<(l0.length:Int):=of_decide_eq_true (z1_)
        obtain ⟨ad203,e203,hx203_0,hx203_1,hx203_2,hx203_3⟩:=at_T107 HR0.out x4_1 p203 q203
        cases e203
        replace hx203_0:=(HB.out.cell (World.block_lt_of_cell? w _ hx203_0)).trans hx203_0
        replace hx203_1:=(HB.out.cell (World.block_lt_of_cell? w _ hx203_1)).trans hx203_1
        replace hx203_2:=(HB.out.cell (World.block_lt_of_cell? w _ hx203_2)).trans hx203_2
        replace hx203_3:=(HB.out.cell (World.block_lt_of_cell? w _ hx203_3)).trans hx203_3
        replace p203:=eq_true p203
        replace q203:=eq_true q203
        go_wp2_with (first | ((with_reducible refine gc_ 84 ?_);refine gl_ (some 20) Try.func84 #[.agg #[.int .i64 ((rd_T107 l0 x4_1).f0.f0),.int .i64 ((rd_T107 l0 x4_1).f0.f1),.bool ((rd_T107 l0 x4_1).f1),.string ((rd_T107 l0 x4_1).f2)]] ?_;(with_reducible refine (laws_toSib.calls ((rd_T107 l0 x4_1).f0.f0) ((rd_T107 l0 x4_1).f0.f1) ((rd_T107 l0 x4_1).f1) ((rd_T107 l0 x4_1).f2) t204 t205 t206 t207 _ A8.out).mono ?_);rintro e w11 ⟨rfl,hb⟩;refine ⟨_,rfl,?_⟩;refine as2_ (Kd.R_below (z0_ HO_3.out) hb) (below_step (z5_ HB.out) hb) ?_;clear HO_3 HB;intro HO_3 HB;(try clear hb);have p10:0≤(x4_1:Int):=of_decide_eq_true (z1_);have q10:(x4_1:Int)<((x3_1.length:Int):Int):=of_decide_eq_true (z1_);obtain ⟨go10,co10,eo10,gb10,gl10,cl10,HG10⟩:=Kd.R_form HO_3.out (by omega);(first | cases eo10 | (injection eo10 with ea_ en_ ec_;(first | subst ea_ | (injection ea_ with ea_;subst ea_));subst ec_;clear en_));have GB10:=Aside0.mk gb10;have GG10:=Aside0.mk HG10;clear gb10 gl10 HG10;obtain ⟨ce10,hcl10,hM10,hcc10,hfr10⟩:=Kd.R_elem HO_3.out z91 (x4_1:Int) p10 q10;obtain rfl:=k91_openM hM10;have hx10_0:w11.cell? ⟨go10,(x4_1:Int).toNat*4,none⟩=some (.int .i64 ((rd_T91 x3_1 x4_1).f0.f0)):=hcc10 0 _ rfl;have hx10_1:w11.cell? ⟨go10,(x4_1:Int).toNat*4+1,none⟩=some (.int .i64 ((rd_T91 x3_1 x4_1).f0.f1)):=hcc10 1 _ rfl;have hx10_2:w11.cell? ⟨go10,(x4_1:Int).toNat*4+2,none⟩=some (.bool ((rd_T91 x3_1 x4_1).f1)):=hcc10 2 _ rfl;have hx10_3:w11.cell? ⟨go10,(x4_1:Int).toNat*4+3,none⟩=some (.string ((rd_T91 x3_1 x4_1).f2)):=hcc10 3 _ rfl;have hf10_0:w11.frozen? ⟨go10,(x4_1:Int).toNat*4,none⟩=false:=hfr10 0;have hf10_1:w11.frozen? ⟨go10,(x4_1:Int).toNat*4+1,none⟩=false:=hfr10 1;have hf10_2:w11.frozen? ⟨go10,(x4_1:Int).toNat*4+2,none⟩=false:=hfr10 2;have hf10_3:w11.frozen? ⟨go10,(x4_1:Int).toNat*4+3,none⟩=false:=hfr10 3;clear hcl10 hcc10 hfr10 hM10;replace p10:=eq_true p10;replace q10:=eq_true q10;have HX12:=Aside0.mk (show Kd.R k91 91 w11 w.heap.size (fun _=>True) (.slice (some ⟨go10,0,none⟩) x3_1.length co10) x3_1 from (z0_ HO_3.out));obtain ⟨ce12,hcl12,hM12,hcc12,hfr12⟩:=Kd.R_elem HX12.out z91 (x4_1:Int) (of_decide_eq_true (z1_)) (z41_ HO_3.out);obtain rfl:=k91_openM hM12;have HP12:=Kd.R_seg HX12.out (x4_1:Int) (of_decide_eq_true (z1_)) (z41_ HO_3.out) (seg:=[.int .i64 t204,.int .i64 t205,.bool t206,.string t207]) (j:=0) hcl12 hcc12 (show 4≤4 from by decide) (x':=(⟨(⟨t204,t205⟩:S56),t206,t207⟩:S91)) (k91_mkM _ _ _ (⟨(⟨t204,t205⟩:S56),t206,t207⟩:S91) ) (fun _ hk=>hk);have hx12_0:=hcc12 0 _ rfl;(try simp only [show (k91).sz=4 from rfl,Nat.mul_one,Nat.add_zero] at hx12_0);have hf12_0:=hfr12 0;(try simp only [show (k91).sz=4 from rfl,Nat.mul_one,Nat.add_zero] at hf12_0);have hx12_1:=hcc12 1 _ rfl;(try simp only [show (k91).sz=4 from rfl,Nat.mul_one,Nat.add_zero] at hx12_1);have hf12_1:=hfr12 1;(try simp only [show (k91).sz=4 from rfl,Nat.mul_one,Nat.add_zero] at hf12_1);have hx12_2:=hcc12 2 _ rfl;(try simp only [show (k91).sz=4 from rfl,Nat.mul_one,Nat.add_zero] at hx12_2);have hf12_2:=hfr12 2;(try simp only [show (k91).sz=4 from rfl,Nat.mul_one,Nat.add_zero] at hf12_2);have hx12_3:=hcc12 3 _ rfl;(try simp only [show (k91).sz=4 from rfl,Nat.mul_one,Nat.add_zero] at hx12_3);have hf12_3:=hfr12 3;(try simp only [show (k91).sz=4 from rfl,Nat.mul_one,Nat.add_zero] at hf12_3);clear hcl12 hcc12 hfr12 hM12) | ((with_reducible refine gate_store (t:=91) (p:=21) rfl ?_);refine store_event (t:=91) (p:=21) (v:=?vo_w13) (w1:=((((w11.setCell ⟨go10,(x4_1:Int).toNat*4,none⟩ (.int .i64 t204)).setCell ⟨go10,(x4_1:Int).toNat*4+1,none⟩ (.int .i64 t205)).setCell ⟨go10,(x4_1:Int).toNat*4+2,none⟩ (.bool t206)).setCell ⟨go10,(x4_1:Int).toNat*4+3,none⟩ (.string t207))) ?hg ?ho ?hn ?hr ?_;(case ho=>rfl);(case hg=>rfl);(case hn=>rfl);(case hr=>first | (go_simp;done) | (go_simp;rfl));intro w13 hw;have hg:w11.grownBy w13 (some go10):=(by rw [hw];exact HP12.2);have hp_:Kd.R k91 91 w13 w.heap.size (fun _=>True) (.slice (some ⟨go10,0,none⟩) x3_1.length co10) y208:=(by rw [hw,Ny208.out];exact HP12.1);clear HP12;refine as2_ (hp_) ((by rw [hw];exact below_set (below_set (below_set (below_set (HB.out) GB10.out) GB10.out) GB10.out) GB10.out:Below w.heap.size w w13)) ?_;clear HO_3 HB;intro HO_3 HB;clear hg hw hp_))
        go_roundg k1
        case measure=>have:=HK1.out;omega
        case rel=>exact ⟨(y208),(wrap64 (x4_1+1)),(z2_),H',⟨by have:=HK1.out;omega⟩,⟨z0_ HO_3.out⟩,⟨z5_ HB.out⟩⟩
       ·rw [if_neg c9] at H
        exact absurd H (by simp)
      ·rw [if_neg c7] at H
       exact absurd H (by simp)
     ·rw [if_neg c6] at H
      have c6b0:decide (x4_1<(l0.length:Int))=false:=decide_eq_false c6
      clear c6
      obtain rfl:=Option.some.inj H
      go_wp2
      go_ret
      exact ⟨_,z8_,z0_ HO_3.out,z5_ HB.out⟩
  ·rw [if_neg c3] at H
   exact absurd H (by simp)
 ·rw [if_neg c2] at H
  exact absurd H (by simp)


/-! ### laws_toSet: function 15 -/
def laws_toSet.f (k:Nat) (l0_0:List (S100)) (l0_1:List (S107)):Option ((List (S56)) × (List (S91))):=(laws_toMarkS.f k l0_0).bind fun t212=>((laws_toSibS.f k l0_1).bind fun t215=>(some (t212,t215)))
theorem laws_toSet.mono:∀ a0 a1 k,LeO (laws_toSet.f k a0 a1) (laws_toSet.f (k+1) a0 a1):=by
 intro a0 a1 k
 unfold laws_toSet.f
 repeat' first
   | (with_reducible exact laws_toMarkS.mono _ _)
   | (with_reducible exact laws_toSibS.mono _ _)
   | (with_reducible exact LeO.refl _)
   | (with_reducible exact LeO.none _)
   | (with_reducible refine LeO.ite ?_ ?_)
   | (with_reducible refine LeO.bind ?_ (fun _=>?_))
   | exact laws_toMarkS.mono _ _
   | exact laws_toSibS.mono _ _
   | exact LeO.none _
   | refine LeO.ite ?_ ?_
   | refine LeO.bind ?_ (fun _=>?_)
set_option maxHeartbeats 8000000 in
set_option maxRecDepth 100000 in
theorem laws_toSet.calls (k:Nat) (A0_0:Option Addr) (c0_0:Nat) (l0_0:List (S100)) (A0_1:Option Addr) (c0_1:Nat) (l0_1:List (S107)) (r1:List (S56)) (r2:List (S91)) (w:World) (hr0_0:Kd.C k100 w A0_0 l0_0.length l0_0) (hc0_0:l0_0.length≤c0_0) (hr0_1:Kd.C k107 w A0_1 l0_1.length l0_1) (hc0_1:l0_1.length≤c0_1) (h:laws_toSet.f k l0_0 l0_1=some (r1,r2)) :
  Calls Try.prog 15 #[.agg #[.slice A0_0 l0_0.length c0_0,.slice A0_1 l0_1.length c0_1]] w fun e w'=>∃ v0_ v1_:Value,e = .returned (.agg #[v0_,v1_])∧Kd.R k56 56 w' w.heap.size (fun _=>True) v0_ r1∧Kd.R k91 91 w' w.heap.size (fun _=>True) v1_ r2∧Below w.heap.size w w':=by
 have hu32:=Try.underlying32
 have hu40:=Try.underlying40
 have HR0_0:=Aside0.mk hr0_0
 have HC0_0:=Aside0.mk hc0_0
 clear hr0_0 hc0_0
 have HR0_1:=Aside0.mk hr0_1
 have HC0_1:=Aside0.mk hc0_1
 clear hr0_1 hc0_1
 have HB:=Aside0.mk (Below.refl w.heap.size w)
 have H:((laws_toMarkS.f k l0_0).bind fun t212=>((laws_toSibS.f k l0_1).bind fun t215=>(some (t212,t215))))=some (r1,r2):=h
 clear h
 replace H:=Option.bind_eq_some_iff.mp H
 obtain ⟨t212,A20,H⟩:=H
 replace H:((laws_toSibS.f k l0_1).bind fun t215=>(some (t212,t215)))=some (r1,r2):=H
 have A2:=Aside0.mk A20
 clear A20
 replace H:=Option.bind_eq_some_iff.mp H
 obtain ⟨t215,A30,H⟩:=H
 replace H:(some (t212,t215))=some (r1,r2):=H
 have A3:=Aside0.mk A30
 clear A30
 simp only [Option.some.injEq,Prod.mk.injEq] at H
 obtain ⟨rfl,rfl⟩:=H
 go_enter Try.func15,Try.ntmps15
 go_wp2_with (first | ((with_reducible refine gd_ 1 ?_);refine be_ 1 #[.slice A0_0 l0_0.length c0_0,.slice A0_1 l0_1.length c0_1] 32 ?_;intro gb209 hg w4 hbox hb;refine as4_ (below_step (z5_ HB.out) hb) (hbox) ((z7_ HB.out:w.heap.size≤gb209)) ((z7_ HB.out:w.heap.size≤gb209)) ?_;clear HB;intro HB BK209 GW209 GE209;clear hb hbox hg) | ((with_reducible refine gd_ 2 ?_);refine be_ 2 #[.slice none 0 0,.slice none 0 0] 40 ?_;intro gb210 hg w5 hbox hb;refine as7_ (blkB_ BK209.out hb) (below_step (z4_ HB.out GE209.out) hb) (hbox) ((z11_ HB.out GE209.out:w.heap.size≤gb210)) ((z11_ HB.out GE209.out:w.heap.size≤gb210)) (neL_ BK209.out hg) (neG_ BK209.out hg) ?_;clear BK209 HB;intro BK209 HB BK210 GW210 GE210 NB209_210 NB210_209;clear hb hbox hg) | ((with_reducible refine gd_ 3 ?_);refine be_ 3 #[.slice none 0 0,.slice none 0 0] 40 ?_;intro gb211 hg w6 hbox hb;refine as10_ (blkB_ BK209.out hb) (blkB_ BK210.out hb) (below_step (z6_ HB.out GE209.out GE210.out) hb) (hbox) ((z18_ HB.out GE209.out GE210.out:w.heap.size≤gb211)) ((z18_ HB.out GE209.out GE210.out:w.heap.size≤gb211)) (neL_ BK209.out hg) (neG_ BK209.out hg) (neL_ BK210.out hg) (neG_ BK210.out hg) ?_;clear BK209 BK210 HB;intro BK209 BK210 HB BK211 GW211 GE211 NB209_211 NB211_209 NB210_211 NB211_210;clear hb hbox hg;have hnb7:=NB209_210.out;have hnc7:=NB210_209.out;have hnb8:=NB209_211.out;have hnc8:=NB211_209.out;have ⟨hcz9_0,hcz9_1,hfz9_0,hfz9_1⟩:=cz2_ BK209.out) | ((with_reducible refine gc_ 31 ?_);refine gl_ (some 6) Try.func31 #[.slice A0_0 l0_0.length c0_0] ?_;(with_reducible refine (laws_toMarkS.calls k _ _ l0_0 t212 _ ?s1 ?s2 A2.out).mono ?_);(case s1=>repeat (first | exact (Kd.C_below HR0_0.out HB.out) | (with_reducible refine Kd.C_alloc ?_ _) | (with_reducible refine Kd.C_drewN ?_ _) | (with_reducible refine Kd.C_drew ?_)));(case s2=>exact HC0_0.out);rintro e w10 ⟨v213,rfl,ho0,hb⟩;refine ⟨_,rfl,?_⟩;refine as5_ (Kd.R_lower ho0 (below_size (z9_ HB.out GE209.out GE210.out GE211.out))) (blkB_ BK209.out hb) (blkB_ BK210.out hb) (blkB_ BK211.out hb) (below_step (z9_ HB.out GE209.out GE210.out GE211.out) hb) ?_;clear BK209 BK210 BK211 HB;intro HO214 BK209 BK210 BK211 HB;(try clear hb);(try clear ho0);obtain ⟨Ao11,co11,eo11⟩:=Kd.R_slice HO214.out;subst eo11;have hnb12:=NB211_210.out;have hnc12:=NB210_211.out;have ⟨hcz13_0,hcz13_1,hfz13_0,hfz13_1⟩:=cz2_ BK211.out;have ⟨hcz14_0,hcz14_1,hfz14_0,hfz14_1⟩:=cz2_ BK209.out) | ((with_reducible refine gc_ 53 ?_);refine gl_ (some 10) Try.func53 #[.slice A0_1 l0_1.length c0_1] ?_;(with_reducible refine (laws_toSibS.calls k _ _ l0_1 t215 _ ?s1 ?s2 A3.out).mono ?_);(case s1=>exact Kd.C_below HR0_1.out (z9_ HB.out GE209.out GE210.out GE211.out));(case s2=>exact HC0_1.out);rintro e w15 ⟨v216,rfl,ho0,hb⟩;refine ⟨_,rfl,?_⟩;refine as6_ (Kd.R_below (by (with_reducible repeat (first | apply Kd.R_alloc | apply Kd.R_drewN | apply Kd.R_drew));exact (Kd.R_mono (Kd.R_far (p:=⟨gb211,0,none⟩) (Kd.R_types HO214.out BK211.out (by decide)) (fun _ hk=>hk.2) (.slice Ao11 t212.length co11)) (fun _ h_=>h_.1))) hb) (Kd.R_lower ho0 (below_size (z9_ HB.out GE209.out GE210.out GE211.out))) (blk_below (g:=gb209) (o:=.cells #[.slice A0_0 l0_0.length c0_0,.slice A0_1 l0_1.length c0_1] 32 (0,0)) (by (with_reducible repeat (first | refine blk_drewN ?_ _ | refine blk_drew ?_ | refine blk_alloc ?_ _));refine blk_far ?_ NB209_211.out _;(with_reducible repeat (first | refine blk_drewN ?_ _ | refine blk_drew ?_ | refine blk_alloc ?_ _));exact BK209.out) hb) (blk_below (g:=gb210) (o:=.cells #[.slice none 0 0,.slice none 0 0] 40 (0,0)) (by (with_reducible repeat (first | refine blk_drewN ?_ _ | refine blk_drew ?_ | refine blk_alloc ?_ _));refine blk_far ?_ NB210_211.out _;(with_reducible repeat (first | refine blk_drewN ?_ _ | refine blk_drew ?_ | refine blk_alloc ?_ _));exact BK210.out) hb) (blk_below (g:=gb211) (o:=.cells #[.slice Ao11 t212.length co11,.slice none 0 0] 40 (0,0)) (by (with_reducible repeat (first | refine blk_drewN ?_ _ | refine blk_drew ?_ | refine blk_alloc ?_ _));refine blk_put (cs:=#[.slice none 0 0,.slice none 0 0]) ?_ 0 _ rfl;(with_reducible repeat (first | refine blk_drewN ?_ _ | refine blk_drew ?_ | refine blk_alloc ?_ _));exact BK211.out) hb) (below_step (z9_ HB.out GE209.out GE210.out GE211.out) hb) ?_;clear HO214 BK209 BK210 BK211 HB;intro HO214 HO217 BK209 BK210 BK211 HB;(try clear hb);(try clear hk);(try clear ho0);obtain ⟨Ao16,co16,eo16⟩:=Kd.R_slice HO217.out;subst eo16;have ⟨hcz17_0,hcz17_1,hfz17_0,hfz17_1⟩:=cz2_ BK211.out;have ⟨hcz18_0,hcz18_1,hfz18_0,hfz18_1⟩:=cz2_ BK210.out))
 refine bodyPost_ret (results_cell_row rfl _ _ gb210 40 #[.slice Ao11 t212.length co11,.slice Ao16 t215.length co16] (0,0) _ rfl (by (with_reducible repeat (first | refine blk_drewN ?_ _ | refine blk_drew ?_ | refine blk_alloc ?_ _));apply put2_;(with_reducible repeat (first | refine blk_drewN ?_ _ | refine blk_drew ?_ | refine blk_alloc ?_ _));refine blk_far ?_ NB210_211.out _;(with_reducible repeat (first | refine blk_drewN ?_ _ | refine blk_drew ?_ | refine blk_alloc ?_ _));exact BK210.out) Try.underlying40 rfl (by kernel_rfl)) rfl ?_
 exact ⟨_,_,z8_,by (with_reducible repeat (first | apply Kd.R_alloc | apply Kd.R_drewN | apply Kd.R_drew));exact Kd.R_mono (rf2_ (Kd.R_far (p:=⟨gb211,1,none⟩) (Kd.R_types (Kd.R_types HO214.out BK211.out (by decide)) BK210.out (by decide)) (fun _ hk=>hk.1.2) (.slice Ao16 t215.length co16)) (fun _ hk=>hk.2)) (fun _ hk=>trivial),by (with_reducible repeat (first | apply Kd.R_alloc | apply Kd.R_drewN | apply Kd.R_drew));exact Kd.R_mono (rf2_ (Kd.R_far (p:=⟨gb211,1,none⟩) (Kd.R_types (Kd.R_types HO217.out BK211.out (by decide)) BK210.out (by decide)) (fun _ hk=>hk.1.2) (.slice Ao16 t215.length co16)) (fun _ hk=>hk.2)) (fun _ hk=>trivial),z9_ HB.out GE209.out GE210.out GE211.out⟩


/-! ### laws_toMsg: function 14 -/
def laws_toMsg.f (k:Nat) (a0_0:Int) (a0_1:Int) (a0_2:Int) (a0_3:Int) (a0_4:ByteArray) (a0_5:Int) (l0_6:List (S100)) (l0_7:List (S107)):Option (Int × Int × Int × Int × ByteArray × Int × (List (S56)) × (List (S91))):=(laws_toSet.f k l0_6 l0_7).bind fun bt221=>(some (a0_0,a0_1,a0_2,a0_3,a0_4,a0_5,bt221.1,bt221.2))
theorem laws_toMsg.mono:∀ a0 a1 a2 a3 a4 a5 a6 a7 k,LeO (laws_toMsg.f k a0 a1 a2 a3 a4 a5 a6 a7) (laws_toMsg.f (k+1) a0 a1 a2 a3 a4 a5 a6 a7):=by
 intro a0 a1 a2 a3 a4 a5 a6 a7 k
 unfold laws_toMsg.f
 repeat' first
   | (with_reducible exact laws_toSet.mono _ _ _)
   | (with_reducible exact LeO.refl _)
   | (with_reducible exact LeO.none _)
   | (with_reducible refine LeO.ite ?_ ?_)
   | (with_reducible refine LeO.bind ?_ (fun _=>?_))
   | exact laws_toSet.mono _ _ _
   | exact LeO.none _
   | refine LeO.ite ?_ ?_
   | refine LeO.bind ?_ (fun _=>?_)
set_option maxHeartbeats 8000000 in
set_option maxRecDepth 100000 in
theorem laws_toMsg.calls (k:Nat) (a0_0:Int) (a0_1:Int) (a0_2:Int) (a0_3:Int) (a0_4:ByteArray) (a0_5:Int) (A0_6:Option Addr) (c0_6:Nat) (l0_6:List (S100)) (A0_7:Option Addr) (c0_7:Nat) (l0_7:List (S107)) (r1:Int) (r2:Int) (r3:Int) (r4:Int) (r5:ByteArray) (r6:Int) (r7:List (S56)) (r8:List (S91)) (w:World) (hr0_6:Kd.C k100 w A0_6 l0_6.length l0_6) (hc0_6:l0_6.length≤c0_6) (hr0_7:Kd.C k107 w A0_7 l0_7.length l0_7) (hc0_7:l0_7.length≤c0_7) (h:laws_toMsg.f k a0_0 a0_1 a0_2 a0_3 a0_4 a0_5 l0_6 l0_7=some (r1,r2,r3,r4,r5,r6,r7,r8)) :
  Calls Try.prog 14 #[.agg #[.int .i64 a0_0,.int .i64 a0_1,.int .i64 a0_2,.int .i64 a0_3,.string a0_4,.int .i64 a0_5,.slice A0_6 l0_6.length c0_6,.slice A0_7 l0_7.length c0_7]] w fun e w'=>∃ v6_ v7_:Value,e = .returned (.agg #[.int .i64 r1,.int .i64 r2,.int .i64 r3,.int .i64 r4,.string r5,.int .i64 r6,v6_,v7_])∧Kd.R k56 56 w' w.heap.size (fun _=>True) v6_ r7∧Kd.R k91 91 w' w.heap.size (fun _=>True) v7_ r8∧Below w.heap.size w w':=by
 have hu34:=Try.underlying34
 have hu42:=Try.underlying42
 have hu32:=Try.underlying32
 have hu40:=Try.underlying40
 have HR0_6:=Aside0.mk hr0_6
 have HC0_6:=Aside0.mk hc0_6
 clear hr0_6 hc0_6
 have HR0_7:=Aside0.mk hr0_7
 have HC0_7:=Aside0.mk hc0_7
 clear hr0_7 hc0_7
 have HB:=Aside0.mk (Below.refl w.heap.size w)
 have H:((laws_toSet.f k l0_6 l0_7).bind fun bt221=>(some (a0_0,a0_1,a0_2,a0_3,a0_4,a0_5,bt221.1,bt221.2)))=some (r1,r2,r3,r4,r5,r6,r7,r8):=h
 clear h
 replace H:=Option.bind_eq_some_iff.mp H
 obtain ⟨⟨t221,t224⟩,A20,H⟩:=H
 replace H:(some (a0_0,a0_1,a0_2,a0_3,a0_4,a0_5,t221,t224))=some (r1,r2,r3,r4,r5,r6,r7,r8):=H
 have A2:=Aside0.mk A20
 clear A20
 simp only [Option.some.injEq,Prod.mk.injEq] at H
 obtain ⟨rfl,rfl,rfl,rfl,rfl,rfl,rfl,rfl⟩:=H
 go_enter Try.func14,Try.ntmps14
 go_wp2_with (first | ((with_reducible refine gd_ 1 ?_);refine be_ 1 #[.int .i64 a0_0,.int .i64 a0_1,.int .i64 a0_2,.int .i64 a0_3,.string a0_4,.int .i64 a0_5,.slice A0_6 l0_6.length c0_6,.slice A0_7 l0_7.length c0_7] 34 ?_;intro gb218 hg w3 hbox hb;refine as4_ (below_step (z5_ HB.out) hb) (hbox) ((z7_ HB.out:w.heap.size≤gb218)) ((z7_ HB.out:w.heap.size≤gb218)) ?_;clear HB;intro HB BK218 GW218 GE218;clear hb hbox hg) | ((with_reducible refine gd_ 2 ?_);refine be_ 2 #[.int .i64 0,.int .i64 0,.int .i64 0,.int .i64 0,.string (⟨#[]⟩:ByteArray),.int .i64 0,.slice none 0 0,.slice none 0 0] 42 ?_;intro gb219 hg w4 hbox hb;refine as7_ (blkB_ BK218.out hb) (below_step (z4_ HB.out GE218.out) hb) (hbox) ((z11_ HB.out GE218.out:w.heap.size≤gb219)) ((z11_ HB.out GE218.out:w.heap.size≤gb219)) (neL_ BK218.out hg) (neG_ BK218.out hg) ?_;clear BK218 HB;intro BK218 HB BK219 GW219 GE219 NB218_219 NB219_218;clear hb hbox hg) | ((with_reducible refine gd_ 3 ?_);refine be_ 3 #[.int .i64 0,.int .i64 0,.int .i64 0,.int .i64 0,.string (⟨#[]⟩:ByteArray),.int .i64 0,.slice none 0 0,.slice none 0 0] 42 ?_;intro gb220 hg w5 hbox hb;refine as10_ (blkB_ BK218.out hb) (blkB_ BK219.out hb) (below_step (z6_ HB.out GE218.out GE219.out) hb) (hbox) ((z18_ HB.out GE218.out GE219.out:w.heap.size≤gb220)) ((z18_ HB.out GE218.out GE219.out:w.heap.size≤gb220)) (neL_ BK218.out hg) (neG_ BK218.out hg) (neL_ BK219.out hg) (neG_ BK219.out hg) ?_;clear BK218 BK219 HB;intro BK218 BK219 HB BK220 GW220 GE220 NB218_220 NB220_218 NB219_220 NB220_219;clear hb hbox hg;have hnb6:=NB218_219.out;have hnc6:=NB219_218.out;have hnb7:=NB218_220.out;have hnc7:=NB220_218.out;have ⟨hcz8_0,hcz8_1,hcz8_2,hcz8_3,hcz8_4,hcz8_5,hcz8_6,hcz8_7,hfz8_0,hfz8_1,hfz8_2,hfz8_3,hfz8_4,hfz8_5,hfz8_6,hfz8_7⟩:=cz8_ BK218.out;have hnb9:=NB220_219.out;have hnc9:=NB219_220.out;have ⟨hcz10_0,hcz10_1,hcz10_2,hcz10_3,hcz10_4,hcz10_5,hcz10_6,hcz10_7,hfz10_0,hfz10_1,hfz10_2,hfz10_3,hfz10_4,hfz10_5,hfz10_6,hfz10_7⟩:=cz8_ BK220.out) | ((with_reducible refine gc_ 15 ?_);refine gl_ (some 24) Try.func15 #[.agg #[.slice A0_6 l0_6.length c0_6,.slice A0_7 l0_7.length c0_7]] ?_;(with_reducible refine (laws_toSet.calls k _ _ l0_6 _ _ l0_7 t221 t224 _ ?s1 ?s2 ?s3 ?s4 A2.out).mono ?_);(case s1=>exact Kd.C_below HR0_6.out (z9_ HB.out GE218.out GE219.out GE220.out));(case s2=>exact HC0_6.out);(case s3=>exact Kd.C_below HR0_7.out (z9_ HB.out GE218.out GE219.out GE220.out));(case s4=>exact HC0_7.out);rintro e w11 ⟨v222,v225,rfl,ho0,ho1,hb⟩;refine ⟨_,rfl,?_⟩;refine as6_ (Kd.R_lower ho0 (below_size (z9_ HB.out GE218.out GE219.out GE220.out))) (Kd.R_lower ho1 (below_size (z9_ HB.out GE218.out GE219.out GE220.out))) (blk_below (g:=gb218) (o:=.cells #[.int .i64 a0_0,.int .i64 a0_1,.int .i64 a0_2,.int .i64 a0_3,.string a0_4,.int .i64 a0_5,.slice A0_6 l0_6.length c0_6,.slice A0_7 l0_7.length c0_7] 34 (0,0)) (by (with_reducible repeat (first | refine blk_drewN ?_ _ | refine blk_drew ?_ | refine blk_alloc ?_ _));refine blk_far ?_ NB218_220.out _;(with_reducible repeat (first | refine blk_drewN ?_ _ | refine blk_drew ?_ | refine blk_alloc ?_ _));refine blk_far ?_ NB218_220.out _;(with_reducible repeat (first | refine blk_drewN ?_ _ | refine blk_drew ?_ | refine blk_alloc ?_ _));refine blk_far ?_ NB218_220.out _;(with_reducible repeat (first | refine blk_drewN ?_ _ | refine blk_drew ?_ | refine blk_alloc ?_ _));refine blk_far ?_ NB218_220.out _;(with_reducible repeat (first | refine blk_drewN ?_ _ | refine blk_drew ?_ | refine blk_alloc ?_ _));refine blk_far ?_ NB218_220.out _;(with_reducible repeat (first | refine blk_drewN ?_ _ | refine blk_drew ?_ | refine blk_alloc ?_ _));refine blk_far ?_ NB218_220.out _;(with_reducible repeat (first | refine blk_drewN ?_ _ | refine blk_drew ?_ | refine blk_alloc ?_ _));exact BK218.out) hb) (blk_below (g:=gb219) (o:=.cells #[.int .i64 0,.int .i64 0,.int .i64 0,.int .i64 0,.string (⟨#[]⟩:ByteArray),.int .i64 0,.slice none 0 0,.slice none 0 0] 42 (0,0)) (by (with_reducible repeat (first | refine blk_drewN ?_ _ | refine blk_drew ?_ | refine blk_alloc ?_ _));refine blk_far ?_ NB219_220.out _;(with_reducible repeat (first | refine blk_drewN ?_ _ | refine blk_drew ?_ | refine blk_alloc ?_ _));refine blk_far ?_ NB219_220.out _;(with_reducible repeat (first | refine blk_drewN ?_ _ | refine blk_drew ?_ | refine blk_alloc ?_ _));refine blk_far ?_ NB219_220.out _;(with_reducible repeat (first | refine blk_drewN ?_ _ | refine blk_drew ?_ | refine blk_alloc ?_ _));refine blk_far ?_ NB219_220.out _;(with_reducible repeat (first | refine blk_drewN ?_ _ | refine blk_drew ?_ | refine blk_alloc ?_ _));refine blk_far ?_ NB219_220.out _;(with_reducible repeat (first | refine blk_drewN ?_ _ | refine blk_drew ?_ | refine blk_alloc ?_ _));refine blk_far ?_ NB219_220.out _;(with_reducible repeat (first | refine blk_drewN ?_ _ | refine blk_drew ?_ | refine blk_alloc ?_ _));exact BK219.out) hb) (blk_below (g:=gb220) (o:=.cells #[.int .i64 a0_0,.int .i64 a0_1,.int .i64 a0_2,.int .i64 a0_3,.string a0_4,.int .i64 a0_5,.slice none 0 0,.slice none 0 0] 42 (0,0)) (by (with_reducible repeat (first | refine blk_drewN ?_ _ | refine blk_drew ?_ | refine blk_alloc ?_ _));refine blk_put (cs:=#[.int .i64 a0_0,.int .i64 a0_1,.int .i64 a0_2,.int .i64 a0_3,.string a0_4,.int .i64 0,.slice none 0 0,.slice none 0 0]) ?_ 5 _ rfl;(with_reducible repeat (first | refine blk_drewN ?_ _ | refine blk_drew ?_ | refine blk_alloc ?_ _));refine blk_put (cs:=#[.int .i64 a0_0,.int .i64 a0_1,.int .i64 a0_2,.int .i64 a0_3,.string (⟨#[]⟩:ByteArray),.int .i64 0,.slice none 0 0,.slice none 0 0]) ?_ 4 _ rfl;(with_reducible repeat (first | refine blk_drewN ?_ _ | refine blk_drew ?_ | refine blk_alloc ?_ _));refine blk_put (cs:=#[.int .i64 a0_0,.int .i64 a0_1,.int .i64 a0_2,.int .i64 0,.string (⟨#[]⟩:ByteArray),.int .i64 0,.slice none 0 0,.slice none 0 0]) ?_ 3 _ rfl;(with_reducible repeat (first | refine blk_drewN ?_ _ | refine blk_drew ?_ | refine blk_alloc ?_ _));refine blk_put (cs:=#[.int .i64 a0_0,.int .i64 a0_1,.int .i64 0,.int .i64 0,.string (⟨#[]⟩:ByteArray),.int .i64 0,.slice none 0 0,.slice none 0 0]) ?_ 2 _ rfl;(with_reducible repeat (first | refine blk_drewN ?_ _ | refine blk_drew ?_ | refine blk_alloc ?_ _));refine blk_put (cs:=#[.int .i64 a0_0,.int .i64 0,.int .i64 0,.int .i64 0,.string (⟨#[]⟩:ByteArray),.int .i64 0,.slice none 0 0,.slice none 0 0]) ?_ 1 _ rfl;(with_reducible repeat (first | refine blk_drewN ?_ _ | refine blk_drew ?_ | refine blk_alloc ?_ _));refine blk_put (cs:=#[.int .i64 0,.int .i64 0,.int .i64 0,.int .i64 0,.string (⟨#[]⟩:ByteArray),.int .i64 0,.slice none 0 0,.slice none 0 0]) ?_ 0 _ rfl;(with_reducible repeat (first | refine blk_drewN ?_ _ | refine blk_drew ?_ | refine blk_alloc ?_ _));exact BK220.out) hb) (below_step (z9_ HB.out GE218.out GE219.out GE220.out) hb) ?_;clear BK218 BK219 BK220 HB;intro HO223 HO226 BK218 BK219 BK220 HB;(try clear hb);(try clear ho0);(try clear ho1);obtain ⟨Ao12,co12,eo12⟩:=Kd.R_slice HO223.out;subst eo12;have ⟨hcz13_0,hcz13_1,hcz13_2,hcz13_3,hcz13_4,hcz13_5,hcz13_6,hcz13_7,hfz13_0,hfz13_1,hfz13_2,hfz13_3,hfz13_4,hfz13_5,hfz13_6,hfz13_7⟩:=cz8_ BK220.out;obtain ⟨Ao14,co14,eo14⟩:=Kd.R_slice HO226.out;subst eo14;have ⟨hcz15_0,hcz15_1,hcz15_2,hcz15_3,hcz15_4,hcz15_5,hcz15_6,hcz15_7,hfz15_0,hfz15_1,hfz15_2,hfz15_3,hfz15_4,hfz15_5,hfz15_6,hfz15_7⟩:=cz8_ BK219.out))
 refine bodyPost_ret (results_cell_row rfl _ _ gb219 42 #[.int .i64 a0_0,.int .i64 a0_1,.int .i64 a0_2,.int .i64 a0_3,.string a0_4,.int .i64 a0_5,.slice Ao12 t221.length co12,.slice Ao14 t224.length co14] (0,0) _ rfl (by (with_reducible repeat (first | refine blk_drewN ?_ _ | refine blk_drew ?_ | refine blk_alloc ?_ _));apply put8_;(with_reducible repeat (first | refine blk_drewN ?_ _ | refine blk_drew ?_ | refine blk_alloc ?_ _));refine blk_far ?_ NB219_220.out _;(with_reducible repeat (first | refine blk_drewN ?_ _ | refine blk_drew ?_ | refine blk_alloc ?_ _));refine blk_far ?_ NB219_220.out _;(with_reducible repeat (first | refine blk_drewN ?_ _ | refine blk_drew ?_ | refine blk_alloc ?_ _));exact BK219.out) Try.underlying42 rfl (by kernel_rfl)) rfl ?_
 exact ⟨_,_,z8_,by (with_reducible repeat (first | apply Kd.R_alloc | apply Kd.R_drewN | apply Kd.R_drew));exact Kd.R_mono (rf8_ (Kd.R_far (p:=⟨gb220,7,none⟩) (Kd.R_far (p:=⟨gb220,6,none⟩) (Kd.R_types (Kd.R_types HO223.out BK220.out (by decide)) BK219.out (by decide)) (fun _ hk=>hk.1.2) (.slice Ao12 t221.length co12)) (fun _ hk=>hk.1.2) (.slice Ao14 t224.length co14)) (fun _ hk=>hk.2)) (fun _ hk=>trivial),by (with_reducible repeat (first | apply Kd.R_alloc | apply Kd.R_drewN | apply Kd.R_drew));exact Kd.R_mono (rf8_ (Kd.R_far (p:=⟨gb220,7,none⟩) (Kd.R_far (p:=⟨gb220,6,none⟩) (Kd.R_types (Kd.R_types HO226.out BK220.out (by decide)) BK219.out (by decide)) (fun _ hk=>hk.1.2) (.slice Ao12 t221.length co12)) (fun _ hk=>hk.1.2) (.slice Ao14 t224.length co14)) (fun _ hk=>hk.2)) (fun _ hk=>trivial),z9_ HB.out GE218.out GE219.out GE220.out⟩


/-! ### slices_Clone_impl_Mark_impl_Mark: function 106 -/
def slices_Clone_impl_Mark_impl_Mark.f (l0:List (S56)):Option ((List (S56))):=(some (([]:List (S56)):List (S56))).bind fun y227=>(if y227.length+l0.length<8796093022208 then (some (y227 ++ l0)) else (none))
set_option maxHeartbeats 8000000 in
set_option maxRecDepth 100000 in
theorem slices_Clone_impl_Mark_impl_Mark.calls (A0:Option Addr) (c0:Nat) (l0:List (S56)) (r:List (S56)) (w:World) (hr0:Kd.C k56 w A0 l0.length l0) (hc0:l0.length≤c0) (h:slices_Clone_impl_Mark_impl_Mark.f l0=some r) :
  Calls Try.prog 106 #[.slice A0 l0.length c0] w fun e w'=>∃ v0_:Value,e = .returned (v0_)∧Kd.R k56 56 w' w.heap.size (fun _=>True) v0_ r∧Below w.heap.size w w':=by
 have q_:∀ (w:World) (a:Option Addr) (n c n' c':Nat),(binOp .eql 37 (.slice a n c) (.slice none n' c')).run Try.prog w = .ok (.bool a.isNone) w:=fun w a n c n' c'=>Lib.run_eql_slice_nil w _ _ a n c n' c' Try.underlying37
 by_cases hA0_:A0=none
 ·subst hA0_
  obtain rfl:l0=[]:=by
   cases l0 with
   | nil=>rfl
   | cons a_ t_=>obtain ⟨ad_,c_,e_,_⟩:=Kd.C_get hr0 a_ 0 (by decide) (by simp);cases e_
  obtain rfl:([]:List (S56))=r:=by simpa [slices_Clone_impl_Mark_impl_Mark.f] using h
  clear h hr0
  go_enter Try.func106,Try.ntmps106
  go_wp2
  go_ret
  exact ⟨.slice none 0 0,rfl,Kd.R_nil _ _ _ _ _,Below.refl _ _⟩
 obtain ⟨A0,rfl⟩:=Option.ne_none_iff_exists'.1 hA0_
 clear hA0_
 have HR0:=Aside0.mk hr0
 have HC0:=Aside0.mk hc0
 clear hr0 hc0
 have HB:=Aside0.mk (Below.refl w.heap.size w)
 have H:((some (([]:List (S56)):List (S56))).bind fun y227=>(if y227.length+l0.length<8796093022208 then (some (y227 ++ l0)) else (none)))=some r:=h
 clear h
 obtain ⟨y227,hy227⟩:∃ y_:List (S56),y_=(([]:List (S56))):=⟨_,rfl⟩
 replace H:(if y227.length+l0.length<8796093022208 then (some (y227 ++ l0)) else (none))=some r:=by first | (rw [hy227];with_reducible exact H) | (have H2_:=(Option.bind_some _ _).symm.trans H;rw [hy227];with_reducible exact H2_) | (have H2_:=(Option.bind_some _ _).symm.trans H;with_reducible exact H2_) | with_reducible exact H | (rw [hy227];exact H) | exact H
 have Ny227:=Aside0.mk hy227
 clear hy227
 by_cases c2:y227.length+l0.length<8796093022208
 ·rw [if_pos c2] at H
  have LMc2:=Aside0.mk c2
  clear c2
  obtain ⟨y230,hy230⟩:∃ y_:List (S56),y_=(y227 ++ l0):=⟨_,rfl⟩
  replace H:(some y230)=some r:=by first | (rw [hy230];with_reducible exact H) | (have H2_:=(Option.bind_some _ _).symm.trans H;rw [hy230];with_reducible exact H2_) | (have H2_:=(Option.bind_some _ _).symm.trans H;with_reducible exact H2_) | with_reducible exact H | (rw [hy230];exact H) | exact H
  have Ny230:=Aside0.mk hy230
  clear hy230
  obtain rfl:=Option.some.inj H
  go_enter Try.func106,Try.ntmps106
  go_wp2_with (first | ((with_reducible refine gd_ 5 ?_);refine Kd.R_lit k56 _ 56 ?hg (N:=5) ?hd (xs:=([]:List (S56))) (inner:=[]) (ok:=fun _=>True) (okp:=fun _=>True) ?hr ?hp (fun _ hk=>hk) trivial (Below.refl _ _) (Nat.le_refl _) (by simp) ?_;(case hd=>rfl);(case hg=>rfl);(case hr=>first | (go_simp;done) | (go_simp;rfl));(case hp=>exact (Reps.none _ _));intro v228 w3 ho4 hb hg_ hnew_;clear hg_ hnew_;(first | rw [← Ny227.out] at ho4 | (simp only [Int.reduceToNat] at ho4;rw [← Ny227.out] at ho4));refine as2_ (Kd.R_lower ho4 (below_size (z5_ HB.out))) (below_step (z5_ HB.out) hb) ?_;clear HB;intro HO229 HB;clear hb ho4) | ((with_reducible refine gate_builtin (b:=.append) (xs:=#[.tmp 5,.tmp 6]) rfl ?_);at_builtin;refine Kd.R_append_rows k56 (w0:=w) w.heap.size rfl (.tmp 5) (.tmp 6) 37 56 (.agg #[(.int .i64 0),(.int .i64 0)]) 16 rfl Try.underlying37 info56 rfl (by decide) (by omega) v228 y227 l0 _ _ _ (fun _=>True) (fun _=>False) rfl rfl ?aO ?aR (fun _ _ h=>h) (fun _ h=>h.elim) ?aF ?aB ?aS ?aL ?_;(case aR=>repeat (first | exact (Kd.C_below HR0.out HB.out) | (with_reducible refine Kd.C_alloc ?_ _) | (with_reducible refine Kd.C_drewN ?_ _) | (with_reducible refine Kd.C_drew ?_)));(case aB=>exact (z5_ HB.out));(case aF=>exact (fun _ _=>trivial));(case aO=>exact (z0_ HO229.out));(case aS=>exact (below_size (z5_ HB.out)));(case aL=>have:=LMc2.out;omega);intro v231 w5 ho hb hg hat;rw [← Ny230.out] at ho;refine as2_ (hb) (ho) ?_;clear HB HO229;intro HB HO232;clear ho hb hg hat))
  go_ret
  exact ⟨_,z8_,z0_ HO232.out,z5_ HB.out⟩
 ·rw [if_neg c2] at H
  exact absurd H (by simp)


/-! ### slices_Clone_impl_Sib_impl_Sib: function 107 -/
def slices_Clone_impl_Sib_impl_Sib.f (l0:List (S91)):Option ((List (S91))):=(some (([]:List (S91)):List (S91))).bind fun y233=>(if y233.length+l0.length<3518437208883 then (some (y233 ++ l0)) else (none))
set_option maxHeartbeats 8000000 in
set_option maxRecDepth 100000 in
theorem slices_Clone_impl_Sib_impl_Sib.calls (A0:Option Addr) (c0:Nat) (l0:List (S91)) (r:List (S91)) (w:World) (hr0:Kd.C k91 w A0 l0.length l0) (hc0:l0.length≤c0) (h:slices_Clone_impl_Sib_impl_Sib.f l0=some r) :
  Calls Try.prog 107 #[.slice A0 l0.length c0] w fun e w'=>∃ v0_:Value,e = .returned (v0_)∧Kd.R k91 91 w' w.heap.size (fun _=>True) v0_ r∧Below w.heap.size w w':=by
 have q_:∀ (w:World) (a:Option Addr) (n c n' c':Nat),(binOp .eql 38 (.slice a n c) (.slice none n' c')).run Try.prog w = .ok (.bool a.isNone) w:=fun w a n c n' c'=>Lib.run_eql_slice_nil w _ _ a n c n' c' Try.underlying38
 by_cases hA0_:A0=none
 ·subst hA0_
  obtain rfl:l0=[]:=by
   cases l0 with
   | nil=>rfl
   | cons a_ t_=>obtain ⟨ad_,c_,e_,_⟩:=Kd.C_get hr0 a_ 0 (by decide) (by simp);cases e_
  obtain rfl:([]:List (S91))=r:=by simpa [slices_Clone_impl_Sib_impl_Sib.f] using h
  clear h hr0
  go_enter Try.func107,Try.ntmps107
  go_wp2
  go_ret
  exact ⟨.slice none 0 0,rfl,Kd.R_nil _ _ _ _ _,Below.refl _ _⟩
 obtain ⟨A0,rfl⟩:=Option.ne_none_iff_exists'.1 hA0_
 clear hA0_
 have HR0:=Aside0.mk hr0
 have HC0:=Aside0.mk hc0
 clear hr0 hc0
 have HB:=Aside0.mk (Below.refl w.heap.size w)
 have H:((some (([]:List (S91)):List (S91))).bind fun y233=>(if y233.length+l0.length<3518437208883 then (some (y233 ++ l0)) else (none)))=some r:=h
 clear h
 obtain ⟨y233,hy233⟩:∃ y_:List (S91),y_=(([]:List (S91))):=⟨_,rfl⟩
 replace H:(if y233.length+l0.length<3518437208883 then (some (y233 ++ l0)) else (none))=some r:=by first | (rw [hy233];with_reducible exact H) | (have H2_:=(Option.bind_some _ _).symm.trans H;rw [hy233];with_reducible exact H2_) | (have H2_:=(Option.bind_some _ _).symm.trans H;with_reducible exact H2_) | with_reducible exact H | (rw [hy233];exact H) | exact H
 have Ny233:=Aside0.mk hy233
 clear hy233
 by_cases c2:y233.length+l0.length<3518437208883
 ·rw [if_pos c2] at H
  have LMc2:=Aside0.mk c2
  clear c2
  obtain ⟨y236,hy236⟩:∃ y_:List (S91),y_=(y233 ++ l0):=⟨_,rfl⟩
  replace H:(some y236)=some r:=by first | (rw [hy236];with_reducible exact H) | (have H2_:=(Option.bind_some _ _).symm.trans H;rw [hy236];with_reducible exact H2_) | (have H2_:=(Option.bind_some _ _).symm.trans H;with_reducible exact H2_) | with_reducible exact H | (rw [hy236];exact H) | exact H
  have Ny236:=Aside0.mk hy236
  clear hy236
  obtain rfl:=Option.some.inj H
  go_enter Try.func107,Try.ntmps107
  go_wp2_with (first | ((with_reducible refine gd_ 5 ?_);refine Kd.R_lit k91 _ 91 ?hg (N:=5) ?hd (xs:=([]:List (S91))) (inner:=[]) (ok:=fun _=>True) (okp:=fun _=>True) ?hr ?hp (fun _ hk=>hk) trivial (Below.refl _ _) (Nat.le_refl _) (by simp) ?_;(case hd=>rfl);(case hg=>rfl);(case hr=>first | (go_simp;done) | (go_simp;rfl));(case hp=>exact (Reps.none _ _));intro v234 w3 ho4 hb hg_ hnew_;clear hg_ hnew_;(first | rw [← Ny233.out] at ho4 | (simp only [Int.reduceToNat] at ho4;rw [← Ny233.out] at ho4));refine as2_ (Kd.R_lower ho4 (below_size (z5_ HB.out))) (below_step (z5_ HB.out) hb) ?_;clear HB;intro HO235 HB;clear hb ho4) | ((with_reducible refine gate_builtin (b:=.append) (xs:=#[.tmp 5,.tmp 6]) rfl ?_);at_builtin;refine Kd.R_append_rows k91 (w0:=w) w.heap.size rfl (.tmp 5) (.tmp 6) 38 91 (.agg #[(.int .i64 0),(.int .i64 0),(.bool false),(.string ⟨#[]⟩)]) 40 rfl Try.underlying38 info91 rfl (by decide) (by omega) v234 y233 l0 _ _ _ (fun _=>True) (fun _=>False) rfl rfl ?aO ?aR (fun _ _ h=>h) (fun _ h=>h.elim) ?aF ?aB ?aS ?aL ?_;(case aR=>repeat (first | exact (Kd.C_below HR0.out HB.out) | (with_reducible refine Kd.C_alloc ?_ _) | (with_reducible refine Kd.C_drewN ?_ _) | (with_reducible refine Kd.C_drew ?_)));(case aB=>exact (z5_ HB.out));(case aF=>exact (fun _ _=>trivial));(case aO=>exact (z0_ HO235.out));(case aS=>exact (below_size (z5_ HB.out)));(case aL=>have:=LMc2.out;omega);intro v237 w5 ho hb hg hat;rw [← Ny236.out] at ho;refine as2_ (hb) (ho) ?_;clear HB HO235;intro HB HO238;clear ho hb hg hat))
  go_ret
  exact ⟨_,z8_,z0_ HO238.out,z5_ HB.out⟩
 ·rw [if_neg c2] at H
  exact absurd H (by simp)


/-! ### impl_Set_own: function 85 -/
def impl_Set_own.f (l0_0:List (S56)) (l0_1:List (S91)):Option ((List (S56)) × (List (S91))):=(slices_Clone_impl_Mark_impl_Mark.f l0_0).bind fun t241=>((slices_Clone_impl_Sib_impl_Sib.f l0_1).bind fun t244=>(some (t241,t244)))
def impl_Set_own.T1:Bool × List (List Nat × List Nat):=(true,[([],[]),([0],[0]),([1],[1]),([],[]),([3],[3]),([4,2],[4]),([2,5],[2,5]),([6,5,0,1,2,3,4,5,6],[6])])
def impl_Set_own.B1:List Nat:=[0,1,3,0,8,31,63,127]
theorem impl_Set_own.tab1:rtab .any (opsOf Try.f85 1)=impl_Set_own.T1:=by kernel_rfl
theorem impl_Set_own.bits1:waitsOk impl_Set_own.T1.2 impl_Set_own.B1=true:=by kernel_rfl
set_option maxHeartbeats 8000000 in
set_option maxRecDepth 100000 in
theorem impl_Set_own.calls (A0_0:Option Addr) (c0_0:Nat) (l0_0:List (S56)) (A0_1:Option Addr) (c0_1:Nat) (l0_1:List (S91)) (r1:List (S56)) (r2:List (S91)) (w:World) (hr0_0:Kd.C k56 w A0_0 l0_0.length l0_0) (hc0_0:l0_0.length≤c0_0) (hr0_1:Kd.C k91 w A0_1 l0_1.length l0_1) (hc0_1:l0_1.length≤c0_1) (h:impl_Set_own.f l0_0 l0_1=some (r1,r2)) :
  Calls Try.prog 85 #[.agg #[.slice A0_0 l0_0.length c0_0,.slice A0_1 l0_1.length c0_1]] w fun e w'=>∃ v0_ v1_:Value,e = .returned (.agg #[v0_,v1_])∧Kd.R k56 56 w' w.heap.size (fun _=>True) v0_ r1∧Kd.R k91 91 w' w.heap.size (fun _=>True) v1_ r2∧Below w.heap.size w w':=by
 have hu40:=Try.underlying40
 have HR0_0:=Aside0.mk hr0_0
 have HC0_0:=Aside0.mk hc0_0
 clear hr0_0 hc0_0
 have HR0_1:=Aside0.mk hr0_1
 have HC0_1:=Aside0.mk hc0_1
 clear hr0_1 hc0_1
 have HB:=Aside0.mk (Below.refl w.heap.size w)
 have H:((slices_Clone_impl_Mark_impl_Mark.f l0_0).bind fun t241=>((slices_Clone_impl_Sib_impl_Sib.f l0_1).bind fun t244=>(some (t241,t244))))=some (r1,r2):=h
 clear h
 replace H:=Option.bind_eq_some_iff.mp H
 obtain ⟨t241,A20,H⟩:=H
 replace H:((slices_Clone_impl_Sib_impl_Sib.f l0_1).bind fun t244=>(some (t241,t244)))=some (r1,r2):=H
 have A2:=Aside0.mk A20
 clear A20
 replace H:=Option.bind_eq_some_iff.mp H
 obtain ⟨t244,A30,H⟩:=H
 replace H:(some (t241,t244))=some (r1,r2):=H
 have A3:=Aside0.mk A30
 clear A30
 simp only [Option.some.injEq,Prod.mk.injEq] at H
 obtain ⟨rfl,rfl⟩:=H
 go_enter Try.func85,Try.ntmps85
 try go_wp2_with (first | ((with_reducible refine gd_ 1 ?_);refine be_ 1 #[.slice A0_0 l0_0.length c0_0,.slice A0_1 l0_1.length c0_1] 40 ?_;intro gb239 hg w4 hbox hb;refine as4_ (below_step (z5_ HB.out) hb) (hbox) ((z7_ HB.out:w.heap.size≤gb239)) ((z7_ HB.out:w.heap.size≤gb239)) ?_;clear HB;intro HB BK239 GW239 GE239;clear hb hbox hg) | ((with_reducible refine gd_ 2 ?_);refine be_ 2 #[.slice none 0 0,.slice none 0 0] 40 ?_;intro gb240 hg w5 hbox hb;refine as7_ (blkB_ BK239.out hb) (below_step (z4_ HB.out GE239.out) hb) (hbox) ((z11_ HB.out GE239.out:w.heap.size≤gb240)) ((z11_ HB.out GE239.out:w.heap.size≤gb240)) (neL_ BK239.out hg) (neG_ BK239.out hg) ?_;clear BK239 HB;intro BK239 HB BK240 GW240 GE240 NB239_240 NB240_239;clear hb hbox hg))
 refine as3_ (blk_drew BK239.out) (blk_drew BK240.out) (below_drew1 HB.out) ?_
 clear BK239 BK240 HB
 intro BK239 BK240 HB
 refine start_ (n:=8) (S:=fun w'=>w'.cell? ⟨gb239,0,none⟩=some (.slice A0_0 l0_0.length c0_0)∧w'.cell? ⟨gb239,1,none⟩=some (.slice A0_1 l0_1.length c0_1)) (ds:=[]) #[O,O,O,O,O,O,O,O] (by kernel_rfl) rfl rfl (cc2_ BK239.out) (fun hHeld=>?_);refine with_tabW impl_Set_own.tab1 impl_Set_own.bits1 (fun HT_ HW_=>?_)
 generalize w5.drew=w6 at BK239 BK240 HB hHeld ⊢
 refine pu_ 0 3 #[I,O,O,O,O,O,O,O] HT_.out ?_
 refine pu_ 3 6 #[I,O,O,I,O,O,O,O] HT_.out ?_
 refine tk2_ 1 4 #[I,I,O,I,O,O,O,O] HT_.out HW_.out hHeld ?_
 refine tk2_ 4 7 #[I,I,O,I,I,O,O,O] HT_.out HW_.out hHeld ?_
 refine o1_ 2 5 #[I,I,I,I,I,O,O,O] HT_.out (fun K hK=>?_)
 refine gs_ Try.func106 #[.slice A0_0 l0_0.length c0_0] ?_
 with_reducible refine (slices_Clone_impl_Mark_impl_Mark.calls _ _ l0_0 t241 _ ?s1 ?s2 A2.out).mono ?_
 (case s1=>repeat (first | exact (Kd.C_below HR0_0.out HB.out) | (with_reducible refine Kd.C_alloc ?_ _) | (with_reducible refine Kd.C_drewN ?_ _) | (with_reducible refine Kd.C_drew ?_)))
 (case s2=>exact HC0_0.out)
 rintro e w7 ⟨v242,rfl,ho0,hb⟩
 refine ⟨_,rfl,?_⟩
 refine as4_ (Kd.R_lower ho0 (below_size (z6_ HB.out GE239.out GE240.out))) (blkB_ BK239.out hb) (blkB_ BK240.out hb) (below_step (z6_ HB.out GE239.out GE240.out) hb) ?_
 clear BK239 BK240 HB
 intro HO243 BK239 BK240 HB
 (try clear hb)
 (try clear ho0)
 refine hK.out _ _ (cc2_ BK239.out) (fun hHeld=>?_)
 clear hK K
 refine nm_ 5 ?_
 refine o1_ 5 8 #[I,I,I,I,I,I,O,O] HT_.out (fun K hK=>?_)
 refine gs_ Try.func107 #[.slice A0_1 l0_1.length c0_1] ?_
 with_reducible refine (slices_Clone_impl_Sib_impl_Sib.calls _ _ l0_1 t244 _ ?s1 ?s2 A3.out).mono ?_
 (case s1=>repeat (first | exact (Kd.C_below HR0_1.out HB.out) | (with_reducible refine Kd.C_alloc ?_ _) | (with_reducible refine Kd.C_drewN ?_ _) | (with_reducible refine Kd.C_drew ?_)))
 (case s2=>exact HC0_1.out)
 rintro e w8 ⟨v245,rfl,ho0,hb⟩
 refine ⟨_,rfl,?_⟩
 refine as5_ (Kd.R_below (z0_ HO243.out) hb) (Kd.R_lower ho0 (below_size (z6_ HB.out GE239.out GE240.out))) (blkB_ BK239.out hb) (blkB_ BK240.out hb) (below_step (z6_ HB.out GE239.out GE240.out) hb) ?_
 clear HO243 BK239 BK240 HB
 intro HO243 HO246 BK239 BK240 HB
 (try clear hb)
 (try clear ho0)
 obtain ⟨Ao9,co9,eo9⟩:=Kd.R_slice HO246.out
 (first | subst eo9 | (injection eo9 with f1_ f2_ f3_;have f4_:=f1_.symm;have f5_:=f3_.symm;clear f1_ f2_ f3_;subst f4_;subst f5_))
 obtain ⟨Ao10,co10,eo10⟩:=Kd.R_slice HO243.out
 (first | subst eo10 | (injection eo10 with f1_ f2_ f3_;have f4_:=f1_.symm;have f5_:=f3_.symm;clear f1_ f2_ f3_;subst f4_;subst f5_))
 refine hK.out _ _ (cc2_ BK239.out) (fun hHeld=>?_)
 clear hK K
 refine nm_ 8 ?_
 refine pu_ 6 9 #[I,I,I,I,I,I,I,O] HT_.out ?_
 refine one_ (i:=7) (N:=none) #[I,I,I,I,I,I,I,I] rfl rfl (one_of HT_.out (by kernel_rfl)) (by decide) (fun K hK=>?_)
 have hs11:w8.cell? ⟨gb240,0,none⟩=some (.slice none 0 0):=(blk_cell BK240.out 0).trans rfl
 have hfs11:=blk_frozen BK240.out 0
 have hns11_0:=NB239_240.out
 have hms11_0:=NB240_239.out
 have hs12:w8.cell? ⟨gb240,1,none⟩=some (.slice none 0 0):=(blk_cell BK240.out 1).trans rfl
 have hfs12:=blk_frozen BK240.out 1
 have hns12_0:=NB239_240.out
 have hms12_0:=NB240_239.out
 refine skip_ (w1:=?_) (by rfl) rfl ?_ ?_
 rotate_left
 ·go_simp
  rfl
 refine hK.out _ _ ⟨((cell_far (p:=⟨gb240,_,none⟩) NB239_240.out _).trans (((cell_far (p:=⟨gb240,_,none⟩) NB239_240.out _).trans (hHeld.1)))),((cell_far (p:=⟨gb240,_,none⟩) NB239_240.out _).trans (((cell_far (p:=⟨gb240,_,none⟩) NB239_240.out _).trans (hHeld.2))))⟩ (fun hHeld=>?_)
 clear hK K
 refine done_ (done_of HT_.out (by kernel_rfl)) ?_
 try go_wp2
 refine bodyPost_ret (results_cell_row rfl _ _ gb240 40 #[.slice Ao10 t241.length co10,.slice Ao9 t244.length co9] (0,0) _ rfl (z35_ BK240.out) Try.underlying40 rfl (by kernel_rfl)) rfl ?_
 exact ⟨_,_,z8_,z39_ HO243.out BK240.out,z39_ HO246.out BK240.out,z6_ HB.out GE239.out GE240.out⟩


/-! ### impl_turned: function 54 -/
def impl_turned.f (a0_0:Int) (a0_1:Int) (a0_2:Int) (a0_3:Int) (a0_4:ByteArray) (a0_5:Int) (l0_6:List (S56)) (l0_7:List (S91)) (a1:Int) (l2_0:List (S56)) (l2_1:List (S91)):Option (Int × Int × Int × Int × ByteArray × Int × (List (S56)) × (List (S91))):=(impl_Set_own.f l2_0 l2_1).bind fun bt250=>(some (a1,a0_2,a0_1,a0_3,a0_4,a0_5,bt250.1,bt250.2))
def impl_turned.T1:Bool × List (List Nat × List Nat):=(true,[([],[]),([],[]),([1],[1]),([],[]),([3],[3]),([],[]),([5],[5]),([0,1,2,3,4],[]),([7,0,6,0,1,2,3,4],[0,7]),([0,1,2,3,4,7,8],[]),([9,2,8,0,1,2,3,4,7,8],[2,9]),([0,1,2,3,4,7,8,9,10],[]),([11,4,10,0,1,2,3,4,7,8,9,10],[4,11]),([0,1,2,3,4,5,6,7,8,9,10,11,12],[]),([13,6,12,0,1,2,3,4,5,6,7,8,9,10,11,12],[6,13])])
def impl_turned.B1:List Nat:=[0,0,2,0,8,0,32,31,255,511,1023,2047,4095,8191,16383]
theorem impl_turned.tab1:rtab .any (opsOf Try.f54 1)=impl_turned.T1:=by kernel_rfl
theorem impl_turned.bits1:waitsOk impl_turned.T1.2 impl_turned.B1=true:=by kernel_rfl
set_option maxHeartbeats 8000000 in
set_option maxRecDepth 100000 in
theorem impl_turned.calls (a0_0:Int) (a0_1:Int) (a0_2:Int) (a0_3:Int) (a0_4:ByteArray) (a0_5:Int) (A0_6:Option Addr) (c0_6:Nat) (l0_6:List (S56)) (A0_7:Option Addr) (c0_7:Nat) (l0_7:List (S91)) (a1:Int) (A2_0:Option Addr) (c2_0:Nat) (l2_0:List (S56)) (A2_1:Option Addr) (c2_1:Nat) (l2_1:List (S91)) (r1:Int) (r2:Int) (r3:Int) (r4:Int) (r5:ByteArray) (r6:Int) (r7:List (S56)) (r8:List (S91)) (w:World) (hr0_6:Kd.C k56 w A0_6 l0_6.length l0_6) (hc0_6:l0_6.length≤c0_6) (hr0_7:Kd.C k91 w A0_7 l0_7.length l0_7) (hc0_7:l0_7.length≤c0_7) (hr2_0:Kd.C k56 w A2_0 l2_0.length l2_0) (hc2_0:l2_0.length≤c2_0) (hr2_1:Kd.C k91 w A2_1 l2_1.length l2_1) (hc2_1:l2_1.length≤c2_1) (h:impl_turned.f a0_0 a0_1 a0_2 a0_3 a0_4 a0_5 l0_6 l0_7 a1 l2_0 l2_1=some (r1,r2,r3,r4,r5,r6,r7,r8)) :
  Calls Try.prog 54 #[.agg #[.int .i64 a0_0,.int .i64 a0_1,.int .i64 a0_2,.int .i64 a0_3,.string a0_4,.int .i64 a0_5,.slice A0_6 l0_6.length c0_6,.slice A0_7 l0_7.length c0_7],.int .i64 a1,.agg #[.slice A2_0 l2_0.length c2_0,.slice A2_1 l2_1.length c2_1]] w fun e w'=>∃ v6_ v7_:Value,e = .returned (.agg #[.int .i64 r1,.int .i64 r2,.int .i64 r3,.int .i64 r4,.string r5,.int .i64 r6,v6_,v7_])∧Kd.R k56 56 w' w.heap.size (fun _=>True) v6_ r7∧Kd.R k91 91 w' w.heap.size (fun _=>True) v7_ r8∧Below w.heap.size w w':=by
 have hu42:=Try.underlying42
 have hu40:=Try.underlying40
 have HR0_6:=Aside0.mk hr0_6
 have HC0_6:=Aside0.mk hc0_6
 clear hr0_6 hc0_6
 have HR0_7:=Aside0.mk hr0_7
 have HC0_7:=Aside0.mk hc0_7
 clear hr0_7 hc0_7
 have HR2_0:=Aside0.mk hr2_0
 have HC2_0:=Aside0.mk hc2_0
 clear hr2_0 hc2_0
 have HR2_1:=Aside0.mk hr2_1
 have HC2_1:=Aside0.mk hc2_1
 clear hr2_1 hc2_1
 have HB:=Aside0.mk (Below.refl w.heap.size w)
 have H:((impl_Set_own.f l2_0 l2_1).bind fun bt250=>(some (a1,a0_2,a0_1,a0_3,a0_4,a0_5,bt250.1,bt250.2)))=some (r1,r2,r3,r4,r5,r6,r7,r8):=h
 clear h
 replace H:=Option.bind_eq_some_iff.mp H
 obtain ⟨⟨t250,t253⟩,A40,H⟩:=H
 replace H:(some (a1,a0_2,a0_1,a0_3,a0_4,a0_5,t250,t253))=some (r1,r2,r3,r4,r5,r6,r7,r8):=H
 have A4:=Aside0.mk A40
 clear A40
 simp only [Option.some.injEq,Prod.mk.injEq] at H
 obtain ⟨rfl,rfl,rfl,rfl,rfl,rfl,rfl,rfl⟩:=H
 go_enter Try.func54,Try.ntmps54
 try go_wp2_with (first | ((with_reducible refine gd_ 3 ?_);refine be_ 3 #[.int .i64 a0_0,.int .i64 a0_1,.int .i64 a0_2,.int .i64 a0_3,.string a0_4,.int .i64 a0_5,.slice A0_6 l0_6.length c0_6,.slice A0_7 l0_7.length c0_7] 42 ?_;intro gb247 hg w5 hbox hb;refine as4_ (below_step (z5_ HB.out) hb) (hbox) ((z7_ HB.out:w.heap.size≤gb247)) ((z7_ HB.out:w.heap.size≤gb247)) ?_;clear HB;intro HB BK247 GW247 GE247;clear hb hbox hg) | ((with_reducible refine gd_ 5 ?_);refine be_ 5 #[.slice A2_0 l2_0.length c2_0,.slice A2_1 l2_1.length c2_1] 40 ?_;intro gb248 hg w6 hbox hb;refine as7_ (blkB_ BK247.out hb) (below_step (z4_ HB.out GE247.out) hb) (hbox) ((z11_ HB.out GE247.out:w.heap.size≤gb248)) ((z11_ HB.out GE247.out:w.heap.size≤gb248)) (neL_ BK247.out hg) (neG_ BK247.out hg) ?_;clear BK247 HB;intro BK247 HB BK248 GW248 GE248 NB247_248 NB248_247;clear hb hbox hg) | ((with_reducible refine gd_ 6 ?_);refine be_ 6 #[.int .i64 0,.int .i64 0,.int .i64 0,.int .i64 0,.string (⟨#[]⟩:ByteArray),.int .i64 0,.slice none 0 0,.slice none 0 0] 42 ?_;intro gb249 hg w7 hbox hb;refine as10_ (blkB_ BK247.out hb) (blkB_ BK248.out hb) (below_step (z6_ HB.out GE247.out GE248.out) hb) (hbox) ((z18_ HB.out GE247.out GE248.out:w.heap.size≤gb249)) ((z18_ HB.out GE247.out GE248.out:w.heap.size≤gb249)) (neL_ BK247.out hg) (neG_ BK247.out hg) (neL_ BK248.out hg) (neG_ BK248.out hg) ?_;clear BK247 BK248 HB;intro BK247 BK248 HB BK249 GW249 GE249 NB247_249 NB249_247 NB248_249 NB249_248;clear hb hbox hg))
 refine as4_ (blk_drew BK247.out) (blk_drew BK248.out) (blk_drew BK249.out) (below_drew1 HB.out) ?_
 clear BK247 BK248 BK249 HB
 intro BK247 BK248 BK249 HB
 refine start_ (n:=15) (S:=fun w'=>w'.cell? ⟨gb247,0,none⟩=some (.int .i64 a0_0)∧w'.cell? ⟨gb247,1,none⟩=some (.int .i64 a0_1)∧w'.cell? ⟨gb247,2,none⟩=some (.int .i64 a0_2)∧w'.cell? ⟨gb247,3,none⟩=some (.int .i64 a0_3)∧w'.cell? ⟨gb247,4,none⟩=some (.string a0_4)∧w'.cell? ⟨gb247,5,none⟩=some (.int .i64 a0_5)∧w'.cell? ⟨gb247,6,none⟩=some (.slice A0_6 l0_6.length c0_6)∧w'.cell? ⟨gb247,7,none⟩=some (.slice A0_7 l0_7.length c0_7)∧w'.cell? ⟨gb248,0,none⟩=some (.slice A2_0 l2_0.length c2_0)∧w'.cell? ⟨gb248,1,none⟩=some (.slice A2_1 l2_1.length c2_1)) (ds:=[8,10,12,14]) #[O,O,O,O,O,O,O,O,O,O,O,O,O,O,O] (by kernel_rfl) rfl rfl (cj8_ BK247.out (cc2_ BK248.out)) (fun hHeld=>?_);refine with_tabW impl_turned.tab1 impl_turned.bits1 (fun HT_ HW_=>?_)
 generalize w7.drew=w8 at BK247 BK248 BK249 HB hHeld ⊢
 refine pu_ 0 7 #[I,O,O,O,O,O,O,O,O,O,O,O,O,O,O] HT_.out ?_
 refine pu_ 1 8 #[I,I,O,O,O,O,O,O,O,O,O,O,O,O,O] HT_.out ?_
 refine pu_ 3 10 #[I,I,O,I,O,O,O,O,O,O,O,O,O,O,O] HT_.out ?_
 refine tk10_ 2 9 #[I,I,I,I,O,O,O,O,O,O,O,O,O,O,O] HT_.out HW_.out hHeld ?_
 refine tk10_ 4 11 #[I,I,I,I,I,O,O,O,O,O,O,O,O,O,O] HT_.out HW_.out hHeld ?_
 refine pu_ 7 14 #[I,I,I,I,I,O,O,I,O,O,O,O,O,O,O] HT_.out ?_
 refine tk10_ 5 12 #[I,I,I,I,I,I,O,I,O,O,O,O,O,O,O] HT_.out HW_.out hHeld ?_
 refine o1_ 6 13 #[I,I,I,I,I,I,I,I,O,O,O,O,O,O,O] HT_.out (fun K hK=>?_)
 refine gs_ Try.func85 #[.agg #[.slice A2_0 l2_0.length c2_0,.slice A2_1 l2_1.length c2_1]] ?_
 with_reducible refine (impl_Set_own.calls _ _ l2_0 _ _ l2_1 t250 t253 _ ?s1 ?s2 ?s3 ?s4 A4.out).mono ?_
 (case s1=>repeat (first | exact (Kd.C_below HR2_0.out HB.out) | (with_reducible refine Kd.C_alloc ?_ _) | (with_reducible refine Kd.C_drewN ?_ _) | (with_reducible refine Kd.C_drew ?_)))
 (case s2=>exact HC2_0.out)
 (case s3=>repeat (first | exact (Kd.C_below HR2_1.out HB.out) | (with_reducible refine Kd.C_alloc ?_ _) | (with_reducible refine Kd.C_drewN ?_ _) | (with_reducible refine Kd.C_drew ?_)))
 (case s4=>exact HC2_1.out)
 rintro e w9 ⟨v251,v254,rfl,ho0,ho1,hb⟩
 refine ⟨_,rfl,?_⟩
 refine as6_ (Kd.R_lower ho0 (below_size (z9_ HB.out GE247.out GE248.out GE249.out))) (Kd.R_lower ho1 (below_size (z9_ HB.out GE247.out GE248.out GE249.out))) (blkB_ BK247.out hb) (blkB_ BK248.out hb) (blkB_ BK249.out hb) (below_step (z9_ HB.out GE247.out GE248.out GE249.out) hb) ?_
 clear BK247 BK248 BK249 HB
 intro HO252 HO255 BK247 BK248 BK249 HB
 (try clear hb)
 (try clear ho0)
 (try clear ho1)
 obtain ⟨Ao13,co13,eo13⟩:=Kd.R_slice HO252.out
 (first | subst eo13 | (injection eo13 with f1_ f2_ f3_;have f4_:=f1_.symm;have f5_:=f3_.symm;clear f1_ f2_ f3_;subst f4_;subst f5_))
 obtain ⟨Ao15,co15,eo15⟩:=Kd.R_slice HO255.out
 (first | subst eo15 | (injection eo15 with f1_ f2_ f3_;have f4_:=f1_.symm;have f5_:=f3_.symm;clear f1_ f2_ f3_;subst f4_;subst f5_))
 refine hK.out _ _ (cj8_ BK247.out (cc2_ BK248.out)) (fun hHeld=>?_)
 clear hK K
 refine nm_ 13 ?_
 refine last_ (i:=8) (N:=none) #[I,I,I,I,I,I,I,I,I,O,O,O,O,O,O] rfl rfl (one_of HT_.out (by kernel_rfl)) (by decide) (fun K hK=>?_)
 have hs10:w9.cell? ⟨gb247,0,none⟩=some (.int .i64 a0_0):=(blk_cell BK247.out 0).trans rfl
 have hfs10:=blk_frozen BK247.out 0
 have hns10_1:=NB248_247.out
 have hns10_2:=NB249_247.out
 have hms10_1:=NB247_248.out
 have hms10_2:=NB247_249.out
 refine skip_ (w1:=?_) (by rfl) rfl ?_ ?_
 rotate_left
 ·go_simp
  rfl
 refine hK.out _ _ ?_
 clear hK K
 refine pu_ 9 15 #[I,I,I,I,I,I,I,I,I,I,O,O,O,O,O] HT_.out ?_
 refine last_ (i:=10) (N:=none) #[I,I,I,I,I,I,I,I,I,I,I,O,O,O,O] rfl rfl (one_of HT_.out (by kernel_rfl)) (by decide) (fun K hK=>?_)
 have hs11:w9.cell? ⟨gb247,1,none⟩=some (.int .i64 a0_1):=(blk_cell BK247.out 1).trans rfl
 have hfs11:=blk_frozen BK247.out 1
 have hns11_1:=NB248_247.out
 have hns11_2:=NB249_247.out
 have hms11_1:=NB247_248.out
 have hms11_2:=NB247_249.out
 refine skip_ (w1:=?_) (by rfl) rfl ?_ ?_
 rotate_left
 ·go_simp
  rfl
 refine hK.out _ _ ?_
 clear hK K
 refine pu_ 11 16 #[I,I,I,I,I,I,I,I,I,I,I,I,O,O,O] HT_.out ?_
 refine last_ (i:=12) (N:=none) #[I,I,I,I,I,I,I,I,I,I,I,I,I,O,O] rfl rfl (one_of HT_.out (by kernel_rfl)) (by decide) (fun K hK=>?_)
 have hs12:w9.cell? ⟨gb247,2,none⟩=some (.int .i64 a0_2):=(blk_cell BK247.out 2).trans rfl
 have hfs12:=blk_frozen BK247.out 2
 have hns12_1:=NB248_247.out
 have hns12_2:=NB249_247.out
 have hms12_1:=NB247_248.out
 have hms12_2:=NB247_249.out
 refine skip_ (w1:=?_) (by rfl) rfl ?_ ?_
 rotate_left
 ·go_simp
  rfl
 refine hK.out _ _ ?_
 clear hK K
 refine pu_ 13 17 #[I,I,I,I,I,I,I,I,I,I,I,I,I,I,O] HT_.out ?_
 refine last_ (i:=14) (N:=none) #[I,I,I,I,I,I,I,I,I,I,I,I,I,I,I] rfl rfl (one_of HT_.out (by kernel_rfl)) (by decide) (fun K hK=>?_)
 have hs14:w9.cell? ⟨gb247,6,none⟩=some (.slice A0_6 l0_6.length c0_6):=(blk_cell BK247.out 6).trans rfl
 have hfs14:=blk_frozen BK247.out 6
 have hns14_1:=NB248_247.out
 have hns14_2:=NB249_247.out
 have hms14_1:=NB247_248.out
 have hms14_2:=NB247_249.out
 have hs16:w9.cell? ⟨gb247,7,none⟩=some (.slice A0_7 l0_7.length c0_7):=(blk_cell BK247.out 7).trans rfl
 have hfs16:=blk_frozen BK247.out 7
 have hns16_1:=NB248_247.out
 have hns16_2:=NB249_247.out
 have hms16_1:=NB247_248.out
 have hms16_2:=NB247_249.out
 refine skip_ (w1:=?_) (by rfl) rfl ?_ ?_
 rotate_left
 ·go_simp
  rfl
 refine hK.out _ _ ?_
 clear hK K
 refine done_ (done_of HT_.out (by kernel_rfl)) ?_
 have hnb17:=NB247_248.out
 have hnc17:=NB248_247.out
 have hnb18:=NB247_249.out
 have hnc18:=NB249_247.out
 have ⟨hcz19_0,hcz19_1,hcz19_2,hcz19_3,hcz19_4,hcz19_5,hcz19_6,hcz19_7,hfz19_0,hfz19_1,hfz19_2,hfz19_3,hfz19_4,hfz19_5,hfz19_6,hfz19_7⟩:=cz8_ BK247.out
 have hnb20:=NB249_248.out
 have hnc20:=NB248_249.out
 have ⟨hcz21_0,hcz21_1,hcz21_2,hcz21_3,hcz21_4,hcz21_5,hcz21_6,hcz21_7,hfz21_0,hfz21_1,hfz21_2,hfz21_3,hfz21_4,hfz21_5,hfz21_6,hfz21_7⟩:=cz8_ BK249.out
 try go_wp2
 refine bodyPost_ret (results_cell_row rfl _ _ gb249 42 #[.int .i64 a1,.int .i64 a0_2,.int .i64 a0_1,.int .i64 a0_3,.string a0_4,.int .i64 a0_5,.slice Ao13 t250.length co13,.slice Ao15 t253.length co15] (0,0) _ rfl (by (with_reducible repeat (first | refine blk_drewN ?_ _ | refine blk_drew ?_ | refine blk_alloc ?_ _));apply put8_;(with_reducible repeat (first | refine blk_drewN ?_ _ | refine blk_drew ?_ | refine blk_alloc ?_ _));refine blk_far ?_ NB249_247.out _;(with_reducible repeat (first | refine blk_drewN ?_ _ | refine blk_drew ?_ | refine blk_alloc ?_ _));refine blk_far ?_ NB249_247.out _;(with_reducible repeat (first | refine blk_drewN ?_ _ | refine blk_drew ?_ | refine blk_alloc ?_ _));refine blk_far ?_ NB249_247.out _;(with_reducible repeat (first | refine blk_drewN ?_ _ | refine blk_drew ?_ | refine blk_alloc ?_ _));refine blk_far ?_ NB249_247.out _;(with_reducible repeat (first | refine blk_drewN ?_ _ | refine blk_drew ?_ | refine blk_alloc ?_ _));refine blk_far ?_ NB249_247.out _;(with_reducible repeat (first | refine blk_drewN ?_ _ | refine blk_drew ?_ | refine blk_alloc ?_ _));exact BK249.out) Try.underlying42 rfl (by kernel_rfl)) rfl ?_
 exact ⟨_,_,z8_,by (with_reducible repeat (first | apply Kd.R_alloc | apply Kd.R_drewN | apply Kd.R_drew));exact Kd.R_mono (rf8_ (Kd.R_far (p:=⟨gb247,7,none⟩) (Kd.R_far (p:=⟨gb247,6,none⟩) (Kd.R_far (p:=⟨gb247,2,none⟩) (Kd.R_far (p:=⟨gb247,1,none⟩) (Kd.R_far (p:=⟨gb247,0,none⟩) (Kd.R_types (Kd.R_types HO252.out BK247.out (by decide)) BK249.out (by decide)) (fun _ hk=>hk.1.2) (.int .i64 a1)) (fun _ hk=>hk.1.2) (.int .i64 a0_2)) (fun _ hk=>hk.1.2) (.int .i64 a0_1)) (fun _ hk=>hk.1.2) (.slice Ao13 t250.length co13)) (fun _ hk=>hk.1.2) (.slice Ao15 t253.length co15)) (fun _ hk=>hk.2)) (fun _ hk=>trivial),by (with_reducible repeat (first | apply Kd.R_alloc | apply Kd.R_drewN | apply Kd.R_drew));exact Kd.R_mono (rf8_ (Kd.R_far (p:=⟨gb247,7,none⟩) (Kd.R_far (p:=⟨gb247,6,none⟩) (Kd.R_far (p:=⟨gb247,2,none⟩) (Kd.R_far (p:=⟨gb247,1,none⟩) (Kd.R_far (p:=⟨gb247,0,none⟩) (Kd.R_types (Kd.R_types HO255.out BK247.out (by decide)) BK249.out (by decide)) (fun _ hk=>hk.1.2) (.int .i64 a1)) (fun _ hk=>hk.1.2) (.int .i64 a0_2)) (fun _ hk=>hk.1.2) (.int .i64 a0_1)) (fun _ hk=>hk.1.2) (.slice Ao13 t250.length co13)) (fun _ hk=>hk.1.2) (.slice Ao15 t253.length co15)) (fun _ hk=>hk.2)) (fun _ hk=>trivial),z9_ HB.out GE247.out GE248.out GE249.out⟩


/-! ### impl_seenOf: function 94 -/
def impl_seenOf.l0:Nat→Int→List (S56)→Int→Int→Option (Int)
 | 0,_,_,_,_=>none
 | k+1,x1,x7,x8,x9=>if x9<x8 then (if 0≤x9 then (if x9<(x7.length:Int) then (if ((rd_T56 x7 x9).f0)=x1 then (some ((rd_T56 x7 x9).f1)) else (impl_seenOf.l0 k x1 x7 x8 (wrap64 (x9+1)))) else (none)) else (none)) else (some 0)
def impl_seenOf.f (k:Nat) (l0:List (S56)) (a1:Int):Option (Int):=impl_seenOf.l0 k a1 l0 (l0.length:Int) 0
theorem impl_seenOf.mono_l:∀ k,(∀ y0 y1 y2 y3,LeO (impl_seenOf.l0 k y0 y1 y2 y3) (impl_seenOf.l0 (k+1) y0 y1 y2 y3))
 | 0=>fun _ _ _ _ r h=>by simp [impl_seenOf.l0] at h
 | k+1=>by
  have ih0:=impl_seenOf.mono_l k
  ·intro y0 y1 y2 y3
   unfold impl_seenOf.l0
   repeat' first
   | (with_reducible exact ih0 _ _ _ _)
   | (with_reducible exact LeO.refl _)
   | (with_reducible exact LeO.none _)
   | (with_reducible refine LeO.ite ?_ ?_)
   | (with_reducible refine LeO.bind ?_ (fun _=>?_))
   | exact ih0 _ _ _ _
   | exact LeO.none _
   | refine LeO.ite ?_ ?_
   | refine LeO.bind ?_ (fun _=>?_)
theorem impl_seenOf.mono:∀ a0 a1 k,LeO (impl_seenOf.f k a0 a1) (impl_seenOf.f (k+1) a0 a1):=by
 intro a0 a1 k
 have ih0:=impl_seenOf.mono_l k
 unfold impl_seenOf.f
 repeat' first
   | (with_reducible exact ih0 _ _ _ _)
   | (with_reducible exact LeO.refl _)
   | (with_reducible exact LeO.none _)
   | (with_reducible refine LeO.ite ?_ ?_)
   | (with_reducible refine LeO.bind ?_ (fun _=>?_))
   | exact ih0 _ _ _ _
   | exact LeO.none _
   | refine LeO.ite ?_ ?_
   | refine LeO.bind ?_ (fun _=>?_)
set_option maxHeartbeats 8000000 in
set_option maxRecDepth 100000 in
theorem impl_seenOf.calls (k:Nat) (A0:Option Addr) (c0:Nat) (l0:List (S56)) (a1:Int) (r:Int) (w:World) (hr0:Kd.C k56 w A0 l0.length l0) (hc0:l0.length≤c0) (h:impl_seenOf.f k l0 a1=some r) :
  Calls Try.prog 94 #[.slice A0 l0.length c0,.int .i64 a1] w fun e w'=>e = .returned (.int .i64 r)∧Below w.heap.size w w':=by
 have hu56:=Try.underlying56
 have HR0:=Aside0.mk hr0
 have HC0:=Aside0.mk hc0
 clear hr0 hc0
 have HB:=Aside0.mk (Below.refl w.heap.size w)
 have H:(impl_seenOf.l0 k a1 l0 (l0.length:Int) 0)=some r:=h
 clear h
 have H':=Aside0.mk H
 clear H
 go_enter Try.func94,Try.ntmps94
 go_wp2
 go_loopg [9] k (fun kq v9 w'=>∃ (x9_1:Int),v9 = .int .i64 x9_1∧Aside0 (impl_seenOf.l0 kq a1 l0 (l0.length:Int) x9_1=some r)∧Aside0 (kq≤k)∧Aside0 (Below w.heap.size w w'))
 case atStart=>exact ⟨(0),(z2_),H',⟨Nat.le_refl _⟩,⟨z5_ HB.out⟩⟩
 case round =>
  clear H'
  try clear p2
  obtain ⟨x9_1,rfl,HA,HK1,HB⟩:=hrel
  cases gk with
  | zero=>exact absurd HA.out (by simp [impl_seenOf.l0])
  | succ k1 =>
   have H:=HA.out
   clear HA
   simp only [impl_seenOf.l0] at H
   by_cases c3:x9_1<(l0.length:Int)
   ·rw [if_pos c3] at H
    have c3b0:decide (x9_1<(l0.length:Int))=true:=decide_eq_true c3
    clear c3
    by_cases c4:0≤x9_1
    ·rw [if_pos c4] at H
     have c4b0:decide (0≤x9_1)=true:=decide_eq_true c4
     clear c4
     by_cases c5:x9_1<(l0.length:Int)
     ·rw [if_pos c5] at H
      have c5b0:decide (x9_1<(l0.length:Int))=true:=decide_eq_true c5
      clear c5
      by_cases c6:((rd_T56 l0 x9_1).f0)=a1
      ·rw [if_pos c6] at H
       have c6b0:(((rd_T56 l0 x9_1).f0) == a1)=true:=beq_iff_eq.mpr c6
       have c6b1:(((rd_T56 l0 x9_1).f0) != a1)=false:=bne_eq_false_iff_eq.mpr c6
       clear c6
       obtain rfl:=Option.some.inj H
       have p258:0≤(x9_1:Int):=of_decide_eq_true (z1_)
       have q258:x9_1<(l0.length:Int):=of_decide_eq_true (z1_)
       obtain ⟨ad258,e258,hx258_0,hx258_1⟩:=at_T56 HR0.out x9_1 p258 q258
       cases e258
       replace hx258_0:=(HB.out.cell (World.block_lt_of_cell? w _ hx258_0)).trans hx258_0
       replace hx258_1:=(HB.out.cell (World.block_lt_of_cell? w _ hx258_1)).trans hx258_1
       replace p258:=eq_true p258
       replace q258:=eq_true q258
       go_wp2_with (first | ((with_reducible refine gd_ 6 ?_);refine be_ 6 #[.int .i64 0,.int .i64 0] 56 ?_;intro gb259 hg w7 hbox hb;refine as4_ (below_step (z5_ HB.out) hb) (hbox) ((z7_ HB.out:w.heap.size≤gb259)) ((z7_ HB.out:w.heap.size≤gb259)) ?_;clear HB;intro HB BK259 GW259 GE259;clear hb hbox hg;have ⟨hcz8_0,hcz8_1,hfz8_0,hfz8_1⟩:=cz2_ BK259.out))
       go_ret
       exact ⟨z8_,z4_ HB.out GE259.out⟩
      ·rw [if_neg c6] at H
       have c6b0:(((rd_T56 l0 x9_1).f0) == a1)=false:=beq_eq_false_iff_ne.mpr c6
       have c6b1:(((rd_T56 l0 x9_1).f0) != a1)=true:=bne_iff_ne.mpr c6
       have H':=Aside0.mk H
       clear H
       have p258:0≤(x9_1:Int):=of_decide_eq_true (z1_)
       have q258:x9_1<(l0.length:Int):=of_decide_eq_true (z1_)
       obtain ⟨ad258,e258,hx258_0,hx258_1⟩:=at_T56 HR0.out x9_1 p258 q258
       cases e258
       replace hx258_0:=(HB.out.cell (World.block_lt_of_cell? w _ hx258_0)).trans hx258_0
       replace hx258_1:=(HB.out.cell (World.block_lt_of_cell? w _ hx258_1)).trans hx258_1
       replace p258:=eq_true p258
       replace q258:=eq_true q258
       go_wp2_with (first | ((with_reducible refine gd_ 6 ?_);refine be_ 6 #[.int .i64 0,.int .i64 0] 56 ?_;intro gb259 hg w9 hbox hb;refine as4_ (below_step (z5_ HB.out) hb) (hbox) ((z7_ HB.out:w.heap.size≤gb259)) ((z7_ HB.out:w.heap.size≤gb259)) ?_;clear HB;intro HB BK259 GW259 GE259;clear hb hbox hg;have ⟨hcz10_0,hcz10_1,hfz10_0,hfz10_1⟩:=cz2_ BK259.out))
       go_roundg k1
       case measure=>have:=HK1.out;omega
       case rel=>exact ⟨(wrap64 (x9_1+1)),(z2_),H',⟨by have:=HK1.out;omega⟩,⟨z4_ HB.out GE259.out⟩⟩
     ·rw [if_neg c5] at H
      exact absurd H (by simp)
    ·rw [if_neg c4] at H
     exact absurd H (by simp)
   ·rw [if_neg c3] at H
    have c3b0:decide (x9_1<(l0.length:Int))=false:=decide_eq_false c3
    clear c3
    obtain rfl:=Option.some.inj H
    go_wp2
    go_ret
    exact ⟨z8_,z5_ HB.out⟩


/-! ### impl_seenHas: function 64 -/
def impl_seenHas.f (k:Nat) (l0:List (S56)) (a1_0:Int) (a1_1:Int):Option (Bool):=(impl_seenOf.f k l0 a1_0).bind fun t261=>(some (decide (a1_1≤t261)))
theorem impl_seenHas.mono:∀ a0 a1 a2 k,LeO (impl_seenHas.f k a0 a1 a2) (impl_seenHas.f (k+1) a0 a1 a2):=by
 intro a0 a1 a2 k
 unfold impl_seenHas.f
 repeat' first
   | (with_reducible exact impl_seenOf.mono _ _ _)
   | (with_reducible exact LeO.refl _)
   | (with_reducible exact LeO.none _)
   | (with_reducible refine LeO.ite ?_ ?_)
   | (with_reducible refine LeO.bind ?_ (fun _=>?_))
   | exact impl_seenOf.mono _ _ _
   | exact LeO.none _
   | refine LeO.ite ?_ ?_
   | refine LeO.bind ?_ (fun _=>?_)
def impl_seenHas.T1:Bool × List (List Nat × List Nat):=(true,[([],[]),([0],[0]),([],[]),([],[]),([3],[3]),([2,4],[2,4]),([1,5],[1,5]),([6,5,0,1,2,3,4,5,6],[6])])
def impl_seenHas.B1:List Nat:=[0,1,0,0,8,28,63,127]
theorem impl_seenHas.tab1:rtab .any (opsOf Try.f64 1)=impl_seenHas.T1:=by kernel_rfl
theorem impl_seenHas.bits1:waitsOk impl_seenHas.T1.2 impl_seenHas.B1=true:=by kernel_rfl
set_option maxHeartbeats 8000000 in
set_option maxRecDepth 100000 in
theorem impl_seenHas.calls (k:Nat) (A0:Option Addr) (c0:Nat) (l0:List (S56)) (a1_0:Int) (a1_1:Int) (r:Bool) (w:World) (hr0:Kd.C k56 w A0 l0.length l0) (hc0:l0.length≤c0) (h:impl_seenHas.f k l0 a1_0 a1_1=some r) :
  Calls Try.prog 64 #[.slice A0 l0.length c0,.agg #[.int .i64 a1_0,.int .i64 a1_1]] w fun e w'=>e = .returned (.bool r)∧Below w.heap.size w w':=by
 have hu56:=Try.underlying56
 have HR0:=Aside0.mk hr0
 have HC0:=Aside0.mk hc0
 clear hr0 hc0
 have HB:=Aside0.mk (Below.refl w.heap.size w)
 have H:((impl_seenOf.f k l0 a1_0).bind fun t261=>(some (decide (a1_1≤t261))))=some r:=h
 clear h
 replace H:=Option.bind_eq_some_iff.mp H
 obtain ⟨t261,A30,H⟩:=H
 replace H:(some (decide (a1_1≤t261)))=some r:=H
 have A3:=Aside0.mk A30
 clear A30
 obtain rfl:=Option.some.inj H
 go_enter Try.func64,Try.ntmps64
 try go_wp2_with (first | ((with_reducible refine gd_ 3 ?_);refine be_ 3 #[.int .i64 a1_0,.int .i64 a1_1] 56 ?_;intro gb260 hg w4 hbox hb;refine as4_ (below_step (z5_ HB.out) hb) (hbox) ((z7_ HB.out:w.heap.size≤gb260)) ((z7_ HB.out:w.heap.size≤gb260)) ?_;clear HB;intro HB BK260 GW260 GE260;clear hb hbox hg))
 refine as2_ (blk_drew BK260.out) (below_drew1 HB.out) ?_
 clear BK260 HB
 intro BK260 HB
 refine start_ (n:=8) (S:=fun w'=>w'.cell? ⟨gb260,0,none⟩=some (.int .i64 a1_0)∧w'.cell? ⟨gb260,1,none⟩=some (.int .i64 a1_1)) (ds:=[]) #[O,O,O,O,O,O,O,O] (by kernel_rfl) rfl rfl (cc2_ BK260.out) (fun hHeld=>?_);refine with_tabW impl_seenHas.tab1 impl_seenHas.bits1 (fun HT_ HW_=>?_)
 generalize w4.drew=w5 at BK260 HB hHeld ⊢
 refine pu_ 0 5 #[I,O,O,O,O,O,O,O] HT_.out ?_
 refine pu_ 2 7 #[I,O,I,O,O,O,O,O] HT_.out ?_
 refine pu_ 3 8 #[I,O,I,I,O,O,O,O] HT_.out ?_
 refine tk2_ 1 6 #[I,I,I,I,O,O,O,O] HT_.out HW_.out hHeld ?_
 refine tk2_ 4 9 #[I,I,I,I,I,O,O,O] HT_.out HW_.out hHeld ?_
 refine o1_ 5 10 #[I,I,I,I,I,I,O,O] HT_.out (fun K hK=>?_)
 refine gs_ Try.func94 #[.slice A0 l0.length c0,.int .i64 a1_0] ?_
 with_reducible refine (impl_seenOf.calls k _ _ l0 a1_0 t261 _ ?s1 ?s2 A3.out).mono ?_
 (case s1=>repeat (first | exact (Kd.C_below HR0.out HB.out) | (with_reducible refine Kd.C_alloc ?_ _) | (with_reducible refine Kd.C_drewN ?_ _) | (with_reducible refine Kd.C_drew ?_)))
 (case s2=>exact HC0.out)
 rintro e w6 ⟨rfl,hb⟩
 refine ⟨_,rfl,?_⟩
 refine as2_ (blkB_ BK260.out hb) (below_step (z4_ HB.out GE260.out) hb) ?_
 clear BK260 HB
 intro BK260 HB
 (try clear hb)
 refine hK.out _ _ (cc2_ BK260.out) (fun hHeld=>?_)
 clear hK K
 refine nm_ 10 ?_
 refine pu_ 6 11 #[I,I,I,I,I,I,I,O] HT_.out ?_
 refine pu_ 7 4 #[I,I,I,I,I,I,I,I] HT_.out ?_
 refine done_ (done_of HT_.out (by kernel_rfl)) ?_
 try go_wp2
 go_ret
 exact ⟨z8_,z4_ HB.out GE260.out⟩


/-! ### impl_within: function 41 -/
def impl_within.f (a0:Int) (a1:Int) (a2:Int):Option (Bool):=if a1≤a0 then (some (decide (a0≤a2))) else (some false)
set_option maxHeartbeats 8000000 in
set_option maxRecDepth 100000 in
theorem impl_within.calls (a0:Int) (a1:Int) (a2:Int) (r:Bool) (w:World) (h:impl_within.f a0 a1 a2=some r) :
  Calls Try.prog 41 #[.int .i64 a0,.int .i64 a1,.int .i64 a2] w fun e w'=>e = .returned (.bool r)∧Drawn0 w w':=by
 have H:(if a1≤a0 then (some (decide (a0≤a2))) else (some false))=some r:=h
 clear h
 by_cases c4:a1≤a0
 ·rw [if_pos c4] at H
  have c4b0:decide (a1≤a0)=true:=decide_eq_true c4
  clear c4
  obtain rfl:=Option.some.inj H
  go_enter Try.func41,Try.ntmps41
  go_wp2
  go_ret
  exact ⟨z2_,z10_⟩
 ·rw [if_neg c4] at H
  have c4b0:decide (a1≤a0)=false:=decide_eq_false c4
  clear c4
  obtain rfl:=Option.some.inj H
  go_enter Try.func41,Try.ntmps41
  go_wp2
  go_ret
  exact ⟨z2_,z10_⟩


/-! ### impl_isNode: function 86 -/
def impl_isNode.f (a0:Int):Option (Bool):=(impl_within.f a0 1 5).bind fun t262=>(some t262)
set_option maxHeartbeats 8000000 in
set_option maxRecDepth 100000 in
theorem impl_isNode.calls (a0:Int) (r:Bool) (w:World) (h:impl_isNode.f a0=some r) :
  Calls Try.prog 86 #[.int .i64 a0] w fun e w'=>e = .returned (.bool r)∧Drawn0 w w':=by
 have H:((impl_within.f a0 1 5).bind fun t262=>(some t262))=some r:=h
 clear h
 replace H:=Option.bind_eq_some_iff.mp H
 obtain ⟨t262,A20,H⟩:=H
 replace H:(some t262)=some r:=H
 have A2:=Aside0.mk A20
 clear A20
 obtain rfl:=Option.some.inj H
 go_enter Try.func86,Try.ntmps86
 go_wp2_with (first | ((with_reducible refine gc_ 41 ?_);refine gl_ (some 4) Try.func41 #[.int .i64 a0,.int .i64 1,.int .i64 5] ?_;(with_reducible refine (impl_within.calls a0 1 5 t262 _ A2.out).mono ?_);rintro e w' ⟨rfl,⟨nd,rfl⟩⟩;refine ⟨_,rfl,?_⟩))
 go_ret
 exact ⟨z2_,z10_⟩


/-! ### impl_isDot: function 88 -/
def impl_isDot.f (a0_0:Int) (a0_1:Int):Option (Bool):=(impl_isNode.f a0_0).bind fun t264=>(if t264=true then ((impl_within.f a0_1 1 1000000).bind fun t265=>(some t265)) else (some false))
set_option maxHeartbeats 8000000 in
set_option maxRecDepth 100000 in
theorem impl_isDot.calls (a0_0:Int) (a0_1:Int) (r:Bool) (w:World) (h:impl_isDot.f a0_0 a0_1=some r) :
  Calls Try.prog 88 #[.agg #[.int .i64 a0_0,.int .i64 a0_1]] w fun e w'=>e = .returned (.bool r)∧Below w.heap.size w w':=by
 have hu56:=Try.underlying56
 have HB:=Aside0.mk (Below.refl w.heap.size w)
 have H:((impl_isNode.f a0_0).bind fun t264=>(if t264=true then ((impl_within.f a0_1 1 1000000).bind fun t265=>(some t265)) else (some false)))=some r:=h
 clear h
 replace H:=Option.bind_eq_some_iff.mp H
 obtain ⟨t264,A20,H⟩:=H
 replace H:(if t264=true then ((impl_within.f a0_1 1 1000000).bind fun t265=>(some t265)) else (some false))=some r:=H
 have A2:=Aside0.mk A20
 clear A20
 by_cases c3:t264=true
 ·subst c3
  have H1:((impl_within.f a0_1 1 1000000).bind fun t265=>(some t265))=some r:=by rw [if_pos rfl] at H;exact H
  clear H
  have H:=H1
  clear H1
  replace H:=Option.bind_eq_some_iff.mp H
  obtain ⟨t265,A40,H⟩:=H
  replace H:(some t265)=some r:=H
  have A4:=Aside0.mk A40
  clear A40
  obtain rfl:=Option.some.inj H
  go_enter Try.func88,Try.ntmps88
  go_wp2_with (first | ((with_reducible refine gd_ 1 ?_);refine be_ 1 #[.int .i64 a0_0,.int .i64 a0_1] 56 ?_;intro gb263 hg w5 hbox hb;refine as4_ (below_step (z5_ HB.out) hb) (hbox) ((z7_ HB.out:w.heap.size≤gb263)) ((z7_ HB.out:w.heap.size≤gb263)) ?_;clear HB;intro HB BK263 GW263 GE263;clear hb hbox hg;have ⟨hcz6_0,hcz6_1,hfz6_0,hfz6_1⟩:=cz2_ BK263.out) | ((with_reducible refine gc_ 86 ?_);refine gl_ (some 5) Try.func86 #[.int .i64 a0_0] ?_;(with_reducible refine (impl_isNode.calls a0_0 true _ A2.out).mono ?_);rintro e w' ⟨rfl,⟨nd,rfl⟩⟩;refine ⟨_,rfl,?_⟩) | (go_at_call 41;(with_reducible refine (impl_within.calls a0_1 1 1000000 t265 _ A4.out).mono ?_);rintro e w' ⟨rfl,⟨nd,rfl⟩⟩))
  go_ret
  exact ⟨z8_,z4_ HB.out GE263.out⟩
 ·replace c3:=Bool.eq_false_iff.mpr c3
  subst c3
  have H1:(some false)=some r:=by rw [if_neg (show ¬ (false=true) by decide)] at H;exact H
  clear H
  have H:=H1
  clear H1
  obtain rfl:=Option.some.inj H
  go_enter Try.func88,Try.ntmps88
  go_wp2_with (first | ((with_reducible refine gd_ 1 ?_);refine be_ 1 #[.int .i64 a0_0,.int .i64 a0_1] 56 ?_;intro gb263 hg w7 hbox hb;refine as4_ (below_step (z5_ HB.out) hb) (hbox) ((z7_ HB.out:w.heap.size≤gb263)) ((z7_ HB.out:w.heap.size≤gb263)) ?_;clear HB;intro HB BK263 GW263 GE263;clear hb hbox hg;have ⟨hcz8_0,hcz8_1,hfz8_0,hfz8_1⟩:=cz2_ BK263.out) | ((with_reducible refine gc_ 86 ?_);refine gl_ (some 5) Try.func86 #[.int .i64 a0_0] ?_;(with_reducible refine (impl_isNode.calls a0_0 false _ A2.out).mono ?_);rintro e w' ⟨rfl,⟨nd,rfl⟩⟩;refine ⟨_,rfl,?_⟩))
  go_ret
  exact ⟨z8_,z4_ HB.out GE263.out⟩


/-! ### impl_seenRight: function 87 -/
def impl_seenRight.l0:Nat→List (S56)→List (S56)→Int→Int→Option (Bool)
 | 0,_,_,_,_=>none
 | k+1,x0,x5,x6,x7=>if x7<x6 then (if 0≤x7 then (if x7<(x5.length:Int) then ((impl_isDot.f ((rd_T56 x5 x7).f0) ((rd_T56 x5 x7).f1)).bind fun t268=>(if t268=true then (if x7>0 then (if 0≤(wrap64 (x7-1)) then (if (wrap64 (x7-1))<(x0.length:Int) then (if ((rd_T56 x0 (wrap64 (x7-1))).f0)≥((rd_T56 x5 x7).f0) then (some false) else (impl_seenRight.l0 k x0 x5 x6 (wrap64 (x7+1)))) else (none)) else (none)) else (impl_seenRight.l0 k x0 x5 x6 (wrap64 (x7+1)))) else (some false))) else (none)) else (none)) else (some true)
def impl_seenRight.f (k:Nat) (l0:List (S56)):Option (Bool):=impl_seenRight.l0 k l0 l0 (l0.length:Int) 0
theorem impl_seenRight.mono_l:∀ k,(∀ y0 y1 y2 y3,LeO (impl_seenRight.l0 k y0 y1 y2 y3) (impl_seenRight.l0 (k+1) y0 y1 y2 y3))
 | 0=>fun _ _ _ _ r h=>by simp [impl_seenRight.l0] at h
 | k+1=>by
  have ih0:=impl_seenRight.mono_l k
  ·intro y0 y1 y2 y3
   unfold impl_seenRight.l0
   repeat' first
   | (with_reducible exact ih0 _ _ _ _)
   | (with_reducible exact LeO.refl _)
   | (with_reducible exact LeO.none _)
   | (with_reducible refine LeO.ite ?_ ?_)
   | (with_reducible refine LeO.bind ?_ (fun _=>?_))
   | exact ih0 _ _ _ _
   | exact LeO.none _
   | refine LeO.ite ?_ ?_
   | refine LeO.bind ?_ (fun _=>?_)
theorem impl_seenRight.mono:∀ a0 k,LeO (impl_seenRight.f k a0) (impl_seenRight.f (k+1) a0):=by
 intro a0 k
 have ih0:=impl_seenRight.mono_l k
 unfold impl_seenRight.f
 repeat' first
   | (with_reducible exact ih0 _ _ _ _)
   | (with_reducible exact LeO.refl _)
   | (with_reducible exact LeO.none _)
   | (with_reducible refine LeO.ite ?_ ?_)
   | (with_reducible refine LeO.bind ?_ (fun _=>?_))
   | exact ih0 _ _ _ _
   | exact LeO.none _
   | refine LeO.ite ?_ ?_
   | refine LeO.bind ?_ (fun _=>?_)
def impl_seenRight.T4:Bool × List (List Nat × List Nat):=(true,[([],[]),([0],[0]),([1],[1]),([2,1],[2]),([3],[3]),([4,3],[3,4]),([5,3,3],[3,5]),([6],[6]),([6],[6]),([8,6],[6,8]),([7,9,6],[6,7,9]),([10,6],[6,10]),([11,6],[6,11]),([6],[6]),([13,6],[6,13]),([12,14,6],[6,12,14]),([6,15,3],[3,6,15]),([3,16],[3,16])])
def impl_seenRight.B4:List Nat:=[0,1,3,7,15,31,63,127,127,383,1023,2047,4095,127,8319,32767,65535,131071]
theorem impl_seenRight.tab4:rtab .any (opsOf Try.f87 4)=impl_seenRight.T4:=by kernel_rfl
theorem impl_seenRight.bits4:waitsOk impl_seenRight.T4.2 impl_seenRight.B4=true:=by kernel_rfl
abbrev impl_seenRight.q0:Array Bool:=#[O,O,O,O,O,O,O,O,O,O,O,O,O,O,O,O,O,O]
abbrev impl_seenRight.q1:Array Bool:=#[I,O,O,O,O,O,O,O,O,O,O,O,O,O,O,O,O,O]
abbrev impl_seenRight.q2:Array Bool:=#[I,I,O,O,O,O,O,O,O,O,O,O,O,O,O,O,O,O]
abbrev impl_seenRight.q3:Array Bool:=#[I,I,I,O,O,O,O,O,O,O,O,O,O,O,O,O,O,O]
abbrev impl_seenRight.q4:Array Bool:=#[I,I,I,I,O,O,O,O,O,O,O,O,O,O,O,O,O,O]
abbrev impl_seenRight.q5:Array Bool:=#[I,I,I,I,I,O,O,O,O,O,O,O,O,O,O,O,O,O]
abbrev impl_seenRight.q6:Array Bool:=#[I,I,I,I,I,I,O,O,O,O,O,O,O,O,O,O,O,O]
abbrev impl_seenRight.q7:Array Bool:=#[I,I,I,I,I,I,I,O,O,O,O,O,O,O,O,O,O,O]
abbrev impl_seenRight.q8:Array Bool:=#[I,I,I,I,I,I,I,I,O,O,O,O,O,O,O,O,O,O]
abbrev impl_seenRight.q9:Array Bool:=#[I,I,I,I,I,I,I,I,I,O,O,O,O,O,O,O,O,O]
abbrev impl_seenRight.q10:Array Bool:=#[I,I,I,I,I,I,I,I,I,I,O,O,O,O,O,O,O,O]
abbrev impl_seenRight.q11:Array Bool:=#[I,I,I,I,I,I,I,I,I,I,I,O,O,O,O,O,O,O]
abbrev impl_seenRight.q12:Array Bool:=#[I,I,I,I,I,I,I,I,I,I,I,I,O,O,O,O,O,O]
abbrev impl_seenRight.q13:Array Bool:=#[I,I,I,I,I,I,I,I,I,I,I,I,O,I,O,O,O,O]
abbrev impl_seenRight.q14:Array Bool:=#[I,I,I,I,I,I,I,I,I,I,I,I,I,I,O,O,O,O]
abbrev impl_seenRight.q15:Array Bool:=#[I,I,I,I,I,I,I,I,I,I,I,I,I,I,I,O,O,O]
abbrev impl_seenRight.q16:Array Bool:=#[I,I,I,I,I,I,I,I,I,I,I,I,I,I,I,I,O,O]
abbrev impl_seenRight.q17:Array Bool:=#[I,I,I,I,I,I,I,I,I,I,I,I,I,I,I,I,I,O]
abbrev impl_seenRight.q18:Array Bool:=#[I,I,I,I,I,I,I,I,I,I,I,I,I,I,I,I,I,I]
abbrev impl_seenRight.q19:Array Bool:=#[I,I,I,I,I,I,I,I,I,I,I,I,I,O,O,O,O,O]
set_option maxHeartbeats 8000000 in
set_option maxRecDepth 100000 in
theorem impl_seenRight.calls (k:Nat) (A0:Option Addr) (c0:Nat) (l0:List (S56)) (r:Bool) (w:World) (hr0:Kd.C k56 w A0 l0.length l0) (hc0:l0.length≤c0) (h:impl_seenRight.f k l0=some r) :
  Calls Try.prog 87 #[.slice A0 l0.length c0] w fun e w'=>e = .returned (.bool r)∧Below w.heap.size w w':=by
 have hu56:=Try.underlying56
 have HR0:=Aside0.mk hr0
 have HC0:=Aside0.mk hc0
 clear hr0 hc0
 have HB:=Aside0.mk (Below.refl w.heap.size w)
 have H:(impl_seenRight.l0 k l0 l0 (l0.length:Int) 0)=some r:=h
 clear h
 have H':=Aside0.mk H
 clear H
 go_enter Try.func87,Try.ntmps87
 go_wp2
 go_loopg [7] k (fun kq v7 w'=>∃ (x7_1:Int),v7 = .int .i64 x7_1∧Aside0 (impl_seenRight.l0 kq l0 l0 (l0.length:Int) x7_1=some r)∧Aside0 (kq≤k)∧Aside0 (Below w.heap.size w w'))
 case atStart=>exact ⟨(0),(z2_),H',⟨Nat.le_refl _⟩,⟨z5_ HB.out⟩⟩
 case round =>
  clear H'
  obtain ⟨x7_1,rfl,HA,HK1,HB⟩:=hrel
  cases gk with
  | zero=>exact absurd HA.out (by simp [impl_seenRight.l0])
  | succ k1 =>
   have H:=HA.out
   clear HA
   simp only [impl_seenRight.l0] at H
   by_cases c2:x7_1<(l0.length:Int)
   ·rw [if_pos c2] at H
    have c2b0:decide (x7_1<(l0.length:Int))=true:=decide_eq_true c2
    clear c2
    by_cases c3:0≤x7_1
    ·rw [if_pos c3] at H
     have c3b0:decide (0≤x7_1)=true:=decide_eq_true c3
     clear c3
     by_cases c4:x7_1<(l0.length:Int)
     ·rw [if_pos c4] at H
      have c4b0:decide (x7_1<(l0.length:Int))=true:=decide_eq_true c4
      clear c4
      replace H:=Option.bind_eq_some_iff.mp H
      obtain ⟨t268,A50,H⟩:=H
      replace H:(if t268=true then (if x7_1>0 then (if 0≤(wrap64 (x7_1-1)) then (if (wrap64 (x7_1-1))<(l0.length:Int) then (if ((rd_T56 l0 (wrap64 (x7_1-1))).f0)≥((rd_T56 l0 x7_1).f0) then (some false) else (impl_seenRight.l0 k1 l0 l0 (l0.length:Int) (wrap64 (x7_1+1)))) else (none)) else (none)) else (impl_seenRight.l0 k1 l0 l0 (l0.length:Int) (wrap64 (x7_1+1)))) else (some false))=some r:=H
      have A5:=Aside0.mk A50
      clear A50
      by_cases c6:t268=true
      ·subst c6
       have H1:(if x7_1>0 then (if 0≤(wrap64 (x7_1-1)) then (if (wrap64 (x7_1-1))<(l0.length:Int) then (if ((rd_T56 l0 (wrap64 (x7_1-1))).f0)≥((rd_T56 l0 x7_1).f0) then (some false) else (impl_seenRight.l0 k1 l0 l0 (l0.length:Int) (wrap64 (x7_1+1)))) else (none)) else (none)) else (impl_seenRight.l0 k1 l0 l0 (l0.length:Int) (wrap64 (x7_1+1))))=some r:=by rw [if_pos rfl] at H;exact H
       clear H
       have H:=H1
       clear H1
       by_cases c7:x7_1>0
       ·rw [if_pos c7] at H
        have c7b0:decide (0<x7_1)=true:=decide_eq_true c7
        clear c7
        obtain ⟨ji8,hji8⟩:∃ j_:Int,(wrap64 (x7_1-1))=j_:=⟨_,rfl⟩
        replace H:(if 0≤(ji8) then (if (ji8)<(l0.length:Int) then (if ((rd_T56 l0 (ji8)).f0)≥((rd_T56 l0 x7_1).f0) then (some false) else (impl_seenRight.l0 k1 l0 l0 (l0.length:Int) (wrap64 (x7_1+1)))) else (none)) else (none))=some r:=by first | (rw [hji8] at H;exact H) | (simp only [hji8] at H ⊢;exact H)
        (try rw [hji8] at A5)
        have hji8w:(IntKind.i64.wrap (x7_1-1))=ji8:=(i64_w _).trans hji8
        by_cases c9:0≤(ji8)
        ·rw [if_pos c9] at H
         have c9b0:decide (0≤(ji8))=true:=decide_eq_true c9
         clear c9
         by_cases c10:(ji8)<(l0.length:Int)
         ·rw [if_pos c10] at H
          have c10b0:decide ((ji8)<(l0.length:Int))=true:=decide_eq_true c10
          clear c10
          by_cases c11:((rd_T56 l0 (ji8)).f0)≥((rd_T56 l0 x7_1).f0)
          ·rw [if_pos c11] at H
           have c11b0:decide (((rd_T56 l0 x7_1).f0)≤((rd_T56 l0 (ji8)).f0))=true:=decide_eq_true c11
           clear c11
           obtain rfl:=Option.some.inj H
           have p266:0≤(x7_1:Int):=of_decide_eq_true (z1_)
           have q266:x7_1<(l0.length:Int):=of_decide_eq_true (z1_)
           obtain ⟨ad266,e266,hx266_0,hx266_1⟩:=at_T56 HR0.out x7_1 p266 q266
           cases e266
           replace hx266_0:=(HB.out.cell (World.block_lt_of_cell? w _ hx266_0)).trans hx266_0
           replace hx266_1:=(HB.out.cell (World.block_lt_of_cell? w _ hx266_1)).trans hx266_1
           replace p266:=eq_true p266
           replace q266:=eq_true q266
           try go_wp2_with (first | ((with_reducible refine gd_ 4 ?_);refine be_ 4 #[.int .i64 0,.int .i64 0] 56 ?_;intro gb267 hg w12 hbox hb;refine as4_ (below_step (z5_ HB.out) hb) (hbox) ((z7_ HB.out:w.heap.size≤gb267)) ((z7_ HB.out:w.heap.size≤gb267)) ?_;clear HB;intro HB BK267 GW267 GE267;clear hb hbox hg;have ⟨hcz13_0,hcz13_1,hfz13_0,hfz13_1⟩:=cz2_ BK267.out))
           have n0_:Aside0 (((w12.setCell ⟨gb267,0,none⟩ (.int .i64 ((rd_T56 l0 x7_1).f0))).setCell ⟨gb267,1,none⟩ (.int .i64 ((rd_T56 l0 x7_1).f1))).heap[gb267]? = some (.cells #[.int .i64 ((rd_T56 l0 x7_1).f0),.int .i64 ((rd_T56 l0 x7_1).f1)] 56 (0,0))):=⟨z35_ BK267.out⟩
           have n1_:Aside0 (Below w.heap.size w ((w12.setCell ⟨gb267,0,none⟩ (.int .i64 ((rd_T56 l0 x7_1).f0))).setCell ⟨gb267,1,none⟩ (.int .i64 ((rd_T56 l0 x7_1).f1)))):=⟨z4_ HB.out GE267.out⟩
           (try clear BK267)
           (try clear HB)
           generalize ((w12.setCell ⟨gb267,0,none⟩ (.int .i64 ((rd_T56 l0 x7_1).f0))).setCell ⟨gb267,1,none⟩ (.int .i64 ((rd_T56 l0 x7_1).f1)))=w14 at n0_ n1_ ⊢
           have BK267:=n0_
           have HB:=n1_
           clear n0_ n1_
           refine as2_ (blk_drew BK267.out) (below_drew1 HB.out) ?_
           clear BK267 HB
           intro BK267 HB
           have p269:0≤((ji8):Int):=of_decide_eq_true (z1_)
           have q269:(ji8)<(l0.length:Int):=of_decide_eq_true (z1_)
           obtain ⟨ad269,e269,hx269_0,hx269_1⟩:=at_T56 HR0.out (ji8) p269 q269
           have hw269_1:=hx269_1
           have hw269_0:=hx269_0
           obtain rfl:ad266=ad269:=(by injection e269)
           replace hx269_0:=(HB.out.cell (World.block_lt_of_cell? w _ hx269_0)).trans hx269_0
           replace hx269_1:=(HB.out.cell (World.block_lt_of_cell? w _ hx269_1)).trans hx269_1
           replace p269:=eq_true p269
           replace q269:=eq_true q269
           refine start_ (n:=18) (S:=fun w'=>w'.cell? ⟨gb267,0,none⟩=some (.int .i64 ((rd_T56 l0 x7_1).f0))∧w'.cell? ⟨gb267,1,none⟩=some (.int .i64 ((rd_T56 l0 x7_1).f1))∧w'.cell? (ad266.add (((ji8)).toNat*2))=some (.int .i64 ((rd_T56 l0 (ji8)).f0))∧w'.cell? ⟨(ad266.add (((ji8)).toNat*2)).block,(ad266.add (((ji8)).toNat*2)).off+1,none⟩=some (.int .i64 ((rd_T56 l0 (ji8)).f1))) (ds:=[]) impl_seenRight.q0 (by kernel_rfl) rfl rfl (cj2_ BK267.out ⟨((HB.out.cell (World.block_lt_of_cell? w _ hw269_0)).trans hw269_0),((HB.out.cell (World.block_lt_of_cell? w _ hw269_1)).trans hw269_1)⟩) (fun hHeld=>?_);refine with_tabW impl_seenRight.tab4 impl_seenRight.bits4 (fun HT_ HW_=>?_)
           generalize w14.drew=w15 at BK267 HB hx269_0 hx269_1 hHeld ⊢
           refine tk4_ 0 12 impl_seenRight.q1 HT_.out HW_.out hHeld ?_
           refine o1_ 1 13 impl_seenRight.q2 HT_.out (fun K hK=>?_)
           refine gs_ Try.func88 #[.agg #[.int .i64 ((rd_T56 l0 x7_1).f0),.int .i64 ((rd_T56 l0 x7_1).f1)]] ?_
           with_reducible refine (impl_isDot.calls ((rd_T56 l0 x7_1).f0) ((rd_T56 l0 x7_1).f1) true _ A5.out).mono ?_
           rintro e w16 ⟨rfl,hb⟩
           refine ⟨_,rfl,?_⟩
           refine as2_ (blkB_ BK267.out hb) (below_step (z4_ HB.out GE267.out) hb) ?_
           clear BK267 HB
           intro BK267 HB
           (try clear hb)
           refine hK.out _ _ (cj2_ BK267.out ⟨((HB.out.cell (World.block_lt_of_cell? w _ hw269_0)).trans hw269_0),((HB.out.cell (World.block_lt_of_cell? w _ hw269_1)).trans hw269_1)⟩) (fun hHeld=>?_)
           clear hK K
           refine nm_ 13 ?_
           refine pu_ 2 14 impl_seenRight.q3 HT_.out ?_
           refine pu_ 3 15 impl_seenRight.q4 HT_.out ?_
           refine pu_ 4 16 impl_seenRight.q5 HT_.out ?_
           refine pu_ 5 17 impl_seenRight.q6 HT_.out ?_
           refine pu_ 6 18 impl_seenRight.q7 HT_.out ?_
           refine pu_ 7 19 impl_seenRight.q8 HT_.out ?_
           refine pu_ 8 20 impl_seenRight.q9 HT_.out ?_
           refine pu_ 9 21 impl_seenRight.q10 HT_.out ?_
           refine pu_ 10 22 impl_seenRight.q11 HT_.out ?_
           refine pu_ 11 23 impl_seenRight.q12 HT_.out ?_
           refine pu_ 13 25 impl_seenRight.q13 HT_.out ?_
           refine tk4_ 12 24 impl_seenRight.q14 HT_.out HW_.out hHeld ?_
           refine tk4_ 14 26 impl_seenRight.q15 HT_.out HW_.out hHeld ?_
           refine pu_ 15 27 impl_seenRight.q16 HT_.out ?_
           refine pu_ 16 28 impl_seenRight.q17 HT_.out ?_
           refine pu_ 17 29 impl_seenRight.q18 HT_.out ?_
           refine done_ (done_of HT_.out (by kernel_rfl)) ?_
           try go_wp2
           go_ret
           exact ⟨by first | rfl | (simp [errW_none,errW_some] <;> rfl) | (simp only [← hji8];first | rfl | (simp [errW_none,errW_some] <;> rfl)) | (simp [*,errW_none,errW_some] <;> rfl),z4_ HB.out GE267.out⟩
          ·rw [if_neg c11] at H
           have c11b0:decide (((rd_T56 l0 x7_1).f0)≤((rd_T56 l0 (ji8)).f0))=false:=decide_eq_false c11
           clear c11
           have H':=Aside0.mk H
           clear H
           have p266:0≤(x7_1:Int):=of_decide_eq_true (z1_)
           have q266:x7_1<(l0.length:Int):=of_decide_eq_true (z1_)
           obtain ⟨ad266,e266,hx266_0,hx266_1⟩:=at_T56 HR0.out x7_1 p266 q266
           cases e266
           replace hx266_0:=(HB.out.cell (World.block_lt_of_cell? w _ hx266_0)).trans hx266_0
           replace hx266_1:=(HB.out.cell (World.block_lt_of_cell? w _ hx266_1)).trans hx266_1
           replace p266:=eq_true p266
           replace q266:=eq_true q266
           try go_wp2_with (first | ((with_reducible refine gd_ 4 ?_);refine be_ 4 #[.int .i64 0,.int .i64 0] 56 ?_;intro gb267 hg w17 hbox hb;refine as4_ (below_step (z5_ HB.out) hb) (hbox) ((z7_ HB.out:w.heap.size≤gb267)) ((z7_ HB.out:w.heap.size≤gb267)) ?_;clear HB;intro HB BK267 GW267 GE267;clear hb hbox hg;have ⟨hcz18_0,hcz18_1,hfz18_0,hfz18_1⟩:=cz2_ BK267.out))
           have n0_:Aside0 (((w17.setCell ⟨gb267,0,none⟩ (.int .i64 ((rd_T56 l0 x7_1).f0))).setCell ⟨gb267,1,none⟩ (.int .i64 ((rd_T56 l0 x7_1).f1))).heap[gb267]? = some (.cells #[.int .i64 ((rd_T56 l0 x7_1).f0),.int .i64 ((rd_T56 l0 x7_1).f1)] 56 (0,0))):=⟨z35_ BK267.out⟩
           have n1_:Aside0 (Below w.heap.size w ((w17.setCell ⟨gb267,0,none⟩ (.int .i64 ((rd_T56 l0 x7_1).f0))).setCell ⟨gb267,1,none⟩ (.int .i64 ((rd_T56 l0 x7_1).f1)))):=⟨z4_ HB.out GE267.out⟩
           (try clear BK267)
           (try clear HB)
           generalize ((w17.setCell ⟨gb267,0,none⟩ (.int .i64 ((rd_T56 l0 x7_1).f0))).setCell ⟨gb267,1,none⟩ (.int .i64 ((rd_T56 l0 x7_1).f1)))=w19 at n0_ n1_ ⊢
           have BK267:=n0_
           have HB:=n1_
           clear n0_ n1_
           refine as2_ (blk_drew BK267.out) (below_drew1 HB.out) ?_
           clear BK267 HB
           intro BK267 HB
           have p269:0≤((ji8):Int):=of_decide_eq_true (z1_)
           have q269:(ji8)<(l0.length:Int):=of_decide_eq_true (z1_)
           obtain ⟨ad269,e269,hx269_0,hx269_1⟩:=at_T56 HR0.out (ji8) p269 q269
           have hw269_1:=hx269_1
           have hw269_0:=hx269_0
           obtain rfl:ad266=ad269:=(by injection e269)
           replace hx269_0:=(HB.out.cell (World.block_lt_of_cell? w _ hx269_0)).trans hx269_0
           replace hx269_1:=(HB.out.cell (World.block_lt_of_cell? w _ hx269_1)).trans hx269_1
           replace p269:=eq_true p269
           replace q269:=eq_true q269
           refine start_ (n:=18) (S:=fun w'=>w'.cell? ⟨gb267,0,none⟩=some (.int .i64 ((rd_T56 l0 x7_1).f0))∧w'.cell? ⟨gb267,1,none⟩=some (.int .i64 ((rd_T56 l0 x7_1).f1))∧w'.cell? (ad266.add (((ji8)).toNat*2))=some (.int .i64 ((rd_T56 l0 (ji8)).f0))∧w'.cell? ⟨(ad266.add (((ji8)).toNat*2)).block,(ad266.add (((ji8)).toNat*2)).off+1,none⟩=some (.int .i64 ((rd_T56 l0 (ji8)).f1))) (ds:=[]) impl_seenRight.q0 (by kernel_rfl) rfl rfl (cj2_ BK267.out ⟨((HB.out.cell (World.block_lt_of_cell? w _ hw269_0)).trans hw269_0),((HB.out.cell (World.block_lt_of_cell? w _ hw269_1)).trans hw269_1)⟩) (fun hHeld=>?_);refine with_tabW impl_seenRight.tab4 impl_seenRight.bits4 (fun HT_ HW_=>?_)
           generalize w19.drew=w20 at BK267 HB hx269_0 hx269_1 hHeld ⊢
           refine tk4_ 0 12 impl_seenRight.q1 HT_.out HW_.out hHeld ?_
           refine o1_ 1 13 impl_seenRight.q2 HT_.out (fun K hK=>?_)
           refine gs_ Try.func88 #[.agg #[.int .i64 ((rd_T56 l0 x7_1).f0),.int .i64 ((rd_T56 l0 x7_1).f1)]] ?_
           with_reducible refine (impl_isDot.calls ((rd_T56 l0 x7_1).f0) ((rd_T56 l0 x7_1).f1) true _ A5.out).mono ?_
           rintro e w21 ⟨rfl,hb⟩
           refine ⟨_,rfl,?_⟩
           refine as2_ (blkB_ BK267.out hb) (below_step (z4_ HB.out GE267.out) hb) ?_
           clear BK267 HB
           intro BK267 HB
           (try clear hb)
           refine hK.out _ _ (cj2_ BK267.out ⟨((HB.out.cell (World.block_lt_of_cell? w _ hw269_0)).trans hw269_0),((HB.out.cell (World.block_lt_of_cell? w _ hw269_1)).trans hw269_1)⟩) (fun hHeld=>?_)
           clear hK K
           refine nm_ 13 ?_
           refine pu_ 2 14 impl_seenRight.q3 HT_.out ?_
           refine pu_ 3 15 impl_seenRight.q4 HT_.out ?_
           refine pu_ 4 16 impl_seenRight.q5 HT_.out ?_
           refine pu_ 5 17 impl_seenRight.q6 HT_.out ?_
           refine pu_ 6 18 impl_seenRight.q7 HT_.out ?_
           refine pu_ 7 19 impl_seenRight.q8 HT_.out ?_
           refine pu_ 8 20 impl_seenRight.q9 HT_.out ?_
           refine pu_ 9 21 impl_seenRight.q10 HT_.out ?_
           refine pu_ 10 22 impl_seenRight.q11 HT_.out ?_
           refine pu_ 11 23 impl_seenRight.q12 HT_.out ?_
           refine pu_ 13 25 impl_seenRight.q13 HT_.out ?_
           refine tk4_ 12 24 impl_seenRight.q14 HT_.out HW_.out hHeld ?_
           refine tk4_ 14 26 impl_seenRight.q15 HT_.out HW_.out hHeld ?_
           refine pu_ 15 27 impl_seenRight.q16 HT_.out ?_
           refine pu_ 16 28 impl_seenRight.q17 HT_.out ?_
           refine pu_ 17 29 impl_seenRight.q18 HT_.out ?_
           refine done_ (done_of HT_.out (by kernel_rfl)) ?_
           try go_wp2
           go_roundg k1
           case measure=>have:=HK1.out;omega
           case rel=>exact ⟨(wrap64 (x7_1+1)),(z2_),H',⟨by have:=HK1.out;omega⟩,⟨z4_ HB.out GE267.out⟩⟩
         ·rw [if_neg c10] at H
          exact absurd H (by simp)
        ·rw [if_neg c9] at H
         exact absurd H (by simp)
       ·rw [if_neg c7] at H
        have c7b0:decide (0<x7_1)=false:=decide_eq_false c7
        clear c7
        have H':=Aside0.mk H
        clear H
        have p266:0≤(x7_1:Int):=of_decide_eq_true (z1_)
        have q266:x7_1<(l0.length:Int):=of_decide_eq_true (z1_)
        obtain ⟨ad266,e266,hx266_0,hx266_1⟩:=at_T56 HR0.out x7_1 p266 q266
        cases e266
        replace hx266_0:=(HB.out.cell (World.block_lt_of_cell? w _ hx266_0)).trans hx266_0
        replace hx266_1:=(HB.out.cell (World.block_lt_of_cell? w _ hx266_1)).trans hx266_1
        replace p266:=eq_true p266
        replace q266:=eq_true q266
        try go_wp2_with (first | ((with_reducible refine gd_ 4 ?_);refine be_ 4 #[.int .i64 0,.int .i64 0] 56 ?_;intro gb267 hg w22 hbox hb;refine as4_ (below_step (z5_ HB.out) hb) (hbox) ((z7_ HB.out:w.heap.size≤gb267)) ((z7_ HB.out:w.heap.size≤gb267)) ?_;clear HB;intro HB BK267 GW267 GE267;clear hb hbox hg;have ⟨hcz23_0,hcz23_1,hfz23_0,hfz23_1⟩:=cz2_ BK267.out))
        have n0_:Aside0 (((w22.setCell ⟨gb267,0,none⟩ (.int .i64 ((rd_T56 l0 x7_1).f0))).setCell ⟨gb267,1,none⟩ (.int .i64 ((rd_T56 l0 x7_1).f1))).heap[gb267]? = some (.cells #[.int .i64 ((rd_T56 l0 x7_1).f0),.int .i64 ((rd_T56 l0 x7_1).f1)] 56 (0,0))):=⟨z35_ BK267.out⟩
        have n1_:Aside0 (Below w.heap.size w ((w22.setCell ⟨gb267,0,none⟩ (.int .i64 ((rd_T56 l0 x7_1).f0))).setCell ⟨gb267,1,none⟩ (.int .i64 ((rd_T56 l0 x7_1).f1)))):=⟨z4_ HB.out GE267.out⟩
        (try clear BK267)
        (try clear HB)
        generalize ((w22.setCell ⟨gb267,0,none⟩ (.int .i64 ((rd_T56 l0 x7_1).f0))).setCell ⟨gb267,1,none⟩ (.int .i64 ((rd_T56 l0 x7_1).f1)))=w24 at n0_ n1_ ⊢
        have BK267:=n0_
        have HB:=n1_
        clear n0_ n1_
        refine as2_ (blk_drew BK267.out) (below_drew1 HB.out) ?_
        clear BK267 HB
        intro BK267 HB
        refine start_ (n:=18) (S:=fun w'=>w'.cell? ⟨gb267,0,none⟩=some (.int .i64 ((rd_T56 l0 x7_1).f0))∧w'.cell? ⟨gb267,1,none⟩=some (.int .i64 ((rd_T56 l0 x7_1).f1))) (ds:=[]) impl_seenRight.q0 (by kernel_rfl) rfl rfl (cc2_ BK267.out) (fun hHeld=>?_);refine with_tabW impl_seenRight.tab4 impl_seenRight.bits4 (fun HT_ HW_=>?_)
        generalize w24.drew=w25 at BK267 HB hHeld ⊢
        refine tk2_ 0 12 impl_seenRight.q1 HT_.out HW_.out hHeld ?_
        refine o1_ 1 13 impl_seenRight.q2 HT_.out (fun K hK=>?_)
        refine gs_ Try.func88 #[.agg #[.int .i64 ((rd_T56 l0 x7_1).f0),.int .i64 ((rd_T56 l0 x7_1).f1)]] ?_
        with_reducible refine (impl_isDot.calls ((rd_T56 l0 x7_1).f0) ((rd_T56 l0 x7_1).f1) true _ A5.out).mono ?_
        rintro e w26 ⟨rfl,hb⟩
        refine ⟨_,rfl,?_⟩
        refine as2_ (blkB_ BK267.out hb) (below_step (z4_ HB.out GE267.out) hb) ?_
        clear BK267 HB
        intro BK267 HB
        (try clear hb)
        refine hK.out _ _ (cc2_ BK267.out) (fun hHeld=>?_)
        clear hK K
        refine nm_ 13 ?_
        refine pu_ 2 14 impl_seenRight.q3 HT_.out ?_
        refine pu_ 3 15 impl_seenRight.q4 HT_.out ?_
        refine pu_ 4 16 impl_seenRight.q5 HT_.out ?_
        refine pu_ 5 17 impl_seenRight.q6 HT_.out ?_
        refine pu_ 6 18 impl_seenRight.q7 HT_.out ?_
        refine pn_ 7 19 impl_seenRight.q8 HT_.out ?_
        refine pn_ 8 20 impl_seenRight.q9 HT_.out ?_
        refine pn_ 9 21 impl_seenRight.q10 HT_.out ?_
        refine pn_ 10 22 impl_seenRight.q11 HT_.out ?_
        refine pn_ 11 23 impl_seenRight.q12 HT_.out ?_
        refine pn_ 12 24 impl_seenRight.q19 HT_.out ?_
        refine pn_ 13 25 impl_seenRight.q14 HT_.out ?_
        refine pn_ 14 26 impl_seenRight.q15 HT_.out ?_
        refine pn_ 15 27 impl_seenRight.q16 HT_.out ?_
        refine pu_ 16 28 impl_seenRight.q17 HT_.out ?_
        refine pu_ 17 29 impl_seenRight.q18 HT_.out ?_
        refine done_ (done_of HT_.out (by kernel_rfl)) ?_
        try go_wp2
        go_roundg k1
        case measure=>have:=HK1.out;omega
        case rel=>exact ⟨(wrap64 (x7_1+1)),(z2_),H',⟨by have:=HK1.out;omega⟩,⟨z4_ HB.out GE267.out⟩⟩
      ·replace c6:=Bool.eq_false_iff.mpr c6
       subst c6
       have H1:(some false)=some r:=by rw [if_neg (show ¬ (false=true) by decide)] at H;exact H
       clear H
       have H:=H1
       clear H1
       obtain rfl:=Option.some.inj H
       have p266:0≤(x7_1:Int):=of_decide_eq_true (z1_)
       have q266:x7_1<(l0.length:Int):=of_decide_eq_true (z1_)
       obtain ⟨ad266,e266,hx266_0,hx266_1⟩:=at_T56 HR0.out x7_1 p266 q266
       cases e266
       replace hx266_0:=(HB.out.cell (World.block_lt_of_cell? w _ hx266_0)).trans hx266_0
       replace hx266_1:=(HB.out.cell (World.block_lt_of_cell? w _ hx266_1)).trans hx266_1
       replace p266:=eq_true p266
       replace q266:=eq_true q266
       try go_wp2_with (first | ((with_reducible refine gd_ 4 ?_);refine be_ 4 #[.int .i64 0,.int .i64 0] 56 ?_;intro gb267 hg w27 hbox hb;refine as4_ (below_step (z5_ HB.out) hb) (hbox) ((z7_ HB.out:w.heap.size≤gb267)) ((z7_ HB.out:w.heap.size≤gb267)) ?_;clear HB;intro HB BK267 GW267 GE267;clear hb hbox hg;have ⟨hcz28_0,hcz28_1,hfz28_0,hfz28_1⟩:=cz2_ BK267.out))
       have n0_:Aside0 (((w27.setCell ⟨gb267,0,none⟩ (.int .i64 ((rd_T56 l0 x7_1).f0))).setCell ⟨gb267,1,none⟩ (.int .i64 ((rd_T56 l0 x7_1).f1))).heap[gb267]? = some (.cells #[.int .i64 ((rd_T56 l0 x7_1).f0),.int .i64 ((rd_T56 l0 x7_1).f1)] 56 (0,0))):=⟨z35_ BK267.out⟩
       have n1_:Aside0 (Below w.heap.size w ((w27.setCell ⟨gb267,0,none⟩ (.int .i64 ((rd_T56 l0 x7_1).f0))).setCell ⟨gb267,1,none⟩ (.int .i64 ((rd_T56 l0 x7_1).f1)))):=⟨z4_ HB.out GE267.out⟩
       (try clear BK267)
       (try clear HB)
       generalize ((w27.setCell ⟨gb267,0,none⟩ (.int .i64 ((rd_T56 l0 x7_1).f0))).setCell ⟨gb267,1,none⟩ (.int .i64 ((rd_T56 l0 x7_1).f1)))=w29 at n0_ n1_ ⊢
       have BK267:=n0_
       have HB:=n1_
       clear n0_ n1_
       refine as2_ (blk_drew BK267.out) (below_drew1 HB.out) ?_
       clear BK267 HB
       intro BK267 HB
       refine start_ (n:=18) (S:=fun w'=>w'.cell? ⟨gb267,0,none⟩=some (.int .i64 ((rd_T56 l0 x7_1).f0))∧w'.cell? ⟨gb267,1,none⟩=some (.int .i64 ((rd_T56 l0 x7_1).f1))) (ds:=[]) impl_seenRight.q0 (by kernel_rfl) rfl rfl (cc2_ BK267.out) (fun hHeld=>?_);refine with_tabW impl_seenRight.tab4 impl_seenRight.bits4 (fun HT_ HW_=>?_)
       generalize w29.drew=w30 at BK267 HB hHeld ⊢
       refine tk2_ 0 12 impl_seenRight.q1 HT_.out HW_.out hHeld ?_
       refine o1_ 1 13 impl_seenRight.q2 HT_.out (fun K hK=>?_)
       refine gs_ Try.func88 #[.agg #[.int .i64 ((rd_T56 l0 x7_1).f0),.int .i64 ((rd_T56 l0 x7_1).f1)]] ?_
       with_reducible refine (impl_isDot.calls ((rd_T56 l0 x7_1).f0) ((rd_T56 l0 x7_1).f1) false _ A5.out).mono ?_
       rintro e w31 ⟨rfl,hb⟩
       refine ⟨_,rfl,?_⟩
       refine as2_ (blkB_ BK267.out hb) (below_step (z4_ HB.out GE267.out) hb) ?_
       clear BK267 HB
       intro BK267 HB
       (try clear hb)
       refine hK.out _ _ (cc2_ BK267.out) (fun hHeld=>?_)
       clear hK K
       refine nm_ 13 ?_
       refine pu_ 2 14 impl_seenRight.q3 HT_.out ?_
       refine pu_ 3 15 impl_seenRight.q4 HT_.out ?_
       refine pn_ 4 16 impl_seenRight.q5 HT_.out ?_
       refine pn_ 5 17 impl_seenRight.q6 HT_.out ?_
       refine pn_ 6 18 impl_seenRight.q7 HT_.out ?_
       refine pn_ 7 19 impl_seenRight.q8 HT_.out ?_
       refine pn_ 8 20 impl_seenRight.q9 HT_.out ?_
       refine pn_ 9 21 impl_seenRight.q10 HT_.out ?_
       refine pn_ 10 22 impl_seenRight.q11 HT_.out ?_
       refine pn_ 11 23 impl_seenRight.q12 HT_.out ?_
       refine pn_ 12 24 impl_seenRight.q19 HT_.out ?_
       refine pn_ 13 25 impl_seenRight.q14 HT_.out ?_
       refine pn_ 14 26 impl_seenRight.q15 HT_.out ?_
       refine pn_ 15 27 impl_seenRight.q16 HT_.out ?_
       refine pn_ 16 28 impl_seenRight.q17 HT_.out ?_
       refine pu_ 17 29 impl_seenRight.q18 HT_.out ?_
       refine done_ (done_of HT_.out (by kernel_rfl)) ?_
       try go_wp2
       go_ret
       exact ⟨z8_,z4_ HB.out GE267.out⟩
     ·rw [if_neg c4] at H
      exact absurd H (by simp)
    ·rw [if_neg c3] at H
     exact absurd H (by simp)
   ·rw [if_neg c2] at H
    have c2b0:decide (x7_1<(l0.length:Int))=false:=decide_eq_false c2
    clear c2
    obtain rfl:=Option.some.inj H
    go_wp2
    go_ret
    exact ⟨z8_,z5_ HB.out⟩


/-! ### impl_isData: function 89 -/
def impl_isData.f (a0:ByteArray) (a1:Bool):Option (Bool):=if (a0.size:Int)≤16 then (if a1=true then (some (a0.toList == ([]:List UInt8))) else (some true)) else (some false)
set_option maxHeartbeats 8000000 in
set_option maxRecDepth 100000 in
theorem impl_isData.calls (a0:ByteArray) (a1:Bool) (r:Bool) (w:World) (h:impl_isData.f a0 a1=some r) :
  Calls Try.prog 89 #[.string a0,.bool a1] w fun e w'=>e = .returned (.bool r)∧Drawn0 w w':=by
 have H:(if (a0.size:Int)≤16 then (if a1=true then (some (a0.toList == ([]:List UInt8))) else (some true)) else (some false))=some r:=h
 clear h
 by_cases c3:(a0.size:Int)≤16
 ·rw [if_pos c3] at H
  have c3b0:decide ((a0.size:Int)≤16)=true:=decide_eq_true c3
  have c3b1:decide (a0.size≤16)=true:=decide_eq_true (by omega)
  clear c3
  by_cases c4:a1=true
  ·subst c4
   have H1:(some (a0.toList == ([]:List UInt8)))=some r:=by rw [if_pos rfl] at H;exact H
   clear H
   have H:=H1
   clear H1
   obtain rfl:=Option.some.inj H
   go_enter Try.func89,Try.ntmps89
   go_wp2
   go_ret
   exact ⟨z2_,z10_⟩
  ·replace c4:=Bool.eq_false_iff.mpr c4
   subst c4
   have H1:(some true)=some r:=by rw [if_neg (show ¬ (false=true) by decide)] at H;exact H
   clear H
   have H:=H1
   clear H1
   obtain rfl:=Option.some.inj H
   go_enter Try.func89,Try.ntmps89
   go_wp2
   go_ret
   exact ⟨z2_,z10_⟩
 ·rw [if_neg c3] at H
  have c3b0:decide ((a0.size:Int)≤16)=false:=decide_eq_false c3
  have c3b1:decide (a0.size≤16)=false:=decide_eq_false (by omega)
  clear c3
  obtain rfl:=Option.some.inj H
  go_enter Try.func89,Try.ntmps89
  go_wp2
  go_ret
  exact ⟨z2_,z10_⟩


/-! ### cmp_Or_int: function 108 -/
def cmp_Or_int.l0:Nat→Int→List Int→Int→Int→Option (Int)
 | 0,_,_,_,_=>none
 | k+1,x3,x6,x7,x8=>if x8<x7 then (if 0≤x8 then (if x8<(x6.length:Int) then (if (rd x6 x8)=x3 then (cmp_Or_int.l0 k x3 x6 x7 (wrap64 (x8+1))) else (some (rd x6 x8))) else (none)) else (none)) else (some x3)
def cmp_Or_int.f (k:Nat) (l0:List Int):Option (Int):=cmp_Or_int.l0 k 0 l0 (l0.length:Int) 0
theorem cmp_Or_int.mono_l:∀ k,(∀ y0 y1 y2 y3,LeO (cmp_Or_int.l0 k y0 y1 y2 y3) (cmp_Or_int.l0 (k+1) y0 y1 y2 y3))
 | 0=>fun _ _ _ _ r h=>by simp [cmp_Or_int.l0] at h
 | k+1=>by
  have ih0:=cmp_Or_int.mono_l k
  ·intro y0 y1 y2 y3
   unfold cmp_Or_int.l0
   repeat' first
   | (with_reducible exact ih0 _ _ _ _)
   | (with_reducible exact LeO.refl _)
   | (with_reducible exact LeO.none _)
   | (with_reducible refine LeO.ite ?_ ?_)
   | (with_reducible refine LeO.bind ?_ (fun _=>?_))
   | exact ih0 _ _ _ _
   | exact LeO.none _
   | refine LeO.ite ?_ ?_
   | refine LeO.bind ?_ (fun _=>?_)
theorem cmp_Or_int.mono:∀ a0 k,LeO (cmp_Or_int.f k a0) (cmp_Or_int.f (k+1) a0):=by
 intro a0 k
 have ih0:=cmp_Or_int.mono_l k
 unfold cmp_Or_int.f
 repeat' first
   | (with_reducible exact ih0 _ _ _ _)
   | (with_reducible exact LeO.refl _)
   | (with_reducible exact LeO.none _)
   | (with_reducible refine LeO.ite ?_ ?_)
   | (with_reducible refine LeO.bind ?_ (fun _=>?_))
   | exact ih0 _ _ _ _
   | exact LeO.none _
   | refine LeO.ite ?_ ?_
   | refine LeO.bind ?_ (fun _=>?_)
set_option maxHeartbeats 8000000 in
set_option maxRecDepth 100000 in
theorem cmp_Or_int.calls (k:Nat) (A0:Option Addr) (c0:Nat) (l0:List Int) (r:Int) (w:World) (hr0:Kd.C (Kd.int .i64) w A0 l0.length l0) (hc0:l0.length≤c0) (h:cmp_Or_int.f k l0=some r) :
  Calls Try.prog 108 #[.slice A0 l0.length c0] w fun e w'=>e = .returned (.int .i64 r)∧Drawn0 w w':=by
 have HR0:=Aside0.mk hr0
 have HC0:=Aside0.mk hc0
 clear hr0 hc0
 have H:(cmp_Or_int.l0 k 0 l0 (l0.length:Int) 0)=some r:=h
 clear h
 have H':=Aside0.mk H
 clear H
 go_enter Try.func108,Try.ntmps108
 go_wp2
 go_loopg [8] k (fun kq v8 w'=>∃ (x8_1:Int),v8 = .int .i64 x8_1∧Aside0 (cmp_Or_int.l0 kq 0 l0 (l0.length:Int) x8_1=some r)∧Aside0 (kq≤k)∧Drawn0 w w')
 case atStart=>exact ⟨(0),(z2_),H',⟨Nat.le_refl _⟩,z10_⟩
 case round =>
  clear H'
  try clear c1
  obtain ⟨x8_1,rfl,HA,HK1,⟨m1,rfl⟩⟩:=hrel
  cases gk with
  | zero=>exact absurd HA.out (by simp [cmp_Or_int.l0])
  | succ k1 =>
   have H:=HA.out
   clear HA
   simp only [cmp_Or_int.l0] at H
   by_cases c2:x8_1<(l0.length:Int)
   ·rw [if_pos c2] at H
    have c2b0:decide (x8_1<(l0.length:Int))=true:=decide_eq_true c2
    clear c2
    by_cases c3:0≤x8_1
    ·rw [if_pos c3] at H
     have c3b0:decide (0≤x8_1)=true:=decide_eq_true c3
     clear c3
     by_cases c4:x8_1<(l0.length:Int)
     ·rw [if_pos c4] at H
      have c4b0:decide (x8_1<(l0.length:Int))=true:=decide_eq_true c4
      clear c4
      by_cases c5:(rd l0 x8_1)=0
      ·rw [if_pos c5] at H
       have c5b0:((rd l0 x8_1) == 0)=true:=beq_iff_eq.mpr c5
       have c5b1:((rd l0 x8_1) != 0)=false:=bne_eq_false_iff_eq.mpr c5
       clear c5
       have H':=Aside0.mk H
       clear H
       have p270:0≤(x8_1:Int):=of_decide_eq_true (z1_)
       have q270:x8_1<(l0.length:Int):=of_decide_eq_true (z1_)
       obtain ⟨ad270,e270,hx270_0⟩:=Kd.at_int HR0.out x8_1 p270 q270
       cases e270
       replace p270:=eq_true p270
       replace q270:=eq_true q270
       go_wp2
       go_roundg k1
       case measure=>have:=HK1.out;omega
       case rel=>exact ⟨(wrap64 (x8_1+1)),(z2_),H',⟨by have:=HK1.out;omega⟩,z10_⟩
      ·rw [if_neg c5] at H
       have c5b0:((rd l0 x8_1) == 0)=false:=beq_eq_false_iff_ne.mpr c5
       have c5b1:((rd l0 x8_1) != 0)=true:=bne_iff_ne.mpr c5
       obtain rfl:=Option.some.inj H
       have p270:0≤(x8_1:Int):=of_decide_eq_true (z1_)
       have q270:x8_1<(l0.length:Int):=of_decide_eq_true (z1_)
       obtain ⟨ad270,e270,hx270_0⟩:=Kd.at_int HR0.out x8_1 p270 q270
       cases e270
       replace p270:=eq_true p270
       replace q270:=eq_true q270
       go_wp2
       go_ret
       exact ⟨z2_,z10_⟩
     ·rw [if_neg c4] at H
      exact absurd H (by simp)
    ·rw [if_neg c3] at H
     exact absurd H (by simp)
   ·rw [if_neg c2] at H
    have c2b0:decide (x8_1<(l0.length:Int))=false:=decide_eq_false c2
    clear c2
    obtain rfl:=Option.some.inj H
    go_wp2
    go_ret
    exact ⟨z2_,z10_⟩


/-! ### cmp_isNaN_int64: function 117 -/
def cmp_isNaN_int64.f (a0:Int):Option (Bool):=some (a0 != a0)
set_option maxHeartbeats 8000000 in
set_option maxRecDepth 100000 in
theorem cmp_isNaN_int64.calls (a0:Int) (r:Bool) (w:World) (h:cmp_isNaN_int64.f a0=some r) :
  Calls Try.prog 117 #[.int .i64 a0] w fun e w'=>e = .returned (.bool r)∧Drawn0 w w':=by
 have H:(some (a0 != a0))=some r:=h
 clear h
 obtain rfl:=Option.some.inj H
 go_enter Try.func117,Try.ntmps117
 go_wp2
 go_ret
 exact ⟨z2_,z10_⟩


/-! ### cmp_Compare_int64: function 109 -/
def cmp_Compare_int64.f (a0:Int) (a1:Int):Option (Int):=(cmp_isNaN_int64.f a0).bind fun t271=>((cmp_isNaN_int64.f a1).bind fun t272=>(if t271=true then (if t272=true then (some 0) else (some (-1))) else (if t272=true then (some 1) else (if a0<a1 then (some (-1)) else (if a0>a1 then (some 1) else (some 0))))))
set_option maxHeartbeats 8000000 in
set_option maxRecDepth 100000 in
theorem cmp_Compare_int64.calls (a0:Int) (a1:Int) (r:Int) (w:World) (h:cmp_Compare_int64.f a0 a1=some r) :
  Calls Try.prog 109 #[.int .i64 a0,.int .i64 a1] w fun e w'=>e = .returned (.int .i64 r)∧Drawn0 w w':=by
 have H:((cmp_isNaN_int64.f a0).bind fun t271=>((cmp_isNaN_int64.f a1).bind fun t272=>(if t271=true then (if t272=true then (some 0) else (some (-1))) else (if t272=true then (some 1) else (if a0<a1 then (some (-1)) else (if a0>a1 then (some 1) else (some 0)))))))=some r:=h
 clear h
 replace H:=Option.bind_eq_some_iff.mp H
 obtain ⟨t271,A30,H⟩:=H
 replace H:((cmp_isNaN_int64.f a1).bind fun t272=>(if t271=true then (if t272=true then (some 0) else (some (-1))) else (if t272=true then (some 1) else (if a0<a1 then (some (-1)) else (if a0>a1 then (some 1) else (some 0))))))=some r:=H
 have A3:=Aside0.mk A30
 clear A30
 replace H:=Option.bind_eq_some_iff.mp H
 obtain ⟨t272,A40,H⟩:=H
 replace H:(if t271=true then (if t272=true then (some 0) else (some (-1))) else (if t272=true then (some 1) else (if a0<a1 then (some (-1)) else (if a0>a1 then (some 1) else (some 0)))))=some r:=H
 have A4:=Aside0.mk A40
 clear A40
 by_cases c5:t271=true
 ·subst c5
  have H1:(if t272=true then (some 0) else (some (-1)))=some r:=by rw [if_pos rfl] at H;exact H
  clear H
  have H:=H1
  clear H1
  by_cases c6:t272=true
  ·subst c6
   have H1:(some 0)=some r:=by rw [if_pos rfl] at H;exact H
   clear H
   have H:=H1
   clear H1
   obtain rfl:=Option.some.inj H
   go_enter Try.func109,Try.ntmps109
   go_wp2_with (first | ((with_reducible refine gc_ 117 ?_);refine gl_ (some 8) Try.func117 #[.int .i64 a0] ?_;(with_reducible refine (cmp_isNaN_int64.calls a0 true _ A3.out).mono ?_);rintro e w' ⟨rfl,⟨nd,rfl⟩⟩;refine ⟨_,rfl,?_⟩) | ((with_reducible refine gc_ 117 ?_);refine gl_ (some 10) Try.func117 #[.int .i64 a1] ?_;(with_reducible refine (cmp_isNaN_int64.calls a1 true _ A4.out).mono ?_);rintro e w' ⟨rfl,⟨nd,rfl⟩⟩;refine ⟨_,rfl,?_⟩))
   go_ret
   exact ⟨z2_,z10_⟩
  ·replace c6:=Bool.eq_false_iff.mpr c6
   subst c6
   have H1:(some (-1))=some r:=by rw [if_neg (show ¬ (false=true) by decide)] at H;exact H
   clear H
   have H:=H1
   clear H1
   obtain rfl:=Option.some.inj H
   go_enter Try.func109,Try.ntmps109
   go_wp2_with (first | ((with_reducible refine gc_ 117 ?_);refine gl_ (some 8) Try.func117 #[.int .i64 a0] ?_;(with_reducible refine (cmp_isNaN_int64.calls a0 true _ A3.out).mono ?_);rintro e w' ⟨rfl,⟨nd,rfl⟩⟩;refine ⟨_,rfl,?_⟩) | ((with_reducible refine gc_ 117 ?_);refine gl_ (some 10) Try.func117 #[.int .i64 a1] ?_;(with_reducible refine (cmp_isNaN_int64.calls a1 false _ A4.out).mono ?_);rintro e w' ⟨rfl,⟨nd,rfl⟩⟩;refine ⟨_,rfl,?_⟩))
   go_ret
   exact ⟨z2_,z10_⟩
 ·replace c5:=Bool.eq_false_iff.mpr c5
  subst c5
  have H1:(if t272=true then (some 1) else (if a0<a1 then (some (-1)) else (if a0>a1 then (some 1) else (some 0))))=some r:=by rw [if_neg (show ¬ (false=true) by decide)] at H;exact H
  clear H
  have H:=H1
  clear H1
  by_cases c7:t272=true
  ·subst c7
   have H1:(some 1)=some r:=by rw [if_pos rfl] at H;exact H
   clear H
   have H:=H1
   clear H1
   obtain rfl:=Option.some.inj H
   go_enter Try.func109,Try.ntmps109
   go_wp2_with (first | ((with_reducible refine gc_ 117 ?_);refine gl_ (some 8) Try.func117 #[.int .i64 a0] ?_;(with_reducible refine (cmp_isNaN_int64.calls a0 false _ A3.out).mono ?_);rintro e w' ⟨rfl,⟨nd,rfl⟩⟩;refine ⟨_,rfl,?_⟩) | ((with_reducible refine gc_ 117 ?_);refine gl_ (some 10) Try.func117 #[.int .i64 a1] ?_;(with_reducible refine (cmp_isNaN_int64.calls a1 true _ A4.out).mono ?_);rintro e w' ⟨rfl,⟨nd,rfl⟩⟩;refine ⟨_,rfl,?_⟩))
   go_ret
   exact ⟨z2_,z10_⟩
  ·replace c7:=Bool.eq_false_iff.mpr c7
   subst c7
   have H1:(if a0<a1 then (some (-1)) else (if a0>a1 then (some 1) else (some 0)))=some r:=by rw [if_neg (show ¬ (false=true) by decide)] at H;exact H
   clear H
   have H:=H1
   clear H1
   by_cases c8:a0<a1
   ·rw [if_pos c8] at H
    have c8b0:decide (a0<a1)=true:=decide_eq_true c8
    clear c8
    obtain rfl:=Option.some.inj H
    go_enter Try.func109,Try.ntmps109
    go_wp2_with (first | ((with_reducible refine gc_ 117 ?_);refine gl_ (some 8) Try.func117 #[.int .i64 a0] ?_;(with_reducible refine (cmp_isNaN_int64.calls a0 false _ A3.out).mono ?_);rintro e w' ⟨rfl,⟨nd,rfl⟩⟩;refine ⟨_,rfl,?_⟩) | ((with_reducible refine gc_ 117 ?_);refine gl_ (some 10) Try.func117 #[.int .i64 a1] ?_;(with_reducible refine (cmp_isNaN_int64.calls a1 false _ A4.out).mono ?_);rintro e w' ⟨rfl,⟨nd,rfl⟩⟩;refine ⟨_,rfl,?_⟩))
    go_ret
    exact ⟨z2_,z10_⟩
   ·rw [if_neg c8] at H
    have c8b0:decide (a0<a1)=false:=decide_eq_false c8
    clear c8
    by_cases c9:a0>a1
    ·rw [if_pos c9] at H
     have c9b0:decide (a1<a0)=true:=decide_eq_true c9
     clear c9
     obtain rfl:=Option.some.inj H
     go_enter Try.func109,Try.ntmps109
     go_wp2_with (first | ((with_reducible refine gc_ 117 ?_);refine gl_ (some 8) Try.func117 #[.int .i64 a0] ?_;(with_reducible refine (cmp_isNaN_int64.calls a0 false _ A3.out).mono ?_);rintro e w' ⟨rfl,⟨nd,rfl⟩⟩;refine ⟨_,rfl,?_⟩) | ((with_reducible refine gc_ 117 ?_);refine gl_ (some 10) Try.func117 #[.int .i64 a1] ?_;(with_reducible refine (cmp_isNaN_int64.calls a1 false _ A4.out).mono ?_);rintro e w' ⟨rfl,⟨nd,rfl⟩⟩;refine ⟨_,rfl,?_⟩))
     go_ret
     exact ⟨z2_,z10_⟩
    ·rw [if_neg c9] at H
     have c9b0:decide (a1<a0)=false:=decide_eq_false c9
     clear c9
     obtain rfl:=Option.some.inj H
     go_enter Try.func109,Try.ntmps109
     go_wp2_with (first | ((with_reducible refine gc_ 117 ?_);refine gl_ (some 8) Try.func117 #[.int .i64 a0] ?_;(with_reducible refine (cmp_isNaN_int64.calls a0 false _ A3.out).mono ?_);rintro e w' ⟨rfl,⟨nd,rfl⟩⟩;refine ⟨_,rfl,?_⟩) | ((with_reducible refine gc_ 117 ?_);refine gl_ (some 10) Try.func117 #[.int .i64 a1] ?_;(with_reducible refine (cmp_isNaN_int64.calls a1 false _ A4.out).mono ?_);rintro e w' ⟨rfl,⟨nd,rfl⟩⟩;refine ⟨_,rfl,?_⟩))
     go_ret
     exact ⟨z2_,z10_⟩


/-! ### impl_compareDots: function 90 -/
def impl_compareDots.f (k:Nat) (a0_0:Int) (a0_1:Int) (a1_0:Int) (a1_1:Int):Option (Int):=(cmp_Compare_int64.f a0_0 a1_0).bind fun t275=>((cmp_Compare_int64.f a0_1 a1_1).bind fun t276=>((cmp_Or_int.f k (([t275,t276]:List Int))).bind fun t280=>(some t280)))
theorem impl_compareDots.mono:∀ a0 a1 a2 a3 k,LeO (impl_compareDots.f k a0 a1 a2 a3) (impl_compareDots.f (k+1) a0 a1 a2 a3):=by
 intro a0 a1 a2 a3 k
 unfold impl_compareDots.f
 repeat' first
   | (with_reducible exact cmp_Or_int.mono _ _)
   | (with_reducible exact LeO.refl _)
   | (with_reducible exact LeO.none _)
   | (with_reducible refine LeO.ite ?_ ?_)
   | (with_reducible refine LeO.bind ?_ (fun _=>?_))
   | exact cmp_Or_int.mono _ _
   | exact LeO.none _
   | refine LeO.ite ?_ ?_
   | refine LeO.bind ?_ (fun _=>?_)
def impl_compareDots.T1:Bool × List (List Nat × List Nat):=(true,[([],[]),([0],[0]),([],[]),([2],[2]),([1,3],[1,3]),([],[]),([5],[5]),([],[]),([7],[7]),([6,8,4],[6,8]),([4,9],[4,9]),([10,9],[10]),([11,11,0,1,2,3,4,5,6,7,8,9,10,11],[11])])
def impl_compareDots.B1:List Nat:=[0,1,0,4,15,0,32,0,128,511,1023,2047,4095]
theorem impl_compareDots.tab1:rtab .any (opsOf Try.f90 1)=impl_compareDots.T1:=by kernel_rfl
theorem impl_compareDots.bits1:waitsOk impl_compareDots.T1.2 impl_compareDots.B1=true:=by kernel_rfl
set_option maxHeartbeats 8000000 in
set_option maxRecDepth 100000 in
theorem impl_compareDots.calls (k:Nat) (a0_0:Int) (a0_1:Int) (a1_0:Int) (a1_1:Int) (r:Int) (w:World) (h:impl_compareDots.f k a0_0 a0_1 a1_0 a1_1=some r) :
  Calls Try.prog 90 #[.agg #[.int .i64 a0_0,.int .i64 a0_1],.agg #[.int .i64 a1_0,.int .i64 a1_1]] w fun e w'=>e = .returned (.int .i64 r)∧Below w.heap.size w w':=by
 have hu56:=Try.underlying56
 have HB:=Aside0.mk (Below.refl w.heap.size w)
 have H:((cmp_Compare_int64.f a0_0 a1_0).bind fun t275=>((cmp_Compare_int64.f a0_1 a1_1).bind fun t276=>((cmp_Or_int.f k (([t275,t276]:List Int))).bind fun t280=>(some t280))))=some r:=h
 clear h
 replace H:=Option.bind_eq_some_iff.mp H
 obtain ⟨t275,A30,H⟩:=H
 replace H:((cmp_Compare_int64.f a0_1 a1_1).bind fun t276=>((cmp_Or_int.f k (([t275,t276]:List Int))).bind fun t280=>(some t280)))=some r:=H
 have A3:=Aside0.mk A30
 clear A30
 replace H:=Option.bind_eq_some_iff.mp H
 obtain ⟨t276,A40,H⟩:=H
 replace H:((cmp_Or_int.f k (([t275,t276]:List Int))).bind fun t280=>(some t280))=some r:=H
 have A4:=Aside0.mk A40
 clear A40
 obtain ⟨y277,hy277⟩:∃ y_:List Int,y_=(([t275,t276]:List Int)):=⟨_,rfl⟩
 replace H:((cmp_Or_int.f k y277).bind fun t280=>(some t280))=some r:=by first | (rw [hy277];with_reducible exact H) | (have H2_:=(Option.bind_some _ _).symm.trans H;rw [hy277];with_reducible exact H2_) | (have H2_:=(Option.bind_some _ _).symm.trans H;with_reducible exact H2_) | with_reducible exact H | (rw [hy277];exact H) | exact H
 have Ny277:=Aside0.mk hy277
 clear hy277
 replace H:=Option.bind_eq_some_iff.mp H
 obtain ⟨t280,A50,H⟩:=H
 replace H:(some t280)=some r:=H
 have A5:=Aside0.mk A50
 clear A50
 obtain rfl:=Option.some.inj H
 go_enter Try.func90,Try.ntmps90
 try go_wp2_with (first | ((with_reducible refine gd_ 2 ?_);refine be_ 2 #[.int .i64 a0_0,.int .i64 a0_1] 56 ?_;intro gb273 hg w6 hbox hb;refine as4_ (below_step (z5_ HB.out) hb) (hbox) ((z7_ HB.out:w.heap.size≤gb273)) ((z7_ HB.out:w.heap.size≤gb273)) ?_;clear HB;intro HB BK273 GW273 GE273;clear hb hbox hg) | ((with_reducible refine gd_ 3 ?_);refine be_ 3 #[.int .i64 a1_0,.int .i64 a1_1] 56 ?_;intro gb274 hg w7 hbox hb;refine as7_ (blkB_ BK273.out hb) (below_step (z4_ HB.out GE273.out) hb) (hbox) ((z11_ HB.out GE273.out:w.heap.size≤gb274)) ((z11_ HB.out GE273.out:w.heap.size≤gb274)) (neL_ BK273.out hg) (neG_ BK273.out hg) ?_;clear BK273 HB;intro BK273 HB BK274 GW274 GE274 NB273_274 NB274_273;clear hb hbox hg))
 refine as3_ (blk_drew BK273.out) (blk_drew BK274.out) (below_drew1 HB.out) ?_
 clear BK273 BK274 HB
 intro BK273 BK274 HB
 refine start_ (n:=13) (S:=fun w'=>w'.cell? ⟨gb273,0,none⟩=some (.int .i64 a0_0)∧w'.cell? ⟨gb273,1,none⟩=some (.int .i64 a0_1)∧w'.cell? ⟨gb274,0,none⟩=some (.int .i64 a1_0)∧w'.cell? ⟨gb274,1,none⟩=some (.int .i64 a1_1)) (ds:=[]) #[O,O,O,O,O,O,O,O,O,O,O,O,O] (by kernel_rfl) rfl rfl (cj2_ BK273.out (cc2_ BK274.out)) (fun hHeld=>?_);refine with_tabW impl_compareDots.tab1 impl_compareDots.bits1 (fun HT_ HW_=>?_)
 generalize w7.drew=w8 at BK273 BK274 HB hHeld ⊢
 refine pu_ 0 5 #[I,O,O,O,O,O,O,O,O,O,O,O,O] HT_.out ?_
 refine pu_ 2 7 #[I,O,I,O,O,O,O,O,O,O,O,O,O] HT_.out ?_
 refine pu_ 5 10 #[I,O,I,O,O,I,O,O,O,O,O,O,O] HT_.out ?_
 refine pu_ 7 12 #[I,O,I,O,O,I,O,I,O,O,O,O,O] HT_.out ?_
 refine tk4_ 1 6 #[I,I,I,O,O,I,O,I,O,O,O,O,O] HT_.out HW_.out hHeld ?_
 refine tk4_ 3 8 #[I,I,I,I,O,I,O,I,O,O,O,O,O] HT_.out HW_.out hHeld ?_
 refine tk4_ 6 11 #[I,I,I,I,O,I,I,I,O,O,O,O,O] HT_.out HW_.out hHeld ?_
 refine tk4_ 8 13 #[I,I,I,I,O,I,I,I,I,O,O,O,O] HT_.out HW_.out hHeld ?_
 refine o1_ 4 9 #[I,I,I,I,I,I,I,I,I,O,O,O,O] HT_.out (fun K hK=>?_)
 refine gs_ Try.func109 #[.int .i64 a0_0,.int .i64 a1_0] ?_
 with_reducible refine (cmp_Compare_int64.calls a0_0 a1_0 t275 _ A3.out).mono ?_
 rintro e w' ⟨rfl,⟨nd,rfl⟩⟩
 refine ⟨_,rfl,?_⟩
 refine hK.out _ _ (cj2_ BK273.out (cc2_ BK274.out)) (fun hHeld=>?_)
 clear hK K
 refine nm_ 9 ?_
 refine o1_ 9 14 #[I,I,I,I,I,I,I,I,I,I,O,O,O] HT_.out (fun K hK=>?_)
 refine gs_ Try.func109 #[.int .i64 a0_1,.int .i64 a1_1] ?_
 with_reducible refine (cmp_Compare_int64.calls a0_1 a1_1 t276 _ A4.out).mono ?_
 rintro e w' ⟨rfl,⟨nd,rfl⟩⟩
 refine ⟨_,rfl,?_⟩
 refine hK.out _ _ (cj2_ BK273.out (cc2_ BK274.out)) (fun hHeld=>?_)
 clear hK K
 refine nm_ 14 ?_
 refine o1_ 10 15 #[I,I,I,I,I,I,I,I,I,I,I,O,O] HT_.out (fun K hK=>?_)
 refine Kd.R_lit_step (Kd.int .i64) _ 3 ?hg (N:=15) ?hd (xs:=([t275,t276]:List Int)) (inner:=[.int .i64 t275,.int .i64 t276]) (ok:=fun _=>True) (okp:=fun _=>True) ?hr ?hp (fun _ hk=>hk) trivial (Below.refl _ _) (Nat.le_refl _) (by simp) ?_;(case hd=>rfl);(case hg=>rfl);(case hr=>first | (go_simp;done) | (go_simp;rfl));(case hp=>exact (Reps.one (show Kd.M (Kd.int .i64) _ _ _ t275 [.int .i64 t275] from rfl) (Reps.one (show Kd.M (Kd.int .i64) _ _ _ t276 [.int .i64 t276] from rfl) (Reps.none _ _))))
 intro v278 w9 ho10 hb hg_ hnew_
 clear hg_ hnew_
 (first | rw [← Ny277.out] at ho10 | (simp only [Int.reduceToNat] at ho10;rw [← Ny277.out] at ho10))
 refine as4_ (Kd.R_lower ho10 (below_size (z6_ HB.out GE273.out GE274.out))) (blkB_ BK273.out hb) (blkB_ BK274.out hb) (below_step (z6_ HB.out GE273.out GE274.out) hb) ?_
 clear BK273 BK274 HB
 intro HO279 BK273 BK274 HB
 clear hb ho10
 obtain ⟨Ao11,co11,eo11⟩:=Kd.R_slice HO279.out
 (first | subst eo11 | (injection eo11 with f1_ f2_ f3_;have f4_:=f1_.symm;have f5_:=f3_.symm;clear f1_ f2_ f3_;subst f4_;subst f5_))
 refine hK.out _ _ (cj2_ BK273.out (cc2_ BK274.out)) (fun hHeld=>?_)
 clear hK K
 refine nm_ 15 ?_
 refine o1_ 11 16 #[I,I,I,I,I,I,I,I,I,I,I,I,O] HT_.out (fun K hK=>?_)
 refine gs_ Try.func108 #[.slice Ao11 y277.length co11] ?_
 with_reducible refine (cmp_Or_int.calls k _ _ y277 t280 _ ?s1 ?s2 A5.out).mono ?_
 (case s1=>repeat (first | exact (Kd.R_reads' HO279.out).2.2 | (with_reducible refine Kd.C_alloc ?_ _) | (with_reducible refine Kd.C_drewN ?_ _) | (with_reducible refine Kd.C_drew ?_)))
 (case s2=>exact (Kd.R_reads' HO279.out).2.1)
 rintro e w' ⟨rfl,⟨nd,rfl⟩⟩
 refine ⟨_,rfl,?_⟩
 refine hK.out _ _ (cj2_ BK273.out (cc2_ BK274.out)) (fun hHeld=>?_)
 clear hK K
 refine nm_ 16 ?_
 refine pu_ 12 4 #[I,I,I,I,I,I,I,I,I,I,I,I,I] HT_.out ?_
 refine done_ (done_of HT_.out (by kernel_rfl)) ?_
 try go_wp2
 go_ret
 exact ⟨z8_,z6_ HB.out GE273.out GE274.out⟩

end Go.Proofs.Ytphbgcfpcadabaa.P
