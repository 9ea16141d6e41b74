/- For every client and key the program's ClientSeen and the reference's return the same marks; the client stays as it was, and what is returned shares nothing with it nor with another answer. No condition. (Part 2 of 2: written by programs of this workplace and by hand, merged.) -/
import Derived.Laws.Cover1
import Derived.Test.YtlglglbjckpnbaaMFnExactClientSeena
import Derived.Lib.SliceRun
import Derived.Test.YtlglglbjckpnbaaMFnExactClientSeenWWords
import Derived.Test.YtlglglbjckpnbaaMFnExactClientSeenWMore
import Derived.Laws.BitsLemmas
import Derived.Test.YtlglglbjckpnbaaRows
import Derived.WalkKit
import Derived.ProofKit
import Derived.OpenShut
import Derived.ShutString
import Derived.ChangeOld
import Derived.Below
import Derived.SizedLaws
set_option linter.unusedVariables false
set_option linter.unusedSimpArgs false
set_option maxHeartbeats 8000000
set_option maxRecDepth 100000

namespace Go.Proofs.Ytlglglbjckpnbaa.P
open Go.RowKit Go.Proofs.YtlglglbjckpnbaaW.PrintWords Go.Proofs.YtlglglbjckpnbaaW.PrintLast Go.Proofs.YtlglglbjckpnbaaW.PrintMore
attribute [local go_sem] max2_int min2_int max_two min_two max_three min_three max_four min_four   -- for this text's walks alone
set_option linter.unusedVariables false
set_option linter.unusedSimpArgs false

/-! ### Y0: function 53 -/
mutual
def Y0.l0:Nat→List (S111)→Int→Int→List (S111)→Option (Bool)
 | 0,_,_,_,_=>none
 | k+1,x6,x7,x8,x773000=>if x8<x7 then (if 0≤x8 then (if x8<(x6.length:Int) then ((Y7.f k ((rd_T111 x6 x8).f0)).bind fun t775=>(if t775=true then (if (((rd_T111 x6 x8).f1).length:Int)=0 then (Y0.j1 k x6 x7 x8 true x773000) else ((Y4.f k ((rd_T111 x6 x8).f1)).bind fun t776=>(if t776=true then (if x8>0 then (if 0≤(wrap64 (x8-1)) then (if (wrap64 (x8-1))<(x773000.length:Int) then (Y0.j1 k x6 x7 x8 (!(Op.bytesLess (((rd_T111 x773000 (wrap64 (x8-1))).f0).toList) (((rd_T111 x6 x8).f0).toList))) x773000) else (none)) else (none)) else (Y0.j1 k x6 x7 x8 false x773000)) else (Y0.j1 k x6 x7 x8 true x773000)))) else (Y0.j1 k x6 x7 x8 true x773000))) else (none)) else (none)) else (some (decide ((x773000.length:Int)≤6)))
def Y0.j1:Nat→List (S111)→Int→Int→Bool→List (S111)→Option (Bool)
 | 0,_,_,_,_,_=>none
 | k+1,x6,x7,x8,x44,x773000=>if x44=true then (some false) else (Y0.l0 k x6 x7 (wrap64 (x8+1)) x773000)
end
def Y0.f (k:Nat) (l0_0:List (S111)):Option (Bool):=Y0.l0 k l0_0 (l0_0.length:Int) 0 l0_0
theorem Y0.mono_l:∀ k,(∀ y0 y1 y2 y3,LeO (Y0.l0 k y0 y1 y2 y3) (Y0.l0 (k+1) y0 y1 y2 y3))∧(∀ y0 y1 y2 y3 y4,LeO (Y0.j1 k y0 y1 y2 y3 y4) (Y0.j1 (k+1) y0 y1 y2 y3 y4))
 | 0=>by refine ⟨?_,?_⟩ <;> intros <;> exact LeO.none _
 | k+1=>by
  obtain ⟨ih0,ih1⟩:=Y0.mono_l k
  have m0:=@Y7.mono
  have m1:=@Y4.mono
  refine ⟨?_,?_⟩
  ·intros
   unfold Y0.l0
   exact mO
  ·intros
   unfold Y0.j1
   exact mO
theorem Y0.mono:∀ a0 k,LeO (Y0.f k a0) (Y0.f (k+1) a0):=by
 intro a0 k
 have m0:=@Y7.mono
 have m1:=@Y4.mono
 obtain ⟨ih0,ih1⟩:=Y0.mono_l k
 unfold Y0.f
 exact mO
def Y0.T4:Bool × List (List Nat × List Nat):=(true,[([],[]),([0],[0]),([1],[1]),([2],[2]),([3,2],[3]),([4],[4]),([5,4],[4,5]),([6,4],[4,6]),([7,4],[4,7]),([4,8],[4,8]),([9,4],[9]),([10],[10]),([11,10],[10,11]),([12,10,10],[10,12]),([13,10],[10,13]),([10,14],[10,14]),([15,13],[15]),([16],[16]),([17,16],[16,17]),([18,16,16],[16,18]),([19],[19]),([20,19],[19,20]),([19],[19]),([22,19],[19,22]),([21,23,19],[19,21,23]),([24,19],[19,24]),([25,19],[19,25]),([19],[19]),([27,19],[19,27]),([26,28,19],[19,26,28]),([19,29,16],[16,19,29]),([16,30],[16,30])])
def Y0.B4:List Nat:=[0,1,3,7,15,31,63,127,255,511,1023,2047,4095,8191,16383,32767,65535,131071,262143,524287,1048575,2097151,1048575,5242879,16777215,33554431,67108863,1048575,135266303,536870911,1073741823,2147483647]
theorem Y0.tab4:rtab .any (opsOf Try.f53 4)=Y0.T4:=by kernel_rfl
theorem Y0.bits4:waitsOk Y0.T4.2 Y0.B4=true:=by kernel_rfl
abbrev Y0.q0:Array Bool:=#[O,O,O,O,O,O,O,O,O,O,O,O,O,O,O,O,O,O,O,O,O,O,O,O,O,O,O,O,O,O,O,O]
abbrev Y0.q1:Array Bool:=#[I,O,O,O,O,O,O,O,O,O,O,O,O,O,O,O,O,O,O,O,O,O,O,O,O,O,O,O,O,O,O,O]
abbrev Y0.q2:Array Bool:=#[I,I,O,O,O,O,O,O,O,O,O,O,O,O,O,O,O,O,O,O,O,O,O,O,O,O,O,O,O,O,O,O]
abbrev Y0.q3:Array Bool:=#[I,I,I,O,O,O,O,O,O,O,O,O,O,O,O,O,O,O,O,O,O,O,O,O,O,O,O,O,O,O,O,O]
abbrev Y0.q4:Array Bool:=#[I,I,I,I,O,O,O,O,O,O,O,O,O,O,O,O,O,O,O,O,O,O,O,O,O,O,O,O,O,O,O,O]
abbrev Y0.q5:Array Bool:=#[I,I,I,I,I,O,O,O,O,O,O,O,O,O,O,O,O,O,O,O,O,O,O,O,O,O,O,O,O,O,O,O]
abbrev Y0.q6:Array Bool:=#[I,I,I,I,I,I,O,O,O,O,O,O,O,O,O,O,O,O,O,O,O,O,O,O,O,O,O,O,O,O,O,O]
abbrev Y0.q7:Array Bool:=#[I,I,I,I,I,I,I,O,O,O,O,O,O,O,O,O,O,O,O,O,O,O,O,O,O,O,O,O,O,O,O,O]
abbrev Y0.q8:Array Bool:=#[I,I,I,I,I,I,I,I,O,O,O,O,O,O,O,O,O,O,O,O,O,O,O,O,O,O,O,O,O,O,O,O]
abbrev Y0.q9:Array Bool:=#[I,I,I,I,I,I,I,I,I,O,O,O,O,O,O,O,O,O,O,O,O,O,O,O,O,O,O,O,O,O,O,O]
abbrev Y0.q10:Array Bool:=#[I,I,I,I,I,I,I,I,I,I,O,O,O,O,O,O,O,O,O,O,O,O,O,O,O,O,O,O,O,O,O,O]
abbrev Y0.q11:Array Bool:=#[I,I,I,I,I,I,I,I,I,I,I,O,O,O,O,O,O,O,O,O,O,O,O,O,O,O,O,O,O,O,O,O]
abbrev Y0.q12:Array Bool:=#[I,I,I,I,I,I,I,I,I,I,I,I,O,O,O,O,O,O,O,O,O,O,O,O,O,O,O,O,O,O,O,O]
abbrev Y0.q13:Array Bool:=#[I,I,I,I,I,I,I,I,I,I,I,I,I,O,O,O,O,O,O,O,O,O,O,O,O,O,O,O,O,O,O,O]
abbrev Y0.q14:Array Bool:=#[I,I,I,I,I,I,I,I,I,I,I,I,I,I,O,O,O,O,O,O,O,O,O,O,O,O,O,O,O,O,O,O]
abbrev Y0.q15:Array Bool:=#[I,I,I,I,I,I,I,I,I,I,I,I,I,I,I,O,O,O,O,O,O,O,O,O,O,O,O,O,O,O,O,O]
abbrev Y0.q16:Array Bool:=#[I,I,I,I,I,I,I,I,I,I,I,I,I,I,I,I,O,O,O,O,O,O,O,O,O,O,O,O,O,O,O,O]
abbrev Y0.q17:Array Bool:=#[I,I,I,I,I,I,I,I,I,I,I,I,I,I,I,I,I,O,O,O,O,O,O,O,O,O,O,O,O,O,O,O]
abbrev Y0.q18:Array Bool:=#[I,I,I,I,I,I,I,I,I,I,I,I,I,I,I,I,I,I,O,O,O,O,O,O,O,O,O,O,O,O,O,O]
abbrev Y0.q19:Array Bool:=#[I,I,I,I,I,I,I,I,I,I,I,I,I,I,I,I,I,I,I,O,O,O,O,O,O,O,O,O,O,O,O,O]
abbrev Y0.q20:Array Bool:=#[I,I,I,I,I,I,I,I,I,I,I,I,I,I,I,I,I,I,I,I,O,O,O,O,O,O,O,O,O,O,O,O]
abbrev Y0.q21:Array Bool:=#[I,I,I,I,I,I,I,I,I,I,I,I,I,I,I,I,I,I,I,I,I,O,O,O,O,O,O,O,O,O,O,O]
abbrev Y0.q22:Array Bool:=#[I,I,I,I,I,I,I,I,I,I,I,I,I,I,I,I,I,I,I,I,I,I,O,O,O,O,O,O,O,O,O,O]
abbrev Y0.q23:Array Bool:=#[I,I,I,I,I,I,I,I,I,I,I,I,I,I,I,I,I,I,I,I,I,I,I,O,O,O,O,O,O,O,O,O]
abbrev Y0.q24:Array Bool:=#[I,I,I,I,I,I,I,I,I,I,I,I,I,I,I,I,I,I,I,I,I,I,I,I,O,O,O,O,O,O,O,O]
abbrev Y0.q25:Array Bool:=#[I,I,I,I,I,I,I,I,I,I,I,I,I,I,I,I,I,I,I,I,I,I,I,I,I,O,O,O,O,O,O,O]
abbrev Y0.q26:Array Bool:=#[I,I,I,I,I,I,I,I,I,I,I,I,I,I,I,I,I,I,I,I,I,I,I,I,I,I,O,O,O,O,O,O]
abbrev Y0.q27:Array Bool:=#[I,I,I,I,I,I,I,I,I,I,I,I,I,I,I,I,I,I,I,I,I,I,I,I,I,I,I,O,O,O,O,O]
abbrev Y0.q28:Array Bool:=#[I,I,I,I,I,I,I,I,I,I,I,I,I,I,I,I,I,I,I,I,I,I,I,I,I,I,I,I,O,O,O,O]
abbrev Y0.q29:Array Bool:=#[I,I,I,I,I,I,I,I,I,I,I,I,I,I,I,I,I,I,I,I,I,I,I,I,I,I,I,I,I,O,O,O]
abbrev Y0.q30:Array Bool:=#[I,I,I,I,I,I,I,I,I,I,I,I,I,I,I,I,I,I,I,I,I,I,I,I,I,I,I,I,I,I,O,O]
abbrev Y0.q31:Array Bool:=#[I,I,I,I,I,I,I,I,I,I,I,I,I,I,I,I,I,I,I,I,I,I,I,I,I,I,I,I,I,I,I,O]
abbrev Y0.q32:Array Bool:=#[I,I,I,I,I,I,I,I,I,I,I,I,I,I,I,I,I,I,I,I,I,I,I,I,I,I,I,I,I,I,I,I]
theorem Y0.calls (k:Nat) (A0_0:Option Addr) (c0_0:Nat) (l0_0:List (S111)) (r:Bool) (w:World) (hr0_0:Kd.C k111 w A0_0 l0_0.length l0_0) (hc0_0:l0_0.length≤c0_0) (h:Y0.f k l0_0=some r) :
  Calls Try.prog 53 #[.agg #[.slice A0_0 l0_0.length c0_0]] w fun e w'=>e = .returned (.bool r)∧Below w.heap.size w w':=by
 have hu47:=Try.underlying47
 have hu111:=Try.underlying111
 have HR0_0:=aM hr0_0
 have HC0_0:=aM hc0_0
 clear hr0_0 hc0_0
 have HB:=aM (Below.refl w.heap.size w)
 have H:(Y0.l0 k l0_0 (l0_0.length:Int) 0 l0_0)=some r:=h
 clear h
 have H':=aM H
 clear H
 go_enter Try.func53,Try.ntmps53
 go_wp2_with (first | ((with_reducible refine gd_ 1 ?_);(try (refine gate_guard (by rfl) ?_;dsimp only));refine be_ 1 #[.slice A0_0 l0_0.length c0_0] 47 ?_;intro gb772 hg w2 hbox hb;have n0_:=aM (below_step (z2_ HB.out) hb);have n1_:=aM (hbox);have n2_:=aM ((z6_ HB.out:w.heap.size≤gb772));have n3_:=aM ((z6_ HB.out:w.heap.size≤gb772));clear HB;have HB:=n0_;have BK772:=n1_;have GW772:=n2_;have GE772:=n3_;clear n0_ n1_ n2_ n3_;clear hb hbox hg;have ⟨hcz3_0,hfz3_0⟩:=cz1_ BK772.out))
 go_loopg [8] k (fun kq v8 w'=>∃ (x8_1:Int),v8 = .int .i64 x8_1∧Aside0 (Y0.l0 kq l0_0 (l0_0.length:Int) x8_1 l0_0=some r)∧Aside0 (kq≤k)∧Aside0 (w'.heap[gb772]? = some (.cells #[(.slice A0_0 l0_0.length c0_0)] 47 (0,0)))∧Aside0 (Below w.heap.size w w'))
 case atStart=>exact ⟨(0),(z1_),H',⟨Nat.le_refl _⟩,⟨z10_ BK772.out⟩,⟨z3_ HB.out GE772.out⟩⟩
 case round =>
  clear H'
  try clear p2
  try clear hcz3_0
  try clear hfz3_0
  obtain ⟨x8_1,rfl,HA,HK1,BK772,HB⟩:=hrel
  cases gk with
  | zero=>exact absurd HA.out (by simp [Y0.l0])
  | succ k1 =>
   have H:=HA.out
   clear HA
   simp only [Y0.l0] at H
   by_cases c4:x8_1<(l0_0.length:Int)
   ·rw [if_pos c4] at H
    have c4b0:decide (x8_1<(l0_0.length:Int))=true:=dE c4
    clear c4
    by_cases c5:0≤x8_1
    ·rw [if_pos c5] at H
     have c5b0:decide (0≤x8_1)=true:=dE c5
     clear c5
     by_cases c6:x8_1<(l0_0.length:Int)
     ·rw [if_pos c6] at H
      have c6b0:decide (x8_1<(l0_0.length:Int))=true:=dE c6
      clear c6
      have HC7:=aM H
      clear H
      have p773:0≤(x8_1:Int):=dT (z0_)
      have q773:x8_1<(l0_0.length:Int):=dT (z0_)
      obtain ⟨ad773,A773_1,c773_1,e773,hx773_0,hx773_1,hl773_1,hi773_1⟩:=at_T111 HR0_0.out x8_1 p773 q773
      cases e773
      replace hx773_0:=(HB.out.cell (World.block_lt_of_cell? w _ hx773_0)).trans hx773_0
      replace hx773_1:=(HB.out.cell (World.block_lt_of_cell? w _ hx773_1)).trans hx773_1
      have HR773_1:=aM hi773_1
      have HC773_1:=aM hl773_1
      clear hi773_1 hl773_1
      replace p773:=eq_true p773
      replace q773:=eq_true q773
      go_upto_region 4 with (first | ((with_reducible refine gd_ 4 ?_);(try (refine gate_guard (by rfl) ?_;dsimp only));refine be_ 4 #[.string (⟨#[]⟩:ByteArray),.slice none 0 0] 111 ?_;intro gb774 hg w8 hbox hb;have n0_:=aM (blkB_ BK772.out hb);have n1_:=aM (below_step (z3_ HB.out GE772.out) hb);have n2_:=aM (hbox);have n3_:=aM ((z12_ HB.out GE772.out:w.heap.size≤gb774));have n4_:=aM ((z12_ HB.out GE772.out:w.heap.size≤gb774));have n5_:=aM (neL_ BK772.out hg);have n6_:=aM (neG_ BK772.out hg);clear BK772;clear HB;have BK772:=n0_;have HB:=n1_;have BK774:=n2_;have GW774:=n3_;have GE774:=n4_;have NB772_774:=n5_;have NB774_772:=n6_;clear n0_ n1_ n2_ n3_ n4_ n5_ n6_;clear hb hbox hg;have hnb9:=NB774_772.out;have hnc9:=NB772_774.out;have ⟨hcz10_0,hcz10_1,hfz10_0,hfz10_1⟩:=cz2_ BK774.out))
      (try simp only [Act.put,sa_,s0_,ss_])
      go_cut [44] (fun v44 wc=>∃ (kq:Nat) (x44_6:Bool),v44 = .bool x44_6∧Aside0 (Y0.j1 kq l0_0 (l0_0.length:Int) x8_1 x44_6 l0_0=some r)∧Aside0 (kq≤k1)∧Aside0 (wc.heap[gb772]? = some (.cells #[(.slice (some ad773) l0_0.length c0_0)] 47 (0,0)))∧Aside0 (wc.heap[gb774]? = some (.cells #[.string ((rd_T111 l0_0 x8_1).f0),(.slice A773_1 ((rd_T111 l0_0 x8_1).f1).length c773_1)] 111 (0,0)))∧Aside0 (Below w.heap.size w wc))
      case first =>
       have H:=HC7.out
       clear HC7
       replace H:=bS H
       obtain ⟨t775,A110,H⟩:=H
       replace H:(if t775=true then (if (((rd_T111 l0_0 x8_1).f1).length:Int)=0 then (Y0.j1 k1 l0_0 (l0_0.length:Int) x8_1 true l0_0) else ((Y4.f k1 ((rd_T111 l0_0 x8_1).f1)).bind fun t776=>(if t776=true then (if x8_1>0 then (if 0≤(wrap64 (x8_1-1)) then (if (wrap64 (x8_1-1))<(l0_0.length:Int) then (Y0.j1 k1 l0_0 (l0_0.length:Int) x8_1 (!(Op.bytesLess (((rd_T111 l0_0 (wrap64 (x8_1-1))).f0).toList) (((rd_T111 l0_0 x8_1).f0).toList))) l0_0) else (none)) else (none)) else (Y0.j1 k1 l0_0 (l0_0.length:Int) x8_1 false l0_0)) else (Y0.j1 k1 l0_0 (l0_0.length:Int) x8_1 true l0_0)))) else (Y0.j1 k1 l0_0 (l0_0.length:Int) x8_1 true l0_0))=some r:=H
       have A11:=aM A110
       clear A110
       by_cases c12:t775=true
       ·subst c12
        have H1:(if (((rd_T111 l0_0 x8_1).f1).length:Int)=0 then (Y0.j1 k1 l0_0 (l0_0.length:Int) x8_1 true l0_0) else ((Y4.f k1 ((rd_T111 l0_0 x8_1).f1)).bind fun t776=>(if t776=true then (if x8_1>0 then (if 0≤(wrap64 (x8_1-1)) then (if (wrap64 (x8_1-1))<(l0_0.length:Int) then (Y0.j1 k1 l0_0 (l0_0.length:Int) x8_1 (!(Op.bytesLess (((rd_T111 l0_0 (wrap64 (x8_1-1))).f0).toList) (((rd_T111 l0_0 x8_1).f0).toList))) l0_0) else (none)) else (none)) else (Y0.j1 k1 l0_0 (l0_0.length:Int) x8_1 false l0_0)) else (Y0.j1 k1 l0_0 (l0_0.length:Int) x8_1 true l0_0))))=some r:=by rw [if_pos rfl] at H;exact H
        clear H
        have H:=H1
        clear H1
        by_cases c13:(((rd_T111 l0_0 x8_1).f1).length:Int)=0
        ·rw [if_pos c13] at H
         have c13b0:((((rd_T111 l0_0 x8_1).f1).length:Int) == 0)=true:=beq_iff_eq.mpr c13
         have c13b1:((((rd_T111 l0_0 x8_1).f1).length:Int) != 0)=false:=bne_eq_false_iff_eq.mpr c13
         clear c13
         (first | rw [c13b0] | (simp only [i64_w,i32_w];rw [c13b0]) | skip)
         have H':=aM H
         clear H
         try go_wp2
         have n0_:Aside0 (((w8.setCell ⟨gb774,0,none⟩ (.string ((rd_T111 l0_0 x8_1).f0))).setCell ⟨gb774,1,none⟩ (.slice A773_1 ((rd_T111 l0_0 x8_1).f1).length c773_1)).heap[gb772]? = some (.cells #[.slice (some ad773) l0_0.length c0_0] 47 (0,0))):=⟨z15_ NB772_774.out BK772.out⟩
         have n1_:Aside0 (((w8.setCell ⟨gb774,0,none⟩ (.string ((rd_T111 l0_0 x8_1).f0))).setCell ⟨gb774,1,none⟩ (.slice A773_1 ((rd_T111 l0_0 x8_1).f1).length c773_1)).heap[gb774]? = some (.cells #[.string ((rd_T111 l0_0 x8_1).f0),.slice A773_1 ((rd_T111 l0_0 x8_1).f1).length c773_1] 111 (0,0))):=⟨z13_ BK774.out⟩
         have n2_:Aside0 (Below w.heap.size w ((w8.setCell ⟨gb774,0,none⟩ (.string ((rd_T111 l0_0 x8_1).f0))).setCell ⟨gb774,1,none⟩ (.slice A773_1 ((rd_T111 l0_0 x8_1).f1).length c773_1))):=⟨z5_ HB.out GE772.out GE774.out⟩
         (try clear BK772)
         (try clear BK774)
         (try clear HB)
         generalize ((w8.setCell ⟨gb774,0,none⟩ (.string ((rd_T111 l0_0 x8_1).f0))).setCell ⟨gb774,1,none⟩ (.slice A773_1 ((rd_T111 l0_0 x8_1).f1).length c773_1))=w14 at n0_ n1_ n2_ ⊢
         have BK772:=n0_
         have BK774:=n1_
         have HB:=n2_
         clear n0_ n1_ n2_
         have n0_:=aM (blk_drew BK772.out)
         have n1_:=aM (blk_drew BK774.out)
         have n2_:=aM (below_drew1 HB.out)
         clear BK772
         clear BK774
         clear HB
         have BK772:=n0_
         have BK774:=n1_
         have HB:=n2_
         clear n0_ n1_ n2_
         refine start_ (n:=32) (S:=fun w'=>w'.cell? ⟨gb774,0,none⟩=some (.string ((rd_T111 l0_0 x8_1).f0))∧w'.cell? ⟨gb774,1,none⟩=some (.slice A773_1 ((rd_T111 l0_0 x8_1).f1).length c773_1)) (ds:=[]) Y0.q0 (by kernel_rfl) rfl rfl (cc2_ BK774.out) (fun hHeld=>?_);refine with_tabW Y0.tab4 Y0.bits4 (fun HT_ HW_=>?_)
         generalize w14.drew=w15 at BK772 BK774 HB hHeld ⊢
         refine pu_ 0 13 Y0.q1 HT_.out ?_
         refine tk2_ 1 14 Y0.q2 HT_.out HW_.out hHeld ?_
         refine o1_ 2 15 Y0.q3 HT_.out (fun K hK=>?_)
         refine gs_ Try.func68 #[.string ((rd_T111 l0_0 x8_1).f0)] ?_
         with_reducible refine (Y7.calls k1 ((rd_T111 l0_0 x8_1).f0) true _ A11.out).mono ?_
         rintro e w' ⟨rfl,⟨nd,rfl⟩⟩
         refine ⟨_,rfl,?_⟩
         refine hK.out _ _ (cc2_ BK774.out) (fun hHeld=>?_)
         clear hK K
         refine nm_ 15 ?_
         refine pu_ 3 16 Y0.q4 HT_.out ?_
         refine pu_ 4 17 Y0.q5 HT_.out ?_
         refine pu_ 5 18 Y0.q6 HT_.out ?_
         refine tk2_ 6 19 Y0.q7 HT_.out HW_.out hHeld ?_
         refine pu_ 7 20 Y0.q8 HT_.out ?_
         refine pu_ 8 21 Y0.q9 HT_.out ?_
         refine pu_ 9 22 Y0.q10 HT_.out ?_
         refine pu_ 10 23 Y0.q11 HT_.out ?_
         refine pn_ 11 24 Y0.q12 HT_.out ?_
         refine pn_ 12 25 Y0.q13 HT_.out ?_
         refine pn_ 13 26 Y0.q14 HT_.out ?_
         refine pn_ 14 27 Y0.q15 HT_.out ?_
         refine pu_ 15 28 Y0.q16 HT_.out ?_
         refine pu_ 16 29 Y0.q17 HT_.out ?_
         refine pn_ 17 30 Y0.q18 HT_.out ?_
         refine pn_ 18 31 Y0.q19 HT_.out ?_
         refine pn_ 19 32 Y0.q20 HT_.out ?_
         refine pn_ 20 33 Y0.q21 HT_.out ?_
         refine pn_ 21 34 Y0.q22 HT_.out ?_
         refine pn_ 22 35 Y0.q23 HT_.out ?_
         refine pn_ 23 36 Y0.q24 HT_.out ?_
         refine pn_ 24 37 Y0.q25 HT_.out ?_
         refine pn_ 25 38 Y0.q26 HT_.out ?_
         refine pn_ 26 39 Y0.q27 HT_.out ?_
         refine pn_ 27 40 Y0.q28 HT_.out ?_
         refine pn_ 28 41 Y0.q29 HT_.out ?_
         refine pn_ 29 42 Y0.q30 HT_.out ?_
         refine pn_ 30 43 Y0.q31 HT_.out ?_
         refine pu_ 31 44 Y0.q32 HT_.out ?_
         refine done_ (done_of HT_.out (by kernel_rfl)) ?_
         try go_wp2
         go_meet
         case rel=>exact ⟨_,(true),(z1_),H',⟨z14_ HK1.out⟩,⟨z10_ BK772.out⟩,⟨z10_ BK774.out⟩,⟨z5_ HB.out GE772.out GE774.out⟩⟩
        ·rw [if_neg c13] at H
         have c13b0:((((rd_T111 l0_0 x8_1).f1).length:Int) == 0)=false:=beq_eq_false_iff_ne.mpr c13
         have c13b1:((((rd_T111 l0_0 x8_1).f1).length:Int) != 0)=true:=bne_iff_ne.mpr c13
         have c13b2:¬ (((rd_T111 l0_0 x8_1).f1)=[]):=fun h_=>c13 (by rw [h_];rfl)
         (first | rw [c13b0] | (simp only [i64_w,i32_w];rw [c13b0]) | skip)
         replace H:=bS H
         obtain ⟨t776,A160,H⟩:=H
         replace H:(if t776=true then (if x8_1>0 then (if 0≤(wrap64 (x8_1-1)) then (if (wrap64 (x8_1-1))<(l0_0.length:Int) then (Y0.j1 k1 l0_0 (l0_0.length:Int) x8_1 (!(Op.bytesLess (((rd_T111 l0_0 (wrap64 (x8_1-1))).f0).toList) (((rd_T111 l0_0 x8_1).f0).toList))) l0_0) else (none)) else (none)) else (Y0.j1 k1 l0_0 (l0_0.length:Int) x8_1 false l0_0)) else (Y0.j1 k1 l0_0 (l0_0.length:Int) x8_1 true l0_0))=some r:=H
         have A16:=aM A160
         clear A160
         by_cases c17:t776=true
         ·subst c17
          have H1:(if x8_1>0 then (if 0≤(wrap64 (x8_1-1)) then (if (wrap64 (x8_1-1))<(l0_0.length:Int) then (Y0.j1 k1 l0_0 (l0_0.length:Int) x8_1 (!(Op.bytesLess (((rd_T111 l0_0 (wrap64 (x8_1-1))).f0).toList) (((rd_T111 l0_0 x8_1).f0).toList))) l0_0) else (none)) else (none)) else (Y0.j1 k1 l0_0 (l0_0.length:Int) x8_1 false l0_0))=some r:=by rw [if_pos rfl] at H;exact H
          clear H
          have H:=H1
          clear H1
          by_cases c18:x8_1>0
          ·rw [if_pos c18] at H
           have c18b0:decide (0<x8_1)=true:=dE c18
           clear c18
           obtain ⟨ji19,hji19⟩:∃ j_:Int,(wrap64 (x8_1-1))=j_:=⟨_,rfl⟩
           replace H:(if 0≤(ji19) then (if (ji19)<(l0_0.length:Int) then (Y0.j1 k1 l0_0 (l0_0.length:Int) x8_1 (!(Op.bytesLess (((rd_T111 l0_0 (ji19)).f0).toList) (((rd_T111 l0_0 x8_1).f0).toList))) l0_0) else (none)) else (none))=some r:=by first | (rw [hji19] at H;exact H) | (simp only [hji19] at H ⊢;exact H)
           (try rw [hji19] at A11)
           (try rw [hji19] at A16)
           have hji19w:(IntKind.i64.wrap (x8_1-1))=ji19:=(i64_w _).trans hji19
           by_cases c20:0≤(ji19)
           ·rw [if_pos c20] at H
            have c20b0:decide (0≤(ji19))=true:=dE c20
            clear c20
            by_cases c21:(ji19)<(l0_0.length:Int)
            ·rw [if_pos c21] at H
             have c21b0:decide ((ji19)<(l0_0.length:Int))=true:=dE c21
             clear c21
             have H':=aM H
             clear H
             try go_wp2
             have n0_:Aside0 (((w8.setCell ⟨gb774,0,none⟩ (.string ((rd_T111 l0_0 x8_1).f0))).setCell ⟨gb774,1,none⟩ (.slice A773_1 ((rd_T111 l0_0 x8_1).f1).length c773_1)).heap[gb772]? = some (.cells #[.slice (some ad773) l0_0.length c0_0] 47 (0,0))):=⟨z15_ NB772_774.out BK772.out⟩
             have n1_:Aside0 (((w8.setCell ⟨gb774,0,none⟩ (.string ((rd_T111 l0_0 x8_1).f0))).setCell ⟨gb774,1,none⟩ (.slice A773_1 ((rd_T111 l0_0 x8_1).f1).length c773_1)).heap[gb774]? = some (.cells #[.string ((rd_T111 l0_0 x8_1).f0),.slice A773_1 ((rd_T111 l0_0 x8_1).f1).length c773_1] 111 (0,0))):=⟨z13_ BK774.out⟩
             have n2_:Aside0 (Below w.heap.size w ((w8.setCell ⟨gb774,0,none⟩ (.string ((rd_T111 l0_0 x8_1).f0))).setCell ⟨gb774,1,none⟩ (.slice A773_1 ((rd_T111 l0_0 x8_1).f1).length c773_1))):=⟨z5_ HB.out GE772.out GE774.out⟩
             (try clear BK772)
             (try clear BK774)
             (try clear HB)
             generalize ((w8.setCell ⟨gb774,0,none⟩ (.string ((rd_T111 l0_0 x8_1).f0))).setCell ⟨gb774,1,none⟩ (.slice A773_1 ((rd_T111 l0_0 x8_1).f1).length c773_1))=w22 at n0_ n1_ n2_ ⊢
             have BK772:=n0_
             have BK774:=n1_
             have HB:=n2_
             clear n0_ n1_ n2_
             have n0_:=aM (blk_drew BK772.out)
             have n1_:=aM (blk_drew BK774.out)
             have n2_:=aM (below_drew1 HB.out)
             clear BK772
             clear BK774
             clear HB
             have BK772:=n0_
             have BK774:=n1_
             have HB:=n2_
             clear n0_ n1_ n2_
             have p777:0≤((ji19):Int):=dT (z0_)
             have q777:(ji19)<(l0_0.length:Int):=dT (z0_)
             obtain ⟨ad777,A777_1,c777_1,e777,hx777_0,hx777_1,hl777_1,hi777_1⟩:=at_T111 HR0_0.out (ji19) p777 q777
             have hw777_1:=hx777_1
             have hw777_0:=hx777_0
             obtain rfl:ad773=ad777:=(by injection e777)
             replace hx777_0:=(HB.out.cell (World.block_lt_of_cell? w _ hx777_0)).trans hx777_0
             replace hx777_1:=(HB.out.cell (World.block_lt_of_cell? w _ hx777_1)).trans hx777_1
             have HR777_1:=aM hi777_1
             have HC777_1:=aM hl777_1
             clear hi777_1 hl777_1
             replace p777:=eq_true p777
             replace q777:=eq_true q777
             refine start_ (n:=32) (S:=fun w'=>w'.cell? ⟨gb774,0,none⟩=some (.string ((rd_T111 l0_0 x8_1).f0))∧w'.cell? ⟨gb774,1,none⟩=some (.slice A773_1 ((rd_T111 l0_0 x8_1).f1).length c773_1)∧w'.cell? ⟨gb772,0,none⟩=some (.slice (some ad773) l0_0.length c0_0)∧w'.cell? (ad773.add (((ji19)).toNat*2))=some (.string ((rd_T111 l0_0 (ji19)).f0))∧w'.cell? ⟨(ad773.add (((ji19)).toNat*2)).block,(ad773.add (((ji19)).toNat*2)).off+1,none⟩=some (.slice A777_1 ((rd_T111 l0_0 (ji19)).f1).length c777_1)) (ds:=[]) Y0.q0 (by kernel_rfl) rfl rfl (cj2_ BK774.out ⟨(blk_cell BK772.out 0).trans rfl,⟨((HB.out.cell (World.block_lt_of_cell? w _ hw777_0)).trans hw777_0),((HB.out.cell (World.block_lt_of_cell? w _ hw777_1)).trans hw777_1)⟩⟩) (fun hHeld=>?_);refine with_tabW Y0.tab4 Y0.bits4 (fun HT_ HW_=>?_)
             generalize w22.drew=w23 at BK772 BK774 HB HR777_1 hx777_0 hx777_1 hHeld ⊢
             refine pu_ 0 13 Y0.q1 HT_.out ?_
             refine tk5_ 1 14 Y0.q2 HT_.out HW_.out hHeld ?_
             refine o1_ 2 15 Y0.q3 HT_.out (fun K hK=>?_)
             refine gs_ Try.func68 #[.string ((rd_T111 l0_0 x8_1).f0)] ?_
             with_reducible refine (Y7.calls k1 ((rd_T111 l0_0 x8_1).f0) true _ A11.out).mono ?_
             rintro e w' ⟨rfl,⟨nd,rfl⟩⟩
             refine ⟨_,rfl,?_⟩
             refine hK.out _ _ (cj2_ BK774.out ⟨(blk_cell BK772.out 0).trans rfl,⟨((HB.out.cell (World.block_lt_of_cell? w _ hw777_0)).trans hw777_0),((HB.out.cell (World.block_lt_of_cell? w _ hw777_1)).trans hw777_1)⟩⟩) (fun hHeld=>?_)
             clear hK K
             refine nm_ 15 ?_
             refine pu_ 3 16 Y0.q4 HT_.out ?_
             refine pu_ 4 17 Y0.q5 HT_.out ?_
             refine pu_ 5 18 Y0.q6 HT_.out ?_
             refine tk5_ 6 19 Y0.q7 HT_.out HW_.out hHeld ?_
             refine pu_ 7 20 Y0.q8 HT_.out ?_
             refine pu_ 8 21 Y0.q9 HT_.out ?_
             refine pu_ 9 22 Y0.q10 HT_.out ?_
             refine pu_ 10 23 Y0.q11 HT_.out ?_
             refine pu_ 11 24 Y0.q12 HT_.out ?_
             refine tk5_ 12 25 Y0.q13 HT_.out HW_.out hHeld ?_
             refine o1_ 13 26 Y0.q14 HT_.out (fun K hK=>?_)
             refine gs_ Try.func69 #[.slice A773_1 ((rd_T111 l0_0 x8_1).f1).length c773_1] ?_
             with_reducible refine (Y4.calls k1 _ _ ((rd_T111 l0_0 x8_1).f1) true _ ?s1 ?s2 A16.out).mono ?_
             (case s1=>repeat (first | exact (Kd.C_below HR773_1.out (z5_ HB.out GE772.out GE774.out)) | (with_reducible refine Kd.C_alloc ?_ _) | (with_reducible refine Kd.C_drewN ?_ _) | (with_reducible refine Kd.C_drew ?_)))
             (case s2=>exact HC773_1.out)
             rintro e w24 ⟨rfl,hb⟩
             refine ⟨_,rfl,?_⟩
             have n0_:=aM (blkB_ BK772.out hb)
             have n1_:=aM (blkB_ BK774.out hb)
             have n2_:=aM (below_step (z5_ HB.out GE772.out GE774.out) hb)
             clear BK772
             clear BK774
             clear HB
             have BK772:=n0_
             have BK774:=n1_
             have HB:=n2_
             clear n0_ n1_ n2_
             (try clear hb)
             refine hK.out _ _ (cj2_ BK774.out ⟨(blk_cell BK772.out 0).trans rfl,⟨((HB.out.cell (World.block_lt_of_cell? w _ hw777_0)).trans hw777_0),((HB.out.cell (World.block_lt_of_cell? w _ hw777_1)).trans hw777_1)⟩⟩) (fun hHeld=>?_)
             clear hK K
             refine nm_ 26 ?_
             refine pu_ 14 27 Y0.q15 HT_.out ?_
             refine pu_ 15 28 Y0.q16 HT_.out ?_
             refine pu_ 16 29 Y0.q17 HT_.out ?_
             refine pu_ 17 30 Y0.q18 HT_.out ?_
             refine pu_ 18 31 Y0.q19 HT_.out ?_
             refine pu_ 19 32 Y0.q20 HT_.out ?_
             refine pu_ 20 33 Y0.q21 HT_.out ?_
             refine pu_ 22 35 #[I,I,I,I,I,I,I,I,I,I,I,I,I,I,I,I,I,I,I,I,I,O,I,O,O,O,O,O,O,O,O,O] HT_.out ?_
             refine pu_ 23 36 #[I,I,I,I,I,I,I,I,I,I,I,I,I,I,I,I,I,I,I,I,I,O,I,I,O,O,O,O,O,O,O,O] HT_.out ?_
             refine pu_ 27 40 #[I,I,I,I,I,I,I,I,I,I,I,I,I,I,I,I,I,I,I,I,I,O,I,I,O,O,O,I,O,O,O,O] HT_.out ?_
             refine tk5_ 21 34 #[I,I,I,I,I,I,I,I,I,I,I,I,I,I,I,I,I,I,I,I,I,I,I,I,O,O,O,I,O,O,O,O] HT_.out HW_.out hHeld ?_
             refine pu_ 24 37 #[I,I,I,I,I,I,I,I,I,I,I,I,I,I,I,I,I,I,I,I,I,I,I,I,I,O,O,I,O,O,O,O] HT_.out ?_
             refine pu_ 25 38 #[I,I,I,I,I,I,I,I,I,I,I,I,I,I,I,I,I,I,I,I,I,I,I,I,I,I,O,I,O,O,O,O] HT_.out ?_
             refine tk5_ 26 39 Y0.q28 HT_.out HW_.out hHeld ?_
             refine tk5_ 28 41 Y0.q29 HT_.out HW_.out hHeld ?_
             refine pu_ 29 42 Y0.q30 HT_.out ?_
             refine pu_ 30 43 Y0.q31 HT_.out ?_
             refine pu_ 31 44 Y0.q32 HT_.out ?_
             refine done_ (done_of HT_.out (by kernel_rfl)) ?_
             try go_wp2
             go_meet
             case rel=>exact ⟨_,(!(Op.bytesLess (((rd_T111 l0_0 (ji19)).f0).toList) (((rd_T111 l0_0 x8_1).f0).toList))),(by first | rfl | (simp;done) | (simp only [← hji19] <;> (first | rfl | simp)) | (simp [*];done)),H',⟨z14_ HK1.out⟩,⟨z10_ BK772.out⟩,⟨z10_ BK774.out⟩,⟨z5_ HB.out GE772.out GE774.out⟩⟩
            ·rw [if_neg c21] at H
             exact nO H
           ·rw [if_neg c20] at H
            exact nO H
          ·rw [if_neg c18] at H
           have c18b0:decide (0<x8_1)=false:=dF c18
           clear c18
           have H':=aM H
           clear H
           try go_wp2
           have n0_:Aside0 (((w8.setCell ⟨gb774,0,none⟩ (.string ((rd_T111 l0_0 x8_1).f0))).setCell ⟨gb774,1,none⟩ (.slice A773_1 ((rd_T111 l0_0 x8_1).f1).length c773_1)).heap[gb772]? = some (.cells #[.slice (some ad773) l0_0.length c0_0] 47 (0,0))):=⟨z15_ NB772_774.out BK772.out⟩
           have n1_:Aside0 (((w8.setCell ⟨gb774,0,none⟩ (.string ((rd_T111 l0_0 x8_1).f0))).setCell ⟨gb774,1,none⟩ (.slice A773_1 ((rd_T111 l0_0 x8_1).f1).length c773_1)).heap[gb774]? = some (.cells #[.string ((rd_T111 l0_0 x8_1).f0),.slice A773_1 ((rd_T111 l0_0 x8_1).f1).length c773_1] 111 (0,0))):=⟨z13_ BK774.out⟩
           have n2_:Aside0 (Below w.heap.size w ((w8.setCell ⟨gb774,0,none⟩ (.string ((rd_T111 l0_0 x8_1).f0))).setCell ⟨gb774,1,none⟩ (.slice A773_1 ((rd_T111 l0_0 x8_1).f1).length c773_1))):=⟨z5_ HB.out GE772.out GE774.out⟩
           (try clear BK772)
           (try clear BK774)
           (try clear HB)
           generalize ((w8.setCell ⟨gb774,0,none⟩ (.string ((rd_T111 l0_0 x8_1).f0))).setCell ⟨gb774,1,none⟩ (.slice A773_1 ((rd_T111 l0_0 x8_1).f1).length c773_1))=w25 at n0_ n1_ n2_ ⊢
           have BK772:=n0_
           have BK774:=n1_
           have HB:=n2_
           clear n0_ n1_ n2_
           have n0_:=aM (blk_drew BK772.out)
           have n1_:=aM (blk_drew BK774.out)
           have n2_:=aM (below_drew1 HB.out)
           clear BK772
           clear BK774
           clear HB
           have BK772:=n0_
           have BK774:=n1_
           have HB:=n2_
           clear n0_ n1_ n2_
           refine start_ (n:=32) (S:=fun w'=>w'.cell? ⟨gb774,0,none⟩=some (.string ((rd_T111 l0_0 x8_1).f0))∧w'.cell? ⟨gb774,1,none⟩=some (.slice A773_1 ((rd_T111 l0_0 x8_1).f1).length c773_1)) (ds:=[]) Y0.q0 (by kernel_rfl) rfl rfl (cc2_ BK774.out) (fun hHeld=>?_);refine with_tabW Y0.tab4 Y0.bits4 (fun HT_ HW_=>?_)
           generalize w25.drew=w26 at BK772 BK774 HB hHeld ⊢
           refine pu_ 0 13 Y0.q1 HT_.out ?_
           refine tk2_ 1 14 Y0.q2 HT_.out HW_.out hHeld ?_
           refine o1_ 2 15 Y0.q3 HT_.out (fun K hK=>?_)
           refine gs_ Try.func68 #[.string ((rd_T111 l0_0 x8_1).f0)] ?_
           with_reducible refine (Y7.calls k1 ((rd_T111 l0_0 x8_1).f0) true _ A11.out).mono ?_
           rintro e w' ⟨rfl,⟨nd,rfl⟩⟩
           refine ⟨_,rfl,?_⟩
           refine hK.out _ _ (cc2_ BK774.out) (fun hHeld=>?_)
           clear hK K
           refine nm_ 15 ?_
           refine pu_ 3 16 Y0.q4 HT_.out ?_
           refine pu_ 4 17 Y0.q5 HT_.out ?_
           refine pu_ 5 18 Y0.q6 HT_.out ?_
           refine tk2_ 6 19 Y0.q7 HT_.out HW_.out hHeld ?_
           refine pu_ 7 20 Y0.q8 HT_.out ?_
           refine pu_ 8 21 Y0.q9 HT_.out ?_
           refine pu_ 9 22 Y0.q10 HT_.out ?_
           refine pu_ 10 23 Y0.q11 HT_.out ?_
           refine pu_ 11 24 Y0.q12 HT_.out ?_
           refine tk2_ 12 25 Y0.q13 HT_.out HW_.out hHeld ?_
           refine o1_ 13 26 Y0.q14 HT_.out (fun K hK=>?_)
           refine gs_ Try.func69 #[.slice A773_1 ((rd_T111 l0_0 x8_1).f1).length c773_1] ?_
           with_reducible refine (Y4.calls k1 _ _ ((rd_T111 l0_0 x8_1).f1) true _ ?s1 ?s2 A16.out).mono ?_
           (case s1=>repeat (first | exact (Kd.C_below HR773_1.out (z5_ HB.out GE772.out GE774.out)) | (with_reducible refine Kd.C_alloc ?_ _) | (with_reducible refine Kd.C_drewN ?_ _) | (with_reducible refine Kd.C_drew ?_)))
           (case s2=>exact HC773_1.out)
           rintro e w27 ⟨rfl,hb⟩
           refine ⟨_,rfl,?_⟩
           have n0_:=aM (blkB_ BK772.out hb)
           have n1_:=aM (blkB_ BK774.out hb)
           have n2_:=aM (below_step (z5_ HB.out GE772.out GE774.out) hb)
           clear BK772
           clear BK774
           clear HB
           have BK772:=n0_
           have BK774:=n1_
           have HB:=n2_
           clear n0_ n1_ n2_
           (try clear hb)
           refine hK.out _ _ (cc2_ BK774.out) (fun hHeld=>?_)
           clear hK K
           refine nm_ 26 ?_
           refine pu_ 14 27 Y0.q15 HT_.out ?_
           refine pu_ 15 28 Y0.q16 HT_.out ?_
           refine pu_ 16 29 Y0.q17 HT_.out ?_
           refine pu_ 17 30 Y0.q18 HT_.out ?_
           refine pu_ 18 31 Y0.q19 HT_.out ?_
           refine pu_ 19 32 Y0.q20 HT_.out ?_
           refine pn_ 20 33 Y0.q21 HT_.out ?_
           refine pn_ 21 34 Y0.q22 HT_.out ?_
           refine pn_ 22 35 Y0.q23 HT_.out ?_
           refine pn_ 23 36 Y0.q24 HT_.out ?_
           refine pn_ 24 37 Y0.q25 HT_.out ?_
           refine pn_ 25 38 Y0.q26 HT_.out ?_
           refine pn_ 26 39 Y0.q27 HT_.out ?_
           refine pn_ 27 40 Y0.q28 HT_.out ?_
           refine pn_ 28 41 Y0.q29 HT_.out ?_
           refine pn_ 29 42 Y0.q30 HT_.out ?_
           refine pu_ 30 43 Y0.q31 HT_.out ?_
           refine pu_ 31 44 Y0.q32 HT_.out ?_
           refine done_ (done_of HT_.out (by kernel_rfl)) ?_
           try go_wp2
           go_meet
           case rel=>exact ⟨_,(false),(z1_),H',⟨z14_ HK1.out⟩,⟨z10_ BK772.out⟩,⟨z10_ BK774.out⟩,⟨z5_ HB.out GE772.out GE774.out⟩⟩
         ·replace c17:=Bool.eq_false_iff.mpr c17
          subst c17
          have H1:(Y0.j1 k1 l0_0 (l0_0.length:Int) x8_1 true l0_0)=some r:=by rw [if_neg (show ¬ (false=true) by decide)] at H;exact H
          clear H
          have H:=H1
          clear H1
          have H':=aM H
          clear H
          try go_wp2
          have n0_:Aside0 (((w8.setCell ⟨gb774,0,none⟩ (.string ((rd_T111 l0_0 x8_1).f0))).setCell ⟨gb774,1,none⟩ (.slice A773_1 ((rd_T111 l0_0 x8_1).f1).length c773_1)).heap[gb772]? = some (.cells #[.slice (some ad773) l0_0.length c0_0] 47 (0,0))):=⟨z15_ NB772_774.out BK772.out⟩
          have n1_:Aside0 (((w8.setCell ⟨gb774,0,none⟩ (.string ((rd_T111 l0_0 x8_1).f0))).setCell ⟨gb774,1,none⟩ (.slice A773_1 ((rd_T111 l0_0 x8_1).f1).length c773_1)).heap[gb774]? = some (.cells #[.string ((rd_T111 l0_0 x8_1).f0),.slice A773_1 ((rd_T111 l0_0 x8_1).f1).length c773_1] 111 (0,0))):=⟨z13_ BK774.out⟩
          have n2_:Aside0 (Below w.heap.size w ((w8.setCell ⟨gb774,0,none⟩ (.string ((rd_T111 l0_0 x8_1).f0))).setCell ⟨gb774,1,none⟩ (.slice A773_1 ((rd_T111 l0_0 x8_1).f1).length c773_1))):=⟨z5_ HB.out GE772.out GE774.out⟩
          (try clear BK772)
          (try clear BK774)
          (try clear HB)
          generalize ((w8.setCell ⟨gb774,0,none⟩ (.string ((rd_T111 l0_0 x8_1).f0))).setCell ⟨gb774,1,none⟩ (.slice A773_1 ((rd_T111 l0_0 x8_1).f1).length c773_1))=w28 at n0_ n1_ n2_ ⊢
          have BK772:=n0_
          have BK774:=n1_
          have HB:=n2_
          clear n0_ n1_ n2_
          have n0_:=aM (blk_drew BK772.out)
          have n1_:=aM (blk_drew BK774.out)
          have n2_:=aM (below_drew1 HB.out)
          clear BK772
          clear BK774
          clear HB
          have BK772:=n0_
          have BK774:=n1_
          have HB:=n2_
          clear n0_ n1_ n2_
          refine start_ (n:=32) (S:=fun w'=>w'.cell? ⟨gb774,0,none⟩=some (.string ((rd_T111 l0_0 x8_1).f0))∧w'.cell? ⟨gb774,1,none⟩=some (.slice A773_1 ((rd_T111 l0_0 x8_1).f1).length c773_1)) (ds:=[]) Y0.q0 (by kernel_rfl) rfl rfl (cc2_ BK774.out) (fun hHeld=>?_);refine with_tabW Y0.tab4 Y0.bits4 (fun HT_ HW_=>?_)
          generalize w28.drew=w29 at BK772 BK774 HB hHeld ⊢
          refine pu_ 0 13 Y0.q1 HT_.out ?_
          refine tk2_ 1 14 Y0.q2 HT_.out HW_.out hHeld ?_
          refine o1_ 2 15 Y0.q3 HT_.out (fun K hK=>?_)
          refine gs_ Try.func68 #[.string ((rd_T111 l0_0 x8_1).f0)] ?_
          with_reducible refine (Y7.calls k1 ((rd_T111 l0_0 x8_1).f0) true _ A11.out).mono ?_
          rintro e w' ⟨rfl,⟨nd,rfl⟩⟩
          refine ⟨_,rfl,?_⟩
          refine hK.out _ _ (cc2_ BK774.out) (fun hHeld=>?_)
          clear hK K
          refine nm_ 15 ?_
          refine pu_ 3 16 Y0.q4 HT_.out ?_
          refine pu_ 4 17 Y0.q5 HT_.out ?_
          refine pu_ 5 18 Y0.q6 HT_.out ?_
          refine tk2_ 6 19 Y0.q7 HT_.out HW_.out hHeld ?_
          refine pu_ 7 20 Y0.q8 HT_.out ?_
          refine pu_ 8 21 Y0.q9 HT_.out ?_
          refine pu_ 9 22 Y0.q10 HT_.out ?_
          refine pu_ 10 23 Y0.q11 HT_.out ?_
          refine pu_ 11 24 Y0.q12 HT_.out ?_
          refine tk2_ 12 25 Y0.q13 HT_.out HW_.out hHeld ?_
          refine o1_ 13 26 Y0.q14 HT_.out (fun K hK=>?_)
          refine gs_ Try.func69 #[.slice A773_1 ((rd_T111 l0_0 x8_1).f1).length c773_1] ?_
          with_reducible refine (Y4.calls k1 _ _ ((rd_T111 l0_0 x8_1).f1) false _ ?s1 ?s2 A16.out).mono ?_
          (case s1=>repeat (first | exact (Kd.C_below HR773_1.out (z5_ HB.out GE772.out GE774.out)) | (with_reducible refine Kd.C_alloc ?_ _) | (with_reducible refine Kd.C_drewN ?_ _) | (with_reducible refine Kd.C_drew ?_)))
          (case s2=>exact HC773_1.out)
          rintro e w30 ⟨rfl,hb⟩
          refine ⟨_,rfl,?_⟩
          have n0_:=aM (blkB_ BK772.out hb)
          have n1_:=aM (blkB_ BK774.out hb)
          have n2_:=aM (below_step (z5_ HB.out GE772.out GE774.out) hb)
          clear BK772
          clear BK774
          clear HB
          have BK772:=n0_
          have BK774:=n1_
          have HB:=n2_
          clear n0_ n1_ n2_
          (try clear hb)
          refine hK.out _ _ (cc2_ BK774.out) (fun hHeld=>?_)
          clear hK K
          refine nm_ 26 ?_
          refine pu_ 14 27 Y0.q15 HT_.out ?_
          refine pu_ 15 28 Y0.q16 HT_.out ?_
          refine pu_ 16 29 Y0.q17 HT_.out ?_
          refine pn_ 17 30 Y0.q18 HT_.out ?_
          refine pn_ 18 31 Y0.q19 HT_.out ?_
          refine pn_ 19 32 Y0.q20 HT_.out ?_
          refine pn_ 20 33 Y0.q21 HT_.out ?_
          refine pn_ 21 34 Y0.q22 HT_.out ?_
          refine pn_ 22 35 Y0.q23 HT_.out ?_
          refine pn_ 23 36 Y0.q24 HT_.out ?_
          refine pn_ 24 37 Y0.q25 HT_.out ?_
          refine pn_ 25 38 Y0.q26 HT_.out ?_
          refine pn_ 26 39 Y0.q27 HT_.out ?_
          refine pn_ 27 40 Y0.q28 HT_.out ?_
          refine pn_ 28 41 Y0.q29 HT_.out ?_
          refine pn_ 29 42 Y0.q30 HT_.out ?_
          refine pn_ 30 43 Y0.q31 HT_.out ?_
          refine pu_ 31 44 Y0.q32 HT_.out ?_
          refine done_ (done_of HT_.out (by kernel_rfl)) ?_
          try go_wp2
          go_meet
          case rel=>exact ⟨_,(true),(z1_),H',⟨z14_ HK1.out⟩,⟨z10_ BK772.out⟩,⟨z10_ BK774.out⟩,⟨z5_ HB.out GE772.out GE774.out⟩⟩
       ·replace c12:=Bool.eq_false_iff.mpr c12
        subst c12
        have H1:(Y0.j1 k1 l0_0 (l0_0.length:Int) x8_1 true l0_0)=some r:=by rw [if_neg (show ¬ (false=true) by decide)] at H;exact H
        clear H
        have H:=H1
        clear H1
        have H':=aM H
        clear H
        try go_wp2
        have n0_:Aside0 (((w8.setCell ⟨gb774,0,none⟩ (.string ((rd_T111 l0_0 x8_1).f0))).setCell ⟨gb774,1,none⟩ (.slice A773_1 ((rd_T111 l0_0 x8_1).f1).length c773_1)).heap[gb772]? = some (.cells #[.slice (some ad773) l0_0.length c0_0] 47 (0,0))):=⟨z15_ NB772_774.out BK772.out⟩
        have n1_:Aside0 (((w8.setCell ⟨gb774,0,none⟩ (.string ((rd_T111 l0_0 x8_1).f0))).setCell ⟨gb774,1,none⟩ (.slice A773_1 ((rd_T111 l0_0 x8_1).f1).length c773_1)).heap[gb774]? = some (.cells #[.string ((rd_T111 l0_0 x8_1).f0),.slice A773_1 ((rd_T111 l0_0 x8_1).f1).length c773_1] 111 (0,0))):=⟨z13_ BK774.out⟩
        have n2_:Aside0 (Below w.heap.size w ((w8.setCell ⟨gb774,0,none⟩ (.string ((rd_T111 l0_0 x8_1).f0))).setCell ⟨gb774,1,none⟩ (.slice A773_1 ((rd_T111 l0_0 x8_1).f1).length c773_1))):=⟨z5_ HB.out GE772.out GE774.out⟩
        (try clear BK772)
        (try clear BK774)
        (try clear HB)
        generalize ((w8.setCell ⟨gb774,0,none⟩ (.string ((rd_T111 l0_0 x8_1).f0))).setCell ⟨gb774,1,none⟩ (.slice A773_1 ((rd_T111 l0_0 x8_1).f1).length c773_1))=w31 at n0_ n1_ n2_ ⊢
        have BK772:=n0_
        have BK774:=n1_
        have HB:=n2_
        clear n0_ n1_ n2_
        have n0_:=aM (blk_drew BK772.out)
        have n1_:=aM (blk_drew BK774.out)
        have n2_:=aM (below_drew1 HB.out)
        clear BK772
        clear BK774
        clear HB
        have BK772:=n0_
        have BK774:=n1_
        have HB:=n2_
        clear n0_ n1_ n2_
        refine start_ (n:=32) (S:=fun w'=>w'.cell? ⟨gb774,0,none⟩=some (.string ((rd_T111 l0_0 x8_1).f0))∧w'.cell? ⟨gb774,1,none⟩=some (.slice A773_1 ((rd_T111 l0_0 x8_1).f1).length c773_1)) (ds:=[]) Y0.q0 (by kernel_rfl) rfl rfl (cc2_ BK774.out) (fun hHeld=>?_);refine with_tabW Y0.tab4 Y0.bits4 (fun HT_ HW_=>?_)
        generalize w31.drew=w32 at BK772 BK774 HB hHeld ⊢
        refine pu_ 0 13 Y0.q1 HT_.out ?_
        refine tk2_ 1 14 Y0.q2 HT_.out HW_.out hHeld ?_
        refine o1_ 2 15 Y0.q3 HT_.out (fun K hK=>?_)
        refine gs_ Try.func68 #[.string ((rd_T111 l0_0 x8_1).f0)] ?_
        with_reducible refine (Y7.calls k1 ((rd_T111 l0_0 x8_1).f0) false _ A11.out).mono ?_
        rintro e w' ⟨rfl,⟨nd,rfl⟩⟩
        refine ⟨_,rfl,?_⟩
        refine hK.out _ _ (cc2_ BK774.out) (fun hHeld=>?_)
        clear hK K
        refine nm_ 15 ?_
        refine pu_ 3 16 Y0.q4 HT_.out ?_
        refine pu_ 4 17 Y0.q5 HT_.out ?_
        refine pn_ 5 18 Y0.q6 HT_.out ?_
        refine pn_ 6 19 Y0.q7 HT_.out ?_
        refine pn_ 7 20 Y0.q8 HT_.out ?_
        refine pn_ 8 21 Y0.q9 HT_.out ?_
        refine pu_ 9 22 Y0.q10 HT_.out ?_
        refine pu_ 10 23 Y0.q11 HT_.out ?_
        refine pn_ 11 24 Y0.q12 HT_.out ?_
        refine pn_ 12 25 Y0.q13 HT_.out ?_
        refine pn_ 13 26 Y0.q14 HT_.out ?_
        refine pn_ 14 27 Y0.q15 HT_.out ?_
        refine pu_ 15 28 Y0.q16 HT_.out ?_
        refine pu_ 16 29 Y0.q17 HT_.out ?_
        refine pn_ 17 30 Y0.q18 HT_.out ?_
        refine pn_ 18 31 Y0.q19 HT_.out ?_
        refine pn_ 19 32 Y0.q20 HT_.out ?_
        refine pn_ 20 33 Y0.q21 HT_.out ?_
        refine pn_ 21 34 Y0.q22 HT_.out ?_
        refine pn_ 22 35 Y0.q23 HT_.out ?_
        refine pn_ 23 36 Y0.q24 HT_.out ?_
        refine pn_ 24 37 Y0.q25 HT_.out ?_
        refine pn_ 25 38 Y0.q26 HT_.out ?_
        refine pn_ 26 39 Y0.q27 HT_.out ?_
        refine pn_ 27 40 Y0.q28 HT_.out ?_
        refine pn_ 28 41 Y0.q29 HT_.out ?_
        refine pn_ 29 42 Y0.q30 HT_.out ?_
        refine pn_ 30 43 Y0.q31 HT_.out ?_
        refine pu_ 31 44 Y0.q32 HT_.out ?_
        refine done_ (done_of HT_.out (by kernel_rfl)) ?_
        try go_wp2
        go_meet
        case rel=>exact ⟨_,(true),(z1_),H',⟨z14_ HK1.out⟩,⟨z10_ BK772.out⟩,⟨z10_ BK774.out⟩,⟨z5_ HB.out GE772.out GE774.out⟩⟩
      case rest =>
       clear HC7
       try clear c1
       try clear p2
       try clear c6
       try clear c7
       try clear c12
       try clear c17
       obtain ⟨kq,x44_6,rfl,HA,HJ6,BK772,BK774,HB⟩:=hcut
       cases kq with
       | zero=>exact absurd HA.out (by simp [Y0.j1])
       | succ kj6 =>
        have H:=HA.out
        clear HA
        simp only [Y0.j1] at H
        by_cases c33:x44_6=true
        ·subst c33
         have H1:(some false)=some r:=by rw [if_pos rfl] at H;exact H
         clear H
         have H:=H1
         clear H1
         obtain rfl:=sI H
         go_wp2
         go_ret
         exact ⟨z7_,z5_ HB.out GE772.out GE774.out⟩
        ·replace c33:=Bool.eq_false_iff.mpr c33
         subst c33
         have H1:(Y0.l0 kj6 l0_0 (l0_0.length:Int) (wrap64 (x8_1+1)) l0_0)=some r:=by rw [if_neg (show ¬ (false=true) by decide)] at H;exact H
         clear H
         have H:=H1
         clear H1
         have H':=aM H
         clear H
         go_wp2
         go_roundg kj6
         case measure=>have:=HK1.out;have:=HJ6.out;omega
         case rel=>exact ⟨(wrap64 (x8_1+1)),(z1_),H',⟨z11_ HK1.out HJ6.out⟩,⟨z10_ BK772.out⟩,⟨z5_ HB.out GE772.out GE774.out⟩⟩
     ·rw [if_neg c6] at H
      exact nO H
    ·rw [if_neg c5] at H
     exact nO H
   ·rw [if_neg c4] at H
    have c4b0:decide (x8_1<(l0_0.length:Int))=false:=dF c4
    clear c4
    obtain rfl:=sI H
    have ⟨hcz34_0,hfz34_0⟩:=cz1_ BK772.out
    go_wp2
    go_ret
    exact ⟨z7_,z3_ HB.out GE772.out⟩


/-! ### Y24: function 54 -/
def Y24.f (l0:List (S30)):Option ((List (S30))):=(some (([]:List (S30)):List (S30))).bind fun y778=>(if y778.length+l0.length<8796093022208 then (some (y778 ++ l0)) else (none))
theorem Y24.calls (A0:Option Addr) (c0:Nat) (l0:List (S30)) (r:List (S30)) (w:World) (hr0:Kd.C k30 w A0 l0.length l0) (hc0:l0.length≤c0) (h:Y24.f l0=some r) :
  Calls Try.prog 54 #[.slice A0 l0.length c0] w fun e w'=>∃ v0_:Value,e = .returned (v0_)∧Kd.R k30 30 w' w.heap.size (fun _=>True) v0_ r∧Below w.heap.size w w':=by
 have q_:∀ (w:World) (a:Option Addr) (n c n' c':Nat),(binOp .eql 23 (.slice a n c) (.slice none n' c')).run Try.prog w = .ok (.bool a.isNone) w:=fun w a n c n' c'=>Lib.run_eql_slice_nil w _ _ a n c n' c' Try.underlying23
 by_cases hA0_:A0=none
 ·subst hA0_
  obtain rfl:l0=[]:=by
   cases l0 with
   | nil=>rfl
   | cons a_ t_=>obtain ⟨ad_,c_,e_,_⟩:=Kd.C_get hr0 a_ 0 (by decide) (by simp);cases e_
  obtain rfl:([]:List (S30))=r:=by simpa [Y24.f] using h
  clear h hr0
  go_enter Try.func54,Try.ntmps54
  go_wp2
  go_ret
  exact ⟨.slice none 0 0,rfl,Kd.R_nil _ _ _ _ _,Below.refl _ _⟩
 obtain ⟨A0,rfl⟩:=Option.ne_none_iff_exists'.1 hA0_
 clear hA0_
 have HR0:=aM hr0
 have HC0:=aM hc0
 clear hr0 hc0
 have HB:=aM (Below.refl w.heap.size w)
 have H:((some (([]:List (S30)):List (S30))).bind fun y778=>(if y778.length+l0.length<8796093022208 then (some (y778 ++ l0)) else (none)))=some r:=h
 clear h
 obtain ⟨y778,hy778⟩:∃ y_:List (S30),y_=(([]:List (S30))):=⟨_,rfl⟩
 replace H:(if y778.length+l0.length<8796093022208 then (some (y778 ++ l0)) else (none))=some r:=by first | (rw [hy778];with_reducible exact H) | (have H2_:=(Option.bind_some _ _).symm.trans H;rw [hy778];with_reducible exact H2_) | (have H2_:=(Option.bind_some _ _).symm.trans H;with_reducible exact H2_) | with_reducible exact H | (rw [hy778];exact H) | exact H
 have Ny778:=aM hy778
 clear hy778
 by_cases c2:y778.length+l0.length<8796093022208
 ·rw [if_pos c2] at H
  have LMc2:=aM c2
  clear c2
  obtain ⟨y781,hy781⟩:∃ y_:List (S30),y_=(y778 ++ l0):=⟨_,rfl⟩
  replace H:(some y781)=some r:=by first | (rw [hy781];with_reducible exact H) | (have H2_:=(Option.bind_some _ _).symm.trans H;rw [hy781];with_reducible exact H2_) | (have H2_:=(Option.bind_some _ _).symm.trans H;with_reducible exact H2_) | with_reducible exact H | (rw [hy781];exact H) | exact H
  have Ny781:=aM hy781
  clear hy781
  obtain rfl:=sI H
  go_enter Try.func54,Try.ntmps54
  go_wp2_with (first | ((with_reducible refine gd_ 5 ?_);refine Kd.R_lit k30 _ 30 ?hg (N:=5) ?hd (xs:=([]:List (S30))) (inner:=[]) (ok:=fun _=>True) (okp:=fun _=>True) ?hr ?hp (fun _ hk=>hk) trivial (Below.refl _ _) (Nat.le_refl _) (by simp) ?_;(case hd=>rfl);(case hg=>rfl);(case hr=>first | (go_simp;done) | (go_simp;rfl));(case hp=>exact (Reps.none _ _));intro v779 w3 ho4 hb hg_ hnew_;clear hg_ hnew_;(first | rw [← Ny778.out] at ho4 | (simp only [Int.reduceToNat] at ho4;rw [← Ny778.out] at ho4));have n0_:=aM (Kd.R_lower ho4 (below_size (z2_ HB.out)));have n1_:=aM (below_step (z2_ HB.out) hb);clear HB;have HO780:=n0_;have HB:=n1_;clear n0_ n1_;clear hb ho4) | ((with_reducible refine gate_builtin (b:=.append) (xs:=#[.tmp 5,.tmp 6]) rfl ?_);at_builtin;refine Kd.R_append_rows k30 (w0:=w) w.heap.size rfl (.tmp 5) (.tmp 6) 23 30 (.agg #[(.int .i64 0),(.int .i64 0)]) 16 rfl Try.underlying23 info30 rfl (by decide) (by omega) v779 y778 l0 _ _ _ (fun _=>True) (fun _=>False) rfl rfl ?aO ?aR (fun _ _ h=>h) (fun _ h=>h.elim) ?aF ?aB ?aS ?aL ?_;(case aR=>repeat (first | exact (Kd.C_below HR0.out HB.out) | (with_reducible refine Kd.C_alloc ?_ _) | (with_reducible refine Kd.C_drewN ?_ _) | (with_reducible refine Kd.C_drew ?_)));(case aB=>exact (z2_ HB.out));(case aF=>exact (fun _ _=>trivial));(case aO=>exact (z8_ HO780.out));(case aS=>exact (below_size (z2_ HB.out)));(case aL=>have:=LMc2.out;omega);intro v782 w5 ho hb hg hat;rw [← Ny781.out] at ho;have n0_:=aM (hb);have n1_:=aM (ho);clear HB;clear HO780;have HB:=n0_;have HO783:=n1_;clear n0_ n1_;clear ho hb hg hat))
  go_ret
  exact ⟨_,z7_,z8_ HO783.out,z2_ HB.out⟩
 ·rw [if_neg c2] at H
  exact nO H


/-! ### Y22: function 141 -/
def Y22.f (a0:ByteArray):Option (Bool):=some (a0.toList != a0.toList)
theorem Y22.calls (a0:ByteArray) (r:Bool) (w:World) (h:Y22.f a0=some r) :
  Calls Try.prog 141 #[.string a0] w fun e w'=>e = .returned (.bool r)∧Drawn0 w w':=by
 have H:(some (a0.toList != a0.toList))=some r:=h
 clear h
 obtain rfl:=sI H
 go_enter Try.func141,Try.ntmps141
 go_wp2
 go_ret
 exact ⟨z1_,z4_⟩


/-! ### Y31: function 124 -/
def Y31.f (a0:ByteArray) (a1:ByteArray):Option (Int):=(Y22.f a0).bind fun t758=>((Y22.f a1).bind fun t759=>(if t758=true then (if t759=true then (some 0) else (some (-1))) else (if t759=true then (some 1) else (if (Op.bytesLess a0.toList a1.toList)=true then (some (-1)) else (if (Op.bytesLess a1.toList a0.toList)=true then (some 1) else (some 0))))))
theorem bl_irr_:∀ l:List UInt8,Op.bytesLess l l=false
 | []=>rfl
 | a :: l=>by simp [Op.bytesLess,bl_irr_ l]
theorem bl_tot_:∀ a b:List UInt8,Op.bytesLess a b=false→Op.bytesLess b a=false→a=b
 | [],[],_,_=>rfl
 | [],_ :: _,h,_=>by simp [Op.bytesLess] at h
 | _ :: _,[],_,h=>by simp [Op.bytesLess] at h
 | a :: l,b :: s,h,h'=>by
  simp only [Op.bytesLess,Bool.or_eq_false_iff,Bool.and_eq_false_iff,decide_eq_false_iff_not,beq_eq_false_iff_ne] at h h'
  have e:a=b:=UInt8.le_antisymm (UInt8.not_lt.1 h'.1) (UInt8.not_lt.1 h.1)
  subst e
  rw [bl_tot_ l s (h.2.resolve_left (fun x=>x rfl)) (h'.2.resolve_left (fun x=>x rfl))]
theorem bl_ne_ {a b:List UInt8} (h:Op.bytesLess b a=true):(a == b)=false:=beq_eq_false_iff_ne.2 (fun e=>by rw [e,bl_irr_] at h;cases h)
theorem bl_eq_ {a b:List UInt8} (h:Op.bytesLess a b=false) (h':Op.bytesLess b a=false):(a == b)=true:=beq_iff_eq.2 (bl_tot_ a b h h')
theorem Y31.calls (a0:ByteArray) (a1:ByteArray) (r:Int) (w:World) (h:Y31.f a0 a1=some r) :
  Calls Try.prog 124 #[.string a0,.string a1] w fun e w'=>e = .returned (.int .i64 r)∧Drawn0 w w':=by
 have H:((Y22.f a0).bind fun t758=>((Y22.f a1).bind fun t759=>(if t758=true then (if t759=true then (some 0) else (some (-1))) else (if t759=true then (some 1) else (if (Op.bytesLess a0.toList a1.toList)=true then (some (-1)) else (if (Op.bytesLess a1.toList a0.toList)=true then (some 1) else (some 0)))))))=some r:=h
 clear h
 replace H:=bS H
 obtain ⟨t758,A30,H⟩:=H
 replace H:((Y22.f a1).bind fun t759=>(if t758=true then (if t759=true then (some 0) else (some (-1))) else (if t759=true then (some 1) else (if (Op.bytesLess a0.toList a1.toList)=true then (some (-1)) else (if (Op.bytesLess a1.toList a0.toList)=true then (some 1) else (some 0))))))=some r:=H
 have A3:=aM A30
 clear A30
 replace H:=bS H
 obtain ⟨t759,A40,H⟩:=H
 replace H:(if t758=true then (if t759=true then (some 0) else (some (-1))) else (if t759=true then (some 1) else (if (Op.bytesLess a0.toList a1.toList)=true then (some (-1)) else (if (Op.bytesLess a1.toList a0.toList)=true then (some 1) else (some 0)))))=some r:=H
 have A4:=aM A40
 clear A40
 by_cases c5:t758=true
 ·subst c5
  have H1:(if t759=true then (some 0) else (some (-1)))=some r:=by rw [if_pos rfl] at H;exact H
  clear H
  have H:=H1
  clear H1
  by_cases c6:t759=true
  ·subst c6
   have H1:(some 0)=some r:=by rw [if_pos rfl] at H;exact H
   clear H
   have H:=H1
   clear H1
   obtain rfl:=sI H
   go_enter Try.func124,Try.ntmps124
   go_wp2_with (first | ((with_reducible refine gc_ 141 ?_);refine gl_ (some 8) Try.func141 #[.string a0] ?_;(with_reducible refine (Y22.calls a0 true _ A3.out).mono ?_);rintro e w' ⟨rfl,⟨nd,rfl⟩⟩;refine ⟨_,rfl,?_⟩) | ((with_reducible refine gc_ 141 ?_);refine gl_ (some 10) Try.func141 #[.string a1] ?_;(with_reducible refine (Y22.calls a1 true _ A4.out).mono ?_);rintro e w' ⟨rfl,⟨nd,rfl⟩⟩;refine ⟨_,rfl,?_⟩))
   go_ret
   exact ⟨z1_,z4_⟩
  ·replace c6:=Bool.eq_false_iff.mpr c6
   subst c6
   have H1:(some (-1))=some r:=by rw [if_neg (show ¬ (false=true) by decide)] at H;exact H
   clear H
   have H:=H1
   clear H1
   obtain rfl:=sI H
   go_enter Try.func124,Try.ntmps124
   go_wp2_with (first | ((with_reducible refine gc_ 141 ?_);refine gl_ (some 8) Try.func141 #[.string a0] ?_;(with_reducible refine (Y22.calls a0 true _ A3.out).mono ?_);rintro e w' ⟨rfl,⟨nd,rfl⟩⟩;refine ⟨_,rfl,?_⟩) | ((with_reducible refine gc_ 141 ?_);refine gl_ (some 10) Try.func141 #[.string a1] ?_;(with_reducible refine (Y22.calls a1 false _ A4.out).mono ?_);rintro e w' ⟨rfl,⟨nd,rfl⟩⟩;refine ⟨_,rfl,?_⟩))
   go_ret
   exact ⟨z1_,z4_⟩
 ·replace c5:=Bool.eq_false_iff.mpr c5
  subst c5
  have H1:(if t759=true then (some 1) else (if (Op.bytesLess a0.toList a1.toList)=true then (some (-1)) else (if (Op.bytesLess a1.toList a0.toList)=true then (some 1) else (some 0))))=some r:=by rw [if_neg (show ¬ (false=true) by decide)] at H;exact H
  clear H
  have H:=H1
  clear H1
  by_cases c7:t759=true
  ·subst c7
   have H1:(some 1)=some r:=by rw [if_pos rfl] at H;exact H
   clear H
   have H:=H1
   clear H1
   obtain rfl:=sI H
   go_enter Try.func124,Try.ntmps124
   go_wp2_with (first | ((with_reducible refine gc_ 141 ?_);refine gl_ (some 8) Try.func141 #[.string a0] ?_;(with_reducible refine (Y22.calls a0 false _ A3.out).mono ?_);rintro e w' ⟨rfl,⟨nd,rfl⟩⟩;refine ⟨_,rfl,?_⟩) | ((with_reducible refine gc_ 141 ?_);refine gl_ (some 10) Try.func141 #[.string a1] ?_;(with_reducible refine (Y22.calls a1 true _ A4.out).mono ?_);rintro e w' ⟨rfl,⟨nd,rfl⟩⟩;refine ⟨_,rfl,?_⟩))
   go_ret
   exact ⟨z1_,z4_⟩
  ·replace c7:=Bool.eq_false_iff.mpr c7
   subst c7
   have H1:(if (Op.bytesLess a0.toList a1.toList)=true then (some (-1)) else (if (Op.bytesLess a1.toList a0.toList)=true then (some 1) else (some 0)))=some r:=by rw [if_neg (show ¬ (false=true) by decide)] at H;exact H
   clear H
   have H:=H1
   clear H1
   by_cases c8:(Op.bytesLess a0.toList a1.toList)=true
   ·rw [if_pos c8] at H
    have c8b0:(Op.bytesLess a0.toList a1.toList)=true:=c8
    clear c8
    obtain rfl:=sI H
    go_enter Try.func124,Try.ntmps124
    go_wp2_with (first | ((with_reducible refine gc_ 141 ?_);refine gl_ (some 8) Try.func141 #[.string a0] ?_;(with_reducible refine (Y22.calls a0 false _ A3.out).mono ?_);rintro e w' ⟨rfl,⟨nd,rfl⟩⟩;refine ⟨_,rfl,?_⟩) | ((with_reducible refine gc_ 141 ?_);refine gl_ (some 10) Try.func141 #[.string a1] ?_;(with_reducible refine (Y22.calls a1 false _ A4.out).mono ?_);rintro e w' ⟨rfl,⟨nd,rfl⟩⟩;refine ⟨_,rfl,?_⟩))
    go_ret
    exact ⟨z1_,z4_⟩
   ·rw [if_neg c8] at H
    have c8b0:(Op.bytesLess a0.toList a1.toList)=false:=by simpa using c8
    clear c8
    by_cases c9:(Op.bytesLess a1.toList a0.toList)=true
    ·rw [if_pos c9] at H
     have c9b0:(Op.bytesLess a1.toList a0.toList)=true:=c9
     have e_c9b0:=bl_ne_ c9b0
     clear c9
     obtain rfl:=sI H
     go_enter Try.func124,Try.ntmps124
     go_wp2_with (first | ((with_reducible refine gc_ 141 ?_);refine gl_ (some 8) Try.func141 #[.string a0] ?_;(with_reducible refine (Y22.calls a0 false _ A3.out).mono ?_);rintro e w' ⟨rfl,⟨nd,rfl⟩⟩;refine ⟨_,rfl,?_⟩) | ((with_reducible refine gc_ 141 ?_);refine gl_ (some 10) Try.func141 #[.string a1] ?_;(with_reducible refine (Y22.calls a1 false _ A4.out).mono ?_);rintro e w' ⟨rfl,⟨nd,rfl⟩⟩;refine ⟨_,rfl,?_⟩))
     go_ret
     exact ⟨z1_,z4_⟩
    ·rw [if_neg c9] at H
     have c9b0:(Op.bytesLess a1.toList a0.toList)=false:=by simpa using c9
     have e_c9b0:=bl_eq_ c8b0 c9b0
     clear c9
     obtain rfl:=sI H
     go_enter Try.func124,Try.ntmps124
     go_wp2_with (first | ((with_reducible refine gc_ 141 ?_);refine gl_ (some 8) Try.func141 #[.string a0] ?_;(with_reducible refine (Y22.calls a0 false _ A3.out).mono ?_);rintro e w' ⟨rfl,⟨nd,rfl⟩⟩;refine ⟨_,rfl,?_⟩) | ((with_reducible refine gc_ 141 ?_);refine gl_ (some 10) Try.func141 #[.string a1] ?_;(with_reducible refine (Y22.calls a1 false _ A4.out).mono ?_);rintro e w' ⟨rfl,⟨nd,rfl⟩⟩;refine ⟨_,rfl,?_⟩))
     go_ret
     exact ⟨z1_,z4_⟩


/-! ### Y28: function 123 -/
def Y28.f (a0_0:ByteArray) (l0_1:List (S30)) (a1:ByteArray):Option (Int):=(Y31.f a0_0 a1).bind fun t761=>(some t761)
theorem Y28.calls (a0_0:ByteArray) (A0_1:Option Addr) (c0_1:Nat) (l0_1:List (S30)) (a1:ByteArray) (r:Int) (w:World) (hr0_1:Kd.C k30 w A0_1 l0_1.length l0_1) (hc0_1:l0_1.length≤c0_1) (h:Y28.f a0_0 l0_1 a1=some r) :
  Calls Try.prog 123 #[.agg #[.string a0_0,.slice A0_1 l0_1.length c0_1],.string a1] w fun e w'=>e = .returned (.int .i64 r)∧Below w.heap.size w w':=by
 have hu111:=Try.underlying111
 have HR0_1:=aM hr0_1
 have HC0_1:=aM hc0_1
 clear hr0_1 hc0_1
 have HB:=aM (Below.refl w.heap.size w)
 have H:((Y31.f a0_0 a1).bind fun t761=>(some t761))=some r:=h
 clear h
 replace H:=bS H
 obtain ⟨t761,A30,H⟩:=H
 replace H:(some t761)=some r:=H
 have A3:=aM A30
 clear A30
 obtain rfl:=sI H
 go_enter Try.func123,Try.ntmps123
 go_wp2_with (first | ((with_reducible refine gd_ 2 ?_);refine be_ 2 #[.string a0_0,.slice A0_1 l0_1.length c0_1] 111 ?_;intro gb760 hg w4 hbox hb;have n0_:=aM (below_step (z2_ HB.out) hb);have n1_:=aM (hbox);have n2_:=aM ((z6_ HB.out:w.heap.size≤gb760));have n3_:=aM ((z6_ HB.out:w.heap.size≤gb760));clear HB;have HB:=n0_;have BK760:=n1_;have GW760:=n2_;have GE760:=n3_;clear n0_ n1_ n2_ n3_;clear hb hbox hg;have ⟨hcz5_0,hcz5_1,hfz5_0,hfz5_1⟩:=cz2_ BK760.out) | ((with_reducible refine gc_ 124 ?_);refine gl_ (some 8) Try.func124 #[.string a0_0,.string a1] ?_;(with_reducible refine (Y31.calls a0_0 a1 t761 _ A3.out).mono ?_);rintro e w' ⟨rfl,⟨nd,rfl⟩⟩;refine ⟨_,rfl,?_⟩))
 go_ret
 exact ⟨z7_,z3_ HB.out GE760.out⟩


/-! ### Y3: function 122 -/
def Y3.l0:Nat→List (S111)→ByteArray→Int→Int→Int→Option (Int × Bool)
 | 0,_,_,_,_,_=>none
 | k+1,x0,x1,x8,x9,x10=>if x9<x10 then (if 0≤(wrap64 ((IntKind.u64.wrap (wrap64 (x9+x10))) / 2)) then (if (wrap64 ((IntKind.u64.wrap (wrap64 (x9+x10))) / 2))<(x0.length:Int) then ((Y28.f ((rd_T111 x0 (wrap64 ((IntKind.u64.wrap (wrap64 (x9+x10))) / 2))).f0) ((rd_T111 x0 (wrap64 ((IntKind.u64.wrap (wrap64 (x9+x10))) / 2))).f1) x1).bind fun t765=>(if t765<0 then (Y3.l0 k x0 x1 x8 (wrap64 ((wrap64 ((IntKind.u64.wrap (wrap64 (x9+x10))) / 2))+1)) x10) else (Y3.l0 k x0 x1 x8 x9 (wrap64 ((IntKind.u64.wrap (wrap64 (x9+x10))) / 2))))) else (none)) else (none)) else (if x9<x8 then (if 0≤x9 then (if x9<(x0.length:Int) then ((Y28.f ((rd_T111 x0 x9).f0) ((rd_T111 x0 x9).f1) x1).bind fun t763=>(some (x9,(t763 == 0)))) else (none)) else (none)) else (some (x9,false)))
def Y3.f (k:Nat) (l0:List (S111)) (a1:ByteArray)  : Option (Int × Bool):=Y3.l0 k l0 a1 (l0.length:Int) 0 (l0.length:Int)
theorem Y3.mono_l:∀ k,(∀ y0 y1 y2 y3 y4,LeO (Y3.l0 k y0 y1 y2 y3 y4) (Y3.l0 (k+1) y0 y1 y2 y3 y4))
 | 0=>by intros <;> exact LeO.none _
 | k+1=>by
  have ih0:=Y3.mono_l k
  ·intros
   unfold Y3.l0
   exact mO
theorem Y3.mono:∀ a0 a1 k,LeO (Y3.f k a0 a1) (Y3.f (k+1) a0 a1):=by
 intro a0 a1 k
 have ih0:=Y3.mono_l k
 unfold Y3.f
 exact mO
theorem Y3.calls (k:Nat) (A0:Option Addr) (c0:Nat) (l0:List (S111)) (a1:ByteArray)  (r1:Int) (r2:Bool) (w:World) (hr0:Kd.C k111 w A0 l0.length l0) (hc0:l0.length≤c0) (h:Y3.f k l0 a1=some (r1,r2)) :
  Calls Try.prog 122 #[.slice A0 l0.length c0,.string a1,.func (.func 123) #[] #[]] w fun e w'=>e = .returned (.tuple #[.int .i64 r1,.bool r2])∧Below w.heap.size w w':=by
 have hu111:=Try.underlying111
 have HR0:=aM hr0
 have HC0:=aM hc0
 clear hr0 hc0
 have HB:=aM (Below.refl w.heap.size w)
 have H:(Y3.l0 k l0 a1 (l0.length:Int) 0 (l0.length:Int))=some (r1,r2):=h
 clear h
 have H':=aM H
 clear H
 go_enter Try.func122,Try.ntmps122
 go_wp2
 go_loopg [9,10] k (fun kq v9 v10 w'=>∃ (x9_1:Int) (x10_1:Int),v9 = .int .i64 x9_1∧v10 = .int .i64 x10_1∧Aside0 (Y3.l0 kq l0 a1 (l0.length:Int) x9_1 x10_1=some (r1,r2))∧Aside0 (kq≤k)∧Aside0 (Below w.heap.size w w'))
 case atStart=>exact ⟨(0),((l0.length:Int)),(z1_),(z1_),H',⟨Nat.le_refl _⟩,⟨z2_ HB.out⟩⟩
 case round =>
  clear H'
  try clear p2
  obtain ⟨x9_1,x10_1,rfl,rfl,HA,HK1,HB⟩:=hrel
  cases gk with
  | zero=>exact absurd HA.out (by simp [Y3.l0])
  | succ k1 =>
   have H:=HA.out
   clear HA
   simp only [Y3.l0] at H
   by_cases c4:x9_1<x10_1
   ·rw [if_pos c4] at H
    have c4b0:decide (x9_1<x10_1)=true:=dE c4
    clear c4
    obtain ⟨ji5,hji5⟩:∃ j_:Int,(wrap64 ((IntKind.u64.wrap (wrap64 (x9_1+x10_1))) / 2))=j_:=⟨_,rfl⟩
    replace H:(if 0≤(ji5) then (if (ji5)<(l0.length:Int) then ((Y28.f ((rd_T111 l0 (ji5)).f0) ((rd_T111 l0 (ji5)).f1) a1).bind fun t765=>(if t765<0 then (Y3.l0 k1 l0 a1 (l0.length:Int) (wrap64 ((ji5)+1)) x10_1) else (Y3.l0 k1 l0 a1 (l0.length:Int) x9_1 ji5))) else (none)) else (none))=some (r1,r2):=by first | (rw [hji5] at H;exact H) | (simp only [hji5] at H ⊢;exact H)
    have hji5w:(IntKind.i64.wrap ((IntKind.u64.wrap (wrap64 (x9_1+x10_1))) / 2))=ji5:=(i64_w _).trans hji5
    by_cases c6:0≤(ji5)
    ·rw [if_pos c6] at H
     have c6b0:decide (0≤(ji5))=true:=dE c6
     clear c6
     by_cases c7:(ji5)<(l0.length:Int)
     ·rw [if_pos c7] at H
      have c7b0:decide ((ji5)<(l0.length:Int))=true:=dE c7
      clear c7
      replace H:=bS H
      obtain ⟨t765,A80,H⟩:=H
      replace H:(if t765<0 then (Y3.l0 k1 l0 a1 (l0.length:Int) (wrap64 ((ji5)+1)) x10_1) else (Y3.l0 k1 l0 a1 (l0.length:Int) x9_1 ji5))=some (r1,r2):=H
      have A8:=aM A80
      clear A80
      by_cases c9:t765<0
      ·rw [if_pos c9] at H
       have c9b0:decide (t765<0)=true:=dE c9
       clear c9
       have H':=aM H
       clear H
       have p764:0≤((ji5):Int):=dT (z0_)
       have q764:(ji5)<(l0.length:Int):=dT (z0_)
       obtain ⟨ad764,A764_1,c764_1,e764,hx764_0,hx764_1,hl764_1,hi764_1⟩:=at_T111 HR0.out (ji5) p764 q764
       cases e764
       replace hx764_0:=(HB.out.cell (World.block_lt_of_cell? w _ hx764_0)).trans hx764_0
       replace hx764_1:=(HB.out.cell (World.block_lt_of_cell? w _ hx764_1)).trans hx764_1
       have HR764_1:=aM hi764_1
       have HC764_1:=aM hl764_1
       clear hi764_1 hl764_1
       replace p764:=eq_true p764
       replace q764:=eq_true q764
       go_wp2_with (first | (go_at_call 123;(with_reducible refine (Y28.calls ((rd_T111 l0 (ji5)).f0) _ _ ((rd_T111 l0 (ji5)).f1) a1 t765 _ ?s1 ?s2 A8.out).mono ?_);(case s1=>repeat (first | exact (Kd.C_below HR764_1.out HB.out) | (with_reducible refine Kd.C_alloc ?_ _) | (with_reducible refine Kd.C_drewN ?_ _) | (with_reducible refine Kd.C_drew ?_)));(case s2=>exact HC764_1.out);rintro e w10 ⟨rfl,hb⟩;have n0_:=aM (below_step (z2_ HB.out) hb);clear HB;have HB:=n0_;clear n0_;(try clear hb)))
       go_roundg k1
       case measure=>have:=HK1.out;omega
       case rel=>exact ⟨(wrap64 ((ji5)+1)),(x10_1),(by first | rfl | (simp;done) | (simp only [← hji5] <;> (first | rfl | simp)) | (simp [*];done)),(z1_),H',⟨by have:=HK1.out;omega⟩,⟨z2_ HB.out⟩⟩
      ·rw [if_neg c9] at H
       have c9b0:decide (t765<0)=false:=dF c9
       clear c9
       have H':=aM H
       clear H
       have p764:0≤((ji5):Int):=dT (z0_)
       have q764:(ji5)<(l0.length:Int):=dT (z0_)
       obtain ⟨ad764,A764_1,c764_1,e764,hx764_0,hx764_1,hl764_1,hi764_1⟩:=at_T111 HR0.out (ji5) p764 q764
       cases e764
       replace hx764_0:=(HB.out.cell (World.block_lt_of_cell? w _ hx764_0)).trans hx764_0
       replace hx764_1:=(HB.out.cell (World.block_lt_of_cell? w _ hx764_1)).trans hx764_1
       have HR764_1:=aM hi764_1
       have HC764_1:=aM hl764_1
       clear hi764_1 hl764_1
       replace p764:=eq_true p764
       replace q764:=eq_true q764
       go_wp2_with (first | (go_at_call 123;(with_reducible refine (Y28.calls ((rd_T111 l0 (ji5)).f0) _ _ ((rd_T111 l0 (ji5)).f1) a1 t765 _ ?s1 ?s2 A8.out).mono ?_);(case s1=>repeat (first | exact (Kd.C_below HR764_1.out HB.out) | (with_reducible refine Kd.C_alloc ?_ _) | (with_reducible refine Kd.C_drewN ?_ _) | (with_reducible refine Kd.C_drew ?_)));(case s2=>exact HC764_1.out);rintro e w11 ⟨rfl,hb⟩;have n0_:=aM (below_step (z2_ HB.out) hb);clear HB;have HB:=n0_;clear n0_;(try clear hb)))
       go_roundg k1
       case measure=>have:=HK1.out;omega
       case rel=>exact ⟨(x9_1),(ji5),(z1_),(by first | rfl | (simp;done) | (simp only [← hji5] <;> (first | rfl | simp)) | (simp [*];done)),H',⟨by have:=HK1.out;omega⟩,⟨z2_ HB.out⟩⟩
     ·rw [if_neg c7] at H
      exact nO H
    ·rw [if_neg c6] at H
     exact nO H
   ·rw [if_neg c4] at H
    have c4b0:decide (x9_1<x10_1)=false:=dF c4
    clear c4
    by_cases c12:x9_1<(l0.length:Int)
    ·rw [if_pos c12] at H
     have c12b0:decide (x9_1<(l0.length:Int))=true:=dE c12
     clear c12
     by_cases c13:0≤x9_1
     ·rw [if_pos c13] at H
      have c13b0:decide (0≤x9_1)=true:=dE c13
      clear c13
      by_cases c14:x9_1<(l0.length:Int)
      ·rw [if_pos c14] at H
       have c14b0:decide (x9_1<(l0.length:Int))=true:=dE c14
       clear c14
       replace H:=bS H
       obtain ⟨t763,A150,H⟩:=H
       replace H:(some (x9_1,(t763 == 0)))=some (r1,r2):=H
       have A15:=aM A150
       clear A150
       simp only [Option.some.injEq,Prod.mk.injEq] at H
       obtain ⟨rfl,rfl⟩:=H
       have p762:0≤(x9_1:Int):=dT (z0_)
       have q762:x9_1<(l0.length:Int):=dT (z0_)
       obtain ⟨ad762,A762_1,c762_1,e762,hx762_0,hx762_1,hl762_1,hi762_1⟩:=at_T111 HR0.out x9_1 p762 q762
       cases e762
       replace hx762_0:=(HB.out.cell (World.block_lt_of_cell? w _ hx762_0)).trans hx762_0
       replace hx762_1:=(HB.out.cell (World.block_lt_of_cell? w _ hx762_1)).trans hx762_1
       have HR762_1:=aM hi762_1
       have HC762_1:=aM hl762_1
       clear hi762_1 hl762_1
       replace p762:=eq_true p762
       replace q762:=eq_true q762
       go_wp2_with (first | (go_at_call 123;(with_reducible refine (Y28.calls ((rd_T111 l0 x9_1).f0) _ _ ((rd_T111 l0 x9_1).f1) a1 t763 _ ?s1 ?s2 A15.out).mono ?_);(case s1=>repeat (first | exact (Kd.C_below HR762_1.out HB.out) | (with_reducible refine Kd.C_alloc ?_ _) | (with_reducible refine Kd.C_drewN ?_ _) | (with_reducible refine Kd.C_drew ?_)));(case s2=>exact HC762_1.out);rintro e w16 ⟨rfl,hb⟩;have n0_:=aM (below_step (z2_ HB.out) hb);clear HB;have HB:=n0_;clear n0_;(try clear hb)))
       go_ret2
       exact ⟨z7_,z2_ HB.out⟩
      ·rw [if_neg c14] at H
       exact nO H
     ·rw [if_neg c13] at H
      exact nO H
    ·rw [if_neg c12] at H
     have c12b0:decide (x9_1<(l0.length:Int))=false:=dF c12
     clear c12
     simp only [Option.some.injEq,Prod.mk.injEq] at H
     obtain ⟨rfl,rfl⟩:=H
     go_wp2
     go_ret2
     exact ⟨z7_,z2_ HB.out⟩


/-! ### Y8: function 16 -/
/-! the key's place, and its marks: by hand -/
def impl_Client_seen.f (k:Nat) (l:List (S111)) (a1:ByteArray):Option (List (S30)):=(Y3.f k l a1).bind fun t=>if t.2=true then (if 0≤t.1 then (if t.1<(l.length:Int) then some ((rd_T111 l t.1).f1) else none) else none) else some ([]:List (S30))
theorem impl_Client_seen.mono:∀ a0 a1 k,LeO (impl_Client_seen.f k a0 a1) (impl_Client_seen.f (k+1) a0 a1):=by
 intro a0 a1 k
 have m0:=@Y3.mono
 unfold impl_Client_seen.f
 exact mO
set_option maxHeartbeats 4000000 in
theorem impl_Client_find.calls (k g:Nat) (A:Option Addr) (c:Nat) (l:List (S111)) (a1:ByteArray) (r1:Int) (r2:Bool) (w:World) (hb:w.heap[g]? = some (.cells #[.slice A l.length c] 47 (0,0))) (hr:Kd.C k111 w A l.length l) (hc:l.length≤c) (h:Y3.f k l a1=some (r1,r2)) :
  Calls Try.prog 101 #[.pointer (some ⟨g,0,none⟩),.string a1] w fun e w'=>e = .returned (.tuple #[.int .i64 r1,.bool r2])∧Below w.heap.size w w':=by
 have hu47:=Try.underlying47
 have HBK:=aM hb
 have HR:=aM hr
 have HC:=aM hc
 have HH:=aM h
 have hcz:w.cell? ⟨g,0,none⟩=some (.slice A l.length c):=(blk_cell hb 0).trans rfl
 have hfz:=blk_frozen hb 0
 clear hb hr hc h
 go_enter Try.func101,Try.ntmps101
 go_wp2_with (first | ((with_reducible refine gc_ 122 ?_);refine goesL_ (some 11) rfl rfl Try.func122 (by kernel_rfl) rfl #[.slice A l.length c,.string a1,.func (.func 123) #[] #[]] rfl (z17_) ?_;(with_reducible refine (Y3.calls k _ _ l a1 r1 r2 _ HR.out HC.out HH.out).mono ?_);rintro e w20 ⟨rfl,hb⟩;refine ⟨_,rfl,?_⟩))
 go_ret2
 exact ⟨rfl,hb⟩
set_option maxHeartbeats 4000000 in
theorem impl_Client_seen.calls (k g:Nat) (A:Option Addr) (c:Nat) (l:List (S111)) (a1:ByteArray) (r:List (S30)) (w:World) (hb:w.heap[g]? = some (.cells #[.slice A l.length c] 47 (0,0))) (hr:Kd.C k111 w A l.length l) (hc:l.length≤c) (h:impl_Client_seen.f k l a1=some r) :
  Calls Try.prog 55 #[.pointer (some ⟨g,0,none⟩),.string a1] w fun e w'=>∃ A' c',e = .returned (.slice A' r.length c')∧r.length≤c'∧Kd.C k30 w' A' r.length r∧Below w.heap.size w w':=by
 have hu47:=Try.underlying47
 have hu111:=Try.underlying111
 have HBK:=aM hb
 have HR:=aM hr
 have HC:=aM hc
 clear hb hr hc
 unfold impl_Client_seen.f at h
 obtain ⟨⟨r1,r2⟩,A1,h⟩:=Option.bind_eq_some_iff.mp h
 have HH:=aM A1
 clear A1
 cases r2 with
 | false =>
  have h2:=Option.some.inj ((if_neg (show ¬ (false=true) by decide)).symm.trans h)
  subst h2
  clear h
  go_enter Try.func55,Try.ntmps55
  go_wp2_with (first | ((with_reducible refine gc_ 101 ?_);refine goesL_ (some 10) rfl rfl Try.func101 (by kernel_rfl) rfl #[.pointer (some ⟨g,0,none⟩),.string a1] rfl (z17_) ?_;(with_reducible refine (impl_Client_find.calls k g _ _ l a1 r1 false _ HBK.out HR.out HC.out HH.out).mono ?_);rintro e w20 ⟨rfl,hb⟩;refine ⟨_,rfl,?_⟩))
  go_ret
  exact ⟨none,0,rfl,Nat.le_refl _,Kd.C_nil _ _,hb⟩
 | true =>
  have h2:(if 0≤r1 then (if r1<(l.length:Int) then some ((rd_T111 l r1).f1) else none) else none)=some r:=(if_pos rfl).symm.trans h
  clear h
  by_cases c1:0≤r1
  case neg=>rw [if_neg c1] at h2;cases h2
  rw [if_pos c1] at h2
  by_cases c2:r1<(l.length:Int)
  case neg=>rw [if_neg c2] at h2;cases h2
  rw [if_pos c2] at h2
  have h3:=Option.some.inj h2
  subst h3
  clear h2
  obtain ⟨ad,A1_,c1_,eA,hx0,hx1,hl1,hi1⟩:=at_T111 HR.out r1 c1 c2
  cases eA
  have HI:=aM hi1
  have HL:=aM hl1
  clear hi1 hl1
  have p1:=eq_true c1
  have q1:=eq_true c2
  go_enter Try.func55,Try.ntmps55
  go_wp2_with (first | ((with_reducible refine gc_ 101 ?_);refine goesL_ (some 10) rfl rfl Try.func101 (by kernel_rfl) rfl #[.pointer (some ⟨g,0,none⟩),.string a1] rfl (z17_) ?_;(with_reducible refine (impl_Client_find.calls k g _ _ l a1 r1 true _ HBK.out HR.out HC.out HH.out).mono ?_);rintro e w20 ⟨rfl,hb⟩;refine ⟨_,rfl,?_⟩;have hbk:=blk_below HBK.out hb;have hcz:w20.cell? ⟨g,0,none⟩=some (.slice (some ad) l.length c):=(blk_cell hbk 0).trans rfl;have hfz:=blk_frozen hbk 0;have hy0:=(hb.cell (World.block_lt_of_cell? w _ hx0)).trans hx0;have hy1:=(hb.cell (World.block_lt_of_cell? w _ hx1)).trans hx1;have HB2:=aM hb;clear hb hbk))
  go_ret
  exact ⟨_,_,rfl,HL.out,Kd.C_below HI.out HB2.out,HB2.out⟩
/-! ### Y8: function 16 -/
def Y8.j0:Nat→List (S111)→ByteArray→Bool→Option ((List (S30)))
 | 0,_,_,_=>none
 | k+1,x0,x1,x12=>if x12=true then (some ([]:List (S30))) else ((impl_Client_seen.f k x0 x1).bind fun t3_=>Y24.f t3_)
def Y8.f (k:Nat) (l0_0:List (S111)) (a1:ByteArray):Option ((List (S30))):=(Y30.f k (([a1]:List ByteArray))).bind fun t196=>(if t196=true then (Y8.j0 k l0_0 a1 true) else ((Y0.f k l0_0).bind fun t197=>(Y8.j0 k l0_0 a1 (!t197))))
theorem Y8.mono_l:∀ k,(∀ y0 y1 y2,LeO (Y8.j0 k y0 y1 y2) (Y8.j0 (k+1) y0 y1 y2))
 | 0=>by intros <;> exact LeO.none _
 | k+1=>by
  have ih0:=Y8.mono_l k
  have m0:=@impl_Client_seen.mono
  have m1:=@Y0.mono
  have m2:=@Y30.mono
  ·intros
   unfold Y8.j0
   exact mO
theorem Y8.mono:∀ a0 a1 k,LeO (Y8.f k a0 a1) (Y8.f (k+1) a0 a1):=by
 intro a0 a1 k
 have m0:=@impl_Client_seen.mono
 have m1:=@Y0.mono
 have m2:=@Y30.mono
 have ih0:=Y8.mono_l k
 unfold Y8.f
 exact mO
theorem Y8.calls (k:Nat) (A0_0:Option Addr) (c0_0:Nat) (l0_0:List (S111)) (a1:ByteArray) (r:List (S30)) (w:World) (hr0_0:Kd.C k111 w A0_0 l0_0.length l0_0) (hc0_0:l0_0.length≤c0_0) (h:Y8.f k l0_0 a1=some r) :
  Calls Try.prog 16 #[.agg #[.slice A0_0 l0_0.length c0_0],.string a1] w fun e w'=>∃ v0_:Value,e = .returned (v0_)∧Kd.R k30 30 w' w.heap.size (fun _=>True) v0_ r∧Below w.heap.size w w':=by
 have hu47:=Try.underlying47
 have HR0_0:=aM hr0_0
 have HC0_0:=aM hc0_0
 clear hr0_0 hc0_0
 have HB:=aM (Below.refl w.heap.size w)
 have H:((Y30.f k (([a1]:List ByteArray))).bind fun t196=>(if t196=true then (Y8.j0 k l0_0 a1 true) else ((Y0.f k l0_0).bind fun t197=>(Y8.j0 k l0_0 a1 (!t197)))))=some r:=h
 clear h
 have HC3:=aM H
 clear H
 go_enter Try.func16,Try.ntmps16
 go_upto_region 1 with (first | ((with_reducible refine gd_ 2 ?_);refine be_ 2 #[.slice A0_0 l0_0.length c0_0] 47 ?_;intro gb192 hg w4 hbox hb;have n0_:=aM (below_step (z2_ HB.out) hb);have n1_:=aM (hbox);have n2_:=aM ((z6_ HB.out:w.heap.size≤gb192));have n3_:=aM ((z6_ HB.out:w.heap.size≤gb192));clear HB;have HB:=n0_;have BK192:=n1_;have GW192:=n2_;have GE192:=n3_;clear n0_ n1_ n2_ n3_;clear hb hbox hg))
 (try simp only [Act.put,sa_,s0_,ss_])
 go_cut [12] (fun v12 wc=>∃ (kq:Nat) (x12_2:Bool),v12 = .bool x12_2∧Aside0 (Y8.j0 kq l0_0 a1 x12_2=some r)∧Aside0 (kq≤k)∧Aside0 (Kd.R k30 30 wc w.heap.size (fun _=>True) (.slice none 0 0) ([]:List (S30)))∧Aside0 (wc.heap[gb192]? = some (.cells #[(.slice A0_0 l0_0.length c0_0)] 47 (0,0)))∧Aside0 (Below w.heap.size w wc))
 case first =>
  have H:=HC3.out
  clear HC3
  obtain ⟨y193,hy193⟩:∃ y_:List ByteArray,y_=(([a1]:List ByteArray)):=⟨_,rfl⟩
  replace H:((Y30.f k y193).bind fun t196=>(if t196=true then (Y8.j0 k l0_0 a1 true) else ((Y0.f k l0_0).bind fun t197=>(Y8.j0 k l0_0 a1 (!t197)))))=some r:=by first | (rw [hy193];with_reducible exact H) | (have H2_:=(Option.bind_some _ _).symm.trans H;rw [hy193];with_reducible exact H2_) | (have H2_:=(Option.bind_some _ _).symm.trans H;with_reducible exact H2_) | with_reducible exact H | (rw [hy193];exact H) | exact H
  have Ny193:=aM hy193
  clear hy193
  replace H:=bS H
  obtain ⟨t196,A50,H⟩:=H
  replace H:(if t196=true then (Y8.j0 k l0_0 a1 true) else ((Y0.f k l0_0).bind fun t197=>(Y8.j0 k l0_0 a1 (!t197))))=some r:=H
  have A5:=aM A50
  clear A50
  by_cases c6:t196=true
  ·subst c6
   have H1:(Y8.j0 k l0_0 a1 true)=some r:=by rw [if_pos rfl] at H;exact H
   clear H
   have H:=H1
   clear H1
   have H':=aM H
   clear H
   go_wp2_with (first | ((with_reducible refine gd_ 6 ?_);refine Kd.R_lit Kd.string _ 9 ?hg (N:=6) ?hd (xs:=([a1]:List ByteArray)) (inner:=[.string a1]) (ok:=fun _=>True) (okp:=fun _=>True) ?hr ?hp (fun _ hk=>hk) trivial (Below.refl _ _) (Nat.le_refl _) (by simp) ?_;(case hd=>rfl);(case hg=>rfl);(case hr=>first | (go_simp;done) | (go_simp;rfl));(case hp=>exact (Reps.one (show Kd.M Kd.string _ _ _ a1 [.string a1] from rfl) (Reps.none _ _)));intro v194 w7 ho8 hb hg_ hnew_;clear hg_ hnew_;(first | rw [← Ny193.out] at ho8 | (simp only [Int.reduceToNat] at ho8;rw [← Ny193.out] at ho8));have n0_:=aM (Kd.R_lower ho8 (below_size (z3_ HB.out GE192.out)));have n1_:=aM (blkB_ BK192.out hb);have n2_:=aM (below_step (z3_ HB.out GE192.out) hb);clear BK192;clear HB;have HO195:=n0_;have BK192:=n1_;have HB:=n2_;clear n0_ n1_ n2_;clear hb ho8;obtain ⟨Ao9,co9,eo9⟩:=Kd.R_slice HO195.out;subst eo9) | ((with_reducible refine gc_ 52 ?_);refine gl_ (some 7) Try.func52 #[.slice Ao9 y193.length co9] ?_;(with_reducible refine (Y30.calls k _ _ y193 true _ ?s1 ?s2 A5.out).mono ?_);(case s1=>repeat (first | exact (Kd.R_reads' HO195.out).2.2 | (with_reducible refine Kd.C_alloc ?_ _) | (with_reducible refine Kd.C_drewN ?_ _) | (with_reducible refine Kd.C_drew ?_)));(case s2=>exact (Kd.R_reads' HO195.out).2.1);rintro e w' ⟨rfl,⟨nd,rfl⟩⟩;refine ⟨_,rfl,?_⟩))
   go_meet
   case rel=>exact ⟨_,(true),(z1_),H',⟨by first | omega | exact Nat.le_refl _⟩,⟨z23_⟩,⟨z10_ BK192.out⟩,⟨z3_ HB.out GE192.out⟩⟩
  ·replace c6:=Bool.eq_false_iff.mpr c6
   subst c6
   have H1:((Y0.f k l0_0).bind fun t197=>(Y8.j0 k l0_0 a1 (!t197)))=some r:=by rw [if_neg (show ¬ (false=true) by decide)] at H;exact H
   clear H
   have H:=H1
   clear H1
   replace H:=bS H
   obtain ⟨t197,A100,H⟩:=H
   replace H:(Y8.j0 k l0_0 a1 (!t197))=some r:=H
   have A10:=aM A100
   clear A100
   have H':=aM H
   clear H
   go_wp2_with (first | ((with_reducible refine gd_ 6 ?_);refine Kd.R_lit Kd.string _ 9 ?hg (N:=6) ?hd (xs:=([a1]:List ByteArray)) (inner:=[.string a1]) (ok:=fun _=>True) (okp:=fun _=>True) ?hr ?hp (fun _ hk=>hk) trivial (Below.refl _ _) (Nat.le_refl _) (by simp) ?_;(case hd=>rfl);(case hg=>rfl);(case hr=>first | (go_simp;done) | (go_simp;rfl));(case hp=>exact (Reps.one (show Kd.M Kd.string _ _ _ a1 [.string a1] from rfl) (Reps.none _ _)));intro v194 w11 ho12 hb hg_ hnew_;clear hg_ hnew_;(first | rw [← Ny193.out] at ho12 | (simp only [Int.reduceToNat] at ho12;rw [← Ny193.out] at ho12));have n0_:=aM (Kd.R_lower ho12 (below_size (z3_ HB.out GE192.out)));have n1_:=aM (blkB_ BK192.out hb);have n2_:=aM (below_step (z3_ HB.out GE192.out) hb);clear BK192;clear HB;have HO195:=n0_;have BK192:=n1_;have HB:=n2_;clear n0_ n1_ n2_;clear hb ho12;obtain ⟨Ao13,co13,eo13⟩:=Kd.R_slice HO195.out;subst eo13) | ((with_reducible refine gc_ 52 ?_);refine gl_ (some 7) Try.func52 #[.slice Ao13 y193.length co13] ?_;(with_reducible refine (Y30.calls k _ _ y193 false _ ?s1 ?s2 A5.out).mono ?_);(case s1=>repeat (first | exact (Kd.R_reads' HO195.out).2.2 | (with_reducible refine Kd.C_alloc ?_ _) | (with_reducible refine Kd.C_drewN ?_ _) | (with_reducible refine Kd.C_drew ?_)));(case s2=>exact (Kd.R_reads' HO195.out).2.1);rintro e w' ⟨rfl,⟨nd,rfl⟩⟩;refine ⟨_,rfl,?_⟩;have ⟨hcz14_0,hfz14_0⟩:=cz1_ BK192.out) | (go_at_call 53;(with_reducible refine (Y0.calls k _ _ l0_0 t197 _ ?s1 ?s2 A10.out).mono ?_);(case s1=>repeat (first | exact (Kd.C_below HR0_0.out (z3_ HB.out GE192.out)) | (with_reducible refine Kd.C_alloc ?_ _) | (with_reducible refine Kd.C_drewN ?_ _) | (with_reducible refine Kd.C_drew ?_)));(case s2=>exact HC0_0.out);rintro e w15 ⟨rfl,hb⟩;have n0_:=aM (Kd.R_below (z8_ HO195.out) hb);have n1_:=aM (blkB_ BK192.out hb);have n2_:=aM (below_step (z3_ HB.out GE192.out) hb);clear HO195;clear BK192;clear HB;have HO195:=n0_;have BK192:=n1_;have HB:=n2_;clear n0_ n1_ n2_;(try clear hb)))
   go_meet
   case rel=>exact ⟨_,(!t197),(z1_),H',⟨by first | omega | exact Nat.le_refl _⟩,⟨z23_⟩,⟨z10_ BK192.out⟩,⟨z3_ HB.out GE192.out⟩⟩
 case rest =>
  clear HC3
  try clear c1
  try clear p2
  try clear c5
  try clear c6
  try clear hcz14_0
  try clear hfz14_0
  obtain ⟨kq,x12_2,rfl,HA,HJ2,HO_4,BK192,HB⟩:=hcut
  cases kq with
  | zero=>exact absurd HA.out (by simp [Y8.j0])
  | succ kj2 =>
   have H:=HA.out
   clear HA
   simp only [Y8.j0] at H
   by_cases c16:x12_2=true
   ·subst c16
    have H1:(some ([]:List (S30)))=some r:=by rw [if_pos rfl] at H;exact H
    clear H
    have H:=H1
    clear H1
    obtain rfl:=sI H
    go_wp2
    go_ret
    exact ⟨_,z7_,z23_,z3_ HB.out GE192.out⟩
   ·replace c16:=Bool.eq_false_iff.mpr c16
    subst c16
    have H1:((impl_Client_seen.f kj2 l0_0 a1).bind fun t3_=>Y24.f t3_)=some r:=by rw [if_neg (show ¬ (false=true) by decide)] at H;exact H
    clear H
    obtain ⟨t3_,A30,A40⟩:=bS H1
    clear H1
    have A3:=aM A30
    have A4:=aM A40
    clear A30 A40
    go_wp2_with (first | ((with_reducible refine gc_ 55 ?_);refine goesL_ (some 14) rfl rfl Try.func55 (by kernel_rfl) rfl #[.pointer (some ⟨gb192,0,none⟩),.string a1] rfl (z17_) ?_;(with_reducible refine (impl_Client_seen.calls kj2 gb192 _ _ l0_0 a1 t3_ _ BK192.out (Kd.C_below HR0_0.out HB.out) HC0_0.out A3.out).mono ?_);rintro e w20 ⟨A5_,c5_,rfl,hl5,hC5,hb⟩;refine ⟨_,rfl,?_⟩;have HC5:=aM hC5;have HL5:=aM hl5;have n2_:=aM (below_step HB.out hb);clear HB BK192;have HB:=n2_;clear n2_ hb hC5 hl5) | ((with_reducible refine gc_ 54 ?_);refine goesL_ (some 15) rfl rfl Try.func54 (by kernel_rfl) rfl #[.slice A5_ t3_.length c5_] rfl (z17_) ?_;(with_reducible refine (Y24.calls _ _ t3_ r _ HC5.out HL5.out A4.out).mono ?_);rintro e w21 ⟨v21_,rfl,ho21,hb⟩;refine ⟨_,rfl,?_⟩;have HO21:=aM (Kd.R_lower ho21 (below_size HB.out));have n2_:=aM (below_step HB.out hb);clear HB;have HB:=n2_;clear n2_ hb ho21))
    go_ret
    exact ⟨_,by first | rfl | (simp;done),HO21.out,HB.out⟩



/-! ### Y43: function 56 -/
def Y43.f (a0_0:Int) (a0_1:Int) (a1_0:Int) (a1_1:Int):Option (Bool):=if a0_0=a1_0 then (if a0_1=a1_1 then (some true) else (none)) else (none)
theorem Y43.calls (a0_0:Int) (a0_1:Int) (a1_0:Int) (a1_1:Int) (r:Bool) (w:World) (h:Y43.f a0_0 a0_1 a1_0 a1_1=some r) :
  Calls Try.prog 56 #[.agg #[.int .i64 a0_0,.int .i64 a0_1],.agg #[.int .i64 a1_0,.int .i64 a1_1]] w fun e w'=>e = .returned (.bool r)∧Below w.heap.size w w':=by
 have hu30:=Try.underlying30
 have HB:=aM (Below.refl w.heap.size w)
 have H:(if a0_0=a1_0 then (if a0_1=a1_1 then (some true) else (none)) else (none))=some r:=h
 clear h
 by_cases c3:a0_0=a1_0
 ·rw [if_pos c3] at H
  have c3b0:(a0_0 == a1_0)=true:=beq_iff_eq.mpr c3
  have c3b1:(a0_0 != a1_0)=false:=bne_eq_false_iff_eq.mpr c3
  clear c3
  by_cases c4:a0_1=a1_1
  ·rw [if_pos c4] at H
   have c4b0:(a0_1 == a1_1)=true:=beq_iff_eq.mpr c4
   have c4b1:(a0_1 != a1_1)=false:=bne_eq_false_iff_eq.mpr c4
   clear c4
   obtain rfl:=sI H
   go_enter Try.func56,Try.ntmps56
   go_wp2_with (first | ((with_reducible refine gd_ 2 ?_);refine be_ 2 #[.int .i64 a0_0,.int .i64 a0_1] 30 ?_;intro gb784 hg w5 hbox hb;have n0_:=aM (below_step (z2_ HB.out) hb);have n1_:=aM (hbox);have n2_:=aM ((z6_ HB.out:w.heap.size≤gb784));have n3_:=aM ((z6_ HB.out:w.heap.size≤gb784));clear HB;have HB:=n0_;have BK784:=n1_;have GW784:=n2_;have GE784:=n3_;clear n0_ n1_ n2_ n3_;clear hb hbox hg) | ((with_reducible refine gd_ 3 ?_);refine be_ 3 #[.int .i64 a1_0,.int .i64 a1_1] 30 ?_;intro gb785 hg w6 hbox hb;have n0_:=aM (blkB_ BK784.out hb);have n1_:=aM (below_step (z3_ HB.out GE784.out) hb);have n2_:=aM (hbox);have n3_:=aM ((z12_ HB.out GE784.out:w.heap.size≤gb785));have n4_:=aM ((z12_ HB.out GE784.out:w.heap.size≤gb785));have n5_:=aM (neL_ BK784.out hg);have n6_:=aM (neG_ BK784.out hg);clear BK784;clear HB;have BK784:=n0_;have HB:=n1_;have BK785:=n2_;have GW785:=n3_;have GE785:=n4_;have NB784_785:=n5_;have NB785_784:=n6_;clear n0_ n1_ n2_ n3_ n4_ n5_ n6_;clear hb hbox hg;have hnb7:=NB784_785.out;have hnc7:=NB785_784.out;have ⟨hcz8_0,hcz8_1,hfz8_0,hfz8_1⟩:=cz2_ BK784.out;have ⟨hcz9_0,hcz9_1,hfz9_0,hfz9_1⟩:=cz2_ BK785.out))
   go_ret
   exact ⟨z7_,z5_ HB.out GE784.out GE785.out⟩
  ·rw [if_neg c4] at H
   exact nO H
 ·rw [if_neg c3] at H
  exact nO H


/-! ### Y6: function 17 -/
def Y6.l0:Nat→List (S30)→List (S30)→Int→Option (Bool)
 | 0,_,_,_=>none
 | k+1,x0,x1,x5=>if x5<(x0.length:Int) then (if 0≤x5 then (if x5<(x1.length:Int) then ((Y43.f ((rd_T30 x0 x5).f0) ((rd_T30 x0 x5).f1) ((rd_T30 x1 x5).f0) ((rd_T30 x1 x5).f1)).bind fun t788=>(if t788=true then (Y6.l0 k x0 x1 (wrap64 (x5+1))) else (none))) else (none)) else (none)) else (some true)
def Y6.f (k:Nat) (l0:List (S30)) (l1:List (S30)):Option (Bool):=if (l0.length:Int)=(l1.length:Int) then (Y6.l0 k l0 l1 0) else (none)
theorem Y6.mono_l:∀ k,(∀ y0 y1 y2,LeO (Y6.l0 k y0 y1 y2) (Y6.l0 (k+1) y0 y1 y2))
 | 0=>by intros <;> exact LeO.none _
 | k+1=>by
  have ih0:=Y6.mono_l k
  ·intros
   unfold Y6.l0
   exact mO
theorem Y6.mono:∀ a0 a1 k,LeO (Y6.f k a0 a1) (Y6.f (k+1) a0 a1):=by
 intro a0 a1 k
 have ih0:=Y6.mono_l k
 unfold Y6.f
 exact mO
def Y6.T6:Bool × List (List Nat × List Nat):=(true,[([],[]),([],[]),([0,1],[0,1]),([2],[2]),([],[]),([],[]),([4,5],[4,5]),([6],[6]),([3,7],[3,7]),([8],[8])])
def Y6.B6:List Nat:=[0,0,3,7,0,0,48,112,255,511]
theorem Y6.tab6:rtab .any (opsOf Try.f17 6)=Y6.T6:=by kernel_rfl
theorem Y6.bits6:waitsOk Y6.T6.2 Y6.B6=true:=by kernel_rfl
theorem Y6.calls (k:Nat) (A0:Option Addr) (c0:Nat) (l0:List (S30)) (A1:Option Addr) (c1:Nat) (l1:List (S30)) (r:Bool) (w:World) (hr0:Kd.C k30 w A0 l0.length l0) (hc0:l0.length≤c0) (hr1:Kd.C k30 w A1 l1.length l1) (hc1:l1.length≤c1) (h:Y6.f k l0 l1=some r) :
  Calls Try.prog 17 #[.slice A0 l0.length c0,.slice A1 l1.length c1] w fun e w'=>e = .returned (.bool r)∧Below w.heap.size w w':=by
 have hu30:=Try.underlying30
 have HR0:=aM hr0
 have HC0:=aM hc0
 clear hr0 hc0
 have HR1:=aM hr1
 have HC1:=aM hc1
 clear hr1 hc1
 have HB:=aM (Below.refl w.heap.size w)
 have H:(if (l0.length:Int)=(l1.length:Int) then (Y6.l0 k l0 l1 0) else (none))=some r:=h
 clear h
 by_cases c3:(l0.length:Int)=(l1.length:Int)
 ·rw [if_pos c3] at H
  have c3b0:((l0.length:Int) == (l1.length:Int))=true:=beq_iff_eq.mpr c3
  have c3b1:((l0.length:Int) != (l1.length:Int))=false:=bne_eq_false_iff_eq.mpr c3
  have c3b2:(l0.length == l1.length)=true:=by first | simpa using c3 | (simp at c3 ⊢;omega)
  clear c3
  have H':=aM H
  clear H
  go_enter Try.func17,Try.ntmps17
  go_wp2
  go_loopg [5] k (fun kq v5 w'=>∃ (x5_1:Int),v5 = .int .i64 x5_1∧Aside0 (Y6.l0 kq l0 l1 x5_1=some r)∧Aside0 (kq≤k)∧Aside0 (Below w.heap.size w w'))
  case atStart=>exact ⟨(0),(z1_),H',⟨Nat.le_refl _⟩,⟨z2_ HB.out⟩⟩
  case round =>
   clear H'
   try clear c1
   try clear p2
   try clear c3
   try clear c3b0
   try clear c3b1
   try clear c3b2
   obtain ⟨x5_1,rfl,HA,HK1,HB⟩:=hrel
   cases gk with
   | zero=>exact absurd HA.out (by simp [Y6.l0])
   | succ k1 =>
    have H:=HA.out
    clear HA
    simp only [Y6.l0] at H
    by_cases c4:x5_1<(l0.length:Int)
    ·rw [if_pos c4] at H
     have c4b0:decide (x5_1<(l0.length:Int))=true:=dE c4
     clear c4
     by_cases c5:0≤x5_1
     ·rw [if_pos c5] at H
      have c5b0:decide (0≤x5_1)=true:=dE c5
      clear c5
      by_cases c6:x5_1<(l1.length:Int)
      ·rw [if_pos c6] at H
       have c6b0:decide (x5_1<(l1.length:Int))=true:=dE c6
       clear c6
       replace H:=bS H
       obtain ⟨t788,A70,H⟩:=H
       replace H:(if t788=true then (Y6.l0 k1 l0 l1 (wrap64 (x5_1+1))) else (none))=some r:=H
       have A7:=aM A70
       clear A70
       by_cases c8:t788=true
       ·subst c8
        have H1:(Y6.l0 k1 l0 l1 (wrap64 (x5_1+1)))=some r:=by rw [if_pos rfl] at H;exact H
        clear H
        have H:=H1
        clear H1
        have H':=aM H
        clear H
        try go_wp2
        have n0_:=aM (below_drew1 HB.out)
        clear HB
        have HB:=n0_
        clear n0_
        have p786:0≤(x5_1:Int):=dT (z0_)
        have q786:x5_1<(l0.length:Int):=dT (z0_)
        obtain ⟨ad786,e786,hx786_0,hx786_1⟩:=at_T30 HR0.out x5_1 p786 q786
        have hw786_1:=hx786_1
        have hw786_0:=hx786_0
        cases e786
        replace hx786_0:=(HB.out.cell (World.block_lt_of_cell? w _ hx786_0)).trans hx786_0
        replace hx786_1:=(HB.out.cell (World.block_lt_of_cell? w _ hx786_1)).trans hx786_1
        replace p786:=eq_true p786
        replace q786:=eq_true q786
        have p787:0≤(x5_1:Int):=dT (z0_)
        have q787:x5_1<(l1.length:Int):=dT (z0_)
        obtain ⟨ad787,e787,hx787_0,hx787_1⟩:=at_T30 HR1.out x5_1 p787 q787
        have hw787_1:=hx787_1
        have hw787_0:=hx787_0
        cases e787
        replace hx787_0:=(HB.out.cell (World.block_lt_of_cell? w _ hx787_0)).trans hx787_0
        replace hx787_1:=(HB.out.cell (World.block_lt_of_cell? w _ hx787_1)).trans hx787_1
        replace p787:=eq_true p787
        replace q787:=eq_true q787
        refine start_ (n:=10) (S:=fun w'=>w'.cell? (ad786.add ((x5_1).toNat*2))=some (.int .i64 ((rd_T30 l0 x5_1).f0))∧w'.cell? ⟨(ad786.add ((x5_1).toNat*2)).block,(ad786.add ((x5_1).toNat*2)).off+1,none⟩=some (.int .i64 ((rd_T30 l0 x5_1).f1))∧w'.cell? (ad787.add ((x5_1).toNat*2))=some (.int .i64 ((rd_T30 l1 x5_1).f0))∧w'.cell? ⟨(ad787.add ((x5_1).toNat*2)).block,(ad787.add ((x5_1).toNat*2)).off+1,none⟩=some (.int .i64 ((rd_T30 l1 x5_1).f1))) (ds:=[]) #[O,O,O,O,O,O,O,O,O,O] (by kernel_rfl) rfl rfl ⟨((HB.out.cell (World.block_lt_of_cell? w _ hw786_0)).trans hw786_0),((HB.out.cell (World.block_lt_of_cell? w _ hw786_1)).trans hw786_1),((HB.out.cell (World.block_lt_of_cell? w _ hw787_0)).trans hw787_0),((HB.out.cell (World.block_lt_of_cell? w _ hw787_1)).trans hw787_1)⟩ (fun hHeld=>?_);refine with_tabW Y6.tab6 Y6.bits6 (fun HT_ HW_=>?_)
        generalize wr.drew=w9 at HB hx786_0 hx786_1 hx787_0 hx787_1 hHeld ⊢
        refine pu_ 0 17 #[I,O,O,O,O,O,O,O,O,O] HT_.out ?_
        refine pu_ 1 18 #[I,I,O,O,O,O,O,O,O,O] HT_.out ?_
        refine pu_ 2 19 #[I,I,I,O,O,O,O,O,O,O] HT_.out ?_
        refine pu_ 4 21 #[I,I,I,O,I,O,O,O,O,O] HT_.out ?_
        refine pu_ 5 22 #[I,I,I,O,I,I,O,O,O,O] HT_.out ?_
        refine pu_ 6 23 #[I,I,I,O,I,I,I,O,O,O] HT_.out ?_
        refine tk4_ 3 20 #[I,I,I,I,I,I,I,O,O,O] HT_.out HW_.out hHeld ?_
        refine tk4_ 7 24 #[I,I,I,I,I,I,I,I,O,O] HT_.out HW_.out hHeld ?_
        refine o1_ 8 25 #[I,I,I,I,I,I,I,I,I,O] HT_.out (fun K hK=>?_)
        refine gs_ Try.func56 #[.agg #[.int .i64 ((rd_T30 l0 x5_1).f0),.int .i64 ((rd_T30 l0 x5_1).f1)],.agg #[.int .i64 ((rd_T30 l1 x5_1).f0),.int .i64 ((rd_T30 l1 x5_1).f1)]] ?_
        with_reducible refine (Y43.calls ((rd_T30 l0 x5_1).f0) ((rd_T30 l0 x5_1).f1) ((rd_T30 l1 x5_1).f0) ((rd_T30 l1 x5_1).f1) true _ A7.out).mono ?_
        rintro e w10 ⟨rfl,hb⟩
        refine ⟨_,rfl,?_⟩
        have n0_:=aM (below_step (z2_ HB.out) hb)
        clear HB
        have HB:=n0_
        clear n0_
        (try clear hb)
        refine hK.out _ _ ⟨((HB.out.cell (World.block_lt_of_cell? w _ hw786_0)).trans hw786_0),((HB.out.cell (World.block_lt_of_cell? w _ hw786_1)).trans hw786_1),((HB.out.cell (World.block_lt_of_cell? w _ hw787_0)).trans hw787_0),((HB.out.cell (World.block_lt_of_cell? w _ hw787_1)).trans hw787_1)⟩ (fun hHeld=>?_)
        clear hK K
        refine nm_ 25 ?_
        refine pu_ 9 26 #[I,I,I,I,I,I,I,I,I,I] HT_.out ?_
        refine done_ (done_of HT_.out (by kernel_rfl)) ?_
        try go_wp2
        go_roundg k1
        case measure=>have:=HK1.out;omega
        case rel=>exact ⟨(wrap64 (x5_1+1)),(z1_),H',⟨by have:=HK1.out;omega⟩,⟨z2_ HB.out⟩⟩
       ·replace c8:=Bool.eq_false_iff.mpr c8
        subst c8
        have H1:(none)=some r:=by rw [if_neg (show ¬ (false=true) by decide)] at H;exact H
        clear H
        have H:=H1
        clear H1
        exact nO H
      ·rw [if_neg c6] at H
       exact nO H
     ·rw [if_neg c5] at H
      exact nO H
    ·rw [if_neg c4] at H
     have c4b0:decide (x5_1<(l0.length:Int))=false:=dF c4
     clear c4
     obtain rfl:=sI H
     go_wp2
     go_ret
     exact ⟨z7_,z2_ HB.out⟩
 ·rw [if_neg c3] at H
  exact nO H


/-! ### Y33: function 102 -/
def Y33.f (k:Nat) (a0_0:ByteArray) (l0_1:List (S30)) (a1_0:ByteArray) (l1_1:List (S30)):Option (Bool):=if a0_0.toList=a1_0.toList then ((Y6.f k l0_1 l1_1).bind fun t791=>(if t791=true then (some true) else (none))) else (none)
theorem Y33.mono:∀ a0 a1 a2 a3 k,LeO (Y33.f k a0 a1 a2 a3) (Y33.f (k+1) a0 a1 a2 a3):=by
 intro a0 a1 a2 a3 k
 have m0:=@Y6.mono
 unfold Y33.f
 exact mO
theorem Y33.calls (k:Nat) (a0_0:ByteArray) (A0_1:Option Addr) (c0_1:Nat) (l0_1:List (S30)) (a1_0:ByteArray) (A1_1:Option Addr) (c1_1:Nat) (l1_1:List (S30)) (r:Bool) (w:World) (hr0_1:Kd.C k30 w A0_1 l0_1.length l0_1) (hc0_1:l0_1.length≤c0_1) (hr1_1:Kd.C k30 w A1_1 l1_1.length l1_1) (hc1_1:l1_1.length≤c1_1) (h:Y33.f k a0_0 l0_1 a1_0 l1_1=some r) :
  Calls Try.prog 102 #[.agg #[.string a0_0,.slice A0_1 l0_1.length c0_1],.agg #[.string a1_0,.slice A1_1 l1_1.length c1_1]] w fun e w'=>e = .returned (.bool r)∧Below w.heap.size w w':=by
 have hu111:=Try.underlying111
 have HR0_1:=aM hr0_1
 have HC0_1:=aM hc0_1
 clear hr0_1 hc0_1
 have HR1_1:=aM hr1_1
 have HC1_1:=aM hc1_1
 clear hr1_1 hc1_1
 have HB:=aM (Below.refl w.heap.size w)
 have H:(if a0_0.toList=a1_0.toList then ((Y6.f k l0_1 l1_1).bind fun t791=>(if t791=true then (some true) else (none))) else (none))=some r:=h
 clear h
 by_cases c3:a0_0.toList=a1_0.toList
 ·rw [if_pos c3] at H
  have c3b0:(a0_0.toList == a1_0.toList)=true:=beq_iff_eq.mpr c3
  have c3b1:(a0_0.toList != a1_0.toList)=false:=bne_eq_false_iff_eq.mpr c3
  clear c3
  replace H:=bS H
  obtain ⟨t791,A40,H⟩:=H
  replace H:(if t791=true then (some true) else (none))=some r:=H
  have A4:=aM A40
  clear A40
  by_cases c5:t791=true
  ·subst c5
   have H1:(some true)=some r:=by rw [if_pos rfl] at H;exact H
   clear H
   have H:=H1
   clear H1
   obtain rfl:=sI H
   go_enter Try.func102,Try.ntmps102
   go_wp2_with (first | ((with_reducible refine gd_ 2 ?_);refine be_ 2 #[.string a0_0,.slice A0_1 l0_1.length c0_1] 111 ?_;intro gb789 hg w6 hbox hb;have n0_:=aM (below_step (z2_ HB.out) hb);have n1_:=aM (hbox);have n2_:=aM ((z6_ HB.out:w.heap.size≤gb789));have n3_:=aM ((z6_ HB.out:w.heap.size≤gb789));clear HB;have HB:=n0_;have BK789:=n1_;have GW789:=n2_;have GE789:=n3_;clear n0_ n1_ n2_ n3_;clear hb hbox hg) | ((with_reducible refine gd_ 3 ?_);refine be_ 3 #[.string a1_0,.slice A1_1 l1_1.length c1_1] 111 ?_;intro gb790 hg w7 hbox hb;have n0_:=aM (blkB_ BK789.out hb);have n1_:=aM (below_step (z3_ HB.out GE789.out) hb);have n2_:=aM (hbox);have n3_:=aM ((z12_ HB.out GE789.out:w.heap.size≤gb790));have n4_:=aM ((z12_ HB.out GE789.out:w.heap.size≤gb790));have n5_:=aM (neL_ BK789.out hg);have n6_:=aM (neG_ BK789.out hg);clear BK789;clear HB;have BK789:=n0_;have HB:=n1_;have BK790:=n2_;have GW790:=n3_;have GE790:=n4_;have NB789_790:=n5_;have NB790_789:=n6_;clear n0_ n1_ n2_ n3_ n4_ n5_ n6_;clear hb hbox hg;have hnb8:=NB789_790.out;have hnc8:=NB790_789.out;have ⟨hcz9_0,hcz9_1,hfz9_0,hfz9_1⟩:=cz2_ BK789.out;have ⟨hcz10_0,hcz10_1,hfz10_0,hfz10_1⟩:=cz2_ BK790.out) | ((with_reducible refine gc_ 17 ?_);refine gl_ (some 14) Try.func17 #[.slice A0_1 l0_1.length c0_1,.slice A1_1 l1_1.length c1_1] ?_;(with_reducible refine (Y6.calls k _ _ l0_1 _ _ l1_1 true _ ?s1 ?s2 ?s3 ?s4 A4.out).mono ?_);(case s1=>repeat (first | exact (Kd.C_below HR0_1.out HB.out) | (with_reducible refine Kd.C_alloc ?_ _) | (with_reducible refine Kd.C_drewN ?_ _) | (with_reducible refine Kd.C_drew ?_)));(case s2=>exact HC0_1.out);(case s3=>repeat (first | exact (Kd.C_below HR1_1.out HB.out) | (with_reducible refine Kd.C_alloc ?_ _) | (with_reducible refine Kd.C_drewN ?_ _) | (with_reducible refine Kd.C_drew ?_)));(case s4=>exact HC1_1.out);rintro e w11 ⟨rfl,hb⟩;refine ⟨_,rfl,?_⟩;have n0_:=aM (blkB_ BK789.out hb);have n1_:=aM (blkB_ BK790.out hb);have n2_:=aM (below_step (z5_ HB.out GE789.out GE790.out) hb);clear BK789;clear BK790;clear HB;have BK789:=n0_;have BK790:=n1_;have HB:=n2_;clear n0_ n1_ n2_;(try clear hb)))
   go_ret
   exact ⟨z7_,z5_ HB.out GE789.out GE790.out⟩
  ·replace c5:=Bool.eq_false_iff.mpr c5
   subst c5
   have H1:(none)=some r:=by rw [if_neg (show ¬ (false=true) by decide)] at H;exact H
   clear H
   have H:=H1
   clear H1
   exact nO H
 ·rw [if_neg c3] at H
  exact nO H


/-! ### Y15: function 57 -/
def Y15.l0:Nat→List (S111)→List (S111)→Int→Option (Bool)
 | 0,_,_,_=>none
 | k+1,x0,x1,x5=>if x5<(x0.length:Int) then (if 0≤x5 then (if x5<(x1.length:Int) then ((Y33.f k ((rd_T111 x0 x5).f0) ((rd_T111 x0 x5).f1) ((rd_T111 x1 x5).f0) ((rd_T111 x1 x5).f1)).bind fun t794=>(if t794=true then (Y15.l0 k x0 x1 (wrap64 (x5+1))) else (none))) else (none)) else (none)) else (some true)
def Y15.f (k:Nat) (l0:List (S111)) (l1:List (S111)):Option (Bool):=if (l0.length:Int)=(l1.length:Int) then (Y15.l0 k l0 l1 0) else (none)
theorem Y15.mono_l:∀ k,(∀ y0 y1 y2,LeO (Y15.l0 k y0 y1 y2) (Y15.l0 (k+1) y0 y1 y2))
 | 0=>by intros <;> exact LeO.none _
 | k+1=>by
  have ih0:=Y15.mono_l k
  have m0:=@Y33.mono
  ·intros
   unfold Y15.l0
   exact mO
theorem Y15.mono:∀ a0 a1 k,LeO (Y15.f k a0 a1) (Y15.f (k+1) a0 a1):=by
 intro a0 a1 k
 have m0:=@Y33.mono
 have ih0:=Y15.mono_l k
 unfold Y15.f
 exact mO
def Y15.T6:Bool × List (List Nat × List Nat):=(true,[([],[]),([],[]),([0,1],[0,1]),([2],[2]),([],[]),([],[]),([4,5],[4,5]),([6],[6]),([3,7],[3,7]),([8],[8])])
def Y15.B6:List Nat:=[0,0,3,7,0,0,48,112,255,511]
theorem Y15.tab6:rtab .any (opsOf Try.f57 6)=Y15.T6:=by kernel_rfl
theorem Y15.bits6:waitsOk Y15.T6.2 Y15.B6=true:=by kernel_rfl
theorem Y15.calls (k:Nat) (A0:Option Addr) (c0:Nat) (l0:List (S111)) (A1:Option Addr) (c1:Nat) (l1:List (S111)) (r:Bool) (w:World) (hr0:Kd.C k111 w A0 l0.length l0) (hc0:l0.length≤c0) (hr1:Kd.C k111 w A1 l1.length l1) (hc1:l1.length≤c1) (h:Y15.f k l0 l1=some r) :
  Calls Try.prog 57 #[.slice A0 l0.length c0,.slice A1 l1.length c1] w fun e w'=>e = .returned (.bool r)∧Below w.heap.size w w':=by
 have hu111:=Try.underlying111
 have HR0:=aM hr0
 have HC0:=aM hc0
 clear hr0 hc0
 have HR1:=aM hr1
 have HC1:=aM hc1
 clear hr1 hc1
 have HB:=aM (Below.refl w.heap.size w)
 have H:(if (l0.length:Int)=(l1.length:Int) then (Y15.l0 k l0 l1 0) else (none))=some r:=h
 clear h
 by_cases c3:(l0.length:Int)=(l1.length:Int)
 ·rw [if_pos c3] at H
  have c3b0:((l0.length:Int) == (l1.length:Int))=true:=beq_iff_eq.mpr c3
  have c3b1:((l0.length:Int) != (l1.length:Int))=false:=bne_eq_false_iff_eq.mpr c3
  have c3b2:(l0.length == l1.length)=true:=by first | simpa using c3 | (simp at c3 ⊢;omega)
  clear c3
  have H':=aM H
  clear H
  go_enter Try.func57,Try.ntmps57
  go_wp2
  go_loopg [5] k (fun kq v5 w'=>∃ (x5_1:Int),v5 = .int .i64 x5_1∧Aside0 (Y15.l0 kq l0 l1 x5_1=some r)∧Aside0 (kq≤k)∧Aside0 (Below w.heap.size w w'))
  case atStart=>exact ⟨(0),(z1_),H',⟨Nat.le_refl _⟩,⟨z2_ HB.out⟩⟩
  case round =>
   clear H'
   try clear c1
   try clear p2
   try clear c3
   try clear c3b0
   try clear c3b1
   try clear c3b2
   obtain ⟨x5_1,rfl,HA,HK1,HB⟩:=hrel
   cases gk with
   | zero=>exact absurd HA.out (by simp [Y15.l0])
   | succ k1 =>
    have H:=HA.out
    clear HA
    simp only [Y15.l0] at H
    by_cases c4:x5_1<(l0.length:Int)
    ·rw [if_pos c4] at H
     have c4b0:decide (x5_1<(l0.length:Int))=true:=dE c4
     clear c4
     by_cases c5:0≤x5_1
     ·rw [if_pos c5] at H
      have c5b0:decide (0≤x5_1)=true:=dE c5
      clear c5
      by_cases c6:x5_1<(l1.length:Int)
      ·rw [if_pos c6] at H
       have c6b0:decide (x5_1<(l1.length:Int))=true:=dE c6
       clear c6
       replace H:=bS H
       obtain ⟨t794,A70,H⟩:=H
       replace H:(if t794=true then (Y15.l0 k1 l0 l1 (wrap64 (x5_1+1))) else (none))=some r:=H
       have A7:=aM A70
       clear A70
       by_cases c8:t794=true
       ·subst c8
        have H1:(Y15.l0 k1 l0 l1 (wrap64 (x5_1+1)))=some r:=by rw [if_pos rfl] at H;exact H
        clear H
        have H:=H1
        clear H1
        have H':=aM H
        clear H
        try go_wp2
        have n0_:=aM (below_drew1 HB.out)
        clear HB
        have HB:=n0_
        clear n0_
        have p792:0≤(x5_1:Int):=dT (z0_)
        have q792:x5_1<(l0.length:Int):=dT (z0_)
        obtain ⟨ad792,A792_1,c792_1,e792,hx792_0,hx792_1,hl792_1,hi792_1⟩:=at_T111 HR0.out x5_1 p792 q792
        have hw792_1:=hx792_1
        have hw792_0:=hx792_0
        cases e792
        replace hx792_0:=(HB.out.cell (World.block_lt_of_cell? w _ hx792_0)).trans hx792_0
        replace hx792_1:=(HB.out.cell (World.block_lt_of_cell? w _ hx792_1)).trans hx792_1
        have HR792_1:=aM hi792_1
        have HC792_1:=aM hl792_1
        clear hi792_1 hl792_1
        replace p792:=eq_true p792
        replace q792:=eq_true q792
        have p793:0≤(x5_1:Int):=dT (z0_)
        have q793:x5_1<(l1.length:Int):=dT (z0_)
        obtain ⟨ad793,A793_1,c793_1,e793,hx793_0,hx793_1,hl793_1,hi793_1⟩:=at_T111 HR1.out x5_1 p793 q793
        have hw793_1:=hx793_1
        have hw793_0:=hx793_0
        cases e793
        replace hx793_0:=(HB.out.cell (World.block_lt_of_cell? w _ hx793_0)).trans hx793_0
        replace hx793_1:=(HB.out.cell (World.block_lt_of_cell? w _ hx793_1)).trans hx793_1
        have HR793_1:=aM hi793_1
        have HC793_1:=aM hl793_1
        clear hi793_1 hl793_1
        replace p793:=eq_true p793
        replace q793:=eq_true q793
        refine start_ (n:=10) (S:=fun w'=>w'.cell? (ad792.add ((x5_1).toNat*2))=some (.string ((rd_T111 l0 x5_1).f0))∧w'.cell? ⟨(ad792.add ((x5_1).toNat*2)).block,(ad792.add ((x5_1).toNat*2)).off+1,none⟩=some (.slice A792_1 ((rd_T111 l0 x5_1).f1).length c792_1)∧w'.cell? (ad793.add ((x5_1).toNat*2))=some (.string ((rd_T111 l1 x5_1).f0))∧w'.cell? ⟨(ad793.add ((x5_1).toNat*2)).block,(ad793.add ((x5_1).toNat*2)).off+1,none⟩=some (.slice A793_1 ((rd_T111 l1 x5_1).f1).length c793_1)) (ds:=[]) #[O,O,O,O,O,O,O,O,O,O] (by kernel_rfl) rfl rfl ⟨((HB.out.cell (World.block_lt_of_cell? w _ hw792_0)).trans hw792_0),((HB.out.cell (World.block_lt_of_cell? w _ hw792_1)).trans hw792_1),((HB.out.cell (World.block_lt_of_cell? w _ hw793_0)).trans hw793_0),((HB.out.cell (World.block_lt_of_cell? w _ hw793_1)).trans hw793_1)⟩ (fun hHeld=>?_);refine with_tabW Y15.tab6 Y15.bits6 (fun HT_ HW_=>?_)
        generalize wr.drew=w9 at HB HR792_1 HR793_1 hx792_0 hx792_1 hx793_0 hx793_1 hHeld ⊢
        refine pu_ 0 17 #[I,O,O,O,O,O,O,O,O,O] HT_.out ?_
        refine pu_ 1 18 #[I,I,O,O,O,O,O,O,O,O] HT_.out ?_
        refine pu_ 2 19 #[I,I,I,O,O,O,O,O,O,O] HT_.out ?_
        refine pu_ 4 21 #[I,I,I,O,I,O,O,O,O,O] HT_.out ?_
        refine pu_ 5 22 #[I,I,I,O,I,I,O,O,O,O] HT_.out ?_
        refine pu_ 6 23 #[I,I,I,O,I,I,I,O,O,O] HT_.out ?_
        refine tk4_ 3 20 #[I,I,I,I,I,I,I,O,O,O] HT_.out HW_.out hHeld ?_
        refine tk4_ 7 24 #[I,I,I,I,I,I,I,I,O,O] HT_.out HW_.out hHeld ?_
        refine o1_ 8 25 #[I,I,I,I,I,I,I,I,I,O] HT_.out (fun K hK=>?_)
        refine gs_ Try.func102 #[.agg #[.string ((rd_T111 l0 x5_1).f0),.slice A792_1 ((rd_T111 l0 x5_1).f1).length c792_1],.agg #[.string ((rd_T111 l1 x5_1).f0),.slice A793_1 ((rd_T111 l1 x5_1).f1).length c793_1]] ?_
        with_reducible refine (Y33.calls k1 ((rd_T111 l0 x5_1).f0) _ _ ((rd_T111 l0 x5_1).f1) ((rd_T111 l1 x5_1).f0) _ _ ((rd_T111 l1 x5_1).f1) true _ ?s1 ?s2 ?s3 ?s4 A7.out).mono ?_
        (case s1=>repeat (first | exact (Kd.C_below HR792_1.out HB.out) | (with_reducible refine Kd.C_alloc ?_ _) | (with_reducible refine Kd.C_drewN ?_ _) | (with_reducible refine Kd.C_drew ?_)))
        (case s2=>exact HC792_1.out)
        (case s3=>repeat (first | exact (Kd.C_below HR793_1.out HB.out) | (with_reducible refine Kd.C_alloc ?_ _) | (with_reducible refine Kd.C_drewN ?_ _) | (with_reducible refine Kd.C_drew ?_)))
        (case s4=>exact HC793_1.out)
        rintro e w10 ⟨rfl,hb⟩
        refine ⟨_,rfl,?_⟩
        have n0_:=aM (below_step (z2_ HB.out) hb)
        clear HB
        have HB:=n0_
        clear n0_
        (try clear hb)
        refine hK.out _ _ ⟨((HB.out.cell (World.block_lt_of_cell? w _ hw792_0)).trans hw792_0),((HB.out.cell (World.block_lt_of_cell? w _ hw792_1)).trans hw792_1),((HB.out.cell (World.block_lt_of_cell? w _ hw793_0)).trans hw793_0),((HB.out.cell (World.block_lt_of_cell? w _ hw793_1)).trans hw793_1)⟩ (fun hHeld=>?_)
        clear hK K
        refine nm_ 25 ?_
        refine pu_ 9 26 #[I,I,I,I,I,I,I,I,I,I] HT_.out ?_
        refine done_ (done_of HT_.out (by kernel_rfl)) ?_
        try go_wp2
        go_roundg k1
        case measure=>have:=HK1.out;omega
        case rel=>exact ⟨(wrap64 (x5_1+1)),(z1_),H',⟨by have:=HK1.out;omega⟩,⟨z2_ HB.out⟩⟩
       ·replace c8:=Bool.eq_false_iff.mpr c8
        subst c8
        have H1:(none)=some r:=by rw [if_neg (show ¬ (false=true) by decide)] at H;exact H
        clear H
        have H:=H1
        clear H1
        exact nO H
      ·rw [if_neg c6] at H
       exact nO H
     ·rw [if_neg c5] at H
      exact nO H
    ·rw [if_neg c4] at H
     have c4b0:decide (x5_1<(l0.length:Int))=false:=dF c4
     clear c4
     obtain rfl:=sI H
     go_wp2
     go_ret
     exact ⟨z7_,z2_ HB.out⟩
 ·rw [if_neg c3] at H
  exact nO H


/-! ### Y25: function 18 -/
def Y25.f (k:Nat) (l0_0:List (S111)) (l1_0:List (S111)):Option (Bool):=(Y15.f k l0_0 l1_0).bind fun t797=>(if t797=true then (some true) else (none))
theorem Y25.mono:∀ a0 a1 k,LeO (Y25.f k a0 a1) (Y25.f (k+1) a0 a1):=by
 intro a0 a1 k
 have m0:=@Y15.mono
 unfold Y25.f
 exact mO
theorem Y25.calls (k:Nat) (A0_0:Option Addr) (c0_0:Nat) (l0_0:List (S111)) (A1_0:Option Addr) (c1_0:Nat) (l1_0:List (S111)) (r:Bool) (w:World) (hr0_0:Kd.C k111 w A0_0 l0_0.length l0_0) (hc0_0:l0_0.length≤c0_0) (hr1_0:Kd.C k111 w A1_0 l1_0.length l1_0) (hc1_0:l1_0.length≤c1_0) (h:Y25.f k l0_0 l1_0=some r) :
  Calls Try.prog 18 #[.agg #[.slice A0_0 l0_0.length c0_0],.agg #[.slice A1_0 l1_0.length c1_0]] w fun e w'=>e = .returned (.bool r)∧Below w.heap.size w w':=by
 have hu47:=Try.underlying47
 have HR0_0:=aM hr0_0
 have HC0_0:=aM hc0_0
 clear hr0_0 hc0_0
 have HR1_0:=aM hr1_0
 have HC1_0:=aM hc1_0
 clear hr1_0 hc1_0
 have HB:=aM (Below.refl w.heap.size w)
 have H:((Y15.f k l0_0 l1_0).bind fun t797=>(if t797=true then (some true) else (none)))=some r:=h
 clear h
 replace H:=bS H
 obtain ⟨t797,A30,H⟩:=H
 replace H:(if t797=true then (some true) else (none))=some r:=H
 have A3:=aM A30
 clear A30
 by_cases c4:t797=true
 ·subst c4
  have H1:(some true)=some r:=by rw [if_pos rfl] at H;exact H
  clear H
  have H:=H1
  clear H1
  obtain rfl:=sI H
  go_enter Try.func18,Try.ntmps18
  go_wp2_with (first | ((with_reducible refine gd_ 2 ?_);refine be_ 2 #[.slice A0_0 l0_0.length c0_0] 47 ?_;intro gb795 hg w5 hbox hb;have n0_:=aM (below_step (z2_ HB.out) hb);have n1_:=aM (hbox);have n2_:=aM ((z6_ HB.out:w.heap.size≤gb795));have n3_:=aM ((z6_ HB.out:w.heap.size≤gb795));clear HB;have HB:=n0_;have BK795:=n1_;have GW795:=n2_;have GE795:=n3_;clear n0_ n1_ n2_ n3_;clear hb hbox hg) | ((with_reducible refine gd_ 3 ?_);refine be_ 3 #[.slice A1_0 l1_0.length c1_0] 47 ?_;intro gb796 hg w6 hbox hb;have n0_:=aM (blkB_ BK795.out hb);have n1_:=aM (below_step (z3_ HB.out GE795.out) hb);have n2_:=aM (hbox);have n3_:=aM ((z12_ HB.out GE795.out:w.heap.size≤gb796));have n4_:=aM ((z12_ HB.out GE795.out:w.heap.size≤gb796));have n5_:=aM (neL_ BK795.out hg);have n6_:=aM (neG_ BK795.out hg);clear BK795;clear HB;have BK795:=n0_;have HB:=n1_;have BK796:=n2_;have GW796:=n3_;have GE796:=n4_;have NB795_796:=n5_;have NB796_795:=n6_;clear n0_ n1_ n2_ n3_ n4_ n5_ n6_;clear hb hbox hg;have hnb7:=NB795_796.out;have hnc7:=NB796_795.out;have ⟨hcz8_0,hfz8_0⟩:=cz1_ BK795.out;have ⟨hcz9_0,hfz9_0⟩:=cz1_ BK796.out) | ((with_reducible refine gc_ 57 ?_);refine gl_ (some 9) Try.func57 #[.slice A0_0 l0_0.length c0_0,.slice A1_0 l1_0.length c1_0] ?_;(with_reducible refine (Y15.calls k _ _ l0_0 _ _ l1_0 true _ ?s1 ?s2 ?s3 ?s4 A3.out).mono ?_);(case s1=>repeat (first | exact (Kd.C_below HR0_0.out HB.out) | (with_reducible refine Kd.C_alloc ?_ _) | (with_reducible refine Kd.C_drewN ?_ _) | (with_reducible refine Kd.C_drew ?_)));(case s2=>exact HC0_0.out);(case s3=>repeat (first | exact (Kd.C_below HR1_0.out HB.out) | (with_reducible refine Kd.C_alloc ?_ _) | (with_reducible refine Kd.C_drewN ?_ _) | (with_reducible refine Kd.C_drew ?_)));(case s4=>exact HC1_0.out);rintro e w10 ⟨rfl,hb⟩;refine ⟨_,rfl,?_⟩;have n0_:=aM (blkB_ BK795.out hb);have n1_:=aM (blkB_ BK796.out hb);have n2_:=aM (below_step (z5_ HB.out GE795.out GE796.out) hb);clear BK795;clear BK796;clear HB;have BK795:=n0_;have BK796:=n1_;have HB:=n2_;clear n0_ n1_ n2_;(try clear hb)))
  go_ret
  exact ⟨z7_,z5_ HB.out GE795.out GE796.out⟩
 ·replace c4:=Bool.eq_false_iff.mpr c4
  subst c4
  have H1:(none)=some r:=by rw [if_neg (show ¬ (false=true) by decide)] at H;exact H
  clear H
  have H:=H1
  clear H1
  exact nO H


/-! ### Y11: function 20 -/
def Y11.l0:Nat→List (S30)→Int→Int→Option (Int × (List (S30)))
 | 0,_,_,_=>none
 | k+1,x0,x1,x5=>if x5<(x0.length:Int) then (if 0≤x5 then ((some (x0.set (x5:Int).toNat (⟨x1,(rd_T30 x0 x5).f1⟩:S30):List (S30))).bind fun y801=>(Y11.l0 k (y801.set (x5:Int).toNat (⟨(rd_T30 y801 x5).f0,wrap64 (x1+1)⟩:S30)) (wrap64 ((wrap64 (x1+1))+1)) (wrap64 (x5+1)))) else (none)) else (some (x1,x0))
def Y11.f (k:Nat) (l0:List (S30)) (a1:Int):Option (Int × (List (S30))):=Y11.l0 k l0 a1 0
theorem Y11.mono_l:∀ k,(∀ y0 y1 y2,LeO (Y11.l0 k y0 y1 y2) (Y11.l0 (k+1) y0 y1 y2))
 | 0=>by intros <;> exact LeO.none _
 | k+1=>by
  have ih0:=Y11.mono_l k
  ·intros
   unfold Y11.l0
   exact mO
theorem Y11.mono:∀ a0 a1 k,LeO (Y11.f k a0 a1) (Y11.f (k+1) a0 a1):=by
 intro a0 a1 k
 have ih0:=Y11.mono_l k
 unfold Y11.f
 exact mO
theorem Y11.calls (k:Nat) (P0_:Nat→Prop) (u9000_:Value) (l0:List (S30)) (a1:Int) (r1:Int) (r2:List (S30)) (w0 w:World) (hB:Below w0.heap.size w0 w) (ho0:Kd.R k30 30 w w0.heap.size P0_ u9000_ l0) (h:Y11.f k l0 a1=some (r1,r2)) :
  Calls Try.prog 20 #[u9000_,.int .i64 a1] w fun e w'=>e = .returned (.int .i64 r1)∧Kd.R k30 30 w' w0.heap.size (fun k_=>(P0_ k_∨w.heap.size≤k_)) u9000_ r2∧Below w0.heap.size w0 w'∧Kept w w' (fun k_=>P0_ k_):=by
 have HO0:=aM (show Kd.R k30 30 w w0.heap.size (fun k_=>(P0_ k_∨w.heap.size≤k_)) u9000_ l0 from Kd.R_mono ho0 (fun k_ hk=>(.inl hk)))
 have HK:=aM (Kept.refl w (fun k_=>P0_ k_))
 have HW0:=aM hB.size
 have HB:=aM hB
 clear hB
 have H:(Y11.l0 k l0 a1 0)=some (r1,r2):=h
 clear h
 have H':=aM H
 clear H
 go_enter Try.func20,Try.ntmps20
 go_wp2
 go_loopg [1,5] k (fun kq v1 v5 w'=>∃ (x0_1:List (S30)) (x1_1:Int) (x5_1:Int),v1 = .int .i64 x1_1∧v5 = .int .i64 x5_1∧Aside0 (Y11.l0 kq x0_1 x1_1 x5_1=some (r1,r2))∧Aside0 (kq≤k)∧Aside0 (Kd.R k30 30 w' w0.heap.size (fun k_=>(P0_ k_∨w.heap.size≤k_)) u9000_ x0_1)∧Aside0 (Kept w w' (fun k_=>P0_ k_))∧Aside0 (Below w0.heap.size w0 w'))
 case atStart=>exact ⟨(l0),(a1),(0),(z1_),(z1_),H',⟨Nat.le_refl _⟩,⟨z8_ HO0.out⟩,⟨z19_ HK.out⟩,⟨z2_ HB.out⟩⟩
 case round =>
  clear H'
  try clear c2
  try clear p2
  obtain ⟨x0_1,x1_1,x5_1,rfl,rfl,HA,HK1,HO_0,HK,HB⟩:=hrel
  cases gk with
  | zero=>exact absurd HA.out (by simp [Y11.l0])
  | succ k1 =>
   have H:=HA.out
   clear HA
   simp only [Y11.l0] at H
   by_cases c3:x5_1<(x0_1.length:Int)
   ·rw [if_pos c3] at H
    have c3b0:decide (x5_1<(x0_1.length:Int))=true:=dE c3
    clear c3
    by_cases c4:0≤x5_1
    ·rw [if_pos c4] at H
     have c4b0:decide (0≤x5_1)=true:=dE c4
     clear c4
     obtain ⟨y801,hy801⟩:∃ y_:List (S30),y_=(x0_1.set (x5_1:Int).toNat (⟨x1_1,(rd_T30 x0_1 x5_1).f1⟩:S30)):=⟨_,rfl⟩
     replace H:(Y11.l0 k1 (y801.set (x5_1:Int).toNat (⟨(rd_T30 y801 x5_1).f0,wrap64 (x1_1+1)⟩:S30)) (wrap64 ((wrap64 (x1_1+1))+1)) (wrap64 (x5_1+1)))=some (r1,r2):=by first | (rw [hy801];with_reducible exact H) | (have H2_:=(Option.bind_some _ _).symm.trans H;rw [hy801];with_reducible exact H2_) | (have H2_:=(Option.bind_some _ _).symm.trans H;with_reducible exact H2_) | with_reducible exact H | (rw [hy801];exact H) | exact H
     have Ny801:=aM hy801
     clear hy801
     obtain ⟨y802,hy802⟩:∃ y_:List (S30),y_=(y801.set (x5_1:Int).toNat (⟨(rd_T30 y801 x5_1).f0,wrap64 (x1_1+1)⟩:S30)):=⟨_,rfl⟩
     replace H:(Y11.l0 k1 y802 (wrap64 ((wrap64 (x1_1+1))+1)) (wrap64 (x5_1+1)))=some (r1,r2):=by first | (rw [hy802];with_reducible exact H) | (have H2_:=(Option.bind_some _ _).symm.trans H;rw [hy802];with_reducible exact H2_) | (have H2_:=(Option.bind_some _ _).symm.trans H;with_reducible exact H2_) | with_reducible exact H | (rw [hy802];exact H) | exact H
     have Ny802:=aM hy802
     clear hy802
     have H':=aM H
     clear H
     obtain ⟨Ao7,co7,eo7⟩:=Kd.R_slice HO_0.out
     subst eo7
     have p5:0≤(x5_1:Int):=dT (z0_)
     have q5:(x5_1:Int)<((x0_1.length:Int):Int):=dT (z0_)
     obtain ⟨go5,co5,eo5,gb5,gl5,cl5,HG5⟩:=Kd.R_form HO_0.out (by omega)
     (first | cases eo5 | (injection eo5 with ea_ en_ ec_;(first | subst ea_ | (injection ea_ with ea_;subst ea_));subst ec_;clear en_))
     have GB5:=aM gb5
     have GG5:=aM HG5
     clear gb5 gl5 HG5
     have HMgo5:=aM (show (P0_ go5∨w.heap.size≤go5) from (HO_0.out.1 _ rfl))
     obtain ⟨ce5,hcl5,hM5,hcc5,hfr5⟩:=Kd.R_elem HO_0.out z30 (x5_1:Int) p5 q5
     obtain rfl:=k30_openM hM5
     have hx5_0:wr.cell? ⟨go5,(x5_1:Int).toNat*2,none⟩=some (.int .i64 ((rd_T30 x0_1 x5_1).f0)):=hcc5 0 _ rfl
     have hx5_1:wr.cell? ⟨go5,(x5_1:Int).toNat*2+1,none⟩=some (.int .i64 ((rd_T30 x0_1 x5_1).f1)):=hcc5 1 _ rfl
     have hf5_0:wr.frozen? ⟨go5,(x5_1:Int).toNat*2,none⟩=false:=hfr5 0
     have hf5_1:wr.frozen? ⟨go5,(x5_1:Int).toNat*2+1,none⟩=false:=hfr5 1
     clear hcl5 hcc5 hfr5 hM5
     replace p5:=eq_true p5
     replace q5:=eq_true q5
     have HX8:=aM (show Kd.R k30 30 wr w0.heap.size (fun k_=>(P0_ k_∨w.heap.size≤k_)) (.slice (some ⟨go5,0,none⟩) x0_1.length co7) x0_1 from (z8_ HO_0.out))
     obtain ⟨ce8,hcl8,hM8,hcc8,hfr8⟩:=Kd.R_elem HX8.out z30 (x5_1:Int) (dT (z0_)) (z20_ HO_0.out)
     obtain rfl:=k30_openM hM8
     have HP8:=Kd.R_seg HX8.out (x5_1:Int) (dT (z0_)) (z20_ HO_0.out) (seg:=[.int .i64 x1_1]) (j:=0) hcl8 hcc8 (show 1≤2 from by decide) (x':=(⟨x1_1,(rd_T30 x0_1 x5_1).f1⟩:S30)) (k30_mkM _ _ _ (⟨x1_1,(rd_T30 x0_1 x5_1).f1⟩:S30) ) (fun _ hk=>hk)
     have hx8_0:=hcc8 0 _ rfl
     (try simp only [show (k30).sz=2 from rfl,Nat.mul_one,Nat.add_zero] at hx8_0)
     have hf8_0:=hfr8 0
     (try simp only [show (k30).sz=2 from rfl,Nat.mul_one,Nat.add_zero] at hf8_0)
     clear hcl8 hcc8 hfr8 hM8
     go_wp2_with (first | ((with_reducible refine gate_store (t:=2) (p:=16) rfl ?_);refine store_event (t:=2) (p:=16) (v:=?vo_w9) (w1:=(wr.setCell ⟨go5,(x5_1:Int).toNat*2,none⟩ (.int .i64 x1_1))) ?hg ?ho ?hn ?hr ?_;(case ho=>rfl);(case hg=>rfl);(case hn=>rfl);(case hr=>first | (go_simp;done) | (go_simp;rfl));intro w9 hw;have hg:wr.grownBy w9 (some go5):=(by rw [hw];exact HP8.2);have hp_:Kd.R k30 30 w9 w0.heap.size (fun k_=>(P0_ k_∨w.heap.size≤k_)) (.slice (some ⟨go5,0,none⟩) x0_1.length co7) y801:=(by rw [hw,Ny801.out];exact HP8.1);clear HP8;have n0_:=aM (hp_);have n1_:=aM ((by rw [hw];exact below_set (HB.out) GB5.out:Below w0.heap.size w0 w9));have n2_:=aM (Kept.of_grown (S:=(fun k_=>P0_ k_)) hg (z19_ HK.out) (fun k_ e_=>(HO_0.out.1 k_ e_)));clear HO_0;clear HB;clear HK;have HO_0:=n0_;have HB:=n1_;have HK:=n2_;clear n0_ n1_ n2_;clear hg hw hp_;have p6:0≤(x5_1:Int):=dT (z0_);have q6:(x5_1:Int)<((x0_1.length:Int):Int):=dT (z0_);obtain ⟨ce6,hcl6,hM6,hcc6,hfr6⟩:=Kd.R_elem HO_0.out z30 (x5_1:Int) p6 q6;obtain rfl:=k30_openM hM6;have hx6_0:w9.cell? ⟨go5,(x5_1:Int).toNat*2,none⟩=some (.int .i64 ((rd_T30 y801 x5_1).f0)):=hcc6 0 _ rfl;have hx6_1:w9.cell? ⟨go5,(x5_1:Int).toNat*2+1,none⟩=some (.int .i64 ((rd_T30 y801 x5_1).f1)):=hcc6 1 _ rfl;have hf6_0:w9.frozen? ⟨go5,(x5_1:Int).toNat*2,none⟩=false:=hfr6 0;have hf6_1:w9.frozen? ⟨go5,(x5_1:Int).toNat*2+1,none⟩=false:=hfr6 1;clear hcl6 hcc6 hfr6 hM6;replace p6:=eq_true p6;replace q6:=eq_true q6;have HX10:=aM (show Kd.R k30 30 w9 w0.heap.size (fun k_=>(P0_ k_∨w.heap.size≤k_)) (.slice (some ⟨go5,0,none⟩) x0_1.length co7) y801 from (z8_ HO_0.out));obtain ⟨ce10,hcl10,hM10,hcc10,hfr10⟩:=Kd.R_elem HX10.out z30 (x5_1:Int) (dT (z0_)) (z20_ HO_0.out);obtain rfl:=k30_openM hM10;have HP10:=Kd.R_seg HX10.out (x5_1:Int) (dT (z0_)) (z20_ HO_0.out) (seg:=[.int .i64 (wrap64 (x1_1+1))]) (j:=1) hcl10 hcc10 (show 2≤2 from by decide) (x':=(⟨(rd_T30 y801 x5_1).f0,wrap64 (x1_1+1)⟩:S30)) (k30_mkM _ _ _ (⟨(rd_T30 y801 x5_1).f0,wrap64 (x1_1+1)⟩:S30) ) (fun _ hk=>hk);have hx10_1:=hcc10 1 _ rfl;(try simp only [show (k30).sz=2 from rfl,Nat.mul_one,Nat.add_zero] at hx10_1);have hf10_1:=hfr10 1;(try simp only [show (k30).sz=2 from rfl,Nat.mul_one,Nat.add_zero] at hf10_1);clear hcl10 hcc10 hfr10 hM10) | ((with_reducible refine gate_store (t:=2) (p:=23) rfl ?_);refine store_event (t:=2) (p:=23) (v:=?vo_w11) (w1:=(w9.setCell ⟨go5,(x5_1:Int).toNat*2+1,none⟩ (.int .i64 (wrap64 (x1_1+1))))) ?hg ?ho ?hn ?hr ?_;(case ho=>rfl);(case hg=>rfl);(case hn=>rfl);(case hr=>first | (go_simp;done) | (go_simp;rfl));intro w11 hw;have hg:w9.grownBy w11 (some go5):=(by rw [hw];exact HP10.2);have hp_:Kd.R k30 30 w11 w0.heap.size (fun k_=>(P0_ k_∨w.heap.size≤k_)) (.slice (some ⟨go5,0,none⟩) x0_1.length co7) y802:=(by rw [hw,Ny802.out];exact HP10.1);clear HP10;have n0_:=aM (hp_);have n1_:=aM ((by rw [hw];exact below_set (HB.out) GB5.out:Below w0.heap.size w0 w11));have n2_:=aM (Kept.of_grown (S:=(fun k_=>P0_ k_)) hg (z19_ HK.out) (fun k_ e_=>(HO_0.out.1 k_ e_)));clear HO_0;clear HB;clear HK;have HO_0:=n0_;have HB:=n1_;have HK:=n2_;clear n0_ n1_ n2_;clear hg hw hp_))
     go_roundg k1
     case measure=>have:=HK1.out;omega
     case rel=>exact ⟨(y802),(wrap64 ((wrap64 (x1_1+1))+1)),(wrap64 (x5_1+1)),(z1_),(z1_),H',⟨by have:=HK1.out;omega⟩,⟨z8_ HO_0.out⟩,⟨z19_ HK.out⟩,⟨z2_ HB.out⟩⟩
    ·rw [if_neg c4] at H
     exact nO H
   ·rw [if_neg c3] at H
    have c3b0:decide (x5_1<(x0_1.length:Int))=false:=dF c3
    clear c3
    simp only [Option.some.injEq,Prod.mk.injEq] at H
    obtain ⟨rfl,rfl⟩:=H
    obtain ⟨Ao12,co12,eo12⟩:=Kd.R_slice HO_0.out
    subst eo12
    go_wp2
    go_ret
    exact ⟨z7_,z8_ HO_0.out,z2_ HB.out,z19_ HK.out⟩


/-! ### Y16: function 77 -/
def Y16.l0:Nat→Int→ByteArray→Option (ByteArray)
 | 0,_,_=>none
 | k+1,x0,x3=>if x0>0 then ((some (([(wrap64 (48+(Int.tmod x0 10))) % 256]:List Int):List Int)).bind fun y798=>(if (strOfNums y798).size+x3.size≤9223372036854775807 then (Y16.l0 k (wrap64 (Int.tdiv x0 10)) ((strOfNums y798) ++ x3)) else (none))) else (if 1+x3.size≤9223372036854775807 then (some ((⟨#[109]⟩:ByteArray) ++ x3)) else (none))
def Y16.f (k:Nat) (a0:Int):Option (ByteArray):=if a0≤0 then (some (⟨#[109,48]⟩:ByteArray)) else (Y16.l0 k a0 (⟨#[]⟩:ByteArray))
theorem Y16.mono_l:∀ k,(∀ y0 y1,LeO (Y16.l0 k y0 y1) (Y16.l0 (k+1) y0 y1))
 | 0=>by intros <;> exact LeO.none _
 | k+1=>by
  have ih0:=Y16.mono_l k
  ·intros
   unfold Y16.l0
   exact mO
theorem Y16.mono:∀ a0 k,LeO (Y16.f k a0) (Y16.f (k+1) a0):=by
 intro a0 k
 have ih0:=Y16.mono_l k
 unfold Y16.f
 exact mO
theorem Y16.calls (k:Nat) (a0:Int) (r:ByteArray) (w:World) (h:Y16.f k a0=some r) :
  Calls Try.prog 77 #[.int .i64 a0] w fun e w'=>e = .returned (.string r)∧Below w.heap.size w w':=by
 have HB:=aM (Below.refl w.heap.size w)
 have H:(if a0≤0 then (some (⟨#[109,48]⟩:ByteArray)) else (Y16.l0 k a0 (⟨#[]⟩:ByteArray)))=some r:=h
 clear h
 by_cases c2:a0≤0
 ·rw [if_pos c2] at H
  have c2b0:decide (a0≤0)=true:=dE c2
  clear c2
  obtain rfl:=sI H
  go_enter Try.func77,Try.ntmps77
  go_wp2
  go_ret
  exact ⟨z7_,z2_ HB.out⟩
 ·rw [if_neg c2] at H
  have c2b0:decide (a0≤0)=false:=dF c2
  clear c2
  have H':=aM H
  clear H
  go_enter Try.func77,Try.ntmps77
  go_wp2
  go_loopg [0,3] k (fun kq v0 v3 w'=>∃ (x0_1:Int) (x3_1:ByteArray),v0 = .int .i64 x0_1∧v3 = .string x3_1∧Aside0 (Y16.l0 kq x0_1 x3_1=some r)∧Aside0 (kq≤k)∧Aside0 (Below w.heap.size w w'))
  case atStart=>exact ⟨(a0),((⟨#[]⟩:ByteArray)),(z1_),(z1_),H',⟨Nat.le_refl _⟩,⟨z2_ HB.out⟩⟩
  case round =>
   clear H'
   try clear c2
   try clear c2b0
   try clear p2
   obtain ⟨x0_1,x3_1,rfl,rfl,HA,HK1,HB⟩:=hrel
   cases gk with
   | zero=>exact absurd HA.out (by simp [Y16.l0])
   | succ k1 =>
    have H:=HA.out
    clear HA
    simp only [Y16.l0] at H
    by_cases c3:x0_1>0
    ·rw [if_pos c3] at H
     have c3b0:decide (0<x0_1)=true:=dE c3
     clear c3
     obtain ⟨y798,hy798⟩:∃ y_:List Int,y_=(([(wrap64 (48+(Int.tmod x0_1 10))) % 256]:List Int)):=⟨_,rfl⟩
     replace H:(if (strOfNums y798).size+x3_1.size≤9223372036854775807 then (Y16.l0 k1 (wrap64 (Int.tdiv x0_1 10)) ((strOfNums y798) ++ x3_1)) else (none))=some r:=by first | (rw [hy798];with_reducible exact H) | (have H2_:=(Option.bind_some _ _).symm.trans H;rw [hy798];with_reducible exact H2_) | (have H2_:=(Option.bind_some _ _).symm.trans H;with_reducible exact H2_) | with_reducible exact H | (rw [hy798];exact H) | exact H
     have Ny798:=aM hy798
     clear hy798
     by_cases c4:(strOfNums y798).size+x3_1.size≤9223372036854775807
     ·rw [if_pos c4] at H
      have c4b0:=eq_true c4
      have c4b1:decide ((strOfNums y798).size+x3_1.size≤9223372036854775807)=true:=dE c4
      try have c4b2:(9223372036854775807<(strOfNums y798).size+x3_1.size)=False:=eq_false (Nat.not_lt.2 c4)
      have H':=aM H
      clear H
      go_wp2_with (first | ((with_reducible refine gd_ 12 ?_);refine Kd.R_lit (Kd.int .u8) _ 5 ?hg (N:=12) ?hd (xs:=([(wrap64 (48+(Int.tmod x0_1 10))) % 256]:List Int)) (inner:=[.int .u8 ((wrap64 (48+(Int.tmod x0_1 10))) % 256)]) (ok:=fun _=>True) (okp:=fun _=>True) ?hr ?hp (fun _ hk=>hk) trivial (Below.refl _ _) (Nat.le_refl _) (by simp) ?_;(case hd=>rfl);(case hg=>rfl);(case hr=>first | (go_simp;done) | (go_simp;rfl));(case hp=>exact (Reps.one (show Kd.M (Kd.int .u8) _ _ _ ((wrap64 (48+(Int.tmod x0_1 10))) % 256) [.int .u8 ((wrap64 (48+(Int.tmod x0_1 10))) % 256)] from rfl) (Reps.none _ _)));intro v799 w5 ho6 hb hg_ hnew_;clear hg_ hnew_;(first | rw [← Ny798.out] at ho6 | (simp only [Int.reduceToNat] at ho6;rw [← Ny798.out] at ho6));have n0_:=aM (Kd.R_lower ho6 (below_size (z2_ HB.out)));have n1_:=aM (below_step (z2_ HB.out) hb);clear HB;have HO800:=n0_;have HB:=n1_;clear n0_ n1_;clear hb ho6;have hcv7:=own_string (P:=Try.prog) Try.underlying22 Try.underlying5 Try.underlying9 (Kd.own_of_R HO800.out)))
      go_roundg k1
      case measure=>have:=HK1.out;omega
      case rel=>exact ⟨(wrap64 (Int.tdiv x0_1 10)),((strOfNums y798) ++ x3_1),(z1_),(z1_),H',⟨by have:=HK1.out;omega⟩,⟨z2_ HB.out⟩⟩
     ·rw [if_neg c4] at H
      exact nO H
    ·rw [if_neg c3] at H
     have c3b0:decide (0<x0_1)=false:=dF c3
     clear c3
     by_cases c8:1+x3_1.size≤9223372036854775807
     ·rw [if_pos c8] at H
      have c8b0:=eq_true c8
      have c8b1:decide (1+x3_1.size≤9223372036854775807)=true:=dE c8
      try have c8b2:(9223372036854775807<1+x3_1.size)=False:=eq_false (Nat.not_lt.2 c8)
      obtain rfl:=sI H
      go_wp2
      go_ret
      exact ⟨z7_,z2_ HB.out⟩
     ·rw [if_neg c8] at H
      exact nO H


/-! ### Y20: function 58 -/
/-! what is written over and told no more: by hand -/
def Y20.l0:Nat→List (S111)→Int→Int→Option (Int)
 | 0,_,_,_=>none
 | k+1,l,x1,x5=>if x5<(l.length:Int) then (if 0≤x5 then ((Y16.f k x1).bind fun t=>((Y11.f k ((rd_T111 l x5).f1) (wrap64 (x1+1))).bind fun p=>Y20.l0 k l p.1 (wrap64 (x5+1)))) else none) else some x1
def Y20.f (k:Nat) (l0:List (S111)) (a1:Int):Option (Int):=Y20.l0 k l0 a1 0
theorem Y20.mono_l:∀ k,(∀ y0 y1 y2,LeO (Y20.l0 k y0 y1 y2) (Y20.l0 (k+1) y0 y1 y2))
 | 0=>by intros <;> exact LeO.none _
 | k+1=>by
  have ih0:=Y20.mono_l k
  have m0:=@Y16.mono
  have m1:=@Y11.mono
  intro y0 y1 y2
  unfold Y20.l0
  exact mO
theorem Y20.mono:∀ a0 a1 k,LeO (Y20.f k a0 a1) (Y20.f (k+1) a0 a1):=fun _ _ k=>Y20.mono_l k _ _ _
theorem setCells_one_ (w:World) (g o:Nat) (v:Value):w.setCells g o [v]=w.setCell ⟨g,o,none⟩ v:=by first | rfl | simp [World.setCells]
theorem Y20.calls (k:Nat) (P0_:Nat→Prop) (u9000_:Value) (l0:List (S111)) (a1:Int) (r:Int) (w0 w:World) (hB:Below w0.heap.size w0 w) (ho0:Kd.S k111 111 w w0.heap.size P0_ u9000_ l0) (h:Y20.f k l0 a1=some r) :
  Calls Try.prog 58 #[u9000_,.int .i64 a1] w fun e w'=>e = .returned (.int .i64 r)∧Below w0.heap.size w0 w'∧Kept w w' P0_:=by
 have hu111:=Try.underlying111
 obtain ⟨A,c,rfl⟩:=Kd.S_slice ho0
 have HS:=aM ho0
 have HB:=aM hB
 have HK:=aM (Kept.refl w P0_)
 have HA:=aM h
 clear ho0 hB h
 go_enter Try.func58,Try.ntmps58
 go_wp2
 go_loopg [1,5] k (fun kq v1 v5 w'=>∃ (x1 x5:Int) (l1:List (S111)),v1 = .int .i64 x1∧v5 = .int .i64 x5∧Aside0 (Y20.l0 kq l0 x1 x5=some r)∧Aside0 (kq≤k)∧Aside0 (l1.length=l0.length)∧Aside0 (0≤x5→∀ j:Nat,x5≤(j:Int)→l1[j]? = l0[j]?)∧Aside0 (Kd.S k111 111 w' w0.heap.size P0_ (.slice A l0.length c) l1)∧Aside0 (Below w0.heap.size w0 w')∧Aside0 (Kept w w' P0_))
 case atStart=>exact ⟨a1,0,l0,rfl,rfl,HA,⟨Nat.le_refl _⟩,⟨rfl⟩,⟨fun _ _ _=>rfl⟩,HS,HB,HK⟩
 case round =>
  clear HA HS HB HK
  obtain ⟨x1,x5,l1,rfl,rfl,HA,HK1,HL,HE,HS,HB,HK⟩:=hrel
  cases gk with
  | zero=>exact absurd HA.out (by simp [Y20.l0])
  | succ k1 =>
   have H:=HA.out
   clear HA
   simp only [Y20.l0] at H
   by_cases c6:x5<(l0.length:Int)
   case neg =>
    rw [if_neg c6] at H
    have c6b0:decide (x5<(l0.length:Int))=false:=dF c6
    have H2:=sI H
    subst H2
    clear H
    go_wp2
    go_ret
    exact ⟨rfl,HB.out,HK.out⟩
   rw [if_pos c6] at H
   have c6b0:decide (x5<(l0.length:Int))=true:=dE c6
   by_cases c7:0≤x5
   case neg=>rw [if_neg c7] at H;cases H
   rw [if_pos c7] at H
   obtain ⟨t,A80,H⟩:=bS H
   obtain ⟨⟨m1,m2⟩,A90,H⟩:=bS H
   replace H:Y20.l0 k1 l0 m1 (wrap64 (x5+1))=some r:=H
   have A8:=aM A80
   have hrd:rd_T111 l1 x5=rd_T111 l0 x5:=by
    have h5:=HE.out c7 x5.toNat (by omega)
    unfold rd_T111
    rw [List.getD_eq_getElem?_getD,List.getD_eq_getElem?_getD,h5]
   have A9:Aside0 (Y11.f k1 ((rd_T111 l1 x5).f1) (wrap64 (x1+1))=some (m1,m2)):=⟨by rw [hrd];exact A90⟩
   have HA:=aM H
   clear A80 A90 H hrd
   have hx1:wrap64 (x5+1)=x5+1:=by
    have:=(Kd.S_reads' HS.out).2.2.2.1
    have h9:=HL.out
    unfold wrap64;omega
   obtain ⟨g,cap,eu,hgb,hgl,hgc⟩:=Kd.S_form HS.out (by have:=HL.out;omega)
   injection eu with eA en ec
   subst eA
   subst ec
   have HGB:=aM hgb
   clear hgb hgl hgc en
   have pz:=eq_true c7
   have qz:=eq_true c6
   go_upto_region 5 with (first | ((with_reducible refine gc_ 77 ?_);refine goesL_ (some 15) rfl rfl Try.func77 (by kernel_rfl) rfl #[.int .i64 x1] rfl (z17_) ?_;(with_reducible refine (Y16.calls k1 x1 t _ A8.out).mono ?_);rintro e w11 ⟨rfl,hb⟩;refine ⟨_,rfl,?_⟩;have n1_:=aM (Kd.S_below HS.out hb);have n2_:=aM (below_step HB.out hb);have n3_:=aM (HK.out.below hb);clear HS HB HK hb;have HS:=n1_;have HB:=n2_;have HK:=n3_;clear n1_ n2_ n3_;obtain ⟨oki,cc,hcl,hM,hcc,hfr,hoki,hH⟩:=Kd.S_elem HS.out z111 x5 c7 (by omega);obtain ⟨v1_,rfl,hR1⟩:=k111_openM hM;have hx10_0:w11.cell? ⟨g,x5.toNat*2,none⟩=some (.string ((rd_T111 l1 x5).f0)):=hcc 0 _ rfl;have hf10_0:w11.frozen? ⟨g,x5.toNat*2,none⟩=false:=hfr 0))
   have hgo:P0_ g:=(Kd.S_R HS.out).1 g (by simp [Value.ownBlock])
   have hseg:=Kd.H_seg hH c7 (by omega) (seg:=[.string t]) (j:=0) (by show 0+1≤2;omega) (by intro q hq;simp only [List.mem_singleton] at hq;subst hq;rfl)
   have ew:(w11.setCells g (x5.toNat*k111.sz+0) [.string t])=w11.setCell ⟨g,x5.toNat*2,none⟩ (.string t):=setCells_one_ _ _ _ _
   rw [ew] at hseg
   obtain ⟨hH3,hg3⟩:=hseg
   have n1_:=aM (below_set (j:=x5.toNat*2) (v:=.string t) HB.out HGB.out)
   have n2_:=aM (Kept.setCell HK.out (p:=⟨g,x5.toNat*2,none⟩) (.inl hgo) (.string t))
   have n3_:=Kd.R_grown hR1 hg3 (fun k hk he=>(hoki k hk).2 (by injection he))
   clear HB HK hx10_0 hf10_0 hcc hfr hH hM hcl hR1
   generalize w11.setCell ⟨g,x5.toNat*2,none⟩ (.string t)=w12 at hH3 hg3 n1_ n2_ n3_ ⊢
   have HB:=n1_
   have HK:=n2_
   have HS2:=aM (Kd.H_back hH3 (k111_mkM w12 w0.heap.size oki (⟨t,(l1.getD x5.toNat z111).f1⟩:S111) n3_) (fun _ h_=>h_))
   clear n1_ n2_ n3_ hH3 hg3 HS hoki
   have hli:x5.toNat<l1.length:=by have:=HL.out;omega
   obtain ⟨oki,cc,hcl,hM,hcc,hfr,hoki,hH⟩:=Kd.S_elem HS2.out z111 x5 c7 (by omega)
   rw [List.getD_eq_getElem?_getD,List.getElem?_set_self hli] at hM
   have hM':k111.M w12 w0.heap.size oki (⟨t,(l1.getD x5.toNat z111).f1⟩:S111) cc:=hM
   obtain ⟨F1,hF1⟩:∃ F_,(l1.getD x5.toNat z111).f1=F_:=⟨_,rfl⟩
   rw [hF1] at hM'
   obtain ⟨v2_,rfl,hR2⟩:=k111_openM hM'
   obtain ⟨A2,c2,rfl⟩:=Kd.R_slice hR2
   have hy_1:w12.cell? ⟨g,x5.toNat*2+1,none⟩=some (.slice A2 F1.length c2):=hcc 1 _ rfl
   have hf_1:w12.frozen? ⟨g,x5.toNat*2+1,none⟩=false:=hfr 1
   obtain ⟨y1,hy1⟩:∃ y_:Int,wrap64 (x1+1)=y_:=⟨_,rfl⟩
   have hy1w:IntKind.i64.wrap (x1+1)=y1:=(i64_w _).trans hy1
   rw [hy1] at A9
   have A9:Aside0 (Y11.f k1 F1 y1=some (m1,m2)):=⟨by rw [← hF1];exact A9.out⟩
   have HR2:=aM hR2
   have HO:=aM hoki
   have HH:=aM hH
   clear hR2 hoki hH hM hM' hcl hcc hfr
   go_wp2_with (first | ((with_reducible refine gc_ 20 ?_);refine goesL_ (some 26) rfl rfl Try.func20 (by kernel_rfl) rfl #[.slice A2 F1.length c2,.int .i64 y1] rfl (z17_) ?_;(with_reducible refine (Y11.calls k1 (fun k_=>some k_=(.slice A2 F1.length c2:Value).ownBlock) (.slice A2 F1.length c2) F1 y1 m1 m2 w0 _ HB.out (Kd.R_tight rfl HR2.out) A9.out).mono ?_);rintro e w13 ⟨rfl,hr13,hb,hkp⟩;refine ⟨_,rfl,?_⟩;have HR13:=aM (Kd.R_reok rfl hr13 HR2.out.1);have HB13:=aM hb;have HK13:=aM (Kept.then_ HK.out hkp (fun k_ he_=>.inl (HO.out k_ (HR2.out.1 k_ he_.symm)).1));have HH13:=aM (Kd.H_step HH.out (fun k_ _ hn_ hlt_=>hkp.2 k_ hlt_ (fun he_=>hn_ (HR2.out.1 k_ he_.symm))));clear hr13 hb hkp))
   go_roundg k1
   case measure=>have:=HK1.out;omega
   case rel =>
    have hS:=Kd.H_back HH13.out (k111_mkM w13 w0.heap.size oki (⟨t,m2⟩:S111) HR13.out) (fun _ h_=>h_)
    rw [List.set_set] at hS
    refine ⟨m1,wrap64 (x5+1),l1.set x5.toNat ⟨t,m2⟩,(by first | rfl | (simp;done) | (simp [*];done)),(by first | rfl | (simp;done) | (rw [← i64_w];rfl) | (simp only [i64_w];done) | (simp [*];done)),HA,⟨by have:=HK1.out;omega⟩,⟨by have:=HL.out;simpa using this⟩,⟨fun h0 j hj=>?_⟩,⟨hS⟩,HB13,HK13⟩
    rw [hx1] at h0 hj
    rw [List.getElem?_set_ne (by omega)]
    exact HE.out c7 j (by omega)



/-! ### Y23: function 19 -/
def Y23.f (k:Nat) (l0:List (S111)) (a1:Int):Option (Int):=Y20.f k l0 a1
theorem Y23.mono:∀ a0 a1 k,LeO (Y23.f k a0 a1) (Y23.f (k+1) a0 a1):=fun _ _ k=>Y20.mono _ _ k
/-- What is told no more: nothing is said of it. -/
theorem S_gone_ {α:Type} {d:Kd α} {e:Nat} {w w1:World} {base:Nat} {ok:Nat→Prop} {v:Value} {xs:List α} (_:Kd.S d e w base ok v xs) (_:w1=w1):Kd.S d e w1 base ok (.slice none 0 0) ([]:List α):=Kd.S_nil d e w1 base ok
set_option maxHeartbeats 4000000 in
theorem Y23.calls (k:Nat) (P0_:Nat→Prop) (u9000_:Value) (l0:List (S111)) (a1:Int) (r:Int) (w0 w:World) (hB:Below w0.heap.size w0 w) (ho0:Kd.S k111 111 w w0.heap.size P0_ u9000_ l0) (h:Y23.f k l0 a1=some r) :
  Calls Try.prog 19 #[.agg #[u9000_],.int .i64 a1] w fun e w'=>e = .returned (.int .i64 r)∧Below w0.heap.size w0 w'∧Kept w w' P0_:=by
 have hu47:=Try.underlying47
 have HS:=aM ho0
 have HB:=aM hB
 have HA:Aside0 (Y20.f k l0 a1=some r):=aM h
 obtain ⟨A,c,rfl⟩:=Kd.S_slice ho0
 clear ho0 hB h
 go_enter Try.func19,Try.ntmps19
 go_wp2_with (first | ((with_reducible refine gd_ 2 ?_);refine be_ 2 #[.slice A l0.length c] 47 ?_;intro gb hg w3 hbox hb;have hcz:w3.cell? ⟨gb,0,none⟩=some (.slice A l0.length c):=(blk_cell hbox 0).trans rfl;have hfz:=blk_frozen hbox 0;have n1_:=aM (Kd.S_below HS.out hb);have n2_:=aM (below_step HB.out hb);have HK:=aM (Kept.of_below hb P0_);clear HS HB hg hbox hb;have HS:=n1_;have HB:=n2_;clear n1_ n2_) | ((with_reducible refine gc_ 58 ?_);refine goesL_ (some 8) rfl rfl Try.func58 (by kernel_rfl) rfl #[.slice A l0.length c,.int .i64 a1] rfl (z17_) ?_;(with_reducible refine (Y20.calls k P0_ _ l0 a1 r w0 _ HB.out HS.out HA.out).mono ?_);rintro e w13 ⟨rfl,hb,hkp⟩;refine ⟨_,rfl,?_⟩;have HB13:=aM hb;have HK13:=aM (Kept.then_ HK.out hkp (fun k_ he_=>.inl he_));clear hb hkp))
 go_ret
 exact ⟨rfl,HB13.out,HK13.out⟩



/-! ### Y9: function 21 -/
def Y9.l0:Nat→List (S30)→Int→Int→Option (Int)
 | 0,_,_,_=>none
 | k+1,x0,x1,x5=>if x5<(x0.length:Int) then (if 0≤x5 then (if ((rd_T30 x0 x5).f0)=x1 then (if ((rd_T30 x0 x5).f1)=(wrap64 (x1+1)) then (Y9.l0 k x0 (wrap64 ((wrap64 (x1+1))+1)) (wrap64 (x5+1))) else (none)) else (none)) else (none)) else (some x1)
def Y9.f (k:Nat) (l0:List (S30)) (a1:Int):Option (Int):=Y9.l0 k l0 a1 0
theorem Y9.mono_l:∀ k,(∀ y0 y1 y2,LeO (Y9.l0 k y0 y1 y2) (Y9.l0 (k+1) y0 y1 y2))
 | 0=>by intros <;> exact LeO.none _
 | k+1=>by
  have ih0:=Y9.mono_l k
  ·intros
   unfold Y9.l0
   exact mO
theorem Y9.mono:∀ a0 a1 k,LeO (Y9.f k a0 a1) (Y9.f (k+1) a0 a1):=by
 intro a0 a1 k
 have ih0:=Y9.mono_l k
 unfold Y9.f
 exact mO
theorem Y9.calls (k:Nat) (A0:Option Addr) (c0:Nat) (l0:List (S30)) (a1:Int) (r:Int) (w:World) (hr0:Kd.C k30 w A0 l0.length l0) (hc0:l0.length≤c0) (h:Y9.f k l0 a1=some r) :
  Calls Try.prog 21 #[.slice A0 l0.length c0,.int .i64 a1] w fun e w'=>e = .returned (.int .i64 r)∧Drawn0 w w':=by
 have HR0:=aM hr0
 have HC0:=aM hc0
 clear hr0 hc0
 have H:(Y9.l0 k l0 a1 0)=some r:=h
 clear h
 have H':=aM H
 clear H
 go_enter Try.func21,Try.ntmps21
 go_wp2
 go_loopg [1,5] k (fun kq v1 v5 w'=>∃ (x1_1:Int) (x5_1:Int),v1 = .int .i64 x1_1∧v5 = .int .i64 x5_1∧Aside0 (Y9.l0 kq l0 x1_1 x5_1=some r)∧Aside0 (kq≤k)∧Drawn0 w w')
 case atStart=>exact ⟨(a1),(0),(z1_),(z1_),H',⟨Nat.le_refl _⟩,z4_⟩
 case round =>
  clear H'
  try clear c2
  try clear p2
  obtain ⟨x1_1,x5_1,rfl,rfl,HA,HK1,⟨m1,rfl⟩⟩:=hrel
  cases gk with
  | zero=>exact absurd HA.out (by simp [Y9.l0])
  | succ k1 =>
   have H:=HA.out
   clear HA
   simp only [Y9.l0] at H
   by_cases c3:x5_1<(l0.length:Int)
   ·rw [if_pos c3] at H
    have c3b0:decide (x5_1<(l0.length:Int))=true:=dE c3
    clear c3
    by_cases c4:0≤x5_1
    ·rw [if_pos c4] at H
     have c4b0:decide (0≤x5_1)=true:=dE c4
     clear c4
     by_cases c5:((rd_T30 l0 x5_1).f0)=x1_1
     ·rw [if_pos c5] at H
      have c5b0:(((rd_T30 l0 x5_1).f0) == x1_1)=true:=beq_iff_eq.mpr c5
      have c5b1:(((rd_T30 l0 x5_1).f0) != x1_1)=false:=bne_eq_false_iff_eq.mpr c5
      clear c5
      by_cases c6:((rd_T30 l0 x5_1).f1)=(wrap64 (x1_1+1))
      ·rw [if_pos c6] at H
       have c6b0:(((rd_T30 l0 x5_1).f1) == (wrap64 (x1_1+1)))=true:=beq_iff_eq.mpr c6
       have c6b1:(((rd_T30 l0 x5_1).f1) != (wrap64 (x1_1+1)))=false:=bne_eq_false_iff_eq.mpr c6
       clear c6
       have H':=aM H
       clear H
       have p803:0≤(x5_1:Int):=dT (z0_)
       have q803:x5_1<(l0.length:Int):=dT (z0_)
       obtain ⟨ad803,e803,hx803_0,hx803_1⟩:=at_T30 HR0.out x5_1 p803 q803
       cases e803
       replace p803:=eq_true p803
       replace q803:=eq_true q803
       have p804:0≤(x5_1:Int):=dT (z0_)
       have q804:x5_1<(l0.length:Int):=dT (z0_)
       obtain ⟨ad804,e804,hx804_0,hx804_1⟩:=at_T30 HR0.out x5_1 p804 q804
       obtain rfl:ad803=ad804:=(by injection e804)
       replace p804:=eq_true p804
       replace q804:=eq_true q804
       go_wp2
       go_roundg k1
       case measure=>have:=HK1.out;omega
       case rel=>exact ⟨(wrap64 ((wrap64 (x1_1+1))+1)),(wrap64 (x5_1+1)),(z1_),(z1_),H',⟨by have:=HK1.out;omega⟩,z4_⟩
      ·rw [if_neg c6] at H
       exact nO H
     ·rw [if_neg c5] at H
      exact nO H
    ·rw [if_neg c4] at H
     exact nO H
   ·rw [if_neg c3] at H
    have c3b0:decide (x5_1<(l0.length:Int))=false:=dF c3
    clear c3
    obtain rfl:=sI H
    go_wp2
    go_ret
    exact ⟨z1_,z4_⟩


/-! ### Y26: function 4 -/
def Y26.f (k:Nat) (l0_0:List (S134)) (a1:ByteArray):Option (Bool):=if (a1.size:Int)>1048576 then (some true) else ((Y29.f k l0_0 1048576).bind fun t806=>(if t806<0 then (some true) else ((Y12.f k l0_0).bind fun t807=>((Y14.f k t807 a1).bind fun t810=>((Y12.f k l0_0).bind fun t813=>((Y8.f k t813 a1).bind fun t817=>((Y6.f k t817 t810).bind fun t820=>(if t820=true then ((Y12.f k l0_0).bind fun t821=>((Y25.f k t813 t821).bind fun t824=>(if t824=true then ((Y23.f k t813 1).bind fun t825=>(if t825<0 then (none) else ((Y6.f k t817 t810).bind fun t826=>(if t826=true then ((Y11.f k t817 1).bind fun bt827=>((Y9.f k bt827.2 1).bind fun t829=>(if t829<0 then (none) else (if t829=bt827.1 then ((Y12.f k l0_0).bind fun t830=>((Y8.f k t830 a1).bind fun t833=>((Y6.f k t833 t810).bind fun t836=>(if t836=true then ((Y9.f k bt827.2 1).bind fun t837=>(if t837<0 then (none) else (if t837=bt827.1 then (some true) else (none)))) else (none))))) else (none))))) else (none))))) else (none)))) else (none)))))))))
theorem Y26.mono:∀ a0 a1 k,LeO (Y26.f k a0 a1) (Y26.f (k+1) a0 a1):=by
 intro a0 a1 k
 have m0:=@Y8.mono
 have m1:=@Y25.mono
 have m2:=@Y6.mono
 have m3:=@Y9.mono
 have m4:=@Y23.mono
 have m5:=@Y11.mono
 have m6:=@Y29.mono
 have m7:=@Y12.mono
 have m8:=@Y14.mono
 unfold Y26.f
 exact mO
theorem Y26.calls (k:Nat) (A0_0:Option Addr) (c0_0:Nat) (l0_0:List (S134)) (a1:ByteArray) (r:Bool) (w:World) (hr0_0:Kd.C k134 w A0_0 l0_0.length l0_0) (hc0_0:l0_0.length≤c0_0) (h:Y26.f k l0_0 a1=some r) :
  Calls Try.prog 4 #[.agg #[.slice A0_0 l0_0.length c0_0],.string a1] w fun e w'=>e = .returned (.bool r)∧Below w.heap.size w w':=by
 have hu42:=Try.underlying42
 have hu47:=Try.underlying47
 have HR0_0:=aM hr0_0
 have HC0_0:=aM hc0_0
 clear hr0_0 hc0_0
 have HB:=aM (Below.refl w.heap.size w)
 have H:(if (a1.size:Int)>1048576 then (some true) else ((Y29.f k l0_0 1048576).bind fun t806=>(if t806<0 then (some true) else ((Y12.f k l0_0).bind fun t807=>((Y14.f k t807 a1).bind fun t810=>((Y12.f k l0_0).bind fun t813=>((Y8.f k t813 a1).bind fun t817=>((Y6.f k t817 t810).bind fun t820=>(if t820=true then ((Y12.f k l0_0).bind fun t821=>((Y25.f k t813 t821).bind fun t824=>(if t824=true then ((Y23.f k t813 1).bind fun t825=>(if t825<0 then (none) else ((Y6.f k t817 t810).bind fun t826=>(if t826=true then ((Y11.f k t817 1).bind fun bt827=>((Y9.f k bt827.2 1).bind fun t829=>(if t829<0 then (none) else (if t829=bt827.1 then ((Y12.f k l0_0).bind fun t830=>((Y8.f k t830 a1).bind fun t833=>((Y6.f k t833 t810).bind fun t836=>(if t836=true then ((Y9.f k bt827.2 1).bind fun t837=>(if t837<0 then (none) else (if t837=bt827.1 then (some true) else (none)))) else (none))))) else (none))))) else (none))))) else (none)))) else (none))))))))))=some r:=h
 clear h
 by_cases c3:(a1.size:Int)>1048576
 ·rw [if_pos c3] at H
  have c3b0:decide (1048576<(a1.size:Int))=true:=dE c3
  have c3b1:decide (1048576<a1.size)=true:=dE (by omega)
  clear c3
  obtain rfl:=sI H
  go_enter Try.func4,Try.ntmps4
  go_wp2_with (first | ((with_reducible refine gd_ 2 ?_);refine be_ 2 #[.slice A0_0 l0_0.length c0_0] 42 ?_;intro gb805 hg w4 hbox hb;have n0_:=aM (below_step (z2_ HB.out) hb);have n1_:=aM (hbox);have n2_:=aM ((z6_ HB.out:w.heap.size≤gb805));have n3_:=aM ((z6_ HB.out:w.heap.size≤gb805));clear HB;have HB:=n0_;have BK805:=n1_;have GW805:=n2_;have GE805:=n3_;clear n0_ n1_ n2_ n3_;clear hb hbox hg))
  go_ret
  exact ⟨z7_,z3_ HB.out GE805.out⟩
 ·rw [if_neg c3] at H
  have c3b0:decide (1048576<(a1.size:Int))=false:=dF c3
  have c3b1:decide (1048576<a1.size)=false:=dF (by omega)
  clear c3
  replace H:=bS H
  obtain ⟨t806,A50,H⟩:=H
  replace H:(if t806<0 then (some true) else ((Y12.f k l0_0).bind fun t807=>((Y14.f k t807 a1).bind fun t810=>((Y12.f k l0_0).bind fun t813=>((Y8.f k t813 a1).bind fun t817=>((Y6.f k t817 t810).bind fun t820=>(if t820=true then ((Y12.f k l0_0).bind fun t821=>((Y25.f k t813 t821).bind fun t824=>(if t824=true then ((Y23.f k t813 1).bind fun t825=>(if t825<0 then (none) else ((Y6.f k t817 t810).bind fun t826=>(if t826=true then ((Y11.f k t817 1).bind fun bt827=>((Y9.f k bt827.2 1).bind fun t829=>(if t829<0 then (none) else (if t829=bt827.1 then ((Y12.f k l0_0).bind fun t830=>((Y8.f k t830 a1).bind fun t833=>((Y6.f k t833 t810).bind fun t836=>(if t836=true then ((Y9.f k bt827.2 1).bind fun t837=>(if t837<0 then (none) else (if t837=bt827.1 then (some true) else (none)))) else (none))))) else (none))))) else (none))))) else (none)))) else (none))))))))=some r:=H
  have A5:=aM A50
  clear A50
  by_cases c6:t806<0
  ·rw [if_pos c6] at H
   have c6b0:decide (t806<0)=true:=dE c6
   clear c6
   obtain rfl:=sI H
   go_enter Try.func4,Try.ntmps4
   go_wp2_with (first | ((with_reducible refine gd_ 2 ?_);refine be_ 2 #[.slice A0_0 l0_0.length c0_0] 42 ?_;intro gb805 hg w7 hbox hb;have n0_:=aM (below_step (z2_ HB.out) hb);have n1_:=aM (hbox);have n2_:=aM ((z6_ HB.out:w.heap.size≤gb805));have n3_:=aM ((z6_ HB.out:w.heap.size≤gb805));clear HB;have HB:=n0_;have BK805:=n1_;have GW805:=n2_;have GE805:=n3_;clear n0_ n1_ n2_ n3_;clear hb hbox hg;have ⟨hcz8_0,hfz8_0⟩:=cz1_ BK805.out) | ((with_reducible refine gc_ 13 ?_);refine gl_ (some 18) Try.func13 #[.agg #[.slice A0_0 l0_0.length c0_0],.int .i64 1048576] ?_;(with_reducible refine (Y29.calls k _ _ l0_0 1048576 t806 _ ?s1 ?s2 A5.out).mono ?_);(case s1=>repeat (first | exact (Kd.C_below HR0_0.out HB.out) | (with_reducible refine Kd.C_alloc ?_ _) | (with_reducible refine Kd.C_drewN ?_ _) | (with_reducible refine Kd.C_drew ?_)));(case s2=>exact HC0_0.out);rintro e w9 ⟨rfl,hb⟩;refine ⟨_,rfl,?_⟩;have n0_:=aM (blkB_ BK805.out hb);have n1_:=aM (below_step (z3_ HB.out GE805.out) hb);clear BK805;clear HB;have BK805:=n0_;have HB:=n1_;clear n0_ n1_;(try clear hb)))
   go_ret
   exact ⟨z7_,z3_ HB.out GE805.out⟩
  ·rw [if_neg c6] at H
   have c6b0:decide (t806<0)=false:=dF c6
   clear c6
   replace H:=bS H
   obtain ⟨t807,A100,H⟩:=H
   replace H:((Y14.f k t807 a1).bind fun t810=>((Y12.f k l0_0).bind fun t813=>((Y8.f k t813 a1).bind fun t817=>((Y6.f k t817 t810).bind fun t820=>(if t820=true then ((Y12.f k l0_0).bind fun t821=>((Y25.f k t813 t821).bind fun t824=>(if t824=true then ((Y23.f k t813 1).bind fun t825=>(if t825<0 then (none) else ((Y6.f k t817 t810).bind fun t826=>(if t826=true then ((Y11.f k t817 1).bind fun bt827=>((Y9.f k bt827.2 1).bind fun t829=>(if t829<0 then (none) else (if t829=bt827.1 then ((Y12.f k l0_0).bind fun t830=>((Y8.f k t830 a1).bind fun t833=>((Y6.f k t833 t810).bind fun t836=>(if t836=true then ((Y9.f k bt827.2 1).bind fun t837=>(if t837<0 then (none) else (if t837=bt827.1 then (some true) else (none)))) else (none))))) else (none))))) else (none))))) else (none)))) else (none))))))=some r:=H
   have A10:=aM A100
   clear A100
   replace H:=bS H
   obtain ⟨t810,A110,H⟩:=H
   replace H:((Y12.f k l0_0).bind fun t813=>((Y8.f k t813 a1).bind fun t817=>((Y6.f k t817 t810).bind fun t820=>(if t820=true then ((Y12.f k l0_0).bind fun t821=>((Y25.f k t813 t821).bind fun t824=>(if t824=true then ((Y23.f k t813 1).bind fun t825=>(if t825<0 then (none) else ((Y6.f k t817 t810).bind fun t826=>(if t826=true then ((Y11.f k t817 1).bind fun bt827=>((Y9.f k bt827.2 1).bind fun t829=>(if t829<0 then (none) else (if t829=bt827.1 then ((Y12.f k l0_0).bind fun t830=>((Y8.f k t830 a1).bind fun t833=>((Y6.f k t833 t810).bind fun t836=>(if t836=true then ((Y9.f k bt827.2 1).bind fun t837=>(if t837<0 then (none) else (if t837=bt827.1 then (some true) else (none)))) else (none))))) else (none))))) else (none))))) else (none)))) else (none)))))=some r:=H
   have A11:=aM A110
   clear A110
   replace H:=bS H
   obtain ⟨t813,A120,H⟩:=H
   replace H:((Y8.f k t813 a1).bind fun t817=>((Y6.f k t817 t810).bind fun t820=>(if t820=true then ((Y12.f k l0_0).bind fun t821=>((Y25.f k t813 t821).bind fun t824=>(if t824=true then ((Y23.f k t813 1).bind fun t825=>(if t825<0 then (none) else ((Y6.f k t817 t810).bind fun t826=>(if t826=true then ((Y11.f k t817 1).bind fun bt827=>((Y9.f k bt827.2 1).bind fun t829=>(if t829<0 then (none) else (if t829=bt827.1 then ((Y12.f k l0_0).bind fun t830=>((Y8.f k t830 a1).bind fun t833=>((Y6.f k t833 t810).bind fun t836=>(if t836=true then ((Y9.f k bt827.2 1).bind fun t837=>(if t837<0 then (none) else (if t837=bt827.1 then (some true) else (none)))) else (none))))) else (none))))) else (none))))) else (none)))) else (none))))=some r:=H
   have A12:=aM A120
   clear A120
   replace H:=bS H
   obtain ⟨t817,A130,H⟩:=H
   replace H:((Y6.f k t817 t810).bind fun t820=>(if t820=true then ((Y12.f k l0_0).bind fun t821=>((Y25.f k t813 t821).bind fun t824=>(if t824=true then ((Y23.f k t813 1).bind fun t825=>(if t825<0 then (none) else ((Y6.f k t817 t810).bind fun t826=>(if t826=true then ((Y11.f k t817 1).bind fun bt827=>((Y9.f k bt827.2 1).bind fun t829=>(if t829<0 then (none) else (if t829=bt827.1 then ((Y12.f k l0_0).bind fun t830=>((Y8.f k t830 a1).bind fun t833=>((Y6.f k t833 t810).bind fun t836=>(if t836=true then ((Y9.f k bt827.2 1).bind fun t837=>(if t837<0 then (none) else (if t837=bt827.1 then (some true) else (none)))) else (none))))) else (none))))) else (none))))) else (none)))) else (none)))=some r:=H
   have A13:=aM A130
   clear A130
   replace H:=bS H
   obtain ⟨t820,A140,H⟩:=H
   replace H:(if t820=true then ((Y12.f k l0_0).bind fun t821=>((Y25.f k t813 t821).bind fun t824=>(if t824=true then ((Y23.f k t813 1).bind fun t825=>(if t825<0 then (none) else ((Y6.f k t817 t810).bind fun t826=>(if t826=true then ((Y11.f k t817 1).bind fun bt827=>((Y9.f k bt827.2 1).bind fun t829=>(if t829<0 then (none) else (if t829=bt827.1 then ((Y12.f k l0_0).bind fun t830=>((Y8.f k t830 a1).bind fun t833=>((Y6.f k t833 t810).bind fun t836=>(if t836=true then ((Y9.f k bt827.2 1).bind fun t837=>(if t837<0 then (none) else (if t837=bt827.1 then (some true) else (none)))) else (none))))) else (none))))) else (none))))) else (none)))) else (none))=some r:=H
   have A14:=aM A140
   clear A140
   by_cases c15:t820=true
   ·subst c15
    have H1:((Y12.f k l0_0).bind fun t821=>((Y25.f k t813 t821).bind fun t824=>(if t824=true then ((Y23.f k t813 1).bind fun t825=>(if t825<0 then (none) else ((Y6.f k t817 t810).bind fun t826=>(if t826=true then ((Y11.f k t817 1).bind fun bt827=>((Y9.f k bt827.2 1).bind fun t829=>(if t829<0 then (none) else (if t829=bt827.1 then ((Y12.f k l0_0).bind fun t830=>((Y8.f k t830 a1).bind fun t833=>((Y6.f k t833 t810).bind fun t836=>(if t836=true then ((Y9.f k bt827.2 1).bind fun t837=>(if t837<0 then (none) else (if t837=bt827.1 then (some true) else (none)))) else (none))))) else (none))))) else (none))))) else (none))))=some r:=by rw [if_pos rfl] at H;exact H
    clear H
    have H:=H1
    clear H1
    replace H:=bS H
    obtain ⟨t821,A160,H⟩:=H
    replace H:((Y25.f k t813 t821).bind fun t824=>(if t824=true then ((Y23.f k t813 1).bind fun t825=>(if t825<0 then (none) else ((Y6.f k t817 t810).bind fun t826=>(if t826=true then ((Y11.f k t817 1).bind fun bt827=>((Y9.f k bt827.2 1).bind fun t829=>(if t829<0 then (none) else (if t829=bt827.1 then ((Y12.f k l0_0).bind fun t830=>((Y8.f k t830 a1).bind fun t833=>((Y6.f k t833 t810).bind fun t836=>(if t836=true then ((Y9.f k bt827.2 1).bind fun t837=>(if t837<0 then (none) else (if t837=bt827.1 then (some true) else (none)))) else (none))))) else (none))))) else (none))))) else (none)))=some r:=H
    have A16:=aM A160
    clear A160
    replace H:=bS H
    obtain ⟨t824,A170,H⟩:=H
    replace H:(if t824=true then ((Y23.f k t813 1).bind fun t825=>(if t825<0 then (none) else ((Y6.f k t817 t810).bind fun t826=>(if t826=true then ((Y11.f k t817 1).bind fun bt827=>((Y9.f k bt827.2 1).bind fun t829=>(if t829<0 then (none) else (if t829=bt827.1 then ((Y12.f k l0_0).bind fun t830=>((Y8.f k t830 a1).bind fun t833=>((Y6.f k t833 t810).bind fun t836=>(if t836=true then ((Y9.f k bt827.2 1).bind fun t837=>(if t837<0 then (none) else (if t837=bt827.1 then (some true) else (none)))) else (none))))) else (none))))) else (none))))) else (none))=some r:=H
    have A17:=aM A170
    clear A170
    by_cases c18:t824=true
    ·subst c18
     have H1:((Y23.f k t813 1).bind fun t825=>(if t825<0 then (none) else ((Y6.f k t817 t810).bind fun t826=>(if t826=true then ((Y11.f k t817 1).bind fun bt827=>((Y9.f k bt827.2 1).bind fun t829=>(if t829<0 then (none) else (if t829=bt827.1 then ((Y12.f k l0_0).bind fun t830=>((Y8.f k t830 a1).bind fun t833=>((Y6.f k t833 t810).bind fun t836=>(if t836=true then ((Y9.f k bt827.2 1).bind fun t837=>(if t837<0 then (none) else (if t837=bt827.1 then (some true) else (none)))) else (none))))) else (none))))) else (none)))))=some r:=by rw [if_pos rfl] at H;exact H
     clear H
     have H:=H1
     clear H1
     replace H:=bS H
     obtain ⟨t825,A190,H⟩:=H
     replace H:(if t825<0 then (none) else ((Y6.f k t817 t810).bind fun t826=>(if t826=true then ((Y11.f k t817 1).bind fun bt827=>((Y9.f k bt827.2 1).bind fun t829=>(if t829<0 then (none) else (if t829=bt827.1 then ((Y12.f k l0_0).bind fun t830=>((Y8.f k t830 a1).bind fun t833=>((Y6.f k t833 t810).bind fun t836=>(if t836=true then ((Y9.f k bt827.2 1).bind fun t837=>(if t837<0 then (none) else (if t837=bt827.1 then (some true) else (none)))) else (none))))) else (none))))) else (none))))=some r:=H
     have A19:=aM A190
     clear A190
     by_cases c20:t825<0
     ·rw [if_pos c20] at H
      exact nO H
     ·rw [if_neg c20] at H
      have c20b0:decide (t825<0)=false:=dF c20
      clear c20
      replace H:=bS H
      obtain ⟨t826,A210,H⟩:=H
      replace H:(if t826=true then ((Y11.f k t817 1).bind fun bt827=>((Y9.f k bt827.2 1).bind fun t829=>(if t829<0 then (none) else (if t829=bt827.1 then ((Y12.f k l0_0).bind fun t830=>((Y8.f k t830 a1).bind fun t833=>((Y6.f k t833 t810).bind fun t836=>(if t836=true then ((Y9.f k bt827.2 1).bind fun t837=>(if t837<0 then (none) else (if t837=bt827.1 then (some true) else (none)))) else (none))))) else (none))))) else (none))=some r:=H
      have A21:=aM A210
      clear A210
      by_cases c22:t826=true
      ·subst c22
       have H1:((Y11.f k t817 1).bind fun bt827=>((Y9.f k bt827.2 1).bind fun t829=>(if t829<0 then (none) else (if t829=bt827.1 then ((Y12.f k l0_0).bind fun t830=>((Y8.f k t830 a1).bind fun t833=>((Y6.f k t833 t810).bind fun t836=>(if t836=true then ((Y9.f k bt827.2 1).bind fun t837=>(if t837<0 then (none) else (if t837=bt827.1 then (some true) else (none)))) else (none))))) else (none)))))=some r:=by rw [if_pos rfl] at H;exact H
       clear H
       have H:=H1
       clear H1
       replace H:=bS H
       obtain ⟨⟨t827,t828⟩,A230,H⟩:=H
       replace H:((Y9.f k t828 1).bind fun t829=>(if t829<0 then (none) else (if t829=t827 then ((Y12.f k l0_0).bind fun t830=>((Y8.f k t830 a1).bind fun t833=>((Y6.f k t833 t810).bind fun t836=>(if t836=true then ((Y9.f k t828 1).bind fun t837=>(if t837<0 then (none) else (if t837=t827 then (some true) else (none)))) else (none))))) else (none))))=some r:=H
       have A23:=aM A230
       clear A230
       replace H:=bS H
       obtain ⟨t829,A240,H⟩:=H
       replace H:(if t829<0 then (none) else (if t829=t827 then ((Y12.f k l0_0).bind fun t830=>((Y8.f k t830 a1).bind fun t833=>((Y6.f k t833 t810).bind fun t836=>(if t836=true then ((Y9.f k t828 1).bind fun t837=>(if t837<0 then (none) else (if t837=t827 then (some true) else (none)))) else (none))))) else (none)))=some r:=H
       have A24:=aM A240
       clear A240
       by_cases c25:t829<0
       ·rw [if_pos c25] at H
        exact nO H
       ·rw [if_neg c25] at H
        have c25b0:decide (t829<0)=false:=dF c25
        clear c25
        by_cases c26:t829=t827
        ·rw [if_pos c26] at H
         have c26b0:(t829 == t827)=true:=beq_iff_eq.mpr c26
         have c26b1:(t829 != t827)=false:=bne_eq_false_iff_eq.mpr c26
         clear c26
         replace H:=bS H
         obtain ⟨t830,A270,H⟩:=H
         replace H:((Y8.f k t830 a1).bind fun t833=>((Y6.f k t833 t810).bind fun t836=>(if t836=true then ((Y9.f k t828 1).bind fun t837=>(if t837<0 then (none) else (if t837=t827 then (some true) else (none)))) else (none))))=some r:=H
         have A27:=aM A270
         clear A270
         replace H:=bS H
         obtain ⟨t833,A280,H⟩:=H
         replace H:((Y6.f k t833 t810).bind fun t836=>(if t836=true then ((Y9.f k t828 1).bind fun t837=>(if t837<0 then (none) else (if t837=t827 then (some true) else (none)))) else (none)))=some r:=H
         have A28:=aM A280
         clear A280
         replace H:=bS H
         obtain ⟨t836,A290,H⟩:=H
         replace H:(if t836=true then ((Y9.f k t828 1).bind fun t837=>(if t837<0 then (none) else (if t837=t827 then (some true) else (none)))) else (none))=some r:=H
         have A29:=aM A290
         clear A290
         by_cases c30:t836=true
         ·subst c30
          have H1:((Y9.f k t828 1).bind fun t837=>(if t837<0 then (none) else (if t837=t827 then (some true) else (none))))=some r:=by rw [if_pos rfl] at H;exact H
          clear H
          have H:=H1
          clear H1
          replace H:=bS H
          obtain ⟨t837,A310,H⟩:=H
          replace H:(if t837<0 then (none) else (if t837=t827 then (some true) else (none)))=some r:=H
          have A31:=aM A310
          clear A310
          by_cases c32:t837<0
          ·rw [if_pos c32] at H
           exact nO H
          ·rw [if_neg c32] at H
           have c32b0:decide (t837<0)=false:=dF c32
           clear c32
           by_cases c33:t837=t827
           ·rw [if_pos c33] at H
            have c33b0:(t837 == t827)=true:=beq_iff_eq.mpr c33
            have c33b1:(t837 != t827)=false:=bne_eq_false_iff_eq.mpr c33
            clear c33
            obtain rfl:=sI H
            go_enter Try.func4,Try.ntmps4
            try go_wp2_with (first | ((with_reducible refine gd_ 2 ?_);refine be_ 2 #[.slice A0_0 l0_0.length c0_0] 42 ?_;intro gb805 hg w34 hbox hb;have n0_:=aM (below_step (z2_ HB.out) hb);have n1_:=aM (hbox);have n2_:=aM ((z6_ HB.out:w.heap.size≤gb805));have n3_:=aM ((z6_ HB.out:w.heap.size≤gb805));clear HB;have HB:=n0_;have BK805:=n1_;have GW805:=n2_;have GE805:=n3_;clear n0_ n1_ n2_ n3_;clear hb hbox hg;have ⟨hcz35_0,hfz35_0⟩:=cz1_ BK805.out) | ((with_reducible refine gc_ 13 ?_);refine gl_ (some 18) Try.func13 #[.agg #[.slice A0_0 l0_0.length c0_0],.int .i64 1048576] ?_;(with_reducible refine (Y29.calls k _ _ l0_0 1048576 t806 _ ?s1 ?s2 A5.out).mono ?_);(case s1=>repeat (first | exact (Kd.C_below HR0_0.out HB.out) | (with_reducible refine Kd.C_alloc ?_ _) | (with_reducible refine Kd.C_drewN ?_ _) | (with_reducible refine Kd.C_drew ?_)));(case s2=>exact HC0_0.out);rintro e w36 ⟨rfl,hb⟩;refine ⟨_,rfl,?_⟩;have n0_:=aM (blkB_ BK805.out hb);have n1_:=aM (below_step (z3_ HB.out GE805.out) hb);clear BK805;clear HB;have BK805:=n0_;have HB:=n1_;clear n0_ n1_;(try clear hb);have ⟨hcz37_0,hfz37_0⟩:=cz1_ BK805.out) | ((with_reducible refine gc_ 15 ?_);refine gl_ (some 22) Try.func15 #[.agg #[.slice A0_0 l0_0.length c0_0]] ?_;(with_reducible refine (Y12.calls k _ _ l0_0 t807 _ ?s1 ?s2 A10.out).mono ?_);(case s1=>repeat (first | exact (Kd.C_below HR0_0.out HB.out) | (with_reducible refine Kd.C_alloc ?_ _) | (with_reducible refine Kd.C_drewN ?_ _) | (with_reducible refine Kd.C_drew ?_)));(case s2=>exact HC0_0.out);rintro e w38 ⟨v808,rfl,ho0,hb⟩;refine ⟨_,rfl,?_⟩;have n0_:=aM (Kd.S_lower ho0 (below_size (z3_ HB.out GE805.out)));have n1_:=aM (blkB_ BK805.out hb);have n2_:=aM (below_step (z3_ HB.out GE805.out) hb);clear BK805;clear HB;have HO809:=n0_;have BK805:=n1_;have HB:=n2_;clear n0_ n1_ n2_;(try clear hb);(try clear ho0);obtain ⟨Ao39,co39,eo39⟩:=Kd.S_slice HO809.out;subst eo39) | ((with_reducible refine gc_ 14 ?_);refine gl_ (some 24) Try.func14 #[.agg #[.slice Ao39 t807.length co39],.string a1] ?_;(with_reducible refine (Y14.calls k _ _ t807 a1 t810 _ ?s1 ?s2 A11.out).mono ?_);(case s1=>repeat (first | exact (Kd.S_reads' HO809.out).2.2 | (with_reducible refine Kd.C_alloc ?_ _) | (with_reducible refine Kd.C_drewN ?_ _) | (with_reducible refine Kd.C_drew ?_)));(case s2=>exact (Kd.S_reads' HO809.out).2.1);rintro e w40 ⟨v811,rfl,ho0,hb⟩;refine ⟨_,rfl,?_⟩;have n0_:=aM (Kd.S_elder' (z9_ HO809.out) (Kd.R_base ho0) hb);have n1_:=aM (Kd.R_lower ho0 (below_size (z3_ HB.out GE805.out)));have n2_:=aM (blkB_ BK805.out hb);have n3_:=aM (below_step (z3_ HB.out GE805.out) hb);clear HO809;clear BK805;clear HB;have HO809:=n0_;have HO812:=n1_;have BK805:=n2_;have HB:=n3_;clear n0_ n1_ n2_ n3_;(try clear hb);(try clear ho0);have ⟨hcz41_0,hfz41_0⟩:=cz1_ BK805.out) | ((with_reducible refine gc_ 15 ?_);refine gl_ (some 26) Try.func15 #[.agg #[.slice A0_0 l0_0.length c0_0]] ?_;(with_reducible refine (Y12.calls k _ _ l0_0 t813 _ ?s1 ?s2 A12.out).mono ?_);(case s1=>repeat (first | exact (Kd.C_below HR0_0.out HB.out) | (with_reducible refine Kd.C_alloc ?_ _) | (with_reducible refine Kd.C_drewN ?_ _) | (with_reducible refine Kd.C_drew ?_)));(case s2=>exact HC0_0.out);rintro e w42 ⟨v814,rfl,ho0,hb⟩;refine ⟨_,rfl,?_⟩;have n0_:=aM (Kd.S_elder' (z9_ HO809.out) (Kd.S_base ho0) hb);have n1_:=aM (Kd.R_below (z8_ HO812.out) hb);have n2_:=aM (Kd.S_lower (Kd.S_new' (Kd.S_new' ho0 (Kd.S_lt (z9_ HO809.out))) (Kd.R_lt (z8_ HO812.out))) (below_size (z3_ HB.out GE805.out)));have n3_:=aM (blkB_ BK805.out hb);have n4_:=aM (below_step (z3_ HB.out GE805.out) hb);clear HO809;clear HO812;clear BK805;clear HB;have HO809:=n0_;have HO812:=n1_;have HO815:=n2_;have BK805:=n3_;have HB:=n4_;clear n0_ n1_ n2_ n3_ n4_;(try clear hb);(try clear ho0)) | ((with_reducible refine gd_ 7 ?_);refine be_ 7 #[.slice none 0 0] 47 ?_;intro gb816 hg w43 hbox hb;have n0_:=aM (Kd.S_below (z9_ HO809.out) hb);have n1_:=aM (Kd.R_below (z8_ HO812.out) hb);have n2_:=aM (Kd.S_below (z9_ HO815.out) hb);have n3_:=aM (blkB_ BK805.out hb);have n4_:=aM (below_step (z3_ HB.out GE805.out) hb);have n5_:=aM (hbox);have n6_:=aM ((z12_ HB.out GE805.out:w.heap.size≤gb816));have n7_:=aM ((z12_ HB.out GE805.out:w.heap.size≤gb816));have n8_:=aM (neL_ BK805.out hg);have n9_:=aM (neG_ BK805.out hg);clear HO809;clear HO812;clear HO815;clear BK805;clear HB;have HO809:=n0_;have HO812:=n1_;have HO815:=n2_;have BK805:=n3_;have HB:=n4_;have BK816:=n5_;have GW816:=n6_;have GE816:=n7_;have NB805_816:=n8_;have NB816_805:=n9_;clear n0_ n1_ n2_ n3_ n4_ n5_ n6_ n7_ n8_ n9_;clear hb hbox hg;obtain ⟨Ao44,co44,eo44⟩:=Kd.S_slice HO815.out;subst eo44;have hnb45:=NB816_805.out;have hnc45:=NB805_816.out;have ⟨hcz46_0,hfz46_0⟩:=cz1_ BK816.out) | ((with_reducible refine gc_ 16 ?_);refine gl_ (some 29) Try.func16 #[.agg #[.slice Ao44 t813.length co44],.string a1] ?_;(with_reducible refine (Y8.calls k _ _ t813 a1 t817 _ ?s1 ?s2 A13.out).mono ?_);(case s1=>refine (Kd.S_reads' (e:=111) (base:=w.heap.size) (ok:=fun k_=>((True∧some k_≠(.slice Ao39 t807.length co39:Value).ownBlock)∧some k_≠(v811:Value).ownBlock)) (n:=t813.length) (c:=co44) ?_).2.2;exact (z24_ HO815.out BK816.out));(case s2=>exact (Kd.S_reads' HO815.out).2.1);rintro e w47 ⟨v818,rfl,ho0,hb⟩;refine ⟨_,rfl,?_⟩;have n0_:=aM (Kd.S_elder' (z24_ HO809.out BK816.out) (Kd.R_base ho0) hb);have n1_:=aM (Kd.R_elder' (by (with_reducible repeat (first | apply Kd.R_alloc | apply Kd.R_drewN | apply Kd.R_drew));exact (Kd.R_mono (Kd.R_far (p:=⟨gb816,0,none⟩) (Kd.R_types HO812.out BK816.out (by decide)) (fun _ hk=>hk.2) (.slice Ao44 t813.length co44)) (fun _ h_=>h_.1))) (Kd.R_base ho0) hb);have n2_:=aM (Kd.S_elder' (z24_ HO815.out BK816.out) (Kd.R_base ho0) hb);have n3_:=aM (Kd.R_lower (Kd.R_new' ho0 (Kd.R_lt (by (with_reducible repeat (first | apply Kd.R_alloc | apply Kd.R_drewN | apply Kd.R_drew));exact (Kd.R_mono (Kd.R_far (p:=⟨gb816,0,none⟩) (Kd.R_types HO812.out BK816.out (by decide)) (fun _ hk=>hk.2) (.slice Ao44 t813.length co44)) (fun _ h_=>h_.1))))) (below_size (z5_ HB.out GE805.out GE816.out)));have n4_:=aM (blk_below (g:=gb805) (o:=.cells #[.slice A0_0 l0_0.length c0_0] 42 (0,0)) (z21_ NB805_816.out BK805.out) hb);have n5_:=aM (blk_below (g:=gb816) (o:=.cells #[.slice Ao44 t813.length co44] 47 (0,0)) (by (with_reducible repeat (first | refine blk_drewN ?_ _ | refine blk_drew ?_ | refine blk_alloc ?_ _));refine blk_put (cs:=#[.slice none 0 0]) ?_ 0 _ rfl;(with_reducible repeat (first | refine blk_drewN ?_ _ | refine blk_drew ?_ | refine blk_alloc ?_ _));exact BK816.out) hb);have n6_:=aM (below_step (z5_ HB.out GE805.out GE816.out) hb);clear HO809;clear HO812;clear HO815;clear BK805;clear BK816;clear HB;have HO809:=n0_;have HO812:=n1_;have HO815:=n2_;have HO819:=n3_;have BK805:=n4_;have BK816:=n5_;have HB:=n6_;clear n0_ n1_ n2_ n3_ n4_ n5_ n6_;(try clear hb);(try clear hk);(try clear ho0);obtain ⟨Ao48,co48,eo48⟩:=Kd.R_slice HO819.out;subst eo48;obtain ⟨Ao49,co49,eo49⟩:=Kd.R_slice HO812.out;subst eo49) | ((with_reducible refine gc_ 17 ?_);refine gl_ (some 32) Try.func17 #[.slice Ao48 t817.length co48,.slice Ao49 t810.length co49] ?_;(with_reducible refine (Y6.calls k _ _ t817 _ _ t810 true _ ?s1 ?s2 ?s3 ?s4 A14.out).mono ?_);(case s1=>repeat (first | exact (Kd.R_reads' HO819.out).2.2 | (with_reducible refine Kd.C_alloc ?_ _) | (with_reducible refine Kd.C_drewN ?_ _) | (with_reducible refine Kd.C_drew ?_)));(case s2=>exact (Kd.R_reads' HO819.out).2.1);(case s3=>repeat (first | exact (Kd.R_reads' HO812.out).2.2 | (with_reducible refine Kd.C_alloc ?_ _) | (with_reducible refine Kd.C_drewN ?_ _) | (with_reducible refine Kd.C_drew ?_)));(case s4=>exact (Kd.R_reads' HO812.out).2.1);rintro e w50 ⟨rfl,hb⟩;refine ⟨_,rfl,?_⟩;have n0_:=aM (Kd.S_below (z9_ HO809.out) hb);have n1_:=aM (Kd.R_below (z8_ HO812.out) hb);have n2_:=aM (Kd.S_below (z9_ HO815.out) hb);have n3_:=aM (Kd.R_below (z8_ HO819.out) hb);have n4_:=aM (blkB_ BK805.out hb);have n5_:=aM (blkB_ BK816.out hb);have n6_:=aM (below_step (z5_ HB.out GE805.out GE816.out) hb);clear HO809;clear HO812;clear HO815;clear HO819;clear BK805;clear BK816;clear HB;have HO809:=n0_;have HO812:=n1_;have HO815:=n2_;have HO819:=n3_;have BK805:=n4_;have BK816:=n5_;have HB:=n6_;clear n0_ n1_ n2_ n3_ n4_ n5_ n6_;(try clear hb)))
            have n0_:=aM (Kd.S_drew HO809.out)
            have n1_:=aM (Kd.R_drew HO812.out)
            have n2_:=aM (Kd.S_drew HO815.out)
            have n3_:=aM (Kd.R_drew HO819.out)
            have n4_:=aM (blk_drew BK805.out)
            have n5_:=aM (blk_drew BK816.out)
            have n6_:=aM (below_drew1 HB.out)
            clear HO809
            clear HO812
            clear HO815
            clear HO819
            clear BK805
            clear BK816
            clear HB
            have HO809:=n0_
            have HO812:=n1_
            have HO815:=n2_
            have HO819:=n3_
            have BK805:=n4_
            have BK816:=n5_
            have HB:=n6_
            clear n0_ n1_ n2_ n3_ n4_ n5_ n6_
            refine start_ (n:=5) (S:=fun w'=>w'.cell? ⟨gb816,0,none⟩=some (.slice Ao44 t813.length co44)∧w'.cell? ⟨gb805,0,none⟩=some (.slice A0_0 l0_0.length c0_0)) (ds:=[]) #[O,O,O,O,O] (by kernel_rfl) rfl rfl ⟨(blk_cell BK816.out 0).trans rfl,(blk_cell BK805.out 0).trans rfl⟩ (fun hHeld=>?_)
            generalize w50.drew=w51 at HO809 HO812 HO815 HO819 BK805 BK816 HB hHeld ⊢
            refine take_ (i:=0) (N:=some 34) (v:=?_) (a':=?_) #[I,O,O,O,O] rfl rfl (by kernel_rfl) (fun _ _ _ h=>h) (Or.inl ⟨by rfl,?_⟩) hHeld ?_ ?_
            rotate_left
            ·rintro w' ⟨s0,s1⟩
             go_simp
             with_reducible rfl
            rotate_left
            ·simp only [Act.put,sa_,s0_,ss_,i64_w,i32_w]
             rfl
            refine take_ (i:=1) (N:=some 35) (v:=?_) (a':=?_) #[I,I,O,O,O] rfl rfl (by kernel_rfl) (fun _ _ _ h=>h) (Or.inl ⟨by rfl,?_⟩) hHeld ?_ ?_
            rotate_left
            ·rintro w' ⟨s0,s1⟩
             go_simp
             with_reducible rfl
            rotate_left
            ·simp only [Act.put,sa_,s0_,ss_,i64_w,i32_w]
             rfl
            refine one_ (i:=2) (N:=some 36) #[I,I,I,O,O] rfl rfl (by kernel_rfl) (by decide) (fun K hK=>?_)
            refine gs_ Try.func15 #[.agg #[.slice A0_0 l0_0.length c0_0]] ?_
            with_reducible refine (Y12.calls k _ _ l0_0 t821 _ ?s1 ?s2 A16.out).mono ?_
            (case s1=>repeat (first | exact (Kd.C_below HR0_0.out HB.out) | (with_reducible refine Kd.C_alloc ?_ _) | (with_reducible refine Kd.C_drewN ?_ _) | (with_reducible refine Kd.C_drew ?_)))
            (case s2=>exact HC0_0.out)
            rintro e w52 ⟨v822,rfl,ho0,hb⟩
            refine ⟨_,rfl,?_⟩
            have n0_:=aM (Kd.S_elder' (z9_ HO809.out) (Kd.S_base ho0) hb)
            have n1_:=aM (Kd.R_below (z8_ HO812.out) hb)
            have n2_:=aM (Kd.S_elder' (z9_ HO815.out) (Kd.S_base ho0) hb)
            have n3_:=aM (Kd.R_below (z8_ HO819.out) hb)
            have n4_:=aM (Kd.S_lower (Kd.S_new' (Kd.S_new' (Kd.S_new' (Kd.S_new' ho0 (Kd.S_lt (z9_ HO809.out))) (Kd.R_lt (z8_ HO812.out))) (Kd.S_lt (z9_ HO815.out))) (Kd.R_lt (z8_ HO819.out))) (below_size (z5_ HB.out GE805.out GE816.out)))
            have n5_:=aM (blkB_ BK805.out hb)
            have n6_:=aM (blkB_ BK816.out hb)
            have n7_:=aM (below_step (z5_ HB.out GE805.out GE816.out) hb)
            clear HO809
            clear HO812
            clear HO815
            clear HO819
            clear BK805
            clear BK816
            clear HB
            have HO809:=n0_
            have HO812:=n1_
            have HO815:=n2_
            have HO819:=n3_
            have HO823:=n4_
            have BK805:=n5_
            have BK816:=n6_
            have HB:=n7_
            clear n0_ n1_ n2_ n3_ n4_ n5_ n6_ n7_
            (try clear hb)
            (try clear ho0)
            obtain ⟨Ao53,co53,eo53⟩:=Kd.S_slice HO823.out
            (first | subst eo53 | (injection eo53 with f1_ f2_ f3_;have f4_:=f1_.symm;have f5_:=f3_.symm;clear f1_ f2_ f3_;subst f4_;subst f5_))
            refine hK.out _ _ ⟨(blk_cell BK816.out 0).trans rfl,(blk_cell BK805.out 0).trans rfl⟩ (fun hHeld=>?_)
            clear hK K
            refine nm_ 36 ?_
            refine one_ (i:=3) (N:=some 37) #[I,I,I,I,O] rfl rfl (by kernel_rfl) (by decide) (fun K hK=>?_)
            refine gs_ Try.func18 #[.agg #[.slice Ao44 t813.length co44],.agg #[.slice Ao53 t821.length co53]] ?_
            with_reducible refine (Y25.calls k _ _ t813 _ _ t821 true _ ?s1 ?s2 ?s3 ?s4 A17.out).mono ?_
            (case s1=>repeat (first | exact (Kd.S_reads' HO815.out).2.2 | (with_reducible refine Kd.C_alloc ?_ _) | (with_reducible refine Kd.C_drewN ?_ _) | (with_reducible refine Kd.C_drew ?_)))
            (case s2=>exact (Kd.S_reads' HO815.out).2.1)
            (case s3=>repeat (first | exact (Kd.S_reads' HO823.out).2.2 | (with_reducible refine Kd.C_alloc ?_ _) | (with_reducible refine Kd.C_drewN ?_ _) | (with_reducible refine Kd.C_drew ?_)))
            (case s4=>exact (Kd.S_reads' HO823.out).2.1)
            rintro e w54 ⟨rfl,hb⟩
            refine ⟨_,rfl,?_⟩
            have n0_:=aM (Kd.S_below (z9_ HO809.out) hb)
            have n1_:=aM (Kd.R_below (z8_ HO812.out) hb)
            have n2_:=aM (Kd.S_below (z9_ HO815.out) hb)
            have n3_:=aM (Kd.R_below (z8_ HO819.out) hb)
            have n4_:=aM (Kd.S_below (z9_ HO823.out) hb)
            have n5_:=aM (blkB_ BK805.out hb)
            have n6_:=aM (blkB_ BK816.out hb)
            have n7_:=aM (below_step (z5_ HB.out GE805.out GE816.out) hb)
            clear HO809
            clear HO812
            clear HO815
            clear HO819
            clear HO823
            clear BK805
            clear BK816
            clear HB
            have HO809:=n0_
            have HO812:=n1_
            have HO815:=n2_
            have HO819:=n3_
            have HO823:=n4_
            have BK805:=n5_
            have BK816:=n6_
            have HB:=n7_
            clear n0_ n1_ n2_ n3_ n4_ n5_ n6_ n7_
            (try clear hb)
            refine hK.out _ _ ⟨(blk_cell BK816.out 0).trans rfl,(blk_cell BK805.out 0).trans rfl⟩ (fun hHeld=>?_)
            clear hK K
            refine nm_ 37 ?_
            refine pure_ (i:=4) (N:=some 38) (v:=?_) (a':=?_) #[I,I,I,I,I] rfl rfl (by kernel_rfl) (fun _ _ _ h=>h) (Or.inl ⟨by rfl,?_⟩) ?_ ?_
            rotate_left
            ·intro w'
             go_simp
             with_reducible rfl
            rotate_left
            ·simp only [Act.put,sa_,s0_,ss_,i64_w,i32_w]
             rfl
            refine done_ (by kernel_rfl) ?_
            have ⟨hcz55_0,hfz55_0⟩:=cz1_ BK816.out
            try go_wp2_with (first | ((with_reducible refine gc_ 19 ?_);refine gl_ (some 41) Try.func19 #[.agg #[.slice Ao44 t813.length co44],.int .i64 1] ?_;(with_reducible refine (Y23.calls k ?sideP _ t813 1 t825 w _ ?sideB ?sideS A19.out).mono ?_);(case sideS=>first | exact Kd.S_bound HO815.out | exact Kd.S_bound (Kd.S_drewN HO815.out _) | exact Kd.S_bound (Kd.S_drew HO815.out));(case sideB=>exact (z5_ HB.out GE805.out GE816.out));rintro e w56 ⟨rfl,hb,hkp⟩;refine ⟨_,rfl,?_⟩;have n0_:=aM (S_gone_ HO809.out (w1:=w56) rfl);have n1_:=aM (Kd.R_mono (Kd.R_keptB (Kd.R_tight2 rfl (by first | exact HO812.out | exact Kd.R_drewN HO812.out _ | exact Kd.R_drew HO812.out)) hkp (fun k_ hk_ hs_=>(by have h_:=hs_.1;simp only [and_assoc] at h_;first | exact h_.1 hk_.1 | exact h_.2.1 hk_.1 | exact h_.2.2.1 hk_.1 | exact h_.2.2.2.1 hk_.1 | exact h_.2.2.2.2.1 hk_.1 | exact h_.2 hk_.1 | exact h_.2.2 hk_.1 | exact h_.2.2.2 hk_.1 | exact h_.2.2.2.2 hk_.1))) (fun k_ hk_=>hk_.1.2));have n2_:=aM (S_gone_ HO815.out (w1:=w56) rfl);have n3_:=aM (Kd.R_mono (Kd.R_keptB (Kd.R_tight2 rfl (by first | exact HO819.out | exact Kd.R_drewN HO819.out _ | exact Kd.R_drew HO819.out)) hkp (fun k_ hk_ hs_=>(by have h_:=hs_.1;simp only [and_assoc] at h_;first | exact h_.1 hk_.1 | exact h_.2.1 hk_.1 | exact h_.2.2.1 hk_.1 | exact h_.2.2.2.1 hk_.1 | exact h_.2.2.2.2.1 hk_.1 | exact h_.2 hk_.1 | exact h_.2.2 hk_.1 | exact h_.2.2.2 hk_.1 | exact h_.2.2.2.2 hk_.1))) (fun k_ hk_=>hk_.1.2));have n4_:=aM (S_gone_ HO823.out (w1:=w56) rfl);have n5_:=aM (blk_kept (by first | exact BK805.out | exact blk_drewN BK805.out _ | exact blk_drew BK805.out) hkp (fun hs_=>(by obtain ⟨_,_,_,q_,hq_,cells_,hc_⟩:=hs_;have e_:=hc_.symm.trans BK805.out;injection e_ with e_;injection e_ with e1_ e2_ e3_;subst e2_;revert hq_;decide)));have n6_:=aM (blk_kept (by first | exact BK816.out | exact blk_drewN BK816.out _ | exact blk_drew BK816.out) hkp (fun hs_=>(by obtain ⟨_,_,_,q_,hq_,cells_,hc_⟩:=hs_;have e_:=hc_.symm.trans BK816.out;injection e_ with e_;injection e_ with e1_ e2_ e3_;subst e2_;revert hq_;decide)));have n7_:=aM hb;clear HO809;clear HO812;clear HO815;clear HO819;clear HO823;clear BK805;clear BK816;clear HB;have HO809:=n0_;have HO812:=n1_;have HO815:=n2_;have HO819:=n3_;have HO823:=n4_;have BK805:=n5_;have BK816:=n6_;have HB:=n7_;clear n0_ n1_ n2_ n3_ n4_ n5_ n6_ n7_;(try clear hb)) | (go_at_call 17;(with_reducible refine (Y6.calls k _ _ t817 _ _ t810 true _ ?s1 ?s2 ?s3 ?s4 A21.out).mono ?_);(case s1=>repeat (first | exact (Kd.R_reads' HO819.out).2.2 | (with_reducible refine Kd.C_alloc ?_ _) | (with_reducible refine Kd.C_drewN ?_ _) | (with_reducible refine Kd.C_drew ?_)));(case s2=>exact (Kd.R_reads' HO819.out).2.1);(case s3=>repeat (first | exact (Kd.R_reads' HO812.out).2.2 | (with_reducible refine Kd.C_alloc ?_ _) | (with_reducible refine Kd.C_drewN ?_ _) | (with_reducible refine Kd.C_drew ?_)));(case s4=>exact (Kd.R_reads' HO812.out).2.1);rintro e w57 ⟨rfl,hb⟩;have n0_:=aM (Kd.S_below (z9_ HO809.out) hb);have n1_:=aM (Kd.R_below (z8_ HO812.out) hb);have n2_:=aM (Kd.S_below (z9_ HO815.out) hb);have n3_:=aM (Kd.R_below (z8_ HO819.out) hb);have n4_:=aM (Kd.S_below (z9_ HO823.out) hb);have n5_:=aM (blkB_ BK805.out hb);have n6_:=aM (blkB_ BK816.out hb);have n7_:=aM (below_step (z5_ HB.out GE805.out GE816.out) hb);clear HO809;clear HO812;clear HO815;clear HO819;clear HO823;clear BK805;clear BK816;clear HB;have HO809:=n0_;have HO812:=n1_;have HO815:=n2_;have HO819:=n3_;have HO823:=n4_;have BK805:=n5_;have BK816:=n6_;have HB:=n7_;clear n0_ n1_ n2_ n3_ n4_ n5_ n6_ n7_;(try clear hb)) | ((with_reducible refine gc_ 20 ?_);refine gl_ (some 52) Try.func20 #[.slice Ao48 t817.length co48,.int .i64 1] ?_;(with_reducible refine (Y11.calls k (fun k_=>some k_=(.slice Ao48 t817.length co48:Value).ownBlock) (.slice Ao48 t817.length co48) t817 1 t827 t828 w _ ?s1 ?s2 A23.out).mono ?_);(case s1=>repeat (first | (with_reducible first | exact HB.out | apply below_alloc | apply pw_below_drewN | apply below_drew1 | refine below_set ?_ GE805.out | refine below_set ?_ GE816.out) | exact HB.out));(case s2=>exact Kd.R_tight rfl HO819.out);rintro e w58 ⟨rfl,hy0,hb,hkp⟩;refine ⟨_,rfl,?_⟩;have n0_:=aM (blk_kept (z10_ BK805.out) hkp (fun hs_=>(fun e_=>(Kd.R_ne HO819.out BK805.out (by decide)) e_) hs_));have n1_:=aM (Kd.S_mono (ok':=fun k_=>some k_≠(.slice Ao49 t810.length co49:Value).ownBlock∧some k_≠(.slice Ao44 t813.length co44:Value).ownBlock∧some k_≠(.slice Ao48 t817.length co48:Value).ownBlock∧some k_≠(.slice Ao53 t821.length co53:Value).ownBlock) (Kd.S_keptB (HO809.out) hkp (fun k_ hk_ hs_=>(hk_.1.2) hs_)) (fun k_ hk_=>⟨hk_.1.1.1.1.2,hk_.1.1.1.2,hk_.1.1.2,hk_.1.2⟩));have n2_:=aM (Kd.R_mono (ok':=fun k_=>some k_≠(.slice Ao48 t817.length co48:Value).ownBlock) (Kd.R_keptB (HO812.out) hkp (fun k_ hk_ hs_=>(hk_.2) hs_)) (fun k_ hk_=>hk_.1.2));have n3_:=aM (Kd.S_mono (ok':=fun k_=>some k_≠(.slice Ao39 t807.length co39:Value).ownBlock∧some k_≠(.slice Ao49 t810.length co49:Value).ownBlock∧some k_≠(.slice Ao48 t817.length co48:Value).ownBlock∧some k_≠(.slice Ao53 t821.length co53:Value).ownBlock) (Kd.S_keptB (HO815.out) hkp (fun k_ hk_ hs_=>(hk_.1.2) hs_)) (fun k_ hk_=>⟨hk_.1.1.1.1.2,hk_.1.1.1.2,hk_.1.1.2,hk_.1.2⟩));have n4_:=aM (blk_kept (z10_ BK816.out) hkp (fun hs_=>(fun e_=>(Kd.R_ne HO819.out BK816.out (by decide)) e_) hs_));have n5_:=aM (Kd.R_reok rfl hy0 (fun k_ e_=>HO819.out.1 k_ e_));have n6_:=aM (Kd.S_mono (ok':=fun k_=>some k_≠(.slice Ao39 t807.length co39:Value).ownBlock∧some k_≠(.slice Ao49 t810.length co49:Value).ownBlock∧some k_≠(.slice Ao44 t813.length co44:Value).ownBlock∧some k_≠(.slice Ao48 t817.length co48:Value).ownBlock) (Kd.S_keptB (HO823.out) hkp (fun k_ hk_ hs_=>(hk_.2) hs_)) (fun k_ hk_=>⟨hk_.1.1.1.1.2,hk_.1.1.1.2,hk_.1.1.2,hk_.1.2⟩));have n7_:=aM (hb);clear BK805;clear HO809;clear HO812;clear HO815;clear BK816;clear HO819;clear HO823;clear HB;have BK805:=n0_;have HO809:=n1_;have HO812:=n2_;have HO815:=n3_;have BK816:=n4_;have HO819:=n5_;have HO823:=n6_;have HB:=n7_;clear n0_ n1_ n2_ n3_ n4_ n5_ n6_ n7_;(try clear hb);(try clear hkp);(try clear hy0)) | ((with_reducible refine gc_ 21 ?_);refine goesL_ (some 55) rfl rfl Try.func21 (by kernel_rfl) rfl #[.slice Ao48 t828.length co48,.int .i64 1] rfl (by (try simp only [List.map_toArray,List.map_cons,List.map_nil]);first | done | (rw [show t828.length=t817.length from (Kd.R_reads' HO819.out).1.symm] <;> rfl) | rfl | (simp only [List.length_drop,List.length_take];rfl)) ?_;(with_reducible refine (Y9.calls k _ _ t828 1 t829 _ ?s1 ?s2 A24.out).mono ?_);(case s1=>repeat (first | exact (Kd.R_reads' HO819.out).2.2 | (with_reducible refine Kd.C_alloc ?_ _) | (with_reducible refine Kd.C_drewN ?_ _) | (with_reducible refine Kd.C_drew ?_)));(case s2=>rw [show t828.length=t817.length from (Kd.R_reads' HO819.out).1.symm];exact (Kd.R_reads' HO819.out).2.1);rintro e w' ⟨rfl,⟨nd,rfl⟩⟩;refine ⟨_,rfl,?_⟩;have ⟨hcz59_0,hfz59_0⟩:=cz1_ BK805.out) | ((with_reducible refine gc_ 15 ?_);refine gl_ (some 62) Try.func15 #[.agg #[.slice A0_0 l0_0.length c0_0]] ?_;(with_reducible refine (Y12.calls k _ _ l0_0 t830 _ ?s1 ?s2 A27.out).mono ?_);(case s1=>repeat (first | exact (Kd.C_below HR0_0.out (z5_ HB.out GE805.out GE816.out)) | (with_reducible refine Kd.C_alloc ?_ _) | (with_reducible refine Kd.C_drewN ?_ _) | (with_reducible refine Kd.C_drew ?_)));(case s2=>exact HC0_0.out);rintro e w60 ⟨v831,rfl,ho0,hb⟩;refine ⟨_,rfl,?_⟩;have n0_:=aM (Kd.S_elder' (z9_ HO809.out) (Kd.S_base ho0) hb);have n1_:=aM (Kd.R_below (z8_ HO812.out) hb);have n2_:=aM (Kd.S_elder' (z9_ HO815.out) (Kd.S_base ho0) hb);have n3_:=aM (Kd.R_below (z8_ HO819.out) hb);have n4_:=aM (Kd.S_elder' (z9_ HO823.out) (Kd.S_base ho0) hb);have n5_:=aM (Kd.S_lower (Kd.S_new' (Kd.S_new' (Kd.S_new' (Kd.S_new' (Kd.S_new' ho0 (Kd.S_lt (z9_ HO809.out))) (Kd.R_lt (z8_ HO812.out))) (Kd.S_lt (z9_ HO815.out))) (Kd.R_lt (z8_ HO819.out))) (Kd.S_lt (z9_ HO823.out))) (below_size (z5_ HB.out GE805.out GE816.out)));have n6_:=aM (blkB_ BK805.out hb);have n7_:=aM (blkB_ BK816.out hb);have n8_:=aM (below_step (z5_ HB.out GE805.out GE816.out) hb);clear HO809;clear HO812;clear HO815;clear HO819;clear HO823;clear BK805;clear BK816;clear HB;have HO809:=n0_;have HO812:=n1_;have HO815:=n2_;have HO819:=n3_;have HO823:=n4_;have HO832:=n5_;have BK805:=n6_;have BK816:=n7_;have HB:=n8_;clear n0_ n1_ n2_ n3_ n4_ n5_ n6_ n7_ n8_;(try clear hb);(try clear ho0);obtain ⟨Ao61,co61,eo61⟩:=Kd.S_slice HO832.out;subst eo61) | ((with_reducible refine gc_ 16 ?_);refine gl_ (some 64) Try.func16 #[.agg #[.slice Ao61 t830.length co61],.string a1] ?_;(with_reducible refine (Y8.calls k _ _ t830 a1 t833 _ ?s1 ?s2 A28.out).mono ?_);(case s1=>repeat (first | exact (Kd.S_reads' HO832.out).2.2 | (with_reducible refine Kd.C_alloc ?_ _) | (with_reducible refine Kd.C_drewN ?_ _) | (with_reducible refine Kd.C_drew ?_)));(case s2=>exact (Kd.S_reads' HO832.out).2.1);rintro e w62 ⟨v834,rfl,ho0,hb⟩;refine ⟨_,rfl,?_⟩;have n0_:=aM (Kd.S_elder' (z9_ HO809.out) (Kd.R_base ho0) hb);have n1_:=aM (Kd.R_elder' (z8_ HO812.out) (Kd.R_base ho0) hb);have n2_:=aM (Kd.S_elder' (z9_ HO815.out) (Kd.R_base ho0) hb);have n3_:=aM (Kd.R_elder' (z8_ HO819.out) (Kd.R_base ho0) hb);have n4_:=aM (Kd.S_elder' (z9_ HO823.out) (Kd.R_base ho0) hb);have n5_:=aM (Kd.S_elder' (z9_ HO832.out) (Kd.R_base ho0) hb);have n6_:=aM (Kd.R_lower (Kd.R_new' (Kd.R_new' ho0 (Kd.R_lt (z8_ HO812.out))) (Kd.R_lt (z8_ HO819.out))) (below_size (z5_ HB.out GE805.out GE816.out)));have n7_:=aM (blkB_ BK805.out hb);have n8_:=aM (blkB_ BK816.out hb);have n9_:=aM (below_step (z5_ HB.out GE805.out GE816.out) hb);clear HO809;clear HO812;clear HO815;clear HO819;clear HO823;clear HO832;clear BK805;clear BK816;clear HB;have HO809:=n0_;have HO812:=n1_;have HO815:=n2_;have HO819:=n3_;have HO823:=n4_;have HO832:=n5_;have HO835:=n6_;have BK805:=n7_;have BK816:=n8_;have HB:=n9_;clear n0_ n1_ n2_ n3_ n4_ n5_ n6_ n7_ n8_ n9_;(try clear hb);(try clear ho0);obtain ⟨Ao63,co63,eo63⟩:=Kd.R_slice HO835.out;subst eo63) | ((with_reducible refine gc_ 17 ?_);refine gl_ (some 67) Try.func17 #[.slice Ao63 t833.length co63,.slice Ao49 t810.length co49] ?_;(with_reducible refine (Y6.calls k _ _ t833 _ _ t810 true _ ?s1 ?s2 ?s3 ?s4 A29.out).mono ?_);(case s1=>repeat (first | exact (Kd.R_reads' HO835.out).2.2 | (with_reducible refine Kd.C_alloc ?_ _) | (with_reducible refine Kd.C_drewN ?_ _) | (with_reducible refine Kd.C_drew ?_)));(case s2=>exact (Kd.R_reads' HO835.out).2.1);(case s3=>repeat (first | exact (Kd.R_reads' HO812.out).2.2 | (with_reducible refine Kd.C_alloc ?_ _) | (with_reducible refine Kd.C_drewN ?_ _) | (with_reducible refine Kd.C_drew ?_)));(case s4=>exact (Kd.R_reads' HO812.out).2.1);rintro e w64 ⟨rfl,hb⟩;refine ⟨_,rfl,?_⟩;have n0_:=aM (Kd.S_below (z9_ HO809.out) hb);have n1_:=aM (Kd.R_below (z8_ HO812.out) hb);have n2_:=aM (Kd.S_below (z9_ HO815.out) hb);have n3_:=aM (Kd.R_below (z8_ HO819.out) hb);have n4_:=aM (Kd.S_below (z9_ HO823.out) hb);have n5_:=aM (Kd.S_below (z9_ HO832.out) hb);have n6_:=aM (Kd.R_below (z8_ HO835.out) hb);have n7_:=aM (blkB_ BK805.out hb);have n8_:=aM (blkB_ BK816.out hb);have n9_:=aM (below_step (z5_ HB.out GE805.out GE816.out) hb);clear HO809;clear HO812;clear HO815;clear HO819;clear HO823;clear HO832;clear HO835;clear BK805;clear BK816;clear HB;have HO809:=n0_;have HO812:=n1_;have HO815:=n2_;have HO819:=n3_;have HO823:=n4_;have HO832:=n5_;have HO835:=n6_;have BK805:=n7_;have BK816:=n8_;have HB:=n9_;clear n0_ n1_ n2_ n3_ n4_ n5_ n6_ n7_ n8_ n9_;(try clear hb)) | ((with_reducible refine gc_ 21 ?_);refine goesL_ (some 71) rfl rfl Try.func21 (by kernel_rfl) rfl #[.slice Ao48 t828.length co48,.int .i64 1] rfl (by (try simp only [List.map_toArray,List.map_cons,List.map_nil]);first | done | (rw [show t828.length=t817.length from (Kd.R_reads' HO819.out).1.symm] <;> rfl) | rfl | (simp only [List.length_drop,List.length_take];rfl)) ?_;(with_reducible refine (Y9.calls k _ _ t828 1 t837 _ ?s1 ?s2 A31.out).mono ?_);(case s1=>repeat (first | exact (Kd.R_reads' HO819.out).2.2 | (with_reducible refine Kd.C_alloc ?_ _) | (with_reducible refine Kd.C_drewN ?_ _) | (with_reducible refine Kd.C_drew ?_)));(case s2=>rw [show t828.length=t817.length from (Kd.R_reads' HO819.out).1.symm];exact (Kd.R_reads' HO819.out).2.1);rintro e w' ⟨rfl,⟨nd,rfl⟩⟩;refine ⟨_,rfl,?_⟩))
            go_ret
            exact ⟨z7_,z5_ HB.out GE805.out GE816.out⟩
           ·rw [if_neg c33] at H
            exact nO H
         ·replace c30:=Bool.eq_false_iff.mpr c30
          subst c30
          have H1:(none)=some r:=by rw [if_neg (show ¬ (false=true) by decide)] at H;exact H
          clear H
          have H:=H1
          clear H1
          exact nO H
        ·rw [if_neg c26] at H
         exact nO H
      ·replace c22:=Bool.eq_false_iff.mpr c22
       subst c22
       have H1:(none)=some r:=by rw [if_neg (show ¬ (false=true) by decide)] at H;exact H
       clear H
       have H:=H1
       clear H1
       exact nO H
    ·replace c18:=Bool.eq_false_iff.mpr c18
     subst c18
     have H1:(none)=some r:=by rw [if_neg (show ¬ (false=true) by decide)] at H;exact H
     clear H
     have H:=H1
     clear H1
     exact nO H
   ·replace c15:=Bool.eq_false_iff.mpr c15
    subst c15
    have H1:(none)=some r:=by rw [if_neg (show ¬ (false=true) by decide)] at H;exact H
    clear H
    have H:=H1
    clear H1
    exact nO H

end Go.Proofs.Ytlglglbjckpnbaa.P

namespace Go.Proofs.Ytlglglbjckpnbaa.P
open Go.RowKit Go.Proofs.Ytlglglbjckpnbaa.RO
def Y26.Pure:Prop:=∀ (x0:S42) (x1:ByteArray),wfT42 x0→x1.size≤140737488351232→∃ k,Y26.f k x0.f0 x1=some true
end Go.Proofs.Ytlglglbjckpnbaa.P

namespace Go.Proofs.Ytlglglbjckpnbaa.Q
open Go.RowKit Go.Proofs.YtlglglbjckpnbaaW.PrintWords Go.Proofs.YtlglglbjckpnbaaW.PrintMore

theorem w64 {x:Int} (h0 : -9223372036854775808≤x) (h1:x≤9223372036854775807):wrap64 x=x:=by unfold wrap64;omega
theorem u64w (n:Int):IntKind.u64.wrap n=n % 18446744073709551616:=by simp [IntKind.wrap,IntKind.bits,IntKind.signed]
theorem evIte {α:Type} {c:Prop} [Decidable c] {f g:Nat→Option α} {r:α} (h:c→Ev f r) (h':¬ c→Ev g r):Ev (fun k=>if c then f k else g k) r:=by
  by_cases hc:c
  · simp only [if_pos hc];exact h hc
  · simp only [if_neg hc];exact h' hc
theorem evPos {α:Type} {c:Prop} [Decidable c] {f g:Nat→Option α} {r:α} (hc:c) (h:Ev f r):Ev (fun k=>if c then f k else g k) r:=by
  simp only [if_pos hc];exact h
theorem evNeg {α:Type} {c:Prop} [Decidable c] {f g:Nat→Option α} {r:α} (hc:¬ c) (h:Ev g r):Ev (fun k=>if c then f k else g k) r:=by
  simp only [if_neg hc];exact h
theorem evOf {α:Type} {g:Option α} {r:α} (h:g=some r):Ev (fun _=>g) r:=⟨0,fun _ _=>h⟩
theorem evBind1 {α β:Type} {g:Option α} {f:Nat→α→Option β} {a:α} {r:β} (h:g=some a) (k:Ev (fun n=>f n a) r):Ev (fun n=>g.bind (f n)) r:=by
  subst h;exact k
theorem dropCons {α:Type} {l:List α} {i:Nat} {a:α} {s:List α} (h:l.drop i=a :: s) (d:α):i<l.length∧l.getD i d=a∧l.drop (i+1)=s:=by
  have hl:i<l.length:=by
    have:=congrArg List.length h
    simp at this;omega
  rw [List.drop_eq_getElem_cons hl] at h
  injection h with h1 h2
  exact ⟨hl,by rw [List.getD_eq_getElem?_getD,List.getElem?_eq_getElem hl];exact h1,h2⟩
theorem dropNil {α:Type} {l:List α} {i:Nat} (h:l.drop i=[]):l.length≤i:=by
  have:=congrArg List.length h
  simp at this;omega
theorem dropNil' {α:Type} {l:List α} {i:Nat} (h:l.drop i=[]) (hi:i≤l.length):l.length=i:=by
  have:=dropNil h;omega
theorem getD_mid {α:Type} (pre:List α) (m:α) (s:List α) (d:α):(pre ++ m :: s).getD pre.length d=m:=by
  rw [List.getD_eq_getElem?_getD,List.getElem?_append_right (Nat.le_refl _),Nat.sub_self];rfl
theorem set_mid {α:Type} (pre:List α) (m x:α) (s:List α):(pre ++ m :: s).set pre.length x=pre ++ x :: s:=by
  rw [List.set_append_right _ _ (Nat.le_refl _),Nat.sub_self];rfl
end Go.Proofs.Ytlglglbjckpnbaa.Q

namespace Go.Proofs.Ytlglglbjckpnbaa.Q
open Go.RowKit Go.Proofs.Ytlglglbjckpnbaa.P Go.Proofs.YtlglglbjckpnbaaW.PrintWords Go.Proofs.YtlglglbjckpnbaaW.PrintMore

theorem toList_loop (b:ByteArray):∀ (n i:Nat) (r:List UInt8),b.size-i=n→ByteArray.toList.loop b i r=r.reverse ++ b.data.toList.drop i:=by
  intro n
  induction n with
  | zero =>
    intro i r h
    unfold ByteArray.toList.loop
    have hs:b.data.toList.length=b.size:=by rw [Array.length_toList];rfl
    rw [if_neg (by omega),List.drop_of_length_le (by omega),List.append_nil]
  | succ n ih =>
    intro i r h
    unfold ByteArray.toList.loop
    have hs:b.data.toList.length=b.size:=by rw [Array.length_toList];rfl
    rw [if_pos (by omega),ih (i+1) _ (by omega),List.drop_eq_getElem_cons (i:=i) (by omega)]
    have:b.get! i=b.data.toList[i]'(by omega):=by
      have hi:i<b.data.size:=by rw [← Array.length_toList];omega
      show b.data[i]! = _
      rw [getElem!_pos b.data i hi]
      simp
    simp [this]
theorem toList_data (b:ByteArray):b.toList=b.data.toList:=by
  unfold ByteArray.toList
  rw [toList_loop b _ 0 [] rfl]
  simp
theorem toList_inj {a b:ByteArray} (h:a.toList=b.toList):a=b:=by
  rw [toList_data,toList_data] at h
  obtain ⟨a⟩:=a
  obtain ⟨b⟩:=b
  simp only [ByteArray.mk.injEq]
  exact Array.toList_inj.1 h
def isWithin (n low high:Int):Bool:=decide (low≤n) && decide (n≤high)
def isNode (n:Int):Bool:=isWithin n 1 5
def isDot (a b:Int):Bool:=isNode a && isWithin b 1 1000000
theorem l02Is_is (n a b:Int):Y34.f n a b=some (isWithin n a b):=by
  unfold Y34.f isWithin
  split
  · rename_i h;simp [show a≤n from h]
  · rename_i h;simp [show ¬ a≤n from h]
theorem l02Node_is (n:Int):Y37.f n=some (isNode n):=by simp [Y37.f,l02Is_is,isNode]
theorem l02Dot_is (a b:Int):Y35.f a b=some (isDot a b):=by
  simp only [Y35.f,l02Node_is,l02Is_is,isDot,Option.bind_some]
  cases isNode a <;> simp
theorem within_is (n a b:Int):Y27.f n a b=some (isWithin n a b):=by
  unfold Y27.f isWithin
  split
  · rename_i h;simp [show a≤n from h]
  · rename_i h;simp [show ¬ a≤n from h]
theorem isNode_is (n:Int):Y39.f n=some (isNode n):=by simp [Y39.f,within_is,isNode]
theorem isDot_is (a b:Int):Y40.f a b=some (isDot a b):=by
  simp only [Y40.f,isNode_is,within_is,isDot,Option.bind_some]
  cases isNode a <;> simp
theorem isDot_iff (a b:Int):isDot a b=true ↔ (1≤a∧a≤5)∧1≤b∧b≤1000000:=by simp [isDot,isNode,isWithin]
end Go.Proofs.Ytlglglbjckpnbaa.Q

namespace Go.Proofs.Ytlglglbjckpnbaa.P
open Go.RowKit Go.Proofs.YtlglglbjckpnbaaW.PrintWords Go.Proofs.YtlglglbjckpnbaaW.PrintLast Go.Proofs.YtlglglbjckpnbaaW.PrintMore
attribute [local go_sem] max2_int min2_int max_two min_two max_three min_three max_four min_four   -- for this text's walks alone
set_option linter.unusedVariables false
set_option linter.unusedSimpArgs false

/-! ### Y46: function 67 -/
def Y46.f (l0:List (S30)):Option (Bool):=some (decide ((l0.length:Int)>400))

/-! ### Y44: function 107 -/
def Y44.f (k:Nat) (l0:List (S30)):Option (Bool):=(Y46.f l0).bind fun t908=>(if t908=true then (some false) else ((Y4.f k l0).bind fun t909=>(some t909)))
theorem Y44.mono:∀ a0 k,LeO (Y44.f k a0) (Y44.f (k+1) a0):=by
 intro a0 k
 have m0:=@Y4.mono
 unfold Y44.f
 exact mO
end Go.Proofs.Ytlglglbjckpnbaa.P

namespace Go.Proofs.Ytlglglbjckpnbaa.Q
open Go.RowKit Go.Proofs.Ytlglglbjckpnbaa.P Go.Proofs.YtlglglbjckpnbaaW.PrintWords Go.Proofs.YtlglglbjckpnbaaW.PrintMore

abbrev Mark:=S30
/-- Dots whose nodes rise from above p. -/
def okFrom:Int→List Mark→Bool
  | _,[]=>true
  | p,m :: r=>isDot m.f0 m.f1 && (decide (p<m.f0) && okFrom m.f0 r)
def seenOk (v:List Mark):Bool:=okFrom 0 v
/-- The node ahead of place i. -/
def prevAt (l:List Mark) (i:Nat):Int:=if i=0 then 0 else (l.getD (i-1) z30).f0
theorem prevAt_succ {l:List Mark} {i:Nat} {m:Mark} (h:l.getD i z30=m):prevAt l (i+1)=m.f0:=by
  simp only [prevAt,Nat.add_sub_cancel,h]
  simp
theorem impl_seenRight_l0 (l:List Mark) (hl:l.length≤4611686018427387904):∀ (s:List Mark) (i:Nat),l.drop i=s→i≤l.length→0≤prevAt l i →
    Ev (fun k=>Y4.l0 k l l (l.length:Int) (i:Int)) (okFrom (prevAt l i) s)
  | [],i,h,hi,hp=>by
    have:=dropNil' h hi
    refine Ev.step (f:=fun _=>some true) (fun k=>?_) (Ev.now _)
    simp only [Y4.l0]
    rw [if_neg (by omega)]
  | m :: s,i,h,hi,hp=>by
    obtain ⟨h1,h2,h3⟩:=dropCons h z30
    have hr:rd_T30 l (i:Int)=m:=by simpa [rd_T30] using h2
    have ih:=fun hq=>impl_seenRight_l0 l hl s (i+1) h3 (by omega) hq
    rw [prevAt_succ h2] at ih
    by_cases hd:isDot m.f0 m.f1=true
    · have hd':=(isDot_iff _ _).1 hd
      by_cases hlt:prevAt l i<m.f0
      · have ih:=ih (by omega)
        refine Ev.step (fun k=>?_) (show Ev _ (okFrom (prevAt l i) (m :: s)) from by simp only [okFrom,hd,hlt,decide_true,Bool.true_and];exact ih)
        simp only [Y4.l0,hr,isDot_is,Option.bind_some]
        rw [if_pos (by omega),if_pos (by omega),if_pos (by omega),if_pos hd,w64 (x:=(i:Int)+1) (by omega) (by omega)]
        by_cases hi0:i=0
        · subst hi0
          rw [if_neg (by omega)];rfl
        · have hq:rd_T30 l ((i:Int)-1)=l.getD (i-1) z30:=by
            simp only [rd_T30];congr 1;omega
          rw [w64 (x:=(i:Int)-1) (by omega) (by omega),if_pos (by omega),if_pos (by omega),if_pos (by omega),hq,if_neg (by simp only [prevAt,if_neg hi0] at hlt;omega)]
          rfl
      · refine Ev.step (f:=fun _=>some false) (fun k=>?_) (show Ev _ (okFrom (prevAt l i) (m :: s)) from by simp only [okFrom,hd,hlt,decide_false,Bool.false_and,Bool.and_false];exact Ev.now _)
        have hi0:i≠0:=by
          intro e;subst e
          simp [prevAt] at hlt;omega
        have hq:rd_T30 l ((i:Int)-1)=l.getD (i-1) z30:=by
          simp only [rd_T30];congr 1;omega
        simp only [Y4.l0,hr,isDot_is,Option.bind_some]
        rw [if_pos (by omega),if_pos (by omega),if_pos (by omega),if_pos hd,w64 (x:=(i:Int)-1) (by omega) (by omega),if_pos (by omega),if_pos (by omega),if_pos (by omega),hq,
          if_pos (by simp only [prevAt,if_neg hi0] at hlt;omega)]
    · refine Ev.step (f:=fun _=>some false) (fun k=>?_) (show Ev _ (okFrom (prevAt l i) (m :: s)) from by simp only [okFrom,Bool.eq_false_iff.mpr hd,Bool.false_and];exact Ev.now _)
      simp only [Y4.l0,hr,isDot_is,Option.bind_some]
      rw [if_pos (by omega),if_pos (by omega),if_pos (by omega),if_neg hd]
theorem impl_seenRight_ev (l:List Mark) (hl:l.length≤4611686018427387904):Ev (fun k=>Y4.f k l) (seenOk l) :=
  impl_seenRight_l0 l hl l 0 rfl (by omega) (by simp [prevAt])
theorem spec_SeenRight_l0 (l:List Mark) (hl:l.length≤4611686018427387904):∀ (s:List Mark) (i:Nat),l.drop i=s→i≤l.length→(i:Int)≤prevAt l i→prevAt l i≤5 →
    Ev (fun k=>Y2.l0 k l (i:Int)) (okFrom (prevAt l i) s)
  | [],i,h,hi,hp,hp5=>by
    have:=dropNil' h hi
    refine Ev.step (f:=fun k=>Y2.j1 k l (i:Int) false) (fun k=>?_) (Ev.step (f:=fun _=>some true) (fun k=>?_) (Ev.now _))
    · simp only [Y2.l0]
      rw [if_neg (by omega)]
    · simp only [Y2.j1]
      rw [if_neg (by simp)]
      congr 1
      simp;omega
  | m :: s,i,h,hi,hp,hp5=>by
    obtain ⟨h1,h2,h3⟩:=dropCons h z30
    have hr:rd_T30 l (i:Int)=m:=by simpa [rd_T30] using h2
    have ih:=fun hq=>spec_SeenRight_l0 l hl s (i+1) h3 (by omega) hq
    rw [prevAt_succ h2] at ih
    have hj:decide ((i:Int)≤5)=true:=by simp;omega
    have hl0:∀ k,Y2.l0 (k+1) l (i:Int)=Y2.j1 k l (i:Int) true:=fun k=>by
      simp only [Y2.l0]
      rw [if_pos (by omega),hj]
    by_cases hd:isDot m.f0 m.f1=true
    · have hd':=(isDot_iff _ _).1 hd
      by_cases hlt:prevAt l i<m.f0
      · have ih:=ih (by omega) (by omega)
        refine Ev.step hl0 (Ev.step (fun k=>?_) (show Ev _ (okFrom (prevAt l i) (m :: s)) from by simp only [okFrom,hd,hlt,decide_true,Bool.true_and];exact ih))
        simp only [Y2.j1,hr,l02Dot_is,Option.bind_some]
        rw [if_pos trivial,if_pos (by omega),if_pos (by omega),if_pos hd,w64 (x:=(i:Int)+1) (by omega) (by omega)]
        by_cases hi0:i=0
        · subst hi0
          rw [if_neg (by omega)];rfl
        · have hq:rd_T30 l ((i:Int)-1)=l.getD (i-1) z30:=by
            simp only [rd_T30];congr 1;omega
          rw [w64 (x:=(i:Int)-1) (by omega) (by omega),if_pos (by omega),if_pos (by omega),if_pos (by omega),hq,if_neg (by simp only [prevAt,if_neg hi0] at hlt;omega)]
          rfl
      · refine Ev.step hl0 (Ev.step (f:=fun _=>some false) (fun k=>?_) (show Ev _ (okFrom (prevAt l i) (m :: s)) from by simp only [okFrom,hd,hlt,decide_false,Bool.false_and,Bool.and_false];exact Ev.now _))
        have hi0:i≠0:=by
          intro e;subst e
          simp [prevAt] at hlt;omega
        have hq:rd_T30 l ((i:Int)-1)=l.getD (i-1) z30:=by
          simp only [rd_T30];congr 1;omega
        simp only [Y2.j1,hr,l02Dot_is,Option.bind_some]
        rw [if_pos trivial,if_pos (by omega),if_pos (by omega),if_pos hd,w64 (x:=(i:Int)-1) (by omega) (by omega),if_pos (by omega),if_pos (by omega),if_pos (by omega),hq,
          if_pos (by simp only [prevAt,if_neg hi0] at hlt;omega)]
    · refine Ev.step hl0 (Ev.step (f:=fun _=>some false) (fun k=>?_) (show Ev _ (okFrom (prevAt l i) (m :: s)) from by simp only [okFrom,Bool.eq_false_iff.mpr hd,Bool.false_and];exact Ev.now _))
      simp only [Y2.j1,hr,l02Dot_is,Option.bind_some]
      rw [if_pos trivial,if_pos (by omega),if_pos (by omega),if_neg hd]
theorem spec_SeenRight_ev (l:List Mark) (hl:l.length≤4611686018427387904):Ev (fun k=>Y2.f k l) (seenOk l) :=
  spec_SeenRight_l0 l hl l 0 rfl (by omega) (by simp [prevAt]) (by simp [prevAt])
end Go.Proofs.Ytlglglbjckpnbaa.Q

namespace Go.Proofs.Ytlglglbjckpnbaa.Q
open Go.RowKit Go.Proofs.Ytlglglbjckpnbaa.P Go.Proofs.YtlglglbjckpnbaaW.PrintWords Go.Proofs.YtlglglbjckpnbaaW.PrintMore

abbrev LMark:=S92
def toMark (m:LMark):Mark:=⟨m.f0,m.f1⟩
theorem szMarkS_is (l:List LMark) (n:Int) (h0:0≤n) (h1:n≤1048576) (hl:l.length≤9223372036854775807) :
    Y36.f l n=some (if n<(l.length:Int) then -1 else n-(l.length:Int)):=by
  unfold Y36.f
  rw [w64 (by omega) (by omega)]
  split
  · rw [if_pos (by omega)]
  · rw [if_neg (by omega)]
theorem toMarkS_l0 (l:List LMark) (hl:l.length≤1048576):∀ (s:List LMark) (i:Nat),l.drop i=s→i≤l.length→∀ (acc:List Mark),acc.length=l.length→acc.take i=(l.take i).map toMark →
    Ev (fun k=>Y19.l0 k l acc (i:Int)) (l.map toMark)
  | [],i,h,hi,acc,ha,hc=>by
    have:=dropNil' h hi
    refine Ev.step (f:=fun _=>some (l.map toMark)) (fun k=>?_) (Ev.now _)
    simp only [Y19.l0]
    rw [if_neg (by omega)]
    rw [← this,List.take_of_length_le (by omega),List.take_length] at hc
    rw [hc]
  | m :: s,i,h,hi,acc,ha,hc=>by
    obtain ⟨h1,h2,h3⟩:=dropCons h z92
    have hr:rd_T92 l (i:Int)=m:=by simpa [rd_T92] using h2
    have hm:l[i]'h1=m:=by
      rw [List.getD_eq_getElem?_getD,List.getElem?_eq_getElem h1] at h2;exact h2
    refine Ev.step (fun k=>?_) (toMarkS_l0 l hl s (i+1) h3 (by omega) (acc.set i (toMark m)) (by simpa using ha) (by
      rw [List.take_succ_eq_append_getElem (by simp;omega),List.take_succ_eq_append_getElem h1,List.map_append,List.take_set_of_le (by omega),hc]
      simp [hm]))
    simp only [Y19.l0,Y45.f,hr,Option.bind_some,Int.toNat_natCast]
    rw [if_pos (by omega),if_pos (by omega),if_pos (by omega),w64 (by omega) (by omega)]
    rfl
theorem toMarkS_ev (l:List LMark) (hl:l.length≤1048576):Ev (fun k=>Y19.f k l) (l.map toMark):=by
  unfold Y19.f
  refine evPos (by omega) (evPos (by omega) ?_)
  exact toMarkS_l0 l hl l 0 rfl (by omega) _ (by simp) (by simp)
theorem eqMark_refl (a b:Int):Y43.f a b a b=some true:=by simp [Y43.f]
theorem eqMarkS_l0 (l:List Mark) (hl:l.length≤4611686018427387904):∀ (s:List Mark) (i:Nat),l.drop i=s→i≤l.length →
    Ev (fun k=>Y6.l0 k l l (i:Int)) true
  | [],i,h,hi=>by
    have:=dropNil' h hi
    refine Ev.step (f:=fun _=>some true) (fun k=>?_) (Ev.now _)
    simp only [Y6.l0]
    rw [if_neg (by omega)]
  | m :: s,i,h,hi=>by
    obtain ⟨h1,h2,h3⟩:=dropCons h z30
    refine Ev.step (fun k=>?_) (eqMarkS_l0 l hl s (i+1) h3 (by omega))
    simp only [Y6.l0,eqMark_refl,Option.bind_some]
    rw [if_pos (by omega),if_pos (by omega),if_pos (by omega),if_pos trivial,w64 (by omega) (by omega)]
    rfl
theorem eqMarkS_ev (l:List Mark) (hl:l.length≤4611686018427387904):Ev (fun k=>Y6.f k l l) true:=by
  unfold Y6.f
  exact evPos rfl (eqMarkS_l0 l hl l 0 rfl (by omega))
end Go.Proofs.Ytlglglbjckpnbaa.Q

namespace Go.Proofs.Ytlglglbjckpnbaa.Q
open Go.RowKit Go.Proofs.Ytlglglbjckpnbaa.P Go.Proofs.YtlglglbjckpnbaaW.PrintWords Go.Proofs.YtlglglbjckpnbaaW.PrintMore

def lowCh (c:Int):Bool:=decide (97≤c) && decide (c≤122)
def nameCh (c:Int):Bool:=lowCh c || (decide (48≤c) && decide (c≤57)) || decide (c=95)
def nameList:List Int→Bool
  | []=>false
  | c :: r=>lowCh c && r.all nameCh
def nameOk (s:ByteArray):Bool:=decide (s.size≤20) && nameList (bytesOf s)
theorem bt_of {s:ByteArray} {i:Nat} {c:Int} (h:(bytesOf s).getD i 0=c):bt s (i:Int)=c:=by
  rw [← rd_bytesOf];simpa [rd] using h
theorem spec_name_round (s:ByteArray) (k i:Nat) (hi:i<s.size) (h1:1≤i) (hs:s.size≤1048576) :
    Y10.l0 (k+1) s (i:Int)=if nameCh (bt s i) then Y10.l0 k s ((i+1:Nat):Int) else some false:=by
  simp only [Y10.l0]
  rw [if_pos (by omega),if_pos (by omega),w64 (by omega) (by omega)]
  have h0:¬ ((i:Int)=0):=by omega
  simp only [if_neg h0,nameCh,lowCh]
  generalize bt s i=c
  by_cases h1:97≤c <;> by_cases h2:c≤122 <;> by_cases h3:48≤c <;> by_cases h4:c≤57 <;> by_cases h5:c=95 <;> first | (exfalso;omega) | simp [ge_iff_le,h1,h2,h3,h4,h5]
theorem spec_name_first (s:ByteArray) (k:Nat) (hi:0<s.size) (hs:s.size≤1048576) :
    Y10.l0 (k+1) s 0=if lowCh (bt s 0) then Y10.l0 k s 1 else some false:=by
  simp only [Y10.l0]
  rw [if_pos (by omega),if_pos (by omega),w64 (by omega) (by omega)]
  simp only [if_true,lowCh,Int.zero_add]
  generalize bt s 0=c
  by_cases h1:97≤c <;> by_cases h2:c≤122 <;> first | (exfalso;omega) | simp [ge_iff_le,h1,h2]
theorem spec_name_l0 (s:ByteArray) (hs:s.size≤1048576):∀ (r:List Int) (i:Nat),(bytesOf s).drop i=r→i≤s.size→1≤i→Ev (fun k=>Y10.l0 k s (i:Int)) (r.all nameCh)
  | [],i,h,hi,h1=>by
    have:=dropNil h
    rw [bytesOf_length] at this
    refine Ev.step (f:=fun _=>some true) (fun k=>?_) (Ev.now _)
    simp only [Y10.l0]
    rw [if_neg (by omega)]
  | c :: r,i,h,hi,h1=>by
    obtain ⟨g1,g2,g3⟩:=dropCons h 0
    rw [bytesOf_length] at g1
    have hb:=bt_of g2
    refine Ev.step (fun k=>spec_name_round s k i g1 h1 hs) ?_
    rw [hb]
    refine evIte (fun hc=>?_) (fun hc=>?_)
    · simp only [List.all_cons,hc,Bool.true_and];exact spec_name_l0 s hs r (i+1) g3 (by omega) (by omega)
    · simp only [List.all_cons,Bool.eq_false_iff.mpr hc,Bool.false_and];exact Ev.now _
theorem spec_NameRight_ev (s:ByteArray) (hs:s.size≤1048576):Ev (fun k=>Y10.f k s) (nameOk s):=by
  have hl:=bytesOf_length s
  unfold Y10.f nameOk
  refine evIte (fun h=>?_) (fun h=>?_)
  · refine Ev.step (f:=fun _=>some false) (fun k=>by simp only [Y10.j0];rw [if_pos trivial]) ?_
    have:bytesOf s=[]:=by rw [← List.length_eq_zero_iff,hl];omega
    simp only [this,nameList,Bool.and_false]
    exact Ev.now _
  · by_cases h20:(s.size:Int)>20
    · refine Ev.step (f:=fun _=>some false) (fun k=>by simp only [Y10.j0];rw [if_pos (by simpa using h20)]) ?_
      have:¬ s.size≤20:=by omega
      simp only [this,decide_false,Bool.false_and]
      exact Ev.now _
    · refine Ev.step (fun k=>by simp only [Y10.j0];rw [if_neg (by simpa using h20)]) ?_
      have h20':s.size≤20:=by omega
      simp only [h20',decide_true,Bool.true_and]
      cases hb:bytesOf s with
      | nil=>rw [hb] at hl;simp at hl;omega
      | cons c r =>
        have hc:bt s ((0:Nat):Int)=c:=bt_of (by rw [hb];rfl)
        refine Ev.step (fun k=>spec_name_first s k (by omega) hs) ?_
        rw [show (0:Int)=((0:Nat):Int) from rfl,hc]
        refine evIte (fun h1=>?_) (fun h1=>?_)
        · simp only [nameList,h1,Bool.true_and]
          exact spec_name_l0 s hs r 1 (by rw [hb];rfl) (by omega) (by omega)
        · simp only [nameList,Bool.eq_false_iff.mpr h1,Bool.false_and];exact Ev.now _
theorem impl_name_round (s:ByteArray) (k i:Nat) (hi:i<s.size) (hs:s.size≤140737488351232) :
    Y7.l0 (k+1) s (s.size:Int) (i:Int)=if nameCh (bt s i) then Y7.l0 k s (s.size:Int) ((i+1:Nat):Int) else some false:=by
  simp only [Y7.l0]
  rw [if_pos (by omega),if_pos (by omega),if_pos (by omega),w64 (by omega) (by omega)]
  simp only [nameCh,lowCh]
  generalize bt s i=c
  by_cases h1:97≤c <;> by_cases h2:c≤122 <;> by_cases h3:48≤c <;> by_cases h4:c≤57 <;> by_cases h5:c=95 <;> first | (exfalso;omega) | simp [ge_iff_le,h1,h2,h3,h4,h5]
theorem impl_name_l0 (s:ByteArray) (hs:s.size≤140737488351232):∀ (r:List Int) (i:Nat),(bytesOf s).drop i=r→i≤s.size→Ev (fun k=>Y7.l0 k s (s.size:Int) (i:Int)) (r.all nameCh)
  | [],i,h,hi=>by
    have:=dropNil h
    rw [bytesOf_length] at this
    refine Ev.step (f:=fun _=>some true) (fun k=>?_) (Ev.now _)
    simp only [Y7.l0]
    rw [if_neg (by omega)]
  | c :: r,i,h,hi=>by
    obtain ⟨g1,g2,g3⟩:=dropCons h 0
    rw [bytesOf_length] at g1
    have hb:=bt_of g2
    refine Ev.step (fun k=>impl_name_round s k i g1 hs) ?_
    rw [hb]
    refine evIte (fun hc=>?_) (fun hc=>?_)
    · simp only [List.all_cons,hc,Bool.true_and];exact impl_name_l0 s hs r (i+1) g3 (by omega)
    · simp only [List.all_cons,Bool.eq_false_iff.mpr hc,Bool.false_and];exact Ev.now _
theorem low_name {c:Int} (h:lowCh c=true):nameCh c=true:=by simp [nameCh,h]
theorem impl_NameRight_ev (s:ByteArray) (hs:s.size≤140737488351232):Ev (fun k=>Y7.f k s) (nameOk s):=by
  have hl:=bytesOf_length s
  unfold Y7.f nameOk Y42.f
  refine evBind1 rfl (evBind1 (within_is _ _ _) ?_)
  refine evIte (fun h=>?_) (fun h=>?_)
  · have hw:1≤(s.size:Int)∧(s.size:Int)≤20:=by simpa [isWithin] using h
    refine evPos (by omega) ?_
    have h20':s.size≤20:=by omega
    simp only [h20',decide_true,Bool.true_and]
    cases hb:bytesOf s with
    | nil=>rw [hb] at hl;simp at hl;omega
    | cons c r =>
      have hc:bt s ((0:Nat):Int)=c:=bt_of (by rw [hb];rfl)
      have hc':bt s 0=c:=hc
      rw [hc']
      refine evIte (fun h1=>?_) (fun h1=>?_)
      · refine Ev.step (f:=fun _=>some false) (fun k=>by simp only [Y7.j0];rw [if_pos trivial]) ?_
        have:lowCh c=false:=by simp [lowCh];omega
        simp only [nameList,this,Bool.false_and];exact Ev.now _
      · by_cases h2:c>122
        · refine Ev.step (f:=fun _=>some false) (fun k=>by simp only [Y7.j0];rw [if_pos (by simpa using h2)]) ?_
          have:lowCh c=false:=by simp [lowCh];omega
          simp only [nameList,this,Bool.false_and];exact Ev.now _
        · refine Ev.step (fun k=>by simp only [Y7.j0];rw [if_neg (by simpa using h2)]) ?_
          have hlow:lowCh c=true:=by simp [lowCh];omega
          simp only [nameList,hlow,Bool.true_and]
          have:=impl_name_l0 s hs (c :: r) 0 (by rw [hb];rfl) (by omega)
          simpa [low_name hlow] using this
  · refine Ev.step (f:=fun _=>some false) (fun k=>by simp only [Y7.j0];rw [if_pos trivial]) ?_
    have hw:isWithin (s.size:Int) 1 20=false:=by simpa using h
    have:(decide (s.size≤20) && nameList (bytesOf s))=false:=by
      by_cases h20:s.size≤20
      · have:bytesOf s=[]:=by
          rw [← List.length_eq_zero_iff,hl]
          simp [isWithin] at hw;omega
        simp [this,nameList]
      · simp [h20]
    rw [this]
    exact Ev.now _
end Go.Proofs.Ytlglglbjckpnbaa.Q

namespace Go.Proofs.Ytlglglbjckpnbaa.Q
open Go.RowKit Go.Proofs.Ytlglglbjckpnbaa.P Go.Proofs.YtlglglbjckpnbaaW.PrintWords Go.Proofs.YtlglglbjckpnbaaW.PrintMore

abbrev Kept:=S111
abbrev LKept:=S134
def toKept (x:LKept):Kept:=⟨x.f0,x.f1.map toMark⟩
/-- A law's kept thing that is no larger than n. -/
def KeptIn (n:Int) (x:LKept):Prop:=(x.f0.size:Int)≤n∧(x.f1.length:Int)≤n
theorem szKept_is (x:LKept) (n:Int) (h0:0≤n) (h1:n≤1048576) (ht:x.f0.size≤9223372036854775807) (hl:x.f1.length≤9223372036854775807) :
    ∃ r,Y41.f x.f0 x.f1 n=some r∧r≤n∧(0≤r→KeptIn n x):=by
  unfold Y41.f
  rw [w64 (by omega) (by omega)]
  by_cases h:n-(x.f0.size:Int)<0
  · rw [if_pos h];exact ⟨-1,rfl,by omega,by omega⟩
  · rw [if_neg h,szMarkS_is x.f1 _ (by omega) (by omega) hl]
    simp only [Option.bind_some]
    by_cases h2:n-(x.f0.size:Int)<(x.f1.length:Int)
    · rw [if_pos h2,if_pos (by omega)];exact ⟨-1,rfl,by omega,by omega⟩
    · rw [if_neg h2,if_neg (by omega)]
      exact ⟨_,rfl,by omega,fun _=>⟨by omega,by omega⟩⟩
theorem szKeptS_l0 (l:List LKept) (hl:l.length≤1048576) (hx:∀ x ∈ l,x.f0.size≤9223372036854775807∧x.f1.length≤9223372036854775807):∀ (s:List LKept) (i:Nat),l.drop i=s→i≤l.length→∀ n:Int,0≤n→n≤1048576 →
    ∃ r,Ev (fun k=>Y18.l0 k l n (i:Int)) r∧r≤n∧(0≤r→∀ x ∈ s,KeptIn n x)
  | [],i,h,hi,n,h0,h1=>by
    have:=dropNil' h hi
    refine ⟨n,Ev.step (f:=fun _=>some n) (fun k=>?_) (Ev.now _),by omega,by simp⟩
    simp only [Y18.l0]
    rw [if_neg (by omega)]
  | m :: s,i,h,hi,n,h0,h1=>by
    obtain ⟨g1,g2,g3⟩:=dropCons h z134
    have hr:rd_T134 l (i:Int)=m:=by simpa [rd_T134] using g2
    have hm:m ∈ l:=List.mem_of_mem_drop (by rw [h];exact List.mem_cons_self)
    obtain ⟨q,e,e1,e2⟩:=szKept_is m n h0 h1 (hx m hm).1 (hx m hm).2
    by_cases hn:q<0
    · refine ⟨-1,Ev.step (f:=fun _=>some (-1)) (fun k=>?_) (Ev.now _),by omega,by omega⟩
      simp only [Y18.l0,hr,e,Option.bind_some]
      rw [if_pos (by omega),if_pos (by omega),if_pos hn]
    · obtain ⟨r,f1,f2,f3⟩:=szKeptS_l0 l hl hx s (i+1) g3 (by omega) q (by omega) (by omega)
      refine ⟨r,Ev.step (fun k=>?_) f1,by omega,fun hr0 x hxm=>?_⟩
      · simp only [Y18.l0,hr,e,Option.bind_some]
        rw [if_pos (by omega),if_pos (by omega),if_neg hn,w64 (by omega) (by omega)]
        rfl
      · rcases List.mem_cons.1 hxm with rfl | hxm
        · exact e2 (by omega)
        · have:=f3 hr0 x hxm
          unfold KeptIn at this ⊢;omega
theorem szClient_ev (l:List LKept) (hl:l.length≤9223372036854775807) (hx:∀ x ∈ l,x.f0.size≤9223372036854775807∧x.f1.length≤9223372036854775807) (n:Int) (h0:0≤n) (h1:n≤1048576) :
    ∃ r,Ev (fun k=>Y29.f k l n) r∧r≤n∧(0≤r→l.length≤1048576∧∀ x ∈ l,KeptIn 1048576 x):=by
  have key:∃ r,Ev (fun k=>Y18.f k l n) r∧r≤n∧(0≤r→l.length≤1048576∧∀ x ∈ l,KeptIn 1048576 x):=by
    unfold Y18.f
    rw [w64 (by omega) (by omega)]
    by_cases h:n-(l.length:Int)<0
    · exact ⟨-1,evPos h (Ev.now _),by omega,by omega⟩
    · obtain ⟨r,e1,e2,e3⟩:=szKeptS_l0 l (by omega) hx l 0 rfl (by omega) (n-(l.length:Int)) (by omega) (by omega)
      exact ⟨r,evNeg h e1,by omega,fun h0=>⟨by omega,fun x hx=>by have:=e3 h0 x hx;unfold KeptIn at this ⊢;omega⟩⟩
  obtain ⟨r,e1,e2,e3⟩:=key
  unfold Y29.f
  by_cases h:r<0
  · exact ⟨-1,Ev.bind e1 (evPos h (Ev.now _)),by omega,by omega⟩
  · exact ⟨r,Ev.bind e1 (evNeg h (Ev.now _)),e2,e3⟩
theorem toKept_ev (x:LKept) (hx:x.f1.length≤1048576):Ev (fun k=>Y32.f k x.f0 x.f1) (x.f0,x.f1.map toMark):=Ev.bind (toMarkS_ev x.f1 hx) (Ev.now _)
theorem toKeptS_l0 (l:List LKept) (hl:l.length≤1048576) (hx:∀ x ∈ l,x.f1.length≤1048576):∀ (s:List LKept) (i:Nat),l.drop i=s→i≤l.length→∀ (acc:List Kept),acc.length=l.length→acc.take i=(l.take i).map toKept →
    Ev (fun k=>Y17.l0 k l acc (i:Int)) (l.map toKept)
  | [],i,h,hi,acc,ha,hc=>by
    have:=dropNil' h hi
    refine Ev.step (f:=fun _=>some (l.map toKept)) (fun k=>?_) (Ev.now _)
    simp only [Y17.l0]
    rw [if_neg (by omega)]
    rw [← this,List.take_of_length_le (by omega),List.take_length] at hc
    rw [hc]
  | m :: s,i,h,hi,acc,ha,hc=>by
    obtain ⟨h1,h2,h3⟩:=dropCons h z134
    have hr:rd_T134 l (i:Int)=m:=by simpa [rd_T134] using h2
    have hmem:m ∈ l:=List.mem_of_mem_drop (by rw [h];exact List.mem_cons_self)
    have hm:l[i]'h1=m:=by
      rw [List.getD_eq_getElem?_getD,List.getElem?_eq_getElem h1] at h2;exact h2
    have ih:=toKeptS_l0 l hl hx s (i+1) h3 (by omega) (acc.set i (toKept m)) (by simpa using ha) (by
      rw [List.take_succ_eq_append_getElem (by simp;omega),List.take_succ_eq_append_getElem h1,List.map_append,List.take_set_of_le (by omega),hc]
      simp [hm])
    have hj:∀ k,Y17.l0 (k+1) l acc (i:Int)=(Y32.f k m.f0 m.f1).bind fun a=>Y17.l0 k l (acc.set i ⟨a.1,a.2⟩) ((i+1:Nat):Int):=fun k=>by
      simp only [Y17.l0,hr,Int.toNat_natCast]
      rw [if_pos (by omega),if_pos (by omega),w64 (by omega) (by omega)]
      congr 1
      funext a
      rw [if_pos (by omega)]
      rfl
    exact Ev.step hj (Ev.bind (toKept_ev m (hx m hmem)) ih)
theorem toClient_ev (l:List LKept) (hl:l.length≤1048576) (hx:∀ x ∈ l,x.f1.length≤1048576):Ev (fun k=>Y12.f k l) (l.map toKept):=by
  unfold Y12.f Y17.f
  refine Ev.bind (evPos (by omega) (evPos (by omega) ?_)) (Ev.now _)
  exact toKeptS_l0 l hl hx l 0 rfl (by omega) _ (by simp) (by simp)
theorem eqKept_ev (a:ByteArray) (v:List Mark) (hv:v.length≤4611686018427387904):Ev (fun k=>Y33.f k a v a v) true :=
  evPos rfl (Ev.bind (eqMarkS_ev v hv) (evPos rfl (Ev.now _)))
theorem eqKeptS_l0 (l:List Kept) (hl:l.length≤4611686018427387904) (hx:∀ x ∈ l,x.f1.length≤4611686018427387904):∀ (s:List Kept) (i:Nat),l.drop i=s→i≤l.length →
    Ev (fun k=>Y15.l0 k l l (i:Int)) true
  | [],i,h,hi=>by
    have:=dropNil' h hi
    refine Ev.step (f:=fun _=>some true) (fun k=>?_) (Ev.now _)
    simp only [Y15.l0]
    rw [if_neg (by omega)]
  | m :: s,i,h,hi=>by
    obtain ⟨h1,h2,h3⟩:=dropCons h z111
    have hr:rd_T111 l (i:Int)=m:=by simpa [rd_T111] using h2
    have hmem:m ∈ l:=List.mem_of_mem_drop (by rw [h];exact List.mem_cons_self)
    have hj:∀ k,Y15.l0 (k+1) l l (i:Int)=(Y33.f k m.f0 m.f1 m.f0 m.f1).bind fun t=>if t=true then Y15.l0 k l l ((i+1:Nat):Int) else none:=fun k=>by
      simp only [Y15.l0,hr]
      rw [if_pos (by omega),if_pos (by omega),if_pos (by omega),w64 (by omega) (by omega)]
      rfl
    exact Ev.step hj (Ev.bind (eqKept_ev m.f0 m.f1 (hx m hmem)) (evPos rfl (eqKeptS_l0 l hl hx s (i+1) h3 (by omega))))
theorem eqClient_ev (l:List Kept) (hl:l.length≤4611686018427387904) (hx:∀ x ∈ l,x.f1.length≤4611686018427387904):Ev (fun k=>Y25.f k l l) true:=by
  unfold Y25.f Y15.f
  exact Ev.bind (evPos rfl (eqKeptS_l0 l hl hx l 0 rfl (by omega))) (evPos rfl (Ev.now _))
def keptOk (x:Kept):Bool:=nameOk x.f0 && (seenOk x.f1 && !decide (x.f1.length=0))
def keysRise (p:Option Kept) (x:Kept):Bool:=match p with
  | none=>true
  | some y=>Op.bytesLess y.f0.toList x.f0.toList
def keptFrom:Option Kept→List Kept→Bool
  | _,[]=>true
  | p,x :: r=>keptOk x && (keysRise p x && keptFrom (some x) r)
def clientOk (l:List Kept):Bool:=decide (l.length≤6) && keptFrom none l
/-- The kept thing ahead of place i. -/
def prevKept (l:List Kept) (i:Nat):Option Kept:=if i=0 then none else some (l.getD (i-1) z111)
theorem prevKept_succ {l:List Kept} {i:Nat} {x:Kept} (h:l.getD i z111=x):prevKept l (i+1)=some x:=by
  simp only [prevKept,Nat.add_sub_cancel,h]
  simp
theorem spec_ClientRight_l0 (l:List Kept) (hl:l.length≤6) (hx:∀ x ∈ l,x.f0.size≤1048576∧x.f1.length≤1048576):∀ (s:List Kept) (i:Nat),l.drop i=s→i≤l.length →
    Ev (fun k=>Y1.l0 k (i:Int) l) (keptFrom (prevKept l i) s)
  | [],i,h,hi=>by
    have:=dropNil' h hi
    refine Ev.step (f:=fun _=>some true) (fun k=>?_) (Ev.now _)
    simp only [Y1.l0]
    rw [if_neg (by omega)]
  | x :: s,i,h,hi=>by
    obtain ⟨h1,h2,h3⟩:=dropCons h z111
    have hr:rd_T111 l (i:Int)=x:=by simpa [rd_T111] using h2
    have hmem:x ∈ l:=List.mem_of_mem_drop (by rw [h];exact List.mem_cons_self)
    have ih:=spec_ClientRight_l0 l hl hx s (i+1) h3 (by omega)
    rw [prevKept_succ h2] at ih
    have hj:∀ b:Bool,Ev (fun k=>Y1.j1 k (i:Int) b l) (!b && keptFrom (some x) s):=fun b=>by
      cases b with
      | true=>exact Ev.step (f:=fun _=>some false) (fun k=>by simp [Y1.j1]) (Ev.now _)
      | false=>exact Ev.step (fun k=>by simp only [Y1.j1];rw [if_neg (by simp),w64 (x:=(i:Int)+1) (by omega) (by omega)]) (by simpa using ih)
    have main:∀ (p:Bool) (g:Nat→Option Bool),Ev g (p && keptFrom (some x) s)→Ev (fun k=>(Y10.f k x.f0).bind fun t=>if t=true then ((Y2.f k x.f1).bind fun t=>if t=true then (if (x.f1.length:Int)=0 then Y1.j1 k (i:Int) true l else g k) else Y1.j1 k (i:Int) true l) else Y1.j1 k (i:Int) true l) (keptOk x && (p && keptFrom (some x) s)):=by
      intro p g hg
      unfold keptOk
      refine Ev.bind (spec_NameRight_ev x.f0 (hx x hmem).1) ?_
      cases nameOk x.f0 with
      | false=>exact evNeg (by simp) (by simpa using hj true)
      | true =>
        refine evPos rfl (Ev.bind (spec_SeenRight_ev x.f1 (by have:=(hx x hmem).2;omega)) ?_)
        cases seenOk x.f1 with
        | false=>exact evNeg (by simp) (by simpa using hj true)
        | true =>
          refine evPos rfl ?_
          by_cases hz:x.f1.length=0
          · exact evPos (by omega) (by simpa [hz] using hj true)
          · exact evNeg (by omega) (by simpa [hz] using hg)
    simp only [keptFrom]
    by_cases hi0:i=0
    · have hp:prevKept l i=none:=by simp [prevKept,hi0]
      rw [hp]
      have h0:¬ ((i:Int)>0):=by omega
      refine Ev.step (fun k=>?_) (main true (fun k=>Y1.j1 k (i:Int) false l) (by simpa using hj false))
      simp only [Y1.l0,hr,if_neg h0]
      rw [if_pos (by omega),if_pos (by omega)]
    · have hp:prevKept l i=some (l.getD (i-1) z111):=by simp [prevKept,hi0]
      rw [hp]
      generalize hy:l.getD (i-1) z111=y
      have hq:rd_T111 l ((i:Int)-1)=y:=by
        rw [← hy];simp only [rd_T111];congr 1;omega
      have h0:(i:Int)>0:=by omega
      have hw:wrap64 ((i:Int)-1)=(i:Int)-1:=w64 (by omega) (by omega)
      have hA:(0:Int)≤(i:Int)-1:=by omega
      have hB:(i:Int)-1<(l.length:Int):=by omega
      refine Ev.step (fun k=>?_) (main (keysRise (some y) x) (fun k=>Y1.j1 k (i:Int) (!Op.bytesLess y.f0.toList x.f0.toList) l) (by simpa [keysRise] using hj (!Op.bytesLess y.f0.toList x.f0.toList)))
      simp only [Y1.l0,hr,if_pos h0,hw,if_pos hA,if_pos hB,hq]
      rw [if_pos (by omega),if_pos (by omega)]
theorem spec_ClientRight_ev (l:List Kept) (hl:l.length≤1048576) (hx:∀ x ∈ l,x.f0.size≤1048576∧x.f1.length≤1048576):Ev (fun k=>Y1.f k l) (clientOk l):=by
  unfold Y1.f clientOk
  by_cases h:l.length≤6
  · exact evNeg (by omega) (by simpa [h,prevKept] using spec_ClientRight_l0 l h hx l 0 rfl (by omega))
  · exact evPos (by omega) (by simpa [h] using Ev.now false)
theorem impl_ClientRight_l0 (l:List Kept) (hl:l.length≤1048576) (hx:∀ x ∈ l,x.f0.size≤1048576∧x.f1.length≤1048576):∀ (s:List Kept) (i:Nat),l.drop i=s→i≤l.length →
    Ev (fun k=>Y0.l0 k l (l.length:Int) (i:Int) l) (keptFrom (prevKept l i) s && decide (l.length≤6))
  | [],i,h,hi=>by
    have:=dropNil' h hi
    refine Ev.step (f:=fun _=>some (decide ((l.length:Int)≤6))) (fun k=>?_) (by
      have e:decide ((l.length:Int)≤6)=decide (l.length≤6):=by
        by_cases hh:l.length≤6 <;> simp [hh] <;> omega
      simp only [keptFrom,Bool.true_and,e];exact Ev.now _)
    simp only [Y0.l0]
    rw [if_neg (by omega)]
  | x :: s,i,h,hi=>by
    obtain ⟨h1,h2,h3⟩:=dropCons h z111
    have hr:rd_T111 l (i:Int)=x:=by simpa [rd_T111] using h2
    have hmem:x ∈ l:=List.mem_of_mem_drop (by rw [h];exact List.mem_cons_self)
    have ih:=impl_ClientRight_l0 l hl hx s (i+1) h3 (by omega)
    rw [prevKept_succ h2] at ih
    generalize hE:(keptFrom (some x) s && decide (l.length≤6))=E at ih
    have hj:∀ b:Bool,Ev (fun k=>Y0.j1 k l (l.length:Int) (i:Int) b l) (!b && E):=fun b=>by
      cases b with
      | true=>exact Ev.step (f:=fun _=>some false) (fun k=>by simp [Y0.j1]) (Ev.now _)
      | false=>exact Ev.step (fun k=>by simp only [Y0.j1];rw [if_neg (by simp),w64 (x:=(i:Int)+1) (by omega) (by omega)]) (by simpa using ih)
    have main:∀ (p:Bool) (g:Nat→Option Bool),Ev g (p && E)→Ev (fun k=>(Y7.f k x.f0).bind fun t=>if t=true then (if (x.f1.length:Int)=0 then Y0.j1 k l (l.length:Int) (i:Int) true l else ((Y4.f k x.f1).bind fun t=>if t=true then g k else Y0.j1 k l (l.length:Int) (i:Int) true l)) else Y0.j1 k l (l.length:Int) (i:Int) true l) (keptOk x && (p && E)):=by
      intro p g hg
      unfold keptOk
      refine Ev.bind (impl_NameRight_ev x.f0 (by have:=(hx x hmem).1;omega)) ?_
      cases nameOk x.f0 with
      | false=>exact evNeg (by simp) (by simpa using hj true)
      | true =>
        refine evPos rfl ?_
        by_cases hz:x.f1.length=0
        · exact evPos (by omega) (by simpa [hz] using hj true)
        · refine evNeg (by omega) (Ev.bind (impl_seenRight_ev x.f1 (by have:=(hx x hmem).2;omega)) ?_)
          cases seenOk x.f1 with
          | false=>exact evNeg (by simp) (by simpa using hj true)
          | true=>exact evPos rfl (by simpa [hz] using hg)
    simp only [keptFrom,Bool.and_assoc,hE]
    by_cases hi0:i=0
    · have hp:prevKept l i=none:=by simp [prevKept,hi0]
      rw [hp]
      have h0:¬ ((i:Int)>0):=by omega
      refine Ev.step (fun k=>?_) (main true (fun k=>Y0.j1 k l (l.length:Int) (i:Int) false l) (by simpa using hj false))
      simp only [Y0.l0,hr,if_neg h0]
      rw [if_pos (by omega),if_pos (by omega),if_pos (by omega)]
    · have hp:prevKept l i=some (l.getD (i-1) z111):=by simp [prevKept,hi0]
      rw [hp]
      generalize hy:l.getD (i-1) z111=y
      have hq:rd_T111 l ((i:Int)-1)=y:=by
        rw [← hy];simp only [rd_T111];congr 1;omega
      have h0:(i:Int)>0:=by omega
      have hw:wrap64 ((i:Int)-1)=(i:Int)-1:=w64 (by omega) (by omega)
      have hA:(0:Int)≤(i:Int)-1:=by omega
      have hB:(i:Int)-1<(l.length:Int):=by omega
      refine Ev.step (fun k=>?_) (main (keysRise (some y) x) (fun k=>Y0.j1 k l (l.length:Int) (i:Int) (!Op.bytesLess y.f0.toList x.f0.toList) l) (by simpa [keysRise] using hj (!Op.bytesLess y.f0.toList x.f0.toList)))
      simp only [Y0.l0,hr,if_pos h0,hw,if_pos hA,if_pos hB,hq]
      rw [if_pos (by omega),if_pos (by omega),if_pos (by omega)]
theorem impl_ClientRight_ev (l:List Kept) (hl:l.length≤1048576) (hx:∀ x ∈ l,x.f0.size≤1048576∧x.f1.length≤1048576):Ev (fun k=>Y0.f k l) (clientOk l):=by
  unfold Y0.f clientOk
  rw [Bool.and_comm]
  simpa [prevKept] using impl_ClientRight_l0 l hl hx l 0 rfl (by omega)
end Go.Proofs.Ytlglglbjckpnbaa.Q

namespace Go.Proofs.Ytlglglbjckpnbaa.Q
open Go.RowKit Go.Proofs.Ytlglglbjckpnbaa.P Go.Proofs.YtlglglbjckpnbaaW.PrintWords Go.Proofs.YtlglglbjckpnbaaW.PrintMore
/-- Of any client: it is too large, or it is small. -/
theorem szClient_small {x:S42} (hw:Go.Proofs.Ytlglglbjckpnbaa.RO.wfT42 x):∃ r,Ev (fun k=>Y29.f k x.f0 1048576) r∧r≤1048576∧(¬ r<0→x.f0.length≤1048576∧∀ y ∈ x.f0,y.f0.size≤1048576∧y.f1.length≤1048576):=by
  obtain ⟨r,e1,e2,e3⟩:=szClient_ev x.f0 hw.1 (fun y hy=>⟨(hw.2 y hy).1,(hw.2 y hy).2.1⟩) 1048576 (by omega) (by omega)
  refine ⟨r,e1,e2,fun h=>?_⟩
  obtain ⟨g1,g2⟩:=e3 (by omega)
  refine ⟨g1,fun y hy=>?_⟩
  have:=g2 y hy
  unfold KeptIn at this;omega
end Go.Proofs.Ytlglglbjckpnbaa.Q

namespace Go.Proofs.Ytlglglbjckpnbaa.Q
open Go.RowKit Go.Proofs.Ytlglglbjckpnbaa.P Go.Proofs.YtlglglbjckpnbaaW.PrintWords Go.Proofs.YtlglglbjckpnbaaW.PrintMore

def markL:Int→List Mark→List Mark
  | _,[]=>[]
  | n,_ :: r=>⟨n,n+1⟩ :: markL (n+2) r
theorem markMarkS_l0 (N:Int) (hN:N≤1152921504606846976):∀ (s pre:List Mark) (n:Int),0≤n→n+2*(s.length:Int)≤N→(pre.length:Int)+s.length≤N →
    Ev (fun k=>Y11.l0 k (pre ++ s) n (pre.length:Int)) (n+2*(s.length:Int),pre ++ markL n s)
  | [],pre,n,h0,h1,h2=>by
    refine Ev.step (f:=fun _=>some (n,pre)) (fun k=>?_) (by simp [markL];exact Ev.now _)
    simp only [Y11.l0,List.append_nil]
    rw [if_neg (by omega)]
  | m :: s,pre,n,h0,h1,h2=>by
    simp only [List.length_cons] at h1 h2
    have ih:=markMarkS_l0 N hN s (pre ++ [⟨n,n+1⟩]) (n+2) (by omega) (by omega) (by simp;omega)
    simp only [List.length_append,List.length_cons,List.length_nil,List.append_assoc,List.cons_append,List.nil_append] at ih
    refine Ev.step (fun k=>?_) (show Ev _ (n+2*((m :: s).length:Int),pre ++ markL n (m :: s)) from by
      simp only [markL,List.length_cons]
      rw [show n+2*((s.length+1:Nat):Int)=n+2+2*(s.length:Int) from by omega]
      exact ih)
    simp only [Y11.l0,Option.bind_some,Int.toNat_natCast,rd_T30,set_mid,getD_mid]
    rw [if_pos (by simp;omega),if_pos (by omega),w64 (x:=n+1) (by omega) (by omega),w64 (x:=n+1+1) (by omega) (by omega),w64 (x:=(pre.length:Int)+1) (by omega) (by omega),show n+1+1=n+2 from by omega]
    rfl
theorem markMarkS_ev (s:List Mark) (n:Int) (h0:0≤n) (h1:n+2*(s.length:Int)≤1152921504606846976):Ev (fun k=>Y11.f k s n) (n+2*(s.length:Int),markL n s) :=
  markMarkS_l0 1152921504606846976 (Int.le_refl _) s [] n h0 h1 (by simp;omega)
theorem heldMarkS_l0 (N:Int) (hN:N≤1152921504606846976):∀ (s pre:List Mark) (n:Int),0≤n→n+2*(s.length:Int)≤N→(pre.length:Int)+s.length≤N →
    Ev (fun k=>Y9.l0 k (pre ++ markL n s) n (pre.length:Int)) (n+2*(s.length:Int))
  | [],pre,n,h0,h1,h2=>by
    refine Ev.step (f:=fun _=>some n) (fun k=>?_) (by simp;exact Ev.now _)
    simp only [Y9.l0,markL,List.append_nil]
    rw [if_neg (by omega)]
  | m :: s,pre,n,h0,h1,h2=>by
    simp only [List.length_cons] at h1 h2
    have ih:=heldMarkS_l0 N hN s (pre ++ [⟨n,n+1⟩]) (n+2) (by omega) (by omega) (by simp;omega)
    simp only [List.length_append,List.length_cons,List.length_nil,List.append_assoc,List.cons_append,List.nil_append] at ih
    refine Ev.step (fun k=>?_) (show Ev _ (n+2*((m :: s).length:Int)) from by
      simp only [List.length_cons]
      rw [show n+2*((s.length+1:Nat):Int)=n+2+2*(s.length:Int) from by omega]
      exact ih)
    have hr:rd_T30 (pre ++ markL n (m :: s)) (pre.length:Int)=⟨n,n+1⟩:=by simp only [rd_T30,Int.toNat_natCast,markL,getD_mid]
    simp only [Y9.l0,hr]
    rw [if_pos (by simp [markL];omega),if_pos (by omega),w64 (x:=n+1) (by omega) (by omega),if_pos trivial,if_pos rfl,w64 (x:=n+1+1) (by omega) (by omega),w64 (x:=(pre.length:Int)+1) (by omega) (by omega),show n+1+1=n+2 from by omega]
    rfl
theorem heldMarkS_ev (s:List Mark) (n:Int) (h0:0≤n) (h1:n+2*(s.length:Int)≤1152921504606846976):Ev (fun k=>Y9.f k (markL n s) n) (n+2*(s.length:Int)) :=
  heldMarkS_l0 1152921504606846976 (Int.le_refl _) s [] n h0 h1 (by simp;omega)
end Go.Proofs.Ytlglglbjckpnbaa.Q

namespace Go.Proofs.Ytlglglbjckpnbaa.Q
open Go.RowKit Go.Proofs.Ytlglglbjckpnbaa.P Go.Proofs.YtlglglbjckpnbaaW.PrintWords Go.Proofs.YtlglglbjckpnbaaW.PrintMore

theorem markText_l0:∀ (m:Nat) (n:Int),n.toNat≤m→0≤n→∀ t:ByteArray,(t.size:Int)+n+1≤9223372036854775807→∃ r,Ev (fun k=>Y16.l0 k n t) r
  | 0,n,hm,h0,t,ht=>by
    refine ⟨(⟨#[109]⟩:ByteArray) ++ t,Ev.step (f:=fun _=>some ((⟨#[109]⟩:ByteArray) ++ t)) (fun k=>?_) (Ev.now _)⟩
    simp only [Y16.l0]
    rw [if_neg (by omega),if_pos (by omega)]
  | m+1,n,hm,h0,t,ht=>by
    by_cases hn:n>0
    · have hs:(strOfNums [(wrap64 (48+(Int.tmod n 10))) % 256]).size=1:=rfl
      have e:Int.tdiv n 10=n / 10:=Int.tdiv_eq_ediv_of_nonneg h0
      obtain ⟨r,hr⟩:=markText_l0 m (n / 10) (by omega) (by omega) (strOfNums [(wrap64 (48+(Int.tmod n 10))) % 256] ++ t) (by rw [ByteArray.size_append,hs];omega)
      refine ⟨r,Ev.step (fun k=>?_) hr⟩
      simp only [Y16.l0,Option.bind_some]
      rw [if_pos hn,if_pos (by rw [hs];omega),e,w64 (x:=n / 10) (by omega) (by omega)]
    · refine ⟨(⟨#[109]⟩:ByteArray) ++ t,Ev.step (f:=fun _=>some ((⟨#[109]⟩:ByteArray) ++ t)) (fun k=>?_) (Ev.now _)⟩
      simp only [Y16.l0]
      rw [if_neg hn,if_pos (by omega)]
theorem markText_is (n:Int) (h1:n≤1152921504606846976):∃ r,Ev (fun k=>Y16.f k n) r:=by
  unfold Y16.f
  by_cases h:n≤0
  · exact ⟨_,evPos h (Ev.now _)⟩
  · obtain ⟨r,hr⟩:=markText_l0 n.toNat n (by omega) (by omega) ⟨#[]⟩ (by show (0:Int)+n+1≤_;omega)
    exact ⟨r,evNeg h hr⟩
open Classical in
noncomputable def markT (n:Int):ByteArray:=if h:∃ r,Ev (fun k=>Y16.f k n) r then h.choose else ⟨#[]⟩
theorem markT_ev (n:Int) (h1:n≤1152921504606846976):Ev (fun k=>Y16.f k n) (markT n):=by
  have h:=markText_is n h1
  unfold markT
  rw [dif_pos h]
  exact h.choose_spec
end Go.Proofs.Ytlglglbjckpnbaa.Q

namespace Go.Proofs.Ytlglglbjckpnbaa.Q
open Go.RowKit Go.Proofs.Ytlglglbjckpnbaa.P Go.Proofs.YtlglglbjckpnbaaW.PrintWords Go.Proofs.YtlglglbjckpnbaaW.PrintMore

def firstLong:List ByteArray→Int→Int
  | [],_ => -1
  | a :: s,i=>if 8000<a.size then i else firstLong s (i+1)
theorem firstLong_any:∀ (s:List ByteArray) (i:Int),0≤i→decide (firstLong s i≥0)=s.any fun a=>decide (8000<a.size)
  | [],i,h=>by simp [firstLong]
  | a :: s,i,h=>by
    have ih:=firstLong_any s (i+1) (by omega)
    by_cases ha:8000<a.size
    · simp [firstLong,ha,h]
    · rw [firstLong,if_neg ha,ih,List.any_cons]
      simp [ha]
theorem isLong_l0 (l:List ByteArray) (hl:l.length≤4611686018427387904):∀ (s:List ByteArray) (i:Nat),l.drop i=s→i≤l.length →
    Ev (fun k=>Y5.l0 k l (l.length:Int) (i:Int)) (firstLong s i)
  | [],i,h,hi=>by
    have:=dropNil' h hi
    refine Ev.step (f:=fun _=>some (-1)) (fun k=>?_) (Ev.now _)
    simp only [Y5.l0]
    rw [if_neg (by omega)]
  | a :: s,i,h,hi=>by
    obtain ⟨h1,h2,h3⟩:=dropCons h ByteArray.empty
    have ih:=isLong_l0 l hl s (i+1) h3 (by omega)
    by_cases ha:8000<a.size
    · refine Ev.step (f:=fun _=>some (firstLong (a :: s) i)) (fun k=>?_) (Ev.now _)
      simp only [Y5.l0,Y38.f,rdOf,Int.toNat_natCast,h2]
      rw [if_pos (by omega),if_pos (by omega),if_pos (by omega)]
      simp [firstLong,ha]
      omega
    · refine Ev.step (fun k=>?_) (show Ev _ (firstLong (a :: s) i) from by simp only [firstLong,if_neg ha];exact ih)
      simp only [Y5.l0,Y38.f,rdOf,Int.toNat_natCast,h2]
      rw [if_pos (by omega),if_pos (by omega),if_pos (by omega),w64 (by omega) (by omega)]
      have:¬ ((a.size:Int)>8000):=by omega
      simp [this]
theorem isLong_ev (l:List ByteArray) (hl:l.length≤4611686018427387904):Ev (fun k=>Y30.f k l) (l.any fun a=>decide (8000<a.size)):=by
  unfold Y30.f Y13.f Y5.f
  have h:=isLong_l0 l hl l 0 rfl (by omega)
  refine Ev.bind (Ev.bind h (Ev.now _)) ?_
  have e:=firstLong_any l 0 (by omega)
  rw [show ((0:Nat):Int)=0 from rfl,e]
  exact Ev.now _
theorem isLong1_ev (a:ByteArray):Ev (fun k=>Y30.f k ([a]:List ByteArray)) (decide (8000<a.size)):=by
  have:=isLong_ev [a] (by simp)
  simpa using this
end Go.Proofs.Ytlglglbjckpnbaa.Q

namespace Go.Proofs.Ytlglglbjckpnbaa.Q
open Go.RowKit Go.Proofs.Ytlglglbjckpnbaa.P Go.Proofs.YtlglglbjckpnbaaW.PrintWords Go.Proofs.YtlglglbjckpnbaaW.PrintMore

theorem bl_trans:∀ a b c:List UInt8,Op.bytesLess a b=true→Op.bytesLess b c=true→Op.bytesLess a c=true
  | _,[],_,h,_=>by simp [Op.bytesLess] at h
  | _,_ :: _,[],_,h=>by simp [Op.bytesLess] at h
  | [],_ :: _,_ :: _,_,_=>by simp [Op.bytesLess]
  | a :: x,b :: y,c :: z,h,h'=>by
    simp only [Op.bytesLess,Bool.or_eq_true,Bool.and_eq_true,decide_eq_true_eq,beq_iff_eq] at h h' ⊢
    rcases h with h | ⟨rfl,h⟩
    · rcases h' with h' | ⟨rfl,_⟩
      · exact .inl (UInt8.lt_trans h h')
      · exact .inl h
    · rcases h' with h' | ⟨rfl,h'⟩
      · exact .inl h'
      · exact .inr ⟨rfl,bl_trans x y z h h'⟩
def bl (a b:ByteArray):Bool:=Op.bytesLess a.toList b.toList
def cmpOf (a b:ByteArray):Int:=if bl a b=true then -1 else if bl b a=true then 1 else 0
theorem compare_is (a b:ByteArray):Y31.f a b=some (cmpOf a b):=by
  simp only [Y31.f,Y22.f,Option.bind_some,bne_self_eq_false]
  rw [if_neg (by decide),if_neg (by decide)]
  unfold cmpOf
  by_cases h:bl a b=true
  · have h':Op.bytesLess a.toList b.toList=true:=h
    rw [if_pos h,if_pos h']
  · have h':¬ Op.bytesLess a.toList b.toList=true:=h
    rw [if_neg h,if_neg h']
    by_cases h2:bl b a=true
    · have h2':Op.bytesLess b.toList a.toList=true:=h2
      rw [if_pos h2,if_pos h2']
    · have h2':¬ Op.bytesLess b.toList a.toList=true:=h2
      rw [if_neg h2,if_neg h2']
theorem find1_is (x:Kept) (key:ByteArray):Y28.f x.f0 x.f1 key=some (cmpOf x.f0 key):=by
  unfold Y28.f
  rw [compare_is];rfl
theorem cmp_neg {a b:ByteArray}:cmpOf a b<0 ↔ bl a b=true:=by
  unfold cmpOf
  by_cases h:bl a b=true
  · simp [h]
  · rw [if_neg h]
    by_cases h2:bl b a=true
    · simp [h2,h]
    · simp [h2,h]
theorem cmp_zero {a b:ByteArray}:cmpOf a b=0 ↔ a.toList=b.toList:=by
  unfold cmpOf
  by_cases h:bl a b=true
  · rw [if_pos h]
    refine ⟨fun h=>by omega,fun e=>?_⟩
    unfold bl at h;rw [e,bl_irr_] at h;cases h
  · rw [if_neg h]
    by_cases h2:bl b a=true
    · rw [if_pos h2]
      refine ⟨fun h=>by omega,fun e=>?_⟩
      unfold bl at h2;rw [e,bl_irr_] at h2;cases h2
    · rw [if_neg h2]
      exact ⟨fun _=>bl_tot_ _ _ (by simpa [bl] using h) (by simpa [bl] using h2),fun _=>rfl⟩

/-! one by one -/
def keptAt:List Kept→ByteArray→List Mark
  | [],_=>[]
  | x :: s,key=>if x.f0.toList=key.toList then x.f1 else keptAt s key
theorem keptAt_none:∀ (l:List Kept) (key:ByteArray),(∀ x ∈ l,x.f0.toList≠key.toList)→keptAt l key=[]
  | [],_,_=>rfl
  | x :: s,key,h=>by
    rw [keptAt,if_neg (h x List.mem_cons_self),keptAt_none s key (fun y hy=>h y (List.mem_cons_of_mem _ hy))]
theorem keptAt_some:∀ (l:List Kept) (key:ByteArray) (i:Nat) (x:Kept),l[i]? = some x→x.f0.toList=key.toList→(∀ (m:Nat) y,m<i→l[m]? = some y→y.f0.toList≠key.toList)→keptAt l key=x.f1
  | [],_,_,_,h,_,_=>by simp at h
  | y :: s,key,0,x,h,e,_=>by
    simp only [List.getElem?_cons_zero,Option.some.injEq] at h
    subst h
    rw [keptAt,if_pos e]
  | y :: s,key,i+1,x,h,e,hm=>by
    rw [keptAt,if_neg (hm 0 y (by omega) rfl)]
    exact keptAt_some s key i x (by simpa using h) e (fun m z hz hz2=>hm (m+1) z (by omega) (by simpa using hz2))
theorem l18_l0 (l:List Kept) (key:ByteArray) (hl:l.length≤1048576) (hx:∀ x ∈ l,x.f1.length≤1048576):∀ (s:List Kept) (i:Nat),l.drop i=s→i≤l.length →
    Ev (fun k=>Y21.l0 k key (i:Int) l) (keptAt s key)
  | [],i,h,hi=>by
    have:=dropNil' h hi
    refine Ev.step (f:=fun _=>some []) (fun k=>?_) (Ev.now _)
    simp only [Y21.l0]
    rw [if_neg (by omega)]
  | x :: s,i,h,hi=>by
    obtain ⟨h1,h2,h3⟩:=dropCons h z111
    have hr:rd_T111 l (i:Int)=x:=by simpa [rd_T111] using h2
    have hm:=hx x (List.mem_of_mem_drop (i:=i) (by rw [h];exact List.mem_cons_self ..))
    by_cases e:x.f0.toList=key.toList
    · refine Ev.step (f:=fun _=>some x.f1) (fun k=>?_) (by rw [keptAt,if_pos e];exact Ev.now _)
      simp only [Y21.l0,hr,Option.bind_some,List.nil_append,List.length_nil]
      rw [if_pos (by omega),if_pos (by omega),if_pos e,if_pos (by omega)]
    · refine Ev.step (fun k=>?_) (by rw [keptAt,if_neg e];exact l18_l0 l key hl hx s (i+1) h3 (by omega))
      simp only [Y21.l0,hr]
      rw [if_pos (by omega),if_pos (by omega),if_neg e,w64 (by omega) (by omega)]
      rfl
theorem l18_ev (l:List Kept) (key:ByteArray) (hl:l.length≤1048576) (hx:∀ x ∈ l,x.f1.length≤1048576):Ev (fun k=>Y21.f k l key) (keptAt l key):=l18_l0 l key hl hx l 0 rfl (by omega)
def csOut (l:List Kept) (key:ByteArray):List Mark:=if 8000<key.size then [] else if clientOk l=true then keptAt l key else []
theorem spec_ClientSeen_ev (l:List Kept) (key:ByteArray) (hl:l.length≤1048576) (hx:∀ x ∈ l,x.f0.size≤1048576∧x.f1.length≤1048576):Ev (fun k=>Y14.f k l key) (csOut l key):=by
  unfold Y14.f csOut
  have hT:Ev (fun k=>Y14.j0 k key true l) []:=Ev.step (f:=fun _=>some []) (fun k=>by simp [Y14.j0]) (Ev.now _)
  by_cases h:8000<key.size
  · rw [if_pos h]
    exact evPos (by omega) hT
  · rw [if_neg h]
    refine evNeg (by omega) (Ev.bind (spec_ClientRight_ev l hl hx) ?_)
    cases hc:clientOk l with
    | false=>rw [if_neg (by simp)];exact hT
    | true =>
      rw [if_pos rfl]
      refine Ev.step (fun k=>by simp only [Y14.j0];rw [if_neg (by simp)]) ?_
      exact Ev.bind (l18_ev l key hl (fun x h=>(hx x h).2)) (Ev.now _)

/-! by halves -/
theorem rise_from:∀ (s:List Kept) (p:Kept),keptFrom (some p) s=true→∀ y ∈ s,bl p.f0 y.f0=true
  | [],_,_,_,h=>by cases h
  | x :: s,p,h,y,hy=>by
    simp only [keptFrom,Bool.and_eq_true] at h
    have hp:bl p.f0 x.f0=true:=by
      have:=h
      simp only [keysRise] at this
      unfold bl
      simp_all
    rcases List.mem_cons.1 hy with rfl | hy
    · exact hp
    · have h2:keptFrom (some x) s=true:=by simp_all
      exact bl_trans _ _ _ hp (rise_from s x h2 y hy)
theorem rise_pairs:∀ (s:List Kept) (p:Option Kept),keptFrom p s=true→s.Pairwise (fun a b=>bl a.f0 b.f0=true)
  | [],_,_=>List.Pairwise.nil
  | x :: s,p,h=>by
    have h2:keptFrom (some x) s=true:=by
      simp only [keptFrom,Bool.and_eq_true] at h
      simp_all
    exact List.Pairwise.cons (rise_from s x h2) (rise_pairs s (some x) h2)
theorem rise_at {l:List Kept} (h:l.Pairwise (fun a b=>bl a.f0 b.f0=true)) {i j:Nat} {x y:Kept} (hi:l[i]? = some x) (hj:l[j]? = some y) (hij:i<j):bl x.f0 y.f0=true:=by
  have hil:=(List.getElem?_eq_some_iff.1 hi).1
  have hjl:=(List.getElem?_eq_some_iff.1 hj).1
  have:=List.pairwise_iff_getElem.1 h i j hil hjl hij
  rw [(List.getElem?_eq_some_iff.1 hi).2,(List.getElem?_eq_some_iff.1 hj).2] at this
  exact this
theorem bs_ev (l:List Kept) (key:ByteArray) (hl:l.length≤6) (hp:l.Pairwise (fun a b=>bl a.f0 b.f0=true)):∀ (d i j:Nat),j≤i+d→i≤j→j≤l.length →
    (∀ (m:Nat) y,m<i→l[m]? = some y→bl y.f0 key=true)→(∀ (m:Nat) y,j≤m→l[m]? = some y→¬ bl y.f0 key=true) →
    ∃ r:Int × Bool,Ev (fun k=>Y3.l0 k l key (l.length:Int) (i:Int) (j:Int)) r ∧
      (r.2=true→0≤r.1∧r.1<(l.length:Int)∧(rd_T111 l r.1).f1=keptAt l key)∧(r.2=false→keptAt l key=[])
  | 0,i,j,hd,hij,hjl,hlo,hhi=>by
    obtain rfl:i=j:=by omega
    have hlo':∀ (m:Nat) y,m<i→l[m]? = some y→y.f0.toList≠key.toList:=fun m y hm hy e=>by
      have:=hlo m y hm hy
      unfold bl at this;rw [e,bl_irr_] at this;cases this
    by_cases hin:i<l.length
    · obtain ⟨x,hx⟩:∃ x,l[i]? = some x:=⟨l[i],List.getElem?_eq_getElem hin⟩
      have hr:rd_T111 l (i:Int)=x:=by
        unfold rd_T111
        rw [Int.toNat_natCast,List.getD_eq_getElem?_getD,hx];rfl
      refine ⟨((i:Int),cmpOf x.f0 key == 0),Ev.step (f:=fun _=>some ((i:Int),cmpOf x.f0 key == 0)) (fun k=>?_) (Ev.now _),fun h=>?_,fun h=>?_⟩
      · simp only [Y3.l0,hr,find1_is,Option.bind_some]
        rw [if_neg (by omega),if_pos (by omega),if_pos (by omega),if_pos (by omega)]
      · refine ⟨by omega,by dsimp only;omega,?_⟩
        dsimp only
        rw [hr]
        have e:x.f0.toList=key.toList:=cmp_zero.1 (by simpa using h)
        exact (keptAt_some l key i x hx e hlo').symm
      · have e:¬ x.f0.toList=key.toList:=fun e=>by
          have:=cmp_zero.2 e
          simp [this] at h
        refine keptAt_none l key (fun y hy=>?_)
        obtain ⟨m,hm⟩:=List.getElem?_of_mem hy
        rcases Nat.lt_trichotomy m i with hmi | rfl | hmi
        · exact hlo' m y hmi hm
        · rw [hx] at hm;injection hm with hm;subst hm;exact e
        · intro ey
          have h1:=rise_at hp hx hm hmi
          have h2:=hhi i x (Nat.le_refl _) hx
          unfold bl at h1 h2
          rw [ey] at h1
          exact h2 h1
    · refine ⟨((i:Int),false),Ev.step (f:=fun _=>some ((i:Int),false)) (fun k=>?_) (Ev.now _),(fun h=>by cases h),fun _=>?_⟩
      · simp only [Y3.l0]
        rw [if_neg (by omega),if_neg (by omega)]
      · refine keptAt_none l key (fun y hy=>?_)
        obtain ⟨m,hm⟩:=List.getElem?_of_mem hy
        exact hlo' m y (by have:=(List.getElem?_eq_some_iff.1 hm).1;omega) hm
  | d+1,i,j,hd,hij,hjl,hlo,hhi=>by
    by_cases he:i=j
    · exact bs_ev l key hl hp 0 i j (by omega) hij hjl hlo hhi
    have hh:wrap64 ((IntKind.u64.wrap (wrap64 ((i:Int)+(j:Int)))) / 2)=(((i+j) / 2:Nat):Int):=by
      rw [w64 (x:=(i:Int)+(j:Int)) (by omega) (by omega),u64w,w64 (by omega) (by omega)]
      omega
    obtain ⟨h,hhd⟩:∃ h,(i+j) / 2=h:=⟨_,rfl⟩
    rw [hhd] at hh
    have hhl:h<l.length:=by omega
    obtain ⟨x,hx⟩:∃ x,l[h]? = some x:=⟨l[h],List.getElem?_eq_getElem hhl⟩
    have hr:rd_T111 l (h:Int)=x:=by
      unfold rd_T111
      rw [Int.toNat_natCast,List.getD_eq_getElem?_getD,hx];rfl
    by_cases hc:bl x.f0 key=true
    · obtain ⟨r,e,e1,e2⟩:=bs_ev l key hl hp d (h+1) j (by omega) (by omega) hjl (fun m y hm hy=>by
        rcases Nat.lt_or_eq_of_le (Nat.le_of_lt_succ hm) with hmh | rfl
        · exact bl_trans _ _ _ (rise_at hp hy hx hmh) hc
        · rw [hx] at hy;injection hy with hy;subst hy;exact hc) hhi
      refine ⟨r,Ev.step (fun k=>?_) e,e1,e2⟩
      simp only [Y3.l0,hh,hr,find1_is,Option.bind_some]
      rw [if_pos (by omega),if_pos (by omega),if_pos (by omega),if_pos (cmp_neg.2 hc),w64 (by omega) (by omega)]
      rfl
    · obtain ⟨r,e,e1,e2⟩:=bs_ev l key hl hp d i h (by omega) (by omega) (by omega) hlo (fun m y hm hy=>by
        rcases Nat.lt_or_eq_of_le hm with hmh | rfl
        · intro hb
          exact hc (bl_trans _ _ _ (rise_at hp hx hy hmh) hb)
        · rw [hx] at hy;injection hy with hy;subst hy;exact hc)
      refine ⟨r,Ev.step (fun k=>?_) e,e1,e2⟩
      simp only [Y3.l0,hh,hr,find1_is,Option.bind_some]
      rw [if_pos (by omega),if_pos (by omega),if_pos (by omega),if_neg (fun h=>hc (cmp_neg.1 h))]
theorem seen_ev (l:List Kept) (key:ByteArray) (hc:clientOk l=true):Ev (fun k=>impl_Client_seen.f k l key) (keptAt l key):=by
  simp only [clientOk,Bool.and_eq_true,decide_eq_true_eq] at hc
  obtain ⟨⟨r1,r2⟩,e,e1,e2⟩:=bs_ev l key hc.1 (rise_pairs l none hc.2) l.length 0 l.length (by omega) (by omega) (Nat.le_refl _) (fun m y hm=>by omega) (fun m y hm hy=>by
    have:=(List.getElem?_eq_some_iff.1 hy).1
    omega)
  unfold impl_Client_seen.f
  refine Ev.bind e ?_
  cases r2 with
  | true =>
    obtain ⟨g1,g2,g3⟩:=e1 rfl
    refine evPos rfl (evPos g1 (evPos g2 ?_))
    rw [← g3]
    exact Ev.now _
  | false =>
    rw [e2 rfl]
    exact evNeg (by simp) (Ev.now _)
theorem keptAt_len (l:List Kept) (key:ByteArray) (hx:∀ x ∈ l,x.f1.length≤1048576):(keptAt l key).length≤1048576:=by
  induction l with
  | nil=>simp [keptAt]
  | cons x s ih =>
    rw [keptAt]
    split
    · exact hx x List.mem_cons_self
    · exact ih (fun y hy=>hx y (List.mem_cons_of_mem _ hy))
theorem csOut_len (l:List Kept) (key:ByteArray) (hx:∀ x ∈ l,x.f1.length≤1048576):(csOut l key).length≤1048576:=by
  unfold csOut
  split
  · simp
  · split
    · exact keptAt_len l key hx
    · simp
theorem impl_ClientSeen_ev (l:List Kept) (key:ByteArray) (hl:l.length≤1048576) (hx:∀ x ∈ l,x.f0.size≤1048576∧x.f1.length≤1048576):Ev (fun k=>Y8.f k l key) (csOut l key):=by
  unfold Y8.f csOut
  have hT:Ev (fun k=>Y8.j0 k l key true) []:=Ev.step (f:=fun _=>some []) (fun k=>by simp [Y8.j0]) (Ev.now _)
  refine Ev.bind (isLong1_ev key) ?_
  by_cases h:8000<key.size
  · rw [if_pos h]
    exact evPos (by simpa using h) hT
  · rw [if_neg h]
    refine evNeg (by simpa using h) (Ev.bind (impl_ClientRight_ev l hl hx) ?_)
    cases hc:clientOk l with
    | false=>rw [if_neg (by simp)];exact hT
    | true =>
      rw [if_pos rfl]
      refine Ev.step (fun k=>by simp only [Y8.j0];rw [if_neg (by simp)]) ?_
      refine Ev.bind (seen_ev l key hc) ?_
      have:=keptAt_len l key (fun x h=>(hx x h).2)
      refine evOf ?_
      unfold Y24.f
      simp only [Option.bind_some,List.nil_append,List.length_nil]
      rw [if_pos (by omega)]

/-! what is written over -/
def cost:List Kept→Int
  | []=>0
  | x :: s=>1+2*(x.f1.length:Int)+cost s
theorem cost_le:∀ (s:List Kept),(∀ x ∈ s,x.f1.length≤1048576)→0≤cost s∧cost s≤(s.length:Int)*2097153
  | [],_=>by simp [cost]
  | x :: s,h=>by
    have h1:=cost_le s (fun y hy=>h y (List.mem_cons_of_mem _ hy))
    have h2:=h x List.mem_cons_self
    simp only [cost,List.length_cons]
    omega
theorem markKept_l0 (l:List Kept) (hl:l.length≤1048576):∀ (s:List Kept) (i:Nat),l.drop i=s→i≤l.length→∀ n:Int,0≤n→n+cost s≤1152921504606846976→0≤cost s→(∀ x ∈ s,x.f1.length≤1048576) →
    ∃ r,Ev (fun k=>Y20.l0 k l n (i:Int)) r∧0≤r
  | [],i,h,hi,n,h0,_,_,_=>by
    have:=dropNil' h hi
    refine ⟨n,Ev.step (f:=fun _=>some n) (fun k=>?_) (Ev.now _),h0⟩
    simp only [Y20.l0]
    rw [if_neg (by omega)]
  | x :: s,i,h,hi,n,h0,hN,_,hx=>by
    obtain ⟨h1,h2,h3⟩:=dropCons h z111
    have hr:rd_T111 l (i:Int)=x:=by simpa [rd_T111] using h2
    have hc:=cost_le s (fun y hy=>hx y (List.mem_cons_of_mem _ hy))
    simp only [cost] at hN
    obtain ⟨r,e,hr0⟩:=markKept_l0 l hl s (i+1) h3 (by omega) (n+1+2*(x.f1.length:Int)) (by omega) (by omega) hc.1 (fun y hy=>hx y (List.mem_cons_of_mem _ hy))
    refine ⟨r,Ev.step (fun k=>by simp only [Y20.l0,hr];rw [if_pos (by omega),if_pos (by omega)]) ?_,hr0⟩
    refine Ev.bind (markT_ev n (by omega)) ?_
    rw [w64 (by omega) (by omega)]
    refine Ev.bind (markMarkS_ev x.f1 (n+1) (by omega) (by omega)) ?_
    rw [w64 (by omega) (by omega)]
    exact e
theorem markClient_ev (l:List Kept) (hl:l.length≤1048576) (hx:∀ x ∈ l,x.f1.length≤1048576):∃ r,Ev (fun k=>Y23.f k l 1) r∧0≤r:=by
  have hc:=cost_le l hx
  exact markKept_l0 l hl l 0 rfl (by omega) 1 (by omega) (by omega) hc.1 hx
end Go.Proofs.Ytlglglbjckpnbaa.Q

namespace Go.Proofs.Ytlglglbjckpnbaa.Pure
open Go.RowKit Go.Proofs.Ytlglglbjckpnbaa.P Go.Proofs.Ytlglglbjckpnbaa.Q Go.Proofs.YtlglglbjckpnbaaW.PrintWords Go.Proofs.YtlglglbjckpnbaaW.PrintMore
theorem FnExactClientSeen:Y26.Pure:=by
  intro x key hx hkey
  obtain ⟨r,e,hr1,hr2⟩:=szClient_small hx
  refine Ev.rounds ?_
  unfold Y26.f
  refine evIte (fun _=>Ev.now _) (fun _=>?_)
  refine Ev.bind e (evIte (fun _=>Ev.now _) (fun h=>?_))
  obtain ⟨g1,g2⟩:=hr2 h
  have hl:(x.f0.map toKept).length≤1048576:=by simpa using g1
  have hm:∀ y ∈ x.f0.map toKept,y.f0.size≤1048576∧y.f1.length≤1048576:=by
    intro y hy
    obtain ⟨z,hz,rfl⟩:=List.mem_map.1 hy
    have:=g2 z hz
    simpa [toKept] using this
  have e0:=toClient_ev x.f0 g1 (fun y hy=>(g2 y hy).2)
  have e1:=spec_ClientSeen_ev _ key hl hm
  have e2:=impl_ClientSeen_ev _ key hl hm
  have hc:=csOut_len (x.f0.map toKept) key (fun y hy=>(hm y hy).2)
  obtain ⟨v,hv⟩:∃ v,csOut (x.f0.map toKept) key=v:=⟨_,rfl⟩
  rw [hv] at e1 e2 hc
  have e3:=eqMarkS_ev v (by omega)
  obtain ⟨t,e4,ht⟩:=markClient_ev (x.f0.map toKept) hl (fun y hy=>(hm y hy).2)
  have e5:=markMarkS_ev v 1 (by omega) (by omega)
  have e6:=heldMarkS_ev v 1 (by omega) (by omega)
  refine Ev.bind e0 (Ev.bind e1 (Ev.bind e0 (Ev.bind e2 (Ev.bind e3 (evPos rfl (Ev.bind e0 ?_))))))
  refine Ev.bind (eqClient_ev _ (by omega) (fun y hy=>by have:=(hm y hy).2;omega)) (evPos rfl (Ev.bind e4 (evNeg (by omega) (Ev.bind e3 (evPos rfl (Ev.bind e5 ?_))))))
  refine Ev.bind e6 (evNeg (by omega) (evPos rfl (Ev.bind e0 (Ev.bind e2 (Ev.bind e3 (evPos rfl (Ev.bind e6 (evNeg (by omega) (evPos rfl (Ev.now _))))))))))
end Go.Proofs.Ytlglglbjckpnbaa.Pure

namespace Go.Proofs.Ytlglglbjckpnbaa.fnExactClientSeen
open Go.ChangeShapes Go.WideShapes Go.ChangeAt Go.RowKit Go.Proofs.Ytlglglbjckpnbaa.P Go.Proofs.Ytlglglbjckpnbaa.RO Go.Proofs.Ytlglglbjckpnbaa.Open Go.Proofs.YtlglglbjckpnbaaW.PrintWords
open Go.ChangeMaps (open_string shut_string)
set_option linter.unusedVariables false
theorem own:ownKnob Try.prog.godebug=none:=by kernel_rfl
theorem laidOut:laidOutB Try.prog=true:=by kernel_rfl
set_option maxRecDepth 100000 in
theorem lifted (os:Os) (started:os.Started) (H:Type) (enc:TypeId × Value→H) :
    ReturnsInHanded {} Try.checked os 4 .any (Rows.fnExactClientSeenSpec.pre6 enc Try.prog Try.f4 Rows.fnExactClientSeenRow.domain false) (Rows.fnExactClientSeenSpec.post enc Try.prog Try.f4 false true false false):=by
  refine returnsInHanded_of_change_sized (C:=Try.checked) own started (by kernel_rfl) Try.func4
    (ChangeSpec.witness6 (enc:=enc) (C:=Try.checked) false ⟨#[],#[.agg #[.slice none 0 0],.string ByteArray.empty],[]⟩ 8 (by kernel_rfl) (by kernel_rfl) (by kernel_rfl) (by kernel_rfl)) ?_
  intro W base args ds gs before hval0 hW hcnd hsz0 _
  have hsz:(DataW.weightsEach Try.prog (Try.f4.params.toList ++ Rows.fnExactClientSeenSpec.plain.varTypes Try.prog) (ds ++ gs)).all (· ≤ reachBytes)=true:=hsz0
  have hval:∀ (j:Nat) t v,Try.f4.params[j]? = some t→args[j]? = some v→Value.okWide Try.prog W .any base t v:=hval0
  have hW':=hW
  obtain ⟨p,q,hA0,hV,rfl,hfz,hnd⟩:=hW
  have hA:DataW.TrodAll enc Try.prog W 0 (fun _=>true) true Try.f4.params.toList args.toList ds p:=hA0
  rw [Try.params4] at hA hval hsz
  obtain ⟨v0,vs0,d0,ds0,p0,q0,hargs,rfl,rfl,h0,r0⟩:=trodAll_cons hA
  obtain ⟨v1,vs1,d1,ds1,p1,q1,rfl,rfl,rfl,h1,r1⟩:=trodAll_cons r0
  obtain ⟨rfl,rfl,rfl⟩:=trodAll_nil r1
  obtain rfl:args=#[v0,v1]:=by cases args;simp_all
  obtain ⟨rfl,rfl⟩:=trodVars_none hV
  have k0:=h0
  have lt0:∀ x ∈ p0,x.block<W.heap.size:=by obtain ⟨m,hm⟩:=k0;exact DataW.trod_lt m _ _ _ hm
  obtain ⟨cs0,rfl,_⟩:=okWide_struct Try.underlying42 (hval 0 42 v0 rfl rfl)
  obtain ⟨fuel0,hf0⟩:=h0
  obtain ⟨x0,hk0,w0⟩:=op_T42 hf0
  obtain ⟨A0_0,c0_0,hcs0,hl0_0,hr0_0⟩:=k42_open hk0
  obtain rfl:cs0=#[.slice A0_0 x0.f0.length c0_0]:=Array.toList_inj.1 hcs0
  obtain ⟨x1,rfl,rfl,rfl,y1⟩:=open_string Try.underlying9 (hval 1 9 v1 rfl rfl) h1
  have w1:x1.size≤140737488351232:=by
    have z:=sized_string hsz (j:=1) (t:=9) rfl rfl
    rw [Array.length_toList] at z
    exact z
  clear hA0 hval0 hsz0 hsz
  obtain ⟨k,hp⟩:=Pure.FnExactClientSeen x0 x1 w0 w1
  refine (P.Y26.calls k _ _ x0.f0 x1 true W hr0_0 hl0_0 hp).mono fun e W' ⟨he,bel0⟩=>?_
  have bel:Below W.heap.size W W':=bel0
  subst he
  exact ⟨_,rfl,_,_,_,[],_,[],hW',trodAll_mk1 (shut_bool Try.underlying4 _),(trodAll_cons_mk (Below.trod laidOut (by kernel_rfl) (of_decide_eq_true (by kernel_rfl)) k0 bel lt0) (trodAll_cons_mk (shut_string Try.underlying9 y1) trodAll_mk0)),rfl,bel.frame _,fun h=>by cases h⟩
theorem over:Rows.fnExactClientSeenRow.holds Try.pinned (OpenSpec.ofChange Rows.fnExactClientSeenSpec) :=
  OpenClaim.holds_of_wide 4 Try.f4 rfl rfl rfl rfl rfl rfl rfl ⟨rfl,rfl,rfl,rfl,rfl⟩ rfl rfl rfl rfl rfl (by kernel_rfl) Try.func4 (by kernel_rfl)
    (of_decide_eq_true (by kernel_rfl)) (by unfold Func.isWrapper;first | (rw [if_pos (by decide +kernel)];kernel_rfl) | (rw [if_neg (by decide +kernel)];exact ⟨rfl,rfl⟩))
    (fun os started H enc _=>lifted os started H enc)
theorem proved:Rows.FnExactClientSeenSaid:=over
#print axioms proved
end Go.Proofs.Ytlglglbjckpnbaa.fnExactClientSeen
namespace Go.Proofs.Ytlglglbjckpnbaa
/-- The row, under a short name, for the claim. -/
theorem fnExactClientSeen_holds:Rows.FnExactClientSeenSaid:=fnExactClientSeen.proved
end Go.Proofs.Ytlglglbjckpnbaa
