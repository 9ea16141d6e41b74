/- For every request the program's ReqRight and the reference's return the same answer, and the request stays as it was. No condition. (Part 4 of 5: written by programs of this workplace and by hand, merged.) -/
import Derived.Test.YtbkiajppiogifaaGreatMFnExactReqRighta
import Derived.Test.YtbkiajppiogifaaGreatMFnExactReqRightc
import Derived.Test.YtbkiajppiogifaaGreatMFnExactReqRightb
import Derived.Test.YtbkiajppiogifaaGreatMFnExactReqRightWWords
import Derived.Test.YtbkiajppiogifaaGreatMFnExactReqRightWMore
import Derived.Laws.BitsLemmas
set_option linter.unusedVariables false
set_option linter.unusedSimpArgs false
set_option maxHeartbeats 8000000
set_option maxRecDepth 100000

namespace Go.Proofs.YtbkiajppiogifaaGreat.P
open Go.RowKit Go.Proofs.YtbkiajppiogifaaGreatW.PrintWords Go.Proofs.YtbkiajppiogifaaGreatW.PrintLast Go.Proofs.YtbkiajppiogifaaGreatW.PrintMore
attribute [local go_sem] max2_int min2_int max_two min_two max_three min_three max_four min_four   -- for this text's walks alone
set_option linter.unusedVariables false
set_option linter.unusedSimpArgs false

/-! ### Y44: function 115 -/
mutual
def Y44.j0:Nat→Int→Int→Option (Int)
 | 0,_,_=>none
 | k+1,x0,x2=>if x0≥65536 then (Y44.j1 k (x0 / 65536) (wrap64 (x2+16))) else (Y44.j1 k x0 x2)
def Y44.j1:Nat→Int→Int→Option (Int)
 | 0,_,_=>none
 | k+1,x0,x2=>if x0≥256 then (if 0≤((x0 / 256) % 256) then (if ((x0 / 256) % 256)<256 then (some (wrap64 ((wrap64 (x2+8))+(wrap64 (bt (⟨#[0,1,2,2,3,3,3,3,4,4,4,4,4,4,4,4,5,5,5,5,5,5,5,5,5,5,5,5,5,5,5,5,6,6,6,6,6,6,6,6,6,6,6,6,6,6,6,6,6,6,6,6,6,6,6,6,6,6,6,6,6,6,6,6,7,7,7,7,7,7,7,7,7,7,7,7,7,7,7,7,7,7,7,7,7,7,7,7,7,7,7,7,7,7,7,7,7,7,7,7,7,7,7,7,7,7,7,7,7,7,7,7,7,7,7,7,7,7,7,7,7,7,7,7,7,7,7,7,8,8,8,8,8,8,8,8,8,8,8,8,8,8,8,8,8,8,8,8,8,8,8,8,8,8,8,8,8,8,8,8,8,8,8,8,8,8,8,8,8,8,8,8,8,8,8,8,8,8,8,8,8,8,8,8,8,8,8,8,8,8,8,8,8,8,8,8,8,8,8,8,8,8,8,8,8,8,8,8,8,8,8,8,8,8,8,8,8,8,8,8,8,8,8,8,8,8,8,8,8,8,8,8,8,8,8,8,8,8,8,8,8,8,8,8,8,8,8,8,8,8,8,8,8,8,8,8]⟩:ByteArray) ((x0 / 256) % 256)))))) else (none)) else (none)) else (if 0≤((x0) % 256) then (if ((x0) % 256)<256 then (some (wrap64 (x2+(wrap64 (bt (⟨#[0,1,2,2,3,3,3,3,4,4,4,4,4,4,4,4,5,5,5,5,5,5,5,5,5,5,5,5,5,5,5,5,6,6,6,6,6,6,6,6,6,6,6,6,6,6,6,6,6,6,6,6,6,6,6,6,6,6,6,6,6,6,6,6,7,7,7,7,7,7,7,7,7,7,7,7,7,7,7,7,7,7,7,7,7,7,7,7,7,7,7,7,7,7,7,7,7,7,7,7,7,7,7,7,7,7,7,7,7,7,7,7,7,7,7,7,7,7,7,7,7,7,7,7,7,7,7,7,8,8,8,8,8,8,8,8,8,8,8,8,8,8,8,8,8,8,8,8,8,8,8,8,8,8,8,8,8,8,8,8,8,8,8,8,8,8,8,8,8,8,8,8,8,8,8,8,8,8,8,8,8,8,8,8,8,8,8,8,8,8,8,8,8,8,8,8,8,8,8,8,8,8,8,8,8,8,8,8,8,8,8,8,8,8,8,8,8,8,8,8,8,8,8,8,8,8,8,8,8,8,8,8,8,8,8,8,8,8,8,8,8,8,8,8,8,8,8,8,8,8,8,8,8,8,8,8]⟩:ByteArray) ((x0) % 256)))))) else (none)) else (none))
end
def Y44.f (k:Nat) (a0:Int):Option (Int):=if a0≥4294967296 then (Y44.j0 k (a0 / 4294967296) 32) else (Y44.j0 k a0 0)
theorem Y44.mono_l:∀ k,(∀ y0 y1,LeO (Y44.j0 k y0 y1) (Y44.j0 (k+1) y0 y1))∧(∀ y0 y1,LeO (Y44.j1 k y0 y1) (Y44.j1 (k+1) y0 y1))
 | 0=>by refine ⟨?_,?_⟩ <;> intros <;> exact LeO.none _
 | k+1=>by
  obtain ⟨ih0,ih1⟩:=Y44.mono_l k;refine ⟨?_,?_⟩
  ·intros;unfold Y44.j0;exact mO
  ·intros;unfold Y44.j1;exact mO
theorem Y44.mono:∀ a0 k,LeO (Y44.f k a0) (Y44.f (k+1) a0):=by
 intro a0 k;obtain ⟨ih0,ih1⟩:=Y44.mono_l k;unfold Y44.f;exact mO
theorem Y44.calls (k:Nat) (a0:Int) (r:Int) (w:World) (h:Y44.f k a0=some r) :
  Calls Tryz.prog 115 #[.int .u64 a0] w fun e w'=>e = .returned (.int .i64 r)∧Drawn0 w w':=by
 have H:(if a0≥4294967296 then (Y44.j0 k (a0 / 4294967296) 32) else (Y44.j0 k a0 0))=some r:=h;clear h;have HC2:=aM H;clear H;go_enter Tryz.func115,Tryz.ntmps115;go_upto_if 4 with (fail);go_cut [0,2] (fun v0 v2 wc=>∃ (kq:Nat) (AM0:Int) (Al5:Int),v0 = .int .u64 AM0∧v2 = .int .i64 Al5∧Aside0 (Y44.j0 kq AM0 Al5=some r)∧Aside0 (kq≤k)∧Drawn0 w wc)
 case first =>
  have H:=HC2.out;clear HC2;by_cases c3:a0≥4294967296
  ·rw [if_pos c3] at H;have c3b0:decide (4294967296≤a0)=true:=dE c3;clear c3;(first | rw [c3b0] | (simp only [i64_w,i32_w];rw [c3b0]) | skip);have H':=aM H;clear H;go_wp2;go_meet;case rel=>exact ⟨_,(a0 / 4294967296),(32),(z1_),(z1_),H',⟨by first | omega | exact Nat.le_refl _⟩,z9_⟩
  ·rw [if_neg c3] at H;have c3b0:decide (4294967296≤a0)=false:=dF c3;clear c3;(first | rw [c3b0] | (simp only [i64_w,i32_w];rw [c3b0]) | skip);have H':=aM H;clear H;go_wp2;go_meet;case rel=>exact ⟨_,(a0),(0),(z1_),(z1_),H',⟨by first | omega | exact Nat.le_refl _⟩,z9_⟩
 case rest =>
  clear HC2;obtain ⟨kq,AM0,Al5,rfl,rfl,HA,HJ1,⟨mc1,rfl⟩⟩:=hcut
  cases kq with
  | zero=>exact absurd HA.out (by simp [Y44.j0])
  | succ kj1 =>
   have H:=HA.out;clear HA;simp only [Y44.j0] at H;have HC4:=aM H;clear H;go_upto_if 8 with (fail);go_cut [0,2] (fun v0 v2 wc=>∃ (kq:Nat) (BX5:Int) (CW1:Int),v0 = .int .u64 BX5∧v2 = .int .i64 CW1∧Aside0 (Y44.j1 kq BX5 CW1=some r)∧Aside0 (kq≤kj1)∧Drawn0 w wc)
   case first =>
    have H:=HC4.out;clear HC4;by_cases c5:AM0≥65536
    ·rw [if_pos c5] at H;have c5b0:decide (65536≤AM0)=true:=dE c5;clear c5;(first | rw [c5b0] | (simp only [i64_w,i32_w];rw [c5b0]) | skip);have H':=aM H;clear H;go_wp2;go_meet;case rel=>exact ⟨_,(AM0 / 65536),(wrap64 (Al5+16)),(z1_),(z1_),H',⟨z14_ HJ1.out⟩,z9_⟩
    ·rw [if_neg c5] at H;have c5b0:decide (65536≤AM0)=false:=dF c5;clear c5;(first | rw [c5b0] | (simp only [i64_w,i32_w];rw [c5b0]) | skip);have H':=aM H;clear H;go_wp2;go_meet;case rel=>exact ⟨_,(AM0),(Al5),(z1_),(z1_),H',⟨z14_ HJ1.out⟩,z9_⟩
   case rest =>
    clear HC4;obtain ⟨kq,BX5,CW1,rfl,rfl,HA,HJ3,⟨mc3,rfl⟩⟩:=hcut
    cases kq with
    | zero=>exact absurd HA.out (by simp [Y44.j1])
    | succ kj3 =>
     have H:=HA.out;clear HA;simp only [Y44.j1] at H;by_cases c6:BX5≥256
     ·rw [if_pos c6] at H;have c6b0:decide (256≤BX5)=true:=dE c6;clear c6;obtain ⟨ji7,Dk0⟩:∃ j_:Int,((BX5 / 256) % 256)=j_:=⟨_,rfl⟩;(replace H:(if 0≤(ji7) then (if (ji7)<256 then (some (wrap64 ((wrap64 (CW1+8))+(wrap64 (bt (⟨#[0,1,2,2,3,3,3,3,4,4,4,4,4,4,4,4,5,5,5,5,5,5,5,5,5,5,5,5,5,5,5,5,6,6,6,6,6,6,6,6,6,6,6,6,6,6,6,6,6,6,6,6,6,6,6,6,6,6,6,6,6,6,6,6,7,7,7,7,7,7,7,7,7,7,7,7,7,7,7,7,7,7,7,7,7,7,7,7,7,7,7,7,7,7,7,7,7,7,7,7,7,7,7,7,7,7,7,7,7,7,7,7,7,7,7,7,7,7,7,7,7,7,7,7,7,7,7,7,8,8,8,8,8,8,8,8,8,8,8,8,8,8,8,8,8,8,8,8,8,8,8,8,8,8,8,8,8,8,8,8,8,8,8,8,8,8,8,8,8,8,8,8,8,8,8,8,8,8,8,8,8,8,8,8,8,8,8,8,8,8,8,8,8,8,8,8,8,8,8,8,8,8,8,8,8,8,8,8,8,8,8,8,8,8,8,8,8,8,8,8,8,8,8,8,8,8,8,8,8,8,8,8,8,8,8,8,8,8,8,8,8,8,8,8,8,8,8,8,8,8,8,8,8,8,8,8]⟩:ByteArray) (ji7)))))) else (none)) else (none))=some r:=by first | (rw [Dk0] at H;exact H) | (simp only [Dk0] at H ⊢;exact H));by_cases c8:0≤(ji7)
      ·rw [if_pos c8] at H;have c8b0:decide (0≤(ji7))=true:=dE c8;clear c8;by_cases c9:(ji7)<256
       ·rw [if_pos c9] at H;have c9b0:decide ((ji7)<256)=true:=dE c9;clear c9;obtain rfl:=sI H;have p10:0≤((ji7):Int):=dT (z2_);have q10:(ji7)<(256:Int):=dT (z2_);have EP3:=bt_at (⟨#[0,1,2,2,3,3,3,3,4,4,4,4,4,4,4,4,5,5,5,5,5,5,5,5,5,5,5,5,5,5,5,5,6,6,6,6,6,6,6,6,6,6,6,6,6,6,6,6,6,6,6,6,6,6,6,6,6,6,6,6,6,6,6,6,7,7,7,7,7,7,7,7,7,7,7,7,7,7,7,7,7,7,7,7,7,7,7,7,7,7,7,7,7,7,7,7,7,7,7,7,7,7,7,7,7,7,7,7,7,7,7,7,7,7,7,7,7,7,7,7,7,7,7,7,7,7,7,7,8,8,8,8,8,8,8,8,8,8,8,8,8,8,8,8,8,8,8,8,8,8,8,8,8,8,8,8,8,8,8,8,8,8,8,8,8,8,8,8,8,8,8,8,8,8,8,8,8,8,8,8,8,8,8,8,8,8,8,8,8,8,8,8,8,8,8,8,8,8,8,8,8,8,8,8,8,8,8,8,8,8,8,8,8,8,8,8,8,8,8,8,8,8,8,8,8,8,8,8,8,8,8,8,8,8,8,8,8,8,8,8,8,8,8,8,8,8,8,8,8,8,8,8,8,8,8,8]⟩:ByteArray) (ji7);replace p10:=eq_true p10;replace q10:=eq_true q10;go_wp2;go_ret;exact ⟨by first | rfl | (simp;done) | (simp only [← Dk0] <;> (first | rfl | simp)) | (simp [*];done),z9_⟩
       ·rw [if_neg c9] at H;exact nO H
      ·rw [if_neg c8] at H;exact nO H
     ·rw [if_neg c6] at H;have c6b0:decide (256≤BX5)=false:=dF c6;clear c6;obtain ⟨BA9,CW2⟩:∃ j_:Int,((BX5) % 256)=j_:=⟨_,rfl⟩;(replace H:(if 0≤(BA9) then (if (BA9)<256 then (some (wrap64 (CW1+(wrap64 (bt (⟨#[0,1,2,2,3,3,3,3,4,4,4,4,4,4,4,4,5,5,5,5,5,5,5,5,5,5,5,5,5,5,5,5,6,6,6,6,6,6,6,6,6,6,6,6,6,6,6,6,6,6,6,6,6,6,6,6,6,6,6,6,6,6,6,6,7,7,7,7,7,7,7,7,7,7,7,7,7,7,7,7,7,7,7,7,7,7,7,7,7,7,7,7,7,7,7,7,7,7,7,7,7,7,7,7,7,7,7,7,7,7,7,7,7,7,7,7,7,7,7,7,7,7,7,7,7,7,7,7,8,8,8,8,8,8,8,8,8,8,8,8,8,8,8,8,8,8,8,8,8,8,8,8,8,8,8,8,8,8,8,8,8,8,8,8,8,8,8,8,8,8,8,8,8,8,8,8,8,8,8,8,8,8,8,8,8,8,8,8,8,8,8,8,8,8,8,8,8,8,8,8,8,8,8,8,8,8,8,8,8,8,8,8,8,8,8,8,8,8,8,8,8,8,8,8,8,8,8,8,8,8,8,8,8,8,8,8,8,8,8,8,8,8,8,8,8,8,8,8,8,8,8,8,8,8,8,8]⟩:ByteArray) (BA9)))))) else (none)) else (none))=some r:=by first | (rw [CW2] at H;exact H) | (simp only [CW2] at H ⊢;exact H));by_cases c12:0≤(BA9)
      ·rw [if_pos c12] at H;have c12b0:decide (0≤(BA9))=true:=dE c12;clear c12;by_cases c13:(BA9)<256
       ·rw [if_pos c13] at H;have c13b0:decide ((BA9)<256)=true:=dE c13;clear c13;obtain rfl:=sI H;have p14:0≤((BA9):Int):=dT (z2_);have q14:(BA9)<(256:Int):=dT (z2_);have hx14:=bt_at (⟨#[0,1,2,2,3,3,3,3,4,4,4,4,4,4,4,4,5,5,5,5,5,5,5,5,5,5,5,5,5,5,5,5,6,6,6,6,6,6,6,6,6,6,6,6,6,6,6,6,6,6,6,6,6,6,6,6,6,6,6,6,6,6,6,6,7,7,7,7,7,7,7,7,7,7,7,7,7,7,7,7,7,7,7,7,7,7,7,7,7,7,7,7,7,7,7,7,7,7,7,7,7,7,7,7,7,7,7,7,7,7,7,7,7,7,7,7,7,7,7,7,7,7,7,7,7,7,7,7,8,8,8,8,8,8,8,8,8,8,8,8,8,8,8,8,8,8,8,8,8,8,8,8,8,8,8,8,8,8,8,8,8,8,8,8,8,8,8,8,8,8,8,8,8,8,8,8,8,8,8,8,8,8,8,8,8,8,8,8,8,8,8,8,8,8,8,8,8,8,8,8,8,8,8,8,8,8,8,8,8,8,8,8,8,8,8,8,8,8,8,8,8,8,8,8,8,8,8,8,8,8,8,8,8,8,8,8,8,8,8,8,8,8,8,8,8,8,8,8,8,8,8,8,8,8,8,8]⟩:ByteArray) (BA9);replace p14:=eq_true p14;replace q14:=eq_true q14;go_wp2;go_ret;exact ⟨by first | rfl | (simp;done) | (simp only [← CW2] <;> (first | rfl | simp)) | (simp [*];done),z9_⟩
       ·rw [if_neg c13] at H;exact nO H
      ·rw [if_neg c12] at H;exact nO H


/-! ### Y96: function 105 -/
def Y96.f (k:Nat) (a0:Int):Option (Int):=(Y44.f k a0).bind fun CW3=>(some CW3)
theorem Y96.mono:∀ a0 k,LeO (Y96.f k a0) (Y96.f (k+1) a0):=by
 intro a0 k;have m0:=@Y44.mono;unfold Y96.f;exact mO
theorem Y96.calls (k:Nat) (a0:Int) (r:Int) (w:World) (h:Y96.f k a0=some r) :
  Calls Tryz.prog 105 #[.int .u64 a0] w fun e w'=>e = .returned (.int .i64 r)∧Drawn0 w w':=by
 have H:((Y44.f k a0).bind fun CW3=>(some CW3))=some r:=h;clear h;replace H:=bS H;obtain ⟨CW3,A20,H⟩:=H;(try dsimp only at H);have A2:=aM A20;clear A20;obtain rfl:=sI H;go_enter Tryz.func105,Tryz.ntmps105;go_wp2_with (first | ((with_reducible refine gc_ 115 ?_);refine gl_ (some 7) Tryz.func115 #[.int .u64 a0] ?_;(with_reducible refine (Y44.calls k a0 CW3 _ A2.out).mono ?_);rintro e w' ⟨rfl,⟨nd,rfl⟩⟩;refine ⟨_,rfl,?_⟩));go_ret;exact ⟨z1_,z9_⟩


/-! ### Y71: function 100 -/
def Y71.f (k:Nat) (C2:Int) (C3:Int) (C9:Bool) (C4:ByteArray) (D8:Int) (E3:Int) (I3:Bool) (I6:ByteArray):Option (Int):=(Y41.f k C2 C3 D8 E3).bind fun CW4=>(some CW4)
theorem Y71.mono:∀ a0 a1 a2 a3 a4 a5 a6 a7 k,LeO (Y71.f k a0 a1 a2 a3 a4 a5 a6 a7) (Y71.f (k+1) a0 a1 a2 a3 a4 a5 a6 a7):=by
 intro a0 a1 a2 a3 a4 a5 a6 a7 k;have m0:=@Y41.mono;unfold Y71.f;exact mO
theorem Y71.calls (k:Nat) (C2:Int) (C3:Int) (C9:Bool) (C4:ByteArray) (D8:Int) (E3:Int) (I3:Bool) (I6:ByteArray) (r:Int) (w:World) (h:Y71.f k C2 C3 C9 C4 D8 E3 I3 I6=some r) :
  Calls Tryz.prog 100 #[.agg #[.int .i64 C2,.int .i64 C3,.bool C9,.string C4],.agg #[.int .i64 D8,.int .i64 E3,.bool I3,.string I6]] w fun e w'=>e = .returned (.int .i64 r)∧Below w.heap.size w w':=by
 have AS8:=Tryz.underlying75;have Z4:=Tryz.underlying38;have HB:=aM (Below.refl w.heap.size w);have H:((Y41.f k C2 C3 D8 E3).bind fun CW4=>(some CW4))=some r:=h;clear h;replace H:=bS H;obtain ⟨CW4,A30,H⟩:=H;(try dsimp only at H);have A3:=aM A30;clear A30;obtain rfl:=sI H;go_enter Tryz.func100,Tryz.ntmps100;go_wp2_with (first | ((with_reducible refine gd_ 2 ?_);refine be_ 2 #[.int .i64 C2,.int .i64 C3,.bool C9,.string C4] 75 ?_;intro DN3 hg w4 hbox hb;have A86:=aM (hbox);have GW590:=aM ((z8_ HB.out:w.heap.size≤DN3));have GE590:=aM ((z8_ HB.out:w.heap.size≤DN3));replace HB:=aM (below_step (z5_ HB.out) hb);clear hb hbox hg) | ((with_reducible refine gd_ 3 ?_);refine be_ 3 #[.int .i64 D8,.int .i64 E3,.bool I3,.string I6] 75 ?_;intro DN4 hg w5 hbox hb;have CW5:=aM (hbox);have GW591:=aM ((z7_ HB.out:w.heap.size≤DN4));have GE591:=aM ((z7_ HB.out:w.heap.size≤DN4));replace HB:=aM (below_step (z0_ HB.out) hb);have CD5:=aM (neL_ A86.out hg);have CD6:=aM (neG_ A86.out hg);replace A86:=aM (blkB_ A86.out hb);clear hb hbox hg;have B69:=CD5.out;have B70:=CD6.out;have ⟨Aj4,Aj5,CP2,CP3,Aj6,Aj7,CP4,CP5⟩:=cz4_ A86.out;have ⟨n4,n6,AS6,BG1,n7,n8,AS7,BG2⟩:=cz4_ CW5.out) | ((with_reducible refine gc_ 57 ?_);refine gl_ (some 9) Tryz.func57 #[.agg #[.int .i64 C2,.int .i64 C3],.agg #[.int .i64 D8,.int .i64 E3]] ?_;(with_reducible refine (Y41.calls k C2 C3 D8 E3 CW4 _ A3.out).mono ?_);rintro e w9 ⟨rfl,hb⟩;refine ⟨_,rfl,?_⟩;replace A86:=aM (blkB_ A86.out hb);replace CW5:=aM (blkB_ CW5.out hb);replace HB:=aM (below_step (z0_ HB.out) hb)));go_ret;exact ⟨z6_,z0_ HB.out⟩


/-! ### Y0: function 106 -/
mutual
def Y0.l0:Nat→List (S75)→Int→Int→Int→Option ((List (S75)))
 | 0,_,_,_,_=>none
 | k+1,x0,x1,x2,x8=>if x8<x2 then (Y0.l1 k x0 x1 x2 x8 x8) else (some x0)
def Y0.l1:Nat→List (S75)→Int→Int→Int→Int→Option ((List (S75)))
 | 0,_,_,_,_,_=>none
 | k+1,x0,x1,x2,x8,x9=>if x9>x1 then (if 0≤x9 then (if x9<(x0.length:Int) then (if 0≤(wrap64 (x9-1)) then (if (wrap64 (x9-1))<(x0.length:Int) then ((Y71.f k ((rd_T75 x0 x9).f0.f0) ((rd_T75 x0 x9).f0.f1) ((rd_T75 x0 x9).f1) ((rd_T75 x0 x9).f2) ((rd_T75 x0 (wrap64 (x9-1))).f0.f0) ((rd_T75 x0 (wrap64 (x9-1))).f0.f1) ((rd_T75 x0 (wrap64 (x9-1))).f1) ((rd_T75 x0 (wrap64 (x9-1))).f2)).bind fun CD7=>(Y0.j2 k x0 x1 x2 x8 x9 (decide (CD7<0)))) else (none)) else (none)) else (none)) else (none)) else (Y0.j2 k x0 x1 x2 x8 x9 false)
def Y0.j2:Nat→List (S75)→Int→Int→Int→Int→Bool→Option ((List (S75)))
 | 0,_,_,_,_,_,_=>none
 | k+1,x0,x1,x2,x8,x9,x34=>if x34=true then (if 0≤(wrap64 (x9-1)) then (if (wrap64 (x9-1))<(x0.length:Int) then (if 0≤x9 then (if x9<(x0.length:Int) then (Y0.l1 k ((x0.set (x9:Int).toNat (⟨(⟨(rd_T75 x0 (wrap64 (x9-1))).f0.f0,(rd_T75 x0 (wrap64 (x9-1))).f0.f1⟩:S38),(rd_T75 x0 (wrap64 (x9-1))).f1,(rd_T75 x0 (wrap64 (x9-1))).f2⟩:S75)).set ((wrap64 (x9-1)):Int).toNat (⟨(⟨(rd_T75 x0 x9).f0.f0,(rd_T75 x0 x9).f0.f1⟩:S38),(rd_T75 x0 x9).f1,(rd_T75 x0 x9).f2⟩:S75)) x1 x2 x8 (wrap64 (x9-1))) else (none)) else (none)) else (none)) else (none)) else (Y0.l0 k x0 x1 x2 (wrap64 (x8+1)))
end
def Y0.f (k:Nat) (l0:List (S75)) (a1:Int) (a2:Int)  : Option ((List (S75))):=Y0.l0 k l0 a1 a2 (wrap64 (a1+1))
theorem Y0.mono_l:∀ k,(∀ y0 y1 y2 y3,LeO (Y0.l0 k y0 y1 y2 y3) (Y0.l0 (k+1) y0 y1 y2 y3))∧(∀ y0 y1 y2 y3 y4,LeO (Y0.l1 k y0 y1 y2 y3 y4) (Y0.l1 (k+1) y0 y1 y2 y3 y4))∧(∀ y0 y1 y2 y3 y4 y5,LeO (Y0.j2 k y0 y1 y2 y3 y4 y5) (Y0.j2 (k+1) y0 y1 y2 y3 y4 y5))
 | 0=>by refine ⟨?_,?_,?_⟩ <;> intros <;> exact LeO.none _
 | k+1=>by
  obtain ⟨ih0,ih1,ih2⟩:=Y0.mono_l k;have m0:=@Y71.mono;refine ⟨?_,?_,?_⟩
  ·intros;unfold Y0.l0;exact mO
  ·intros;unfold Y0.l1;exact mO
  ·intros;unfold Y0.j2;exact mO
theorem Y0.mono:∀ a0 a1 a2 k,LeO (Y0.f k a0 a1 a2) (Y0.f (k+1) a0 a1 a2):=by
 intro a0 a1 a2 k;have m0:=@Y71.mono;obtain ⟨ih0,ih1,ih2⟩:=Y0.mono_l k;unfold Y0.f;exact mO
def Y0.T4:Bool × List (List Nat × List Nat):=(true,[([],[]),([],[]),([0,1],[0,1]),([2],[2]),([3],[3]),([3],[3]),([3],[3]),([5,6,3],[3,5,6]),([7,3],[3,7]),([3],[3]),([3],[3]),([10,3],[3,10]),([9,11,3],[3,9,11]),([12,3],[3,12]),([4,8,13,3,3],[3,4,8,13]),([14,3],[3,14]),([3,15],[3,15])])
def Y0.B4:List Nat:=[0,0,3,7,15,15,15,111,239,15,15,1039,3599,7695,16383,32767,65535]
theorem Y0.tab4:rtab .any (opsOf Tryz.f106 4)=Y0.T4:=by kernel_rfl
theorem Y0.bits4:waitsOk Y0.T4.2 Y0.B4=true:=by kernel_rfl
def Y0.T6:Bool × List (List Nat × List Nat):=(true,[([],[]),([],[]),([],[]),([],[]),([3],[3]),([],[]),([],[]),([6],[6]),([5,7],[5,7]),([8],[8]),([],[]),([],[]),([10,11],[10,11]),([12],[12]),([0,1,0,1,5,6,7,8,9,13],[0,1]),([14,9,0,1,5,6,7,8,9,13],[9,14]),([2,4,0,1,2,3,4,5,6,7,8,9,10,11,12,13,14,15],[2,4]),([16,13,15,0,1,2,3,4,5,6,7,8,9,10,11,12,13,14,15],[13,16])])
def Y0.B6:List Nat:=[0,0,0,0,8,0,0,64,224,480,0,0,3072,7168,16355,32739,65535,131071]
theorem Y0.tab6:rtab .any (opsOf Tryz.f106 6)=Y0.T6:=by kernel_rfl
theorem Y0.bits6:waitsOk Y0.T6.2 Y0.B6=true:=by kernel_rfl
theorem Y0.calls (k:Nat) (P0_:Nat→Prop) (P6:Value) (l0:List (S75)) (a1:Int) (a2:Int)  (r:List (S75)) (w0 w:World) (hB:Below w0.heap.size w0 w) (ho0:Kd.R k75 75 w w0.heap.size P0_ P6 l0) (h:Y0.f k l0 a1 a2=some r) :
  Calls Tryz.prog 106 #[P6,.int .i64 a1,.int .i64 a2,.func (.func 100) #[] #[]] w fun e w'=>e = .returned (.tuple #[])∧Kd.R k75 75 w' w0.heap.size (fun k_=>(P0_ k_∨w.heap.size≤k_)) P6 r∧Below w0.heap.size w0 w'∧Kept w w' (fun k_=>P0_ k_):=by
 have AS8:=Tryz.underlying75;have HO0:=aM (show Kd.R k75 75 w w0.heap.size (fun k_=>(P0_ k_∨w.heap.size≤k_)) P6 l0 from Kd.R_mono ho0 (fun k_ hk=>(.inl hk)));have HK:=aM (Kept.refl w (fun k_=>P0_ k_));have HW0:=aM hB.size;have HB:=aM hB;clear hB;have H:(Y0.l0 k l0 a1 a2 (wrap64 (a1+1)))=some r:=h;clear h;have H':=aM H;clear H;go_enter Tryz.func106,Tryz.ntmps106;go_wp2;go_loopg [8] k (fun kq v8 w'=>∃ (AM0:List (S75)) (H4:Int),v8 = .int .i64 H4∧Aside0 (Y0.l0 kq AM0 a1 a2 H4=some r)∧Aside0 (kq≤k)∧Aside0 (Kd.R k75 75 w' w0.heap.size (fun k_=>(P0_ k_∨w.heap.size≤k_)) P6 AM0)∧Aside0 (Kept w w' (fun k_=>P0_ k_))∧Aside0 (Below w0.heap.size w0 w'));case atStart=>exact ⟨(l0),(wrap64 (a1+1)),(z1_),H',⟨Nat.le_refl _⟩,⟨z3_ HO0.out⟩,⟨z32_ HK.out⟩,⟨z5_ HB.out⟩⟩
 case round =>
  clear H';obtain ⟨AM0,H4,rfl,HA,HK1,S7,HK,HB⟩:=hrel
  cases gk with
  | zero=>exact absurd HA.out (by simp [Y0.l0])
  | succ k1 =>
   have H:=HA.out;clear HA;simp only [Y0.l0] at H;by_cases c5:H4<a2
   ·rw [if_pos c5] at H;have c5b0:decide (H4<a2)=true:=dE c5;clear c5;have H':=aM H;clear H;go_wp2;go_loopg [9] k1 (fun kq v9 w'=>∃ (F5:List (S75)) (G2:Int),v9 = .int .i64 G2∧Aside0 (Y0.l1 kq F5 a1 a2 H4 G2=some r)∧Aside0 (kq≤k1)∧Aside0 (Kd.R k75 75 w' w0.heap.size (fun k_=>(P0_ k_∨w.heap.size≤k_)) P6 F5)∧Aside0 (Kept w w' (fun k_=>P0_ k_))∧Aside0 (Below w0.heap.size w0 w'));case atStart=>exact ⟨(AM0),(H4),(z1_),H',⟨Nat.le_refl _⟩,⟨z3_ S7.out⟩,⟨z32_ HK.out⟩,⟨z5_ HB.out⟩⟩
    case round =>
     clear H';obtain ⟨F5,G2,rfl,HA,HK2,S7,HK,HB⟩:=hrel
     cases gk with
     | zero=>exact absurd HA.out (by simp [Y0.l1])
     | succ k2 =>
      have H:=HA.out;clear HA;simp only [Y0.l1] at H;have HC6:=aM H;clear H;go_upto_region 4 with (fail);go_cut [34] (fun v34 wc=>∃ (kq:Nat) (B06:Bool),v34 = .bool B06∧Aside0 (Y0.j2 kq F5 a1 a2 H4 G2 B06=some r)∧Aside0 (kq≤k2)∧Aside0 (Kd.R k75 75 wc w0.heap.size (fun k_=>(P0_ k_∨w.heap.size≤k_)) P6 F5)∧Aside0 (Kept w wc (fun k_=>P0_ k_))∧Aside0 (Below w0.heap.size w0 wc))
      case first =>
       have H:=HC6.out;clear HC6;by_cases c7:G2>a1
       ·rw [if_pos c7] at H;have c7b0:decide (a1<G2)=true:=dE c7;clear c7;(first | rw [c7b0] | (simp only [i64_w,i32_w];rw [c7b0]) | skip);by_cases c8:0≤G2
        ·rw [if_pos c8] at H;have c8b0:decide (0≤G2)=true:=dE c8;clear c8;by_cases c9:G2<(F5.length:Int)
         ·rw [if_pos c9] at H;have c9b0:decide (G2<(F5.length:Int))=true:=dE c9;clear c9;obtain ⟨M4,Ab7⟩:∃ j_:Int,(wrap64 (G2-1))=j_:=⟨_,rfl⟩;(replace H:(if 0≤(M4) then (if (M4)<(F5.length:Int) then ((Y71.f k2 ((rd_T75 F5 G2).f0.f0) ((rd_T75 F5 G2).f0.f1) ((rd_T75 F5 G2).f1) ((rd_T75 F5 G2).f2) ((rd_T75 F5 (M4)).f0.f0) ((rd_T75 F5 (M4)).f0.f1) ((rd_T75 F5 (M4)).f1) ((rd_T75 F5 (M4)).f2)).bind fun CD7=>(Y0.j2 k2 F5 a1 a2 H4 G2 (decide (CD7<0)))) else (none)) else (none))=some r:=by first | (rw [Ab7] at H;exact H) | (simp only [Ab7] at H ⊢;exact H));have hji10w:(IntKind.i64.wrap (G2-1))=M4:=(i64_w _).trans Ab7;by_cases c11:0≤(M4)
          ·rw [if_pos c11] at H;have c11b0:decide (0≤(M4))=true:=dE c11;clear c11;by_cases c12:(M4)<(F5.length:Int)
           ·rw [if_pos c12] at H;have c12b0:decide ((M4)<(F5.length:Int))=true:=dE c12;clear c12;replace H:=bS H;obtain ⟨CD7,BX6,H⟩:=H;(try dsimp only at H);have A13:=aM BX6;clear BX6;have H':=aM H;clear H;(try go_wp2);replace S7:=aM (Kd.R_drew S7.out);replace HK:=aM (Kept.drew HK.out);replace HB:=aM (below_drew1 HB.out);obtain ⟨Ao15,co15,EB5⟩:=Kd.R_slice S7.out;(first | subst EB5 | (injection EB5 with f1_ f2_ f3_;have f4_:=f1_.symm;have f5_:=f3_.symm;clear f1_ f2_ f3_;subst f4_;subst f5_));have Dk1:0≤(G2:Int):=dT (z2_);have Dk2:G2<(F5.length:Int):=dT (z2_);obtain ⟨AJ6,ER9,B07,B08,B09,B12⟩:=at_T75 (Kd.R_reads' S7.out).2.2 G2 Dk1 Dk2;cases ER9;replace Dk1:=eq_true Dk1;replace Dk2:=eq_true Dk2;have Dk3:0≤((M4):Int):=dT (z2_);have Dk4:(M4)<(F5.length:Int):=dT (z2_);obtain ⟨EB6,ES0,B13,B14,B15,B16⟩:=at_T75 (Kd.R_reads' S7.out).2.2 (M4) Dk3 Dk4;obtain rfl:AJ6=EB6:=(by injection ES0);replace Dk3:=eq_true Dk3;replace Dk4:=eq_true Dk4;refine start_ (n:=17) (S:=fun w'=>w'.cell? (AJ6.add ((G2).toNat*4))=some (.int .i64 ((rd_T75 F5 G2).f0.f0))∧w'.cell? ⟨(AJ6.add ((G2).toNat*4)).block,(AJ6.add ((G2).toNat*4)).off+1,none⟩=some (.int .i64 ((rd_T75 F5 G2).f0.f1))∧w'.cell? ⟨(AJ6.add ((G2).toNat*4)).block,(AJ6.add ((G2).toNat*4)).off+2,none⟩=some (.bool ((rd_T75 F5 G2).f1))∧w'.cell? ⟨(AJ6.add ((G2).toNat*4)).block,(AJ6.add ((G2).toNat*4)).off+3,none⟩=some (.string ((rd_T75 F5 G2).f2))∧w'.cell? (AJ6.add (((M4)).toNat*4))=some (.int .i64 ((rd_T75 F5 (M4)).f0.f0))∧w'.cell? ⟨(AJ6.add (((M4)).toNat*4)).block,(AJ6.add (((M4)).toNat*4)).off+1,none⟩=some (.int .i64 ((rd_T75 F5 (M4)).f0.f1))∧w'.cell? ⟨(AJ6.add (((M4)).toNat*4)).block,(AJ6.add (((M4)).toNat*4)).off+2,none⟩=some (.bool ((rd_T75 F5 (M4)).f1))∧w'.cell? ⟨(AJ6.add (((M4)).toNat*4)).block,(AJ6.add (((M4)).toNat*4)).off+3,none⟩=some (.string ((rd_T75 F5 (M4)).f2))) (ds:=[]) (nq 17 0) (by kernel_rfl) rfl rfl ⟨B07,B08,B09,B12,B13,B14,B15,B16⟩ (fun hHeld=>?_);refine with_tabW Y0.tab4 Y0.bits4 (fun HT_ HW_=>?_);generalize wr.drew=w14 at S7 HK HB B07 B08 B09 B12 B13 B14 B15 B16 hHeld ⊢;(iterate 8 refine pa_ HT_.out ?_);refine pu_ 9 27 #[I,I,I,I,I,I,I,I,O,I,O,O,O,O,O,O,O] HT_.out ?_;refine pu_ 10 28 #[I,I,I,I,I,I,I,I,O,I,I,O,O,O,O,O,O] HT_.out ?_;refine pu_ 11 29 #[I,I,I,I,I,I,I,I,O,I,I,I,O,O,O,O,O] HT_.out ?_;refine pu_ 12 30 #[I,I,I,I,I,I,I,I,O,I,I,I,I,O,O,O,O] HT_.out ?_;refine tk8_ 8 26 (nq 17 13) HT_.out HW_.out hHeld ?_;refine ta8_ HT_.out HW_.out hHeld ?_;refine oa_ HT_.out (fun K hK=>?_);refine goesD_ Tryz.func100 (by kernel_rfl) rfl #[.agg #[.int .i64 ((rd_T75 F5 G2).f0.f0),.int .i64 ((rd_T75 F5 G2).f0.f1),.bool ((rd_T75 F5 G2).f1),.string ((rd_T75 F5 G2).f2)],.agg #[.int .i64 ((rd_T75 F5 (M4)).f0.f0),.int .i64 ((rd_T75 F5 (M4)).f0.f1),.bool ((rd_T75 F5 (M4)).f1),.string ((rd_T75 F5 (M4)).f2)]] (by rfl) rfl rfl (by rfl) (by (try simp only [List.map_toArray,List.map_cons,List.map_nil]);first | done | (simp only [Ab7];rfl) | rfl | (simp only [List.length_drop,List.length_take];rfl)) ?_;(with_reducible refine (Y71.calls k2 ((rd_T75 F5 G2).f0.f0) ((rd_T75 F5 G2).f0.f1) ((rd_T75 F5 G2).f1) ((rd_T75 F5 G2).f2) ((rd_T75 F5 (M4)).f0.f0) ((rd_T75 F5 (M4)).f0.f1) ((rd_T75 F5 (M4)).f1) ((rd_T75 F5 (M4)).f2) CD7 _ A13.out).mono ?_);rintro e w16 ⟨rfl,hb⟩;have ES1:=wc_ hb hHeld.1;have ES2:=wc_ hb hHeld.2.1;have ES3:=wc_ hb hHeld.2.2.1;have ES4:=wc_ hb hHeld.2.2.2.1;have ES5:=wc_ hb hHeld.2.2.2.2.1;have ES6:=wc_ hb hHeld.2.2.2.2.2.1;have ES7:=wc_ hb hHeld.2.2.2.2.2.2.1;have ES8:=wc_ hb hHeld.2.2.2.2.2.2.2;refine ⟨_,rfl,?_⟩;replace S7:=aM (Kd.R_below (z3_ S7.out) hb);replace HK:=aM (Kept.below (S:=(fun k_=>P0_ k_)) (z32_ HK.out) hb);replace HB:=aM (below_step (z5_ HB.out) hb);refine hK.out _ _ ⟨ES1,ES2,ES3,ES4,ES5,ES6,ES7,ES8⟩ (fun hHeld=>?_);clear hK K;refine nm_ 32 ?_;(iterate 2 refine pa_ HT_.out ?_);refine done_ (done_of HT_.out (by kernel_rfl)) ?_;(try go_wp2);go_meet;case rel=>exact ⟨_,(decide (CD7<0)),(z1_),H',⟨z20_ HK1.out HK2.out⟩,⟨z3_ S7.out⟩,⟨z32_ HK.out⟩,⟨z5_ HB.out⟩⟩
           ·rw [if_neg c12] at H;exact nO H
          ·rw [if_neg c11] at H;exact nO H
         ·rw [if_neg c9] at H;exact nO H
        ·rw [if_neg c8] at H;exact nO H
       ·rw [if_neg c7] at H;have c7b0:decide (a1<G2)=false:=dF c7;clear c7;(first | rw [c7b0] | (simp only [i64_w,i32_w];rw [c7b0]) | skip);have H':=aM H;clear H;(try go_wp2);replace S7:=aM (Kd.R_drew S7.out);replace HK:=aM (Kept.drew HK.out);replace HB:=aM (below_drew1 HB.out);refine start_ (n:=17) (S:=fun w'=>True) (ds:=[]) (nq 17 0) (by kernel_rfl) rfl rfl trivial (fun hHeld=>?_);refine with_tabW Y0.tab4 Y0.bits4 (fun HT_ HW_=>?_);generalize wr.drew=w17 at S7 HK HB hHeld ⊢;(iterate 17 first | refine pz_ HT_.out ?_ | refine pa_ HT_.out ?_);refine done_ (done_of HT_.out (by kernel_rfl)) ?_;(try go_wp2);go_meet;case rel=>exact ⟨_,(false),(z1_),H',⟨z20_ HK1.out HK2.out⟩,⟨z3_ S7.out⟩,⟨z32_ HK.out⟩,⟨z5_ HB.out⟩⟩
      case rest =>
       clear HC6;obtain ⟨kq,B06,rfl,HA,HJ5,S7,HK,HB⟩:=hcut
       cases kq with
       | zero=>exact absurd HA.out (by simp [Y0.j2])
       | succ kj5 =>
        have H:=HA.out;clear HA;simp only [Y0.j2] at H;by_cases c18:B06=true
        ·subst c18;rw [if_pos rfl] at H;obtain ⟨J1,BX7⟩:∃ j_:Int,(wrap64 (G2-1))=j_:=⟨_,rfl⟩;(replace H:(if 0≤(J1) then (if (J1)<(F5.length:Int) then (if 0≤G2 then (if G2<(F5.length:Int) then (Y0.l1 kj5 ((F5.set (G2:Int).toNat (⟨(⟨(rd_T75 F5 (J1)).f0.f0,(rd_T75 F5 (J1)).f0.f1⟩:S38),(rd_T75 F5 (J1)).f1,(rd_T75 F5 (J1)).f2⟩:S75)).set ((J1):Int).toNat (⟨(⟨(rd_T75 F5 G2).f0.f0,(rd_T75 F5 G2).f0.f1⟩:S38),(rd_T75 F5 G2).f1,(rd_T75 F5 G2).f2⟩:S75)) a1 a2 H4 J1) else (none)) else (none)) else (none)) else (none))=some r:=by first | (rw [BX7] at H;exact H) | (simp only [BX7] at H ⊢;exact H));have hji19w:(IntKind.i64.wrap (G2-1))=J1:=(i64_w _).trans BX7;by_cases c20:0≤(J1)
         ·rw [if_pos c20] at H;have c20b0:decide (0≤(J1))=true:=dE c20;clear c20;by_cases c21:(J1)<(F5.length:Int)
          ·rw [if_pos c21] at H;have c21b0:decide ((J1)<(F5.length:Int))=true:=dE c21;clear c21;by_cases c22:0≤G2
           ·rw [if_pos c22] at H;have c22b0:decide (0≤G2)=true:=dE c22;clear c22;by_cases c23:G2<(F5.length:Int)
            ·rw [if_pos c23] at H;have c23b0:decide (G2<(F5.length:Int))=true:=dE c23;clear c23;obtain ⟨CD8,BX8⟩:∃ y_:List (S75),y_=(F5.set (G2:Int).toNat (⟨(⟨(rd_T75 F5 (J1)).f0.f0,(rd_T75 F5 (J1)).f0.f1⟩:S38),(rd_T75 F5 (J1)).f1,(rd_T75 F5 (J1)).f2⟩:S75)):=⟨_,rfl⟩;(replace H:(Y0.l1 kj5 (CD8.set ((J1):Int).toNat (⟨(⟨(rd_T75 F5 G2).f0.f0,(rd_T75 F5 G2).f0.f1⟩:S38),(rd_T75 F5 G2).f1,(rd_T75 F5 G2).f2⟩:S75)) a1 a2 H4 J1)=some r:=by first | (rw [BX8];with_reducible exact H) | (have H2_:=(Option.bind_some _ _).symm.trans H;rw [BX8];with_reducible exact H2_) | (have H2_:=(Option.bind_some _ _).symm.trans H;with_reducible exact H2_) | with_reducible exact H | (rw [BX8];exact H) | exact H);have EB7:=aM BX8;clear BX8;obtain ⟨EB8,BX9⟩:∃ y_:List (S75),y_=(CD8.set ((J1):Int).toNat (⟨(⟨(rd_T75 F5 G2).f0.f0,(rd_T75 F5 G2).f0.f1⟩:S38),(rd_T75 F5 G2).f1,(rd_T75 F5 G2).f2⟩:S75)):=⟨_,rfl⟩;(replace H:(Y0.l1 kj5 EB8 a1 a2 H4 J1)=some r:=by first | (rw [BX9];with_reducible exact H) | (have H2_:=(Option.bind_some _ _).symm.trans H;rw [BX9];with_reducible exact H2_) | (have H2_:=(Option.bind_some _ _).symm.trans H;with_reducible exact H2_) | with_reducible exact H | (rw [BX9];exact H) | exact H);have EB9:=aM BX9;clear BX9;have H':=aM H;clear H;(try go_wp2);replace S7:=aM (Kd.R_drew S7.out);replace HK:=aM (Kept.drew HK.out);replace HB:=aM (below_drew1 HB.out);obtain ⟨CW6,CD9,C41⟩:=Kd.R_slice S7.out;(first | subst C41 | (injection C41 with f1_ f2_ f3_;have f4_:=f1_.symm;have f5_:=f3_.symm;clear f1_ f2_ f3_;subst f4_;subst f5_));have C42:0≤((J1):Int):=dT (z2_);have Dk5:(J1)<(F5.length:Int):=dT (z2_);obtain ⟨EC0,ES9,Aw8,Aw9,Ax0,Ax1⟩:=at_T75 (Kd.R_reads' S7.out).2.2 (J1) C42 Dk5;cases ES9;replace C42:=eq_true C42;replace Dk5:=eq_true Dk5;have C43:0≤(G2:Int):=dT (z2_);have Dk6:G2<(F5.length:Int):=dT (z2_);obtain ⟨EC1,ET0,BO7,BO8,BO9,BP0⟩:=at_T75 (Kd.R_reads' S7.out).2.2 G2 C43 Dk6;obtain rfl:EC0=EC1:=(by injection ET0);replace C43:=eq_true C43;replace Dk6:=eq_true Dk6;have p24:0≤(G2:Int):=dT (z2_);have q24:(G2:Int)<((F5.length:Int):Int):=dT (z2_);obtain ⟨V1,co24,EC2,EC3,ET1,cl24,EC4⟩:=Kd.R_form S7.out (by omega);(first | cases EC2 | (injection EC2 with ea_ en_ ec_;(first | subst ea_ | (injection ea_ with ea_;subst ea_));subst ec_;clear en_));have ET2:=aM EC3;have ET3:=aM EC4;clear EC3 ET1 EC4;have Dk7:=aM (show (P0_ V1∨w.heap.size≤V1) from (S7.out.1 _ rfl));(first | simp only [add_plain] at Aw8 | skip);(first | simp only [add_plain] at Aw9 | skip);(first | simp only [add_plain] at Ax0 | skip);(first | simp only [add_plain] at Ax1 | skip);(first | simp only [add_plain] at BO7 | skip);(first | simp only [add_plain] at BO8 | skip);(first | simp only [add_plain] at BO9 | skip);(first | simp only [add_plain] at BP0 | skip);obtain ⟨ce24,EC5,EC6,BY0,BY1⟩:=Kd.R_elem S7.out z75 (G2:Int) p24 q24;obtain rfl:=k75_openM EC6;have Dk8:World.cell? _ ⟨V1,(G2:Int).toNat*4,none⟩=some (.int .i64 ((rd_T75 F5 G2).f0.f0)):=BY0 0 _ rfl;have Dk9:World.cell? _ ⟨V1,(G2:Int).toNat*4+1,none⟩=some (.int .i64 ((rd_T75 F5 G2).f0.f1)):=BY0 1 _ rfl;have Dl0:World.cell? _ ⟨V1,(G2:Int).toNat*4+2,none⟩=some (.bool ((rd_T75 F5 G2).f1)):=BY0 2 _ rfl;have Dl1:World.cell? _ ⟨V1,(G2:Int).toNat*4+3,none⟩=some (.string ((rd_T75 F5 G2).f2)):=BY0 3 _ rfl;have Dl2:World.frozen? _ ⟨V1,(G2:Int).toNat*4,none⟩=false:=BY1 0;have Dl3:World.frozen? _ ⟨V1,(G2:Int).toNat*4+1,none⟩=false:=BY1 1;have Dl4:World.frozen? _ ⟨V1,(G2:Int).toNat*4+2,none⟩=false:=BY1 2;have Dl5:World.frozen? _ ⟨V1,(G2:Int).toNat*4+3,none⟩=false:=BY1 3;clear EC5 BY0 BY1 EC6;replace p24:=eq_true p24;replace q24:=eq_true q24;obtain ⟨ce28,DN5,EC7,DN6,EC8⟩:=Kd.R_elem S7.out z75 (G2:Int) (dT (z2_)) (by have h_:(G2:Int)<((F5.length:Int):Int):=dT (by first | (with_reducible assumption) | assumption);first | exact h_ | (have e_:=(Kd.R_reads' S7.out).1;omega) | simpa using h_);obtain rfl:=k75_openM EC7;have Dl6:=(Kd.R_seg S7.out (G2:Int) (dT (z2_)) (by have h_:(G2:Int)<((F5.length:Int):Int):=dT (by first | (with_reducible assumption) | assumption);first | exact h_ | (have e_:=(Kd.R_reads' S7.out).1;omega) | simpa using h_) (seg:=[.int .i64 ((rd_T75 F5 (J1)).f0.f0),.int .i64 ((rd_T75 F5 (J1)).f0.f1),.bool ((rd_T75 F5 (J1)).f1),.string ((rd_T75 F5 (J1)).f2)]) (j:=0) DN5 DN6 (show 4≤4 from by decide) (x':=(⟨(⟨(rd_T75 F5 (J1)).f0.f0,(rd_T75 F5 (J1)).f0.f1⟩:S38),(rd_T75 F5 (J1)).f1,(rd_T75 F5 (J1)).f2⟩:S75)) (k75_mkM _ _ _ (⟨(⟨(rd_T75 F5 (J1)).f0.f0,(rd_T75 F5 (J1)).f0.f1⟩:S38),(rd_T75 F5 (J1)).f1,(rd_T75 F5 (J1)).f2⟩:S75) ) (fun _ hk=>hk)).1;rw [← EB7.out] at Dl6;have C44:=aM Dl6;clear DN5 DN6 EC8 EC7 Dl6;have p25:0≤((J1):Int):=dT (z2_);have q25:((J1):Int)<((F5.length:Int):Int):=dT (z2_);obtain ⟨ce25,EC9,ED0,BY2,BY3⟩:=Kd.R_elem C44.out z75 ((J1):Int) p25 q25;obtain rfl:=k75_openM ED0;have Dl7:World.cell? _ ⟨V1,((J1):Int).toNat*4,none⟩=some (.int .i64 ((rd_T75 CD8 (J1)).f0.f0)):=BY2 0 _ rfl;have Dl8:World.cell? _ ⟨V1,((J1):Int).toNat*4+1,none⟩=some (.int .i64 ((rd_T75 CD8 (J1)).f0.f1)):=BY2 1 _ rfl;have Dl9:World.cell? _ ⟨V1,((J1):Int).toNat*4+2,none⟩=some (.bool ((rd_T75 CD8 (J1)).f1)):=BY2 2 _ rfl;have Dm0:World.cell? _ ⟨V1,((J1):Int).toNat*4+3,none⟩=some (.string ((rd_T75 CD8 (J1)).f2)):=BY2 3 _ rfl;have CW7:World.frozen? _ ⟨V1,((J1):Int).toNat*4,none⟩=false:=BY3 0;have CW8:World.frozen? _ ⟨V1,((J1):Int).toNat*4+1,none⟩=false:=BY3 1;have CW9:World.frozen? _ ⟨V1,((J1):Int).toNat*4+2,none⟩=false:=BY3 2;have CX0:World.frozen? _ ⟨V1,((J1):Int).toNat*4+3,none⟩=false:=BY3 3;clear EC9 BY2 BY3 ED0;replace p25:=eq_true p25;replace q25:=eq_true q25;obtain ⟨ce29,DN7,ED1,DN8,ED2⟩:=Kd.R_elem C44.out z75 ((J1):Int) (dT (z2_)) (by have h_:((J1):Int)<((F5.length:Int):Int):=dT (by first | (with_reducible assumption) | assumption);first | exact h_ | (have e_:=(Kd.R_reads' S7.out).1;omega) | simpa using h_);obtain rfl:=k75_openM ED1;have Dm1:=(Kd.R_seg C44.out ((J1):Int) (dT (z2_)) (by have h_:((J1):Int)<((F5.length:Int):Int):=dT (by first | (with_reducible assumption) | assumption);first | exact h_ | (have e_:=(Kd.R_reads' S7.out).1;omega) | simpa using h_) (seg:=[.int .i64 ((rd_T75 F5 G2).f0.f0),.int .i64 ((rd_T75 F5 G2).f0.f1),.bool ((rd_T75 F5 G2).f1),.string ((rd_T75 F5 G2).f2)]) (j:=0) DN7 DN8 (show 4≤4 from by decide) (x':=(⟨(⟨(rd_T75 F5 G2).f0.f0,(rd_T75 F5 G2).f0.f1⟩:S38),(rd_T75 F5 G2).f1,(rd_T75 F5 G2).f2⟩:S75)) (k75_mkM _ _ _ (⟨(⟨(rd_T75 F5 G2).f0.f0,(rd_T75 F5 G2).f0.f1⟩:S38),(rd_T75 F5 G2).f1,(rd_T75 F5 G2).f2⟩:S75) ) (fun _ hk=>hk)).1;rw [← EB9.out] at Dm1;have ED3:=aM Dm1;clear DN7 DN8 ED2 ED1 Dm1;refine start_ (n:=18) (S:=fun w'=>w'.cell? ⟨V1,((J1)).toNat*4,none⟩=some (.int .i64 ((rd_T75 F5 (J1)).f0.f0))∧w'.cell? ⟨V1,((J1)).toNat*4+1,none⟩=some (.int .i64 ((rd_T75 F5 (J1)).f0.f1))∧w'.cell? ⟨V1,((J1)).toNat*4+2,none⟩=some (.bool ((rd_T75 F5 (J1)).f1))∧w'.cell? ⟨V1,((J1)).toNat*4+3,none⟩=some (.string ((rd_T75 F5 (J1)).f2))∧w'.cell? ⟨V1,((G2).toNat*4),none⟩=some (.int .i64 ((rd_T75 F5 G2).f0.f0))∧w'.cell? ⟨V1,((G2).toNat*4)+1,none⟩=some (.int .i64 ((rd_T75 F5 G2).f0.f1))∧w'.cell? ⟨V1,((G2).toNat*4)+2,none⟩=some (.bool ((rd_T75 F5 G2).f1))∧w'.cell? ⟨V1,((G2).toNat*4)+3,none⟩=some (.string ((rd_T75 F5 G2).f2))) (ds:=[15,17]) (nq 18 0) (by kernel_rfl) rfl rfl ⟨Aw8,Aw9,Ax0,Ax1,BO7,BO8,BO9,BP0⟩ (fun hHeld=>?_);refine with_tabW Y0.tab6 Y0.bits6 (fun HT_ HW_=>?_);generalize wc.drew=w26 at S7 HK HB ET3 C44 ED3 Dl2 Dl3 Dl4 Dl5 CW7 CW8 CW9 CX0 Dk8 Dk9 Dl0 Dl1 Dl7 Dl8 Dl9 Dm0 Aw8 Aw9 Ax0 Ax1 BO7 BO8 BO9 BP0 hHeld ⊢;(have hne_:J1.toNat*4≠G2.toNat*4:=by have a_:=of_eq_true C42;have b_:=of_eq_true C43;unfold wrap64 at BX7;omega);(have hz25_0:∀ V,(w26.setCell ⟨V1,(G2:Int).toNat*4,none⟩ V).cell? ⟨V1,((J1):Int).toNat*4,none⟩=some (.int .i64 ((rd_T75 F5 (J1)).f0.f0)):=fun V=>(World.cell?_setCell_other _ _ _ _ (by intro e_;injection e_;omega)).trans Aw8);(have hz25_1:∀ V,(w26.setCell ⟨V1,(G2:Int).toNat*4+1,none⟩ V).cell? ⟨V1,((J1):Int).toNat*4+1,none⟩=some (.int .i64 ((rd_T75 F5 (J1)).f0.f1)):=fun V=>(World.cell?_setCell_other _ _ _ _ (by intro e_;injection e_;omega)).trans Aw9);(have hz25_2:∀ V,(w26.setCell ⟨V1,(G2:Int).toNat*4+2,none⟩ V).cell? ⟨V1,((J1):Int).toNat*4+2,none⟩=some (.bool ((rd_T75 F5 (J1)).f1)):=fun V=>(World.cell?_setCell_other _ _ _ _ (by intro e_;injection e_;omega)).trans Ax0);(have hz25_3:∀ V,(w26.setCell ⟨V1,(G2:Int).toNat*4+3,none⟩ V).cell? ⟨V1,((J1):Int).toNat*4+3,none⟩=some (.string ((rd_T75 F5 (J1)).f2)):=fun V=>(World.cell?_setCell_other _ _ _ _ (by intro e_;injection e_;omega)).trans Ax1);(have hy25_0:w26.frozen? ⟨V1,((J1):Int).toNat*4,none⟩=false:=by have h_:=CW7;first | exact h_ | simpa only [World.frozen?_setCell] using h_ | simpa [World.setCells] using h_);(have hy25_1:w26.frozen? ⟨V1,((J1):Int).toNat*4+1,none⟩=false:=by have h_:=CW8;first | exact h_ | simpa only [World.frozen?_setCell] using h_ | simpa [World.setCells] using h_);(have hy25_2:w26.frozen? ⟨V1,((J1):Int).toNat*4+2,none⟩=false:=by have h_:=CW9;first | exact h_ | simpa only [World.frozen?_setCell] using h_ | simpa [World.setCells] using h_);(have hy25_3:w26.frozen? ⟨V1,((J1):Int).toNat*4+3,none⟩=false:=by have h_:=CX0;first | exact h_ | simpa only [World.frozen?_setCell] using h_ | simpa [World.setCells] using h_);(iterate 9 refine pa_ HT_.out ?_);refine pu_ 10 47 #[I,I,I,I,I,I,I,I,I,O,I,O,O,O,O,O,O,O] HT_.out ?_;refine pu_ 11 48 #[I,I,I,I,I,I,I,I,I,O,I,I,O,O,O,O,O,O] HT_.out ?_;refine pu_ 12 49 #[I,I,I,I,I,I,I,I,I,O,I,I,I,O,O,O,O,O] HT_.out ?_;refine tk8_ 9 46 (nq 18 13) HT_.out HW_.out hHeld ?_;(iterate 2 first | refine pa_ HT_.out ?_ | refine ta8_ HT_.out HW_.out hHeld ?_);refine last_ (i:=15) (N:=none) (nq 18 16) rfl rfl (one_of HT_.out (by kernel_rfl)) (by decide) (fun K hK=>?_);refine skip_ (w1:=?_) (by rfl) rfl ?_ ?_;rotate_left
             ·go_simp;rfl
             refine hK.out _ _ ?_;clear hK K;refine pa_ HT_.out ?_;refine last_ (i:=17) (N:=none) (nq 18 18) rfl rfl (one_of HT_.out (by kernel_rfl)) (by decide) (fun K hK=>?_);refine skip_ (w1:=?_) (by rfl) rfl ?_ ?_;rotate_left
             ·go_simp;rfl
             refine hK.out _ _ ?_;clear hK K;refine done_ (done_of HT_.out (by kernel_rfl)) ?_;(try go_wp2);go_roundg kj5;(case measure=>have:=HK1.out;have:=HK2.out;have:=HJ5.out;omega);case rel=>exact ⟨(EB8),(J1),(by first | rfl | (simp;done) | (simp only [← BX7] <;> (first | rfl | simp)) | (simp [*];done)),H',⟨by have:=HK1.out;have:=HK2.out;have:=HJ5.out;omega⟩,⟨z3_ ED3.out⟩,⟨by repeat (first | (with_reducible first | exact HK.out | apply Kept.alloc | apply Kept.drewN | apply Kept.drew | refine Kept.setCell ?_ Dk7.out _) | exact HK.out)⟩,⟨by repeat (first | (with_reducible first | exact HB.out | apply below_alloc | apply pw_below_drewN | apply below_drew1 | refine below_set ?_ ET2.out) | exact HB.out)⟩⟩
            ·rw [if_neg c23] at H;exact nO H
           ·rw [if_neg c22] at H;exact nO H
          ·rw [if_neg c21] at H;exact nO H
         ·rw [if_neg c20] at H;exact nO H
        ·replace c18:=Bool.eq_false_iff.mpr c18;subst c18;rw [if_neg (show ¬ (false=true) by decide)] at H;have H':=aM H;clear H;go_wp2;go_roundg kj5;(case measure=>have:=HK1.out;have:=HK2.out;have:=HJ5.out;omega);case rel=>exact ⟨(F5),(wrap64 (H4+1)),(z1_),H',⟨by have:=HK1.out;have:=HK2.out;have:=HJ5.out;omega⟩,⟨z3_ S7.out⟩,⟨z32_ HK.out⟩,⟨z5_ HB.out⟩⟩
   ·rw [if_neg c5] at H;have c5b0:decide (H4<a2)=false:=dF c5;clear c5;obtain rfl:=sI H;go_wp2;(first | go_end0 | ((try simp only [Exit.inBlock,Exit.then]);refine bodyPost_ret (results_none rfl _ _ _) rfl ?_));exact ⟨z6_,z3_ S7.out,z5_ HB.out,z32_ HK.out⟩


/-! ### Y9: function 104 -/
mutual
def Y9.l0:Nat→List (S75)→Int→Int→Option ((List (S75)))
 | 0,_,_,_=>none
 | k+1,x0,x1,x2=>if (wrap64 (x2-x1))≤12 then ((Y0.f k x0 x1 x2).bind fun Dm2=>(some Dm2)) else (none)
def Y9.f:Nat→List (S75)→Int→Int→Int→Option ((List (S75)))
 | 0,_,_,_,_=>none
 | k+1,l0,a1,a2,a3=>Y9.l0 k l0 a1 a2
end
theorem Y9.mono_l:∀ k,(∀ y0 y1 y2 y3,LeO (Y9.f k y0 y1 y2 y3) (Y9.f (k+1) y0 y1 y2 y3))∧(∀ y0 y1 y2,LeO (Y9.l0 k y0 y1 y2) (Y9.l0 (k+1) y0 y1 y2))
 | 0=>by refine ⟨?_,?_⟩ <;> intros <;> exact LeO.none _
 | k+1=>by
  obtain ⟨ih0,ih1⟩:=Y9.mono_l k;have m0:=@Y0.mono;refine ⟨?_,?_⟩
  ·intros;unfold Y9.f;exact mO
  ·intros;unfold Y9.l0;exact mO
theorem Y9.mono:∀ a0 a1 a2 a3 k,LeO (Y9.f k a0 a1 a2 a3) (Y9.f (k+1) a0 a1 a2 a3):=by
 intro a0 a1 a2 a3 k;obtain ⟨ih0,ih1⟩:=Y9.mono_l k;exact ih0 a0 a1 a2 a3
theorem Y9.calls (k:Nat):∀ (P0_:Nat→Prop) (P6:Value) (l0:List (S75)) (a1:Int) (a2:Int) (a3:Int)  (r:List (S75)) (w0 w:World) (hB:Below w0.heap.size w0 w) (ho0:Kd.R k75 75 w w0.heap.size P0_ P6 l0) (h:Y9.f k l0 a1 a2 a3=some r),
  Calls Tryz.prog 104 #[P6,.int .i64 a1,.int .i64 a2,.int .i64 a3,.func (.func 100) #[] #[]] w fun e w'=>e = .returned (.tuple #[])∧Kd.R k75 75 w' w0.heap.size (fun k_=>(P0_ k_∨w.heap.size≤k_)) P6 r∧Below w0.heap.size w0 w'∧Kept w w' (fun k_=>P0_ k_):=by
 induction k using Nat.strongRecOn with
 | _ k ih =>
 intro P0_ P6 l0 a1 a2 a3 r w0 w hB ho0 h
 cases k with
 | zero=>exact absurd h (by simp [Y9.f])
 | succ k =>
 simp only [Y9.f] at h;have AS8:=Tryz.underlying75;have HO0:=aM (show Kd.R k75 75 w w0.heap.size (fun k_=>(P0_ k_∨w.heap.size≤k_)) P6 l0 from Kd.R_mono ho0 (fun k_ hk=>(.inl hk)));have HK:=aM (Kept.refl w (fun k_=>P0_ k_));have HW0:=aM hB.size;have HB:=aM hB;clear hB;have H:(Y9.l0 k l0 a1 a2)=some r:=h;clear h;have H':=aM H;clear H;go_enter Tryz.func104,Tryz.ntmps104;go_wp2;go_loopg [1,2] k (fun kq v1 v2 w'=>∃ (AM0:List (S75)) (AP7:Int) (Al5:Int),v1 = .int .i64 AP7∧v2 = .int .i64 Al5∧Aside0 (Y9.l0 kq AM0 AP7 Al5=some r)∧Aside0 (kq≤k)∧Aside0 (Kd.R k75 75 w' w0.heap.size (fun k_=>(P0_ k_∨w.heap.size≤k_)) P6 AM0)∧Aside0 (Kept w w' (fun k_=>P0_ k_))∧Aside0 (Below w0.heap.size w0 w'));case atStart=>exact ⟨(l0),(a1),(a2),(z1_),(z1_),H',⟨Nat.le_refl _⟩,⟨z3_ HO0.out⟩,⟨z32_ HK.out⟩,⟨z5_ HB.out⟩⟩
 case round =>
  clear H';obtain ⟨AM0,AP7,Al5,rfl,rfl,HA,HK1,S7,HK,HB⟩:=hrel
  cases gk with
  | zero=>exact absurd HA.out (by simp [Y9.l0])
  | succ k1 =>
   have H:=HA.out;clear HA;simp only [Y9.l0] at H;by_cases c6:(wrap64 (Al5-AP7))≤12
   ·rw [if_pos c6] at H;have c6b0:decide ((wrap64 (Al5-AP7))≤12)=true:=dE c6;clear c6;replace H:=bS H;obtain ⟨Dm2,A70,H⟩:=H;(try dsimp only at H);have A7:=aM A70;clear A70;obtain rfl:=sI H;obtain ⟨Ao8,co8,eo8⟩:=Kd.R_slice S7.out;subst eo8;go_wp2_with (first | ((with_reducible refine gc_ 106 ?_);refine gl_ (some 30) Tryz.func106 #[.slice Ao8 AM0.length co8,.int .i64 AP7,.int .i64 Al5,.func (.func 100) #[] #[]] ?_;(with_reducible refine (Y0.calls k1 (fun k_=>some k_=(.slice Ao8 AM0.length co8:Value).ownBlock) (.slice Ao8 AM0.length co8) AM0 AP7 Al5  Dm2 w0 _ ?s1 ?s2 A7.out).mono ?_);(case s1=>repeat (first | (with_reducible first | exact HB.out | apply below_alloc | apply pw_below_drewN | apply below_drew1) | exact HB.out));(case s2=>exact Kd.R_tight rfl S7.out);rintro e w9 ⟨rfl,hy0,hb,hkp⟩;refine ⟨_,rfl,?_⟩;replace HK:=aM (Kept.then_ (S:=(fun k_=>P0_ k_)) (z32_ HK.out) hkp (fun k_ hs_=>(fun e_=>(S7.out.1 k_ e_.symm)) hs_));replace S7:=aM (Kd.R_reok rfl hy0 (fun k_ e_=>S7.out.1 k_ e_));replace HB:=aM (hb)));(first | go_end0 | ((try simp only [Exit.inBlock,Exit.then]);refine bodyPost_ret (results_none rfl _ _ _) rfl ?_));exact ⟨z6_,z3_ S7.out,z5_ HB.out,z32_ HK.out⟩
   ·rw [if_neg c6] at H;exact nO H


/-! ### Y31: function 99 -/
def Y31.f (k:Nat) (l0:List (S75))  : Option ((List (S75))):=(Y96.f k (IntKind.u64.wrap ((l0.length:Int)))).bind fun Be4=>((Y9.f k l0 0 (l0.length:Int) Be4).bind fun CX1=>(some CX1))
theorem Y31.mono:∀ a0 k,LeO (Y31.f k a0) (Y31.f (k+1) a0):=by
 intro a0 k;have m0:=@Y96.mono;have m1:=@Y9.mono;unfold Y31.f;exact mO
theorem Y31.calls (k:Nat) (P0_:Nat→Prop) (P6:Value) (l0:List (S75))  (r:List (S75)) (w0 w:World) (hB:Below w0.heap.size w0 w) (ho0:Kd.R k75 75 w w0.heap.size P0_ P6 l0) (h:Y31.f k l0=some r) :
  Calls Tryz.prog 99 #[P6,.func (.func 100) #[] #[]] w fun e w'=>e = .returned (.tuple #[])∧Kd.R k75 75 w' w0.heap.size (fun k_=>(P0_ k_∨w.heap.size≤k_)) P6 r∧Below w0.heap.size w0 w'∧Kept w w' (fun k_=>P0_ k_):=by
 have HO0:=aM (show Kd.R k75 75 w w0.heap.size (fun k_=>(P0_ k_∨w.heap.size≤k_)) P6 l0 from Kd.R_mono ho0 (fun k_ hk=>(.inl hk)));have HK:=aM (Kept.refl w (fun k_=>P0_ k_));have HW0:=aM hB.size;have HB:=aM hB;clear hB;have H:((Y96.f k (IntKind.u64.wrap ((l0.length:Int)))).bind fun Be4=>((Y9.f k l0 0 (l0.length:Int) Be4).bind fun CX1=>(some CX1)))=some r:=h;clear h;replace H:=bS H;obtain ⟨Be4,A30,H⟩:=H;(try dsimp only at H);have A3:=aM A30;clear A30;replace H:=bS H;obtain ⟨CX1,A40,H⟩:=H;(try dsimp only at H);have A4:=aM A40;clear A40;obtain rfl:=sI H;obtain ⟨Ao5,co5,eo5⟩:=Kd.R_slice HO0.out;subst eo5;go_enter Tryz.func99,Tryz.ntmps99;go_wp2_with (first | ((with_reducible refine gc_ 105 ?_);refine gl_ (some 11) Tryz.func105 #[.int .u64 (IntKind.u64.wrap ((l0.length:Int)))] ?_;(with_reducible refine (Y96.calls k (IntKind.u64.wrap ((l0.length:Int))) Be4 _ A3.out).mono ?_);rintro e w' ⟨rfl,⟨nd,rfl⟩⟩;refine ⟨_,rfl,?_⟩) | ((with_reducible refine gc_ 104 ?_);refine gl_ (some 13) Tryz.func104 #[.slice Ao5 l0.length co5,.int .i64 0,.int .i64 (l0.length:Int),.int .i64 Be4,.func (.func 100) #[] #[]] ?_;(with_reducible refine (Y9.calls k (fun k_=>some k_=(.slice Ao5 l0.length co5:Value).ownBlock) (.slice Ao5 l0.length co5) l0 0 (l0.length:Int) Be4  CX1 w0 _ ?s1 ?s2 A4.out).mono ?_);(case s1=>repeat (first | (with_reducible first | exact HB.out | apply below_alloc | apply pw_below_drewN | apply below_drew1) | exact HB.out));(case s2=>exact Kd.R_tight rfl HO0.out);rintro e w6 ⟨rfl,hy0,hb,hkp⟩;refine ⟨_,rfl,?_⟩;replace HK:=aM (Kept.then_ (S:=(fun k_=>P0_ k_)) (z32_ HK.out) hkp (fun k_ hs_=>(fun e_=>(HO0.out.1 k_ e_.symm)) hs_));replace HO0:=aM (Kd.R_reok rfl hy0 (fun k_ e_=>HO0.out.1 k_ e_));replace HB:=aM (hb)));(first | go_end0 | ((try simp only [Exit.inBlock,Exit.then]);refine bodyPost_ret (results_none rfl _ _ _) rfl ?_));exact ⟨z6_,z3_ HO0.out,z5_ HB.out,z32_ HK.out⟩


/-! ### Y76: function 85 -/
def Y76.f (k:Nat) (l0:List (S75)):Option ((List (S75))):=(Y31.f k l0).bind fun CX2=>(some CX2)
theorem Y76.mono:∀ a0 k,LeO (Y76.f k a0) (Y76.f (k+1) a0):=by
 intro a0 k;have m0:=@Y31.mono;unfold Y76.f;exact mO
theorem Y76.calls (k:Nat) (P0_:Nat→Prop) (P6:Value) (l0:List (S75)) (r:List (S75)) (w0 w:World) (hB:Below w0.heap.size w0 w) (ho0:Kd.R k75 75 w w0.heap.size P0_ P6 l0) (h:Y76.f k l0=some r) :
  Calls Tryz.prog 85 #[P6] w fun e w'=>∃ v0_:Value,e = .returned (v0_)∧Kd.R k75 75 w' w0.heap.size (fun k_=>(P0_ k_∨w.heap.size≤k_)) v0_ r∧Below w0.heap.size w0 w'∧Kept w w' (fun k_=>P0_ k_):=by
 have HO0:=aM (show Kd.R k75 75 w w0.heap.size (fun k_=>(P0_ k_∨w.heap.size≤k_)) P6 l0 from Kd.R_mono ho0 (fun k_ hk=>(.inl hk)));have HK:=aM (Kept.refl w (fun k_=>P0_ k_));have HW0:=aM hB.size;have HB:=aM hB;clear hB;have H:((Y31.f k l0).bind fun CX2=>(some CX2))=some r:=h;clear h;replace H:=bS H;obtain ⟨CX2,A20,H⟩:=H;(try dsimp only at H);have A2:=aM A20;clear A20;obtain rfl:=sI H;obtain ⟨Ao3,co3,eo3⟩:=Kd.R_slice HO0.out;subst eo3;go_enter Tryz.func85,Tryz.ntmps85;go_wp2_with (first | ((with_reducible refine gc_ 99 ?_);refine gl_ (some 4) Tryz.func99 #[.slice Ao3 l0.length co3,.func (.func 100) #[] #[]] ?_;(with_reducible refine (Y31.calls k (fun k_=>some k_=(.slice Ao3 l0.length co3:Value).ownBlock) (.slice Ao3 l0.length co3) l0  CX2 w0 _ ?s1 ?s2 A2.out).mono ?_);(case s1=>repeat (first | (with_reducible first | exact HB.out | apply below_alloc | apply pw_below_drewN | apply below_drew1) | exact HB.out));(case s2=>exact Kd.R_tight rfl HO0.out);rintro e w4 ⟨rfl,hy0,hb,hkp⟩;refine ⟨_,rfl,?_⟩;replace HK:=aM (Kept.then_ (S:=(fun k_=>P0_ k_)) (z32_ HK.out) hkp (fun k_ hs_=>(fun e_=>(HO0.out.1 k_ e_.symm)) hs_));replace HO0:=aM (Kd.R_reok rfl hy0 (fun k_ e_=>HO0.out.1 k_ e_));replace HB:=aM (hb)));go_ret;exact ⟨_,z6_,z3_ HO0.out,z5_ HB.out,z32_ HK.out⟩


/-! ### Y11: function 60 -/
mutual
def Y11.j0:Nat→Bool→List (S38)→List (S75)→List (S38)→List (S75)→Option ((List (S38)) × (List (S75)) × Int × Int × Int)
 | 0,_,_,_,_,_=>none
 | k+1,x17,R1,R2,AB7,AB8=>if x17=true then (some (([]:List (S38)),([]:List (S75)),0,0,1)) else ((Y46.f k R1 AB7).bind fun t3=>(Y11.l0 k R2 (R2.length:Int) 0 R1 R2 AB7 AB8 t3 ([]:List (S75))))
def Y11.l0:Nat→List (S75)→Int→Int→List (S38)→List (S75)→List (S38)→List (S75)→List (S38)→List (S75)→Option ((List (S38)) × (List (S75)) × Int × Int × Int)
 | 0,_,_,_,_,_,_,_,_,_=>none
 | k+1,x26,x27,x28,R1,R2,AB7,AB8,d5,R4=>if x28<x27 then (if 0≤x28 then (if x28<(x26.length:Int) then ((Y75.f k AB7 AB8 ((rd_T75 x26 x28).f0.f0) ((rd_T75 x26 x28).f0.f1)).bind fun CE0=>(if CE0≥0 then (Y11.j2 k x26 x27 x28 true R1 R2 AB7 AB8 d5 R4 ((rd_T75 x26 x28).f0.f0) ((rd_T75 x26 x28).f0.f1) ((rd_T75 x26 x28).f1) ((rd_T75 x26 x28).f2)) else ((Y47.f k AB7 ((rd_T75 x26 x28).f0.f0) ((rd_T75 x26 x28).f0.f1)).bind fun C45=>(Y11.j2 k x26 x27 x28 (!C45) R1 R2 AB7 AB8 d5 R4 ((rd_T75 x26 x28).f0.f0) ((rd_T75 x26 x28).f0.f1) ((rd_T75 x26 x28).f1) ((rd_T75 x26 x28).f2))))) else (none)) else (none)) else (Y11.l1 k AB8 (AB8.length:Int) 0 R1 R2 d5 R4)
def Y11.j2:Nat→List (S75)→Int→Int→Bool→List (S38)→List (S75)→List (S38)→List (S75)→List (S38)→List (S75)→Int→Int→Bool→ByteArray→Option ((List (S38)) × (List (S75)) × Int × Int × Int)
 | 0,_,_,_,_,_,_,_,_,_,_,_,_,_,_=>none
 | k+1,x26,x27,x28,x44,R1,R2,AB7,AB8,d5,R4,C46,C47,C48,C49=>if x44=true then (if R4.length<3518437208883 then (Y11.l0 k x26 x27 (wrap64 (x28+1)) R1 R2 AB7 AB8 d5 (R4 ++ [(⟨(⟨C46,C47⟩:S38),C48,C49⟩:S75)])) else (none)) else (Y11.l0 k x26 x27 (wrap64 (x28+1)) R1 R2 AB7 AB8 d5 R4)
def Y11.l1:Nat→List (S75)→Int→Int→List (S38)→List (S75)→List (S38)→List (S75)→Option ((List (S38)) × (List (S75)) × Int × Int × Int)
 | 0,_,_,_,_,_,_,_=>none
 | k+1,x53,x54,x55,R1,R2,d5,R4=>if x55<x54 then (if 0≤x55 then (if x55<(x53.length:Int) then ((Y75.f k R1 R2 ((rd_T75 x53 x55).f0.f0) ((rd_T75 x53 x55).f0.f1)).bind fun CE1=>(if CE1<0 then ((Y47.f k R1 ((rd_T75 x53 x55).f0.f0) ((rd_T75 x53 x55).f0.f1)).bind fun C50=>(Y11.j4 k x53 x54 x55 (!C50) R1 R2 d5 R4 ((rd_T75 x53 x55).f0.f0) ((rd_T75 x53 x55).f0.f1) ((rd_T75 x53 x55).f1) ((rd_T75 x53 x55).f2))) else (Y11.j4 k x53 x54 x55 false R1 R2 d5 R4 ((rd_T75 x53 x55).f0.f0) ((rd_T75 x53 x55).f0.f1) ((rd_T75 x53 x55).f1) ((rd_T75 x53 x55).f2)))) else (none)) else (none)) else (if (R4.length:Int)>8 then (some (([]:List (S38)),([]:List (S75)),0,0,9)) else ((Y76.f k R4).bind fun CE2=>(some (d5,CE2,0,0,0))))
def Y11.j4:Nat→List (S75)→Int→Int→Bool→List (S38)→List (S75)→List (S38)→List (S75)→Int→Int→Bool→ByteArray→Option ((List (S38)) × (List (S75)) × Int × Int × Int)
 | 0,_,_,_,_,_,_,_,_,_,_,_,_=>none
 | k+1,x53,x54,x55,x71,R1,R2,d5,R4,C51,C52,C53,C54=>if x71=true then (if R4.length<3518437208883 then (Y11.l1 k x53 x54 (wrap64 (x55+1)) R1 R2 d5 (R4 ++ [(⟨(⟨C51,C52⟩:S38),C53,C54⟩:S75)])) else (none)) else (Y11.l1 k x53 x54 (wrap64 (x55+1)) R1 R2 d5 R4)
end
def Y11.f (k:Nat) (D0:List (S38)) (B0:List (S75)) (I0:List (S38)) (E0:List (S75)):Option ((List (S38)) × (List (S75)) × Int × Int × Int):=(Y7.f k D0 B0).bind fun CE3=>(if CE3=true then ((Y7.f k I0 E0).bind fun CE4=>(Y11.j0 k (!CE4) D0 B0 I0 E0)) else (Y11.j0 k true D0 B0 I0 E0))
theorem Y11.mono_l:∀ k,(∀ y0 y1 y2 y3 y4,LeO (Y11.j0 k y0 y1 y2 y3 y4) (Y11.j0 (k+1) y0 y1 y2 y3 y4))∧(∀ y0 y1 y2 y3 y4 y5 y6 y7 y8,LeO (Y11.l0 k y0 y1 y2 y3 y4 y5 y6 y7 y8) (Y11.l0 (k+1) y0 y1 y2 y3 y4 y5 y6 y7 y8))∧(∀ y0 y1 y2 y3 y4 y5 y6 y7 y8 y9 y10 y11 y12 y13,LeO (Y11.j2 k y0 y1 y2 y3 y4 y5 y6 y7 y8 y9 y10 y11 y12 y13) (Y11.j2 (k+1) y0 y1 y2 y3 y4 y5 y6 y7 y8 y9 y10 y11 y12 y13))∧(∀ y0 y1 y2 y3 y4 y5 y6,LeO (Y11.l1 k y0 y1 y2 y3 y4 y5 y6) (Y11.l1 (k+1) y0 y1 y2 y3 y4 y5 y6))∧(∀ y0 y1 y2 y3 y4 y5 y6 y7 y8 y9 y10 y11,LeO (Y11.j4 k y0 y1 y2 y3 y4 y5 y6 y7 y8 y9 y10 y11) (Y11.j4 (k+1) y0 y1 y2 y3 y4 y5 y6 y7 y8 y9 y10 y11))
 | 0=>by refine ⟨?_,?_,?_,?_,?_⟩ <;> intros <;> exact LeO.none _
 | k+1=>by
  obtain ⟨ih0,ih1,ih2,ih3,ih4⟩:=Y11.mono_l k;have m0:=@Y7.mono;have m1:=@Y75.mono;have m2:=@Y47.mono;have m3:=@Y46.mono;have m4:=@Y76.mono;refine ⟨?_,?_,?_,?_,?_⟩
  ·intros;unfold Y11.j0;exact mO
  ·intros;unfold Y11.l0;exact mO
  ·intros;unfold Y11.j2;exact mO
  ·intros;unfold Y11.l1;exact mO
  ·intros;unfold Y11.j4;exact mO
theorem Y11.mono:∀ a0 a1 a2 a3 k,LeO (Y11.f k a0 a1 a2 a3) (Y11.f (k+1) a0 a1 a2 a3):=by
 intro a0 a1 a2 a3 k;have m0:=@Y7.mono;have m1:=@Y75.mono;have m2:=@Y47.mono;have m3:=@Y46.mono;have m4:=@Y76.mono;obtain ⟨ih0,ih1,ih2,ih3,ih4⟩:=Y11.mono_l k;unfold Y11.f;exact mO
theorem Y11.calls (k:Nat) (G0:Option Addr) (G1:Nat) (D0:List (S38)) (J5:Option Addr) (H0:Nat) (B0:List (S75)) (U2:Option Addr) (U3:Nat) (I0:List (S38)) (i5:Option Addr) (W3:Nat) (E0:List (S75)) (r1:List (S38)) (r2:List (S75)) (r3:Int) (r4:Int) (r5:Int) (w:World) (O0:Kd.C k38 w G0 D0.length D0) (O1:D0.length≤G1) (O2:Kd.C k75 w J5 B0.length B0) (O3:B0.length≤H0) (AT5:Kd.C k38 w U2 I0.length I0) (AT6:I0.length≤U3) (AT7:Kd.C k75 w i5 E0.length E0) (AT8:E0.length≤W3) (h:Y11.f k D0 B0 I0 E0=some (r1,r2,r3,r4,r5)) :
  Calls Tryz.prog 60 #[.agg #[.slice G0 D0.length G1,.slice J5 B0.length H0],.agg #[.slice U2 I0.length U3,.slice i5 E0.length W3]] w fun e w'=>∃ v0_ v1_:Value,e = .returned (.agg #[v0_,v1_,.int .i64 r3,.int .i64 r4,.int .i64 r5])∧Kd.R k38 38 w' w.heap.size (fun _=>True) v0_ r1∧Kd.R k75 75 w' w.heap.size (fun _=>True) v1_ r2∧Below w.heap.size w w':=by
 have AS4:=Tryz.underlying37;have BR6:=Tryz.underlying53;have AS8:=Tryz.underlying75;have Z4:=Tryz.underlying38;have M1:=aM O0;have M2:=aM O1;clear O0 O1;have L6:=aM O2;have e9:=aM O3;clear O2 O3;have AT9:=aM AT5;have AU0:=aM AT6;clear AT5 AT6;have AK4:=aM AT7;have Af4:=aM AT8;clear AT7 AT8;have HB:=aM (Below.refl w.heap.size w);have H:((Y7.f k D0 B0).bind fun CE3=>(if CE3=true then ((Y7.f k I0 E0).bind fun CE4=>(Y11.j0 k (!CE4) D0 B0 I0 E0)) else (Y11.j0 k true D0 B0 I0 E0)))=some (r1,r2,r3,r4,r5):=h;clear h;have HC3:=aM H;clear H;go_enter Tryz.func60,Tryz.ntmps60;go_upto_region 1 with (first | ((with_reducible refine gd_ 2 ?_);refine be_ 2 #[.slice G0 D0.length G1,.slice J5 B0.length H0] 37 ?_;intro AU6 hg w4 hbox hb;have G7:=aM (hbox);have GW604:=aM ((z8_ HB.out:w.heap.size≤AU6));have GE604:=aM ((z8_ HB.out:w.heap.size≤AU6));replace HB:=aM (below_step (z5_ HB.out) hb);clear hb hbox hg) | ((with_reducible refine gd_ 3 ?_);refine be_ 3 #[.slice U2 I0.length U3,.slice i5 E0.length W3] 37 ?_;intro AU7 hg w5 hbox hb;have H2:=aM (hbox);have GW605:=aM ((z7_ HB.out:w.heap.size≤AU7));have GE605:=aM ((z7_ HB.out:w.heap.size≤AU7));replace HB:=aM (below_step (z0_ HB.out) hb);have j8:=aM (neL_ G7.out hg);have j9:=aM (neG_ G7.out hg);replace G7:=aM (blkB_ G7.out hb);clear hb hbox hg) | ((with_reducible refine gd_ 4 ?_);refine be_ 4 #[.slice none 0 0,.slice none 0 0,.int .i64 0,.int .i64 0,.int .i64 0] 53 ?_;intro AL0 hg w6 hbox hb;have H5:=aM (hbox);have GW606:=aM ((z7_ HB.out:w.heap.size≤AL0));have GE606:=aM ((z7_ HB.out:w.heap.size≤AL0));replace HB:=aM (below_step (z0_ HB.out) hb);have AA5:=aM (neL_ G7.out hg);have AA6:=aM (neG_ G7.out hg);replace G7:=aM (blkB_ G7.out hb);have k4:=aM (neL_ H2.out hg);have k5:=aM (neG_ H2.out hg);replace H2:=aM (blkB_ H2.out hb);clear hb hbox hg));(try simp only [Act.put,sa_,s0_,ss_]);go_cut [17] (fun v17 wc=>∃ (kq:Nat) (B17:Bool),v17 = .bool B17∧Aside0 (Y11.j0 kq B17 D0 B0 I0 E0=some (r1,r2,r3,r4,r5))∧Aside0 (kq≤k)∧Aside0 (wc.heap[AU6]? = some (.cells #[(.slice G0 D0.length G1),(.slice J5 B0.length H0)] 37 (0,0)))∧Aside0 (wc.heap[AU7]? = some (.cells #[(.slice U2 I0.length U3),(.slice i5 E0.length W3)] 37 (0,0)))∧Aside0 (wc.heap[AL0]? = some (.cells #[(.slice none 0 0),(.slice none 0 0),.int .i64 0,.int .i64 0,.int .i64 0] 53 (0,0)))∧Aside0 (Below w.heap.size w wc))
 case first =>
  have H:=HC3.out;clear HC3;replace H:=bS H;obtain ⟨CE3,A70,H⟩:=H;(try dsimp only at H);have A7:=aM A70;clear A70;have HC8:=aM H;clear H;have CB8:=j8.out;have CB9:=j9.out;have BQ5:=AA5.out;have BQ6:=AA6.out;have ⟨AA9,AB0,AB1,AB2⟩:=cz2_ G7.out;go_wp2_with (first | (with_reducible refine hold_ 12 14 ?_) | ((with_reducible refine gc_ 29 ?_);refine gl_ (some 11) Tryz.func29 #[.agg #[.slice G0 D0.length G1,.slice J5 B0.length H0]] ?_;(with_reducible refine (Y7.calls k _ _ D0 _ _ B0 CE3 _ ?s1 ?s2 ?s3 ?s4 A7.out).mono ?_);(case s1 =>exact zC_ (Kd.C_below M1.out HB.out));(case s2=>exact M2.out);(case s3 =>exact zC_ (Kd.C_below L6.out HB.out));(case s4=>exact e9.out);rintro e w12 ⟨rfl,hb⟩;refine ⟨_,rfl,?_⟩;replace G7:=aM (blkB_ G7.out hb);replace H2:=aM (blkB_ H2.out hb);replace H5:=aM (blkB_ H5.out hb);replace HB:=aM (below_step (z0_ HB.out) hb)));refine Held_.out_ ?_;have H:=HC8.out;clear HC8;by_cases c13:CE3=true
  ·subst c13;rw [if_pos rfl] at H;replace H:=bS H;obtain ⟨CE4,BY4,H⟩:=H;(try dsimp only at H);have A14:=aM BY4;clear BY4;have H':=aM H;clear H;have BB5:=j9.out;have BB6:=j8.out;have BR3:=k4.out;have BR4:=k5.out;have ⟨AQ7,AQ8,AQ9,AR0⟩:=cz2_ H2.out;go_wp2_with (first | (go_at_call 29;(with_reducible refine (Y7.calls k _ _ I0 _ _ E0 CE4 _ ?s1 ?s2 ?s3 ?s4 A14.out).mono ?_);(case s1 =>exact zC_ (Kd.C_below AT9.out HB.out));(case s2=>exact AU0.out);(case s3 =>exact zC_ (Kd.C_below AK4.out HB.out));(case s4=>exact Af4.out);rintro e w18 ⟨rfl,hb⟩;replace G7:=aM (blkB_ G7.out hb);replace H2:=aM (blkB_ H2.out hb);replace H5:=aM (blkB_ H5.out hb);replace HB:=aM (below_step (z0_ HB.out) hb)));go_meet;case rel=>exact ⟨_,(!CE4),(z1_),H',⟨by first | omega | exact Nat.le_refl _⟩,⟨z4_ G7.out⟩,⟨z4_ H2.out⟩,⟨z4_ H5.out⟩,⟨z0_ HB.out⟩⟩
  ·replace c13:=Bool.eq_false_iff.mpr c13;subst c13;rw [if_neg (show ¬ (false=true) by decide)] at H;have H':=aM H;clear H;go_wp2;go_meet;case rel=>exact ⟨_,(true),(z1_),H',⟨by first | omega | exact Nat.le_refl _⟩,⟨z4_ G7.out⟩,⟨z4_ H2.out⟩,⟨z4_ H5.out⟩,⟨z0_ HB.out⟩⟩
 case rest =>
  clear HC3;obtain ⟨kq,B17,rfl,HA,HJ2,G7,H2,H5,HB⟩:=hcut
  cases kq with
  | zero=>exact absurd HA.out (by simp [Y11.j0])
  | succ kj2 =>
   have H:=HA.out;clear HA;simp only [Y11.j0] at H;by_cases c19:B17=true
   ·subst c19;rw [if_pos rfl] at H;simp only [Option.some.injEq,Prod.mk.injEq] at H;obtain ⟨rfl,rfl,rfl,rfl,rfl⟩:=H;have CI2:=AA6.out;have CI3:=AA5.out;have DI2:=k5.out;have DI3:=k4.out;have ⟨At2,At3,At4,BM9,BN0,At5,At6,At7,BN1,BN2⟩:=cz5_ H5.out;go_wp2;refine bodyPost_ret (results_cell_row rfl _ _ AL0 53 #[.slice none 0 0,.slice none 0 0,.int .i64 0,.int .i64 0,.int .i64 1] (0,0) _ rfl (z26_ H5.out) Tryz.underlying53 rfl (by kernel_rfl)) rfl ?_;exact ⟨_,_,z6_,z21_,z21_,z0_ HB.out⟩
   ·replace c19:=Bool.eq_false_iff.mpr c19;subst c19;rw [if_neg (show ¬ (false=true) by decide)] at H;replace H:=bS H;obtain ⟨t3,CS6,H⟩:=H;(try dsimp only at H);have A23:=aM CS6;clear CS6;have H':=aM H;clear H;have CU9:=j8.out;have CV0:=j9.out;have Bp5:=AA5.out;have Bp6:=AA6.out;have ⟨Ae2,Ae3,Ae4,Ae5⟩:=cz2_ G7.out;have DE3:=k4.out;have DE4:=k5.out;have ⟨Aq0,Aq1,Aq2,Aq3⟩:=cz2_ H2.out;go_wp2_with (first | ((with_reducible refine gc_ 83 ?_);refine gl_ (some 23) Tryz.func83 #[.slice G0 D0.length G1,.slice U2 I0.length U3] ?_;(with_reducible refine (Y46.calls kj2 _ _ D0 _ _ I0 t3 _ ?s1 ?s2 ?s3 ?s4 A23.out).mono ?_);(case s1 =>exact zC_ (Kd.C_below M1.out HB.out));(case s2=>exact M2.out);(case s3 =>exact zC_ (Kd.C_below AT9.out HB.out));(case s4=>exact AU0.out);rintro e w29 ⟨v610,rfl,ho0,hb⟩;refine ⟨_,rfl,?_⟩;have B18:=aM (Kd.R_lower ho0 (below_size (z0_ HB.out)));replace G7:=aM (blkB_ G7.out hb);replace H2:=aM (blkB_ H2.out hb);replace H5:=aM (blkB_ H5.out hb);replace HB:=aM (below_step (z0_ HB.out) hb);obtain ⟨Ac6,Ac7,ET4⟩:=Kd.R_slice B18.out;subst ET4) | ((with_reducible refine gd_ 5 ?_);refine be_ 5 #[.slice none 0 0,.slice none 0 0] 37 ?_;intro AE1 hg w31 hbox hb;replace B18:=aM (Kd.R_below (z3_ B18.out) hb);have I4:=aM (hbox);have GW612:=aM ((z7_ HB.out:w.heap.size≤AE1));have GE612:=aM ((z7_ HB.out:w.heap.size≤AE1));replace HB:=aM (below_step (z0_ HB.out) hb);have V7:=aM (neL_ G7.out hg);have AA7:=aM (neG_ G7.out hg);replace G7:=aM (blkB_ G7.out hb);have S3:=aM (neL_ H2.out hg);have k6:=aM (neG_ H2.out hg);replace H2:=aM (blkB_ H2.out hb);have V8:=aM (neL_ H5.out hg);have AG9:=aM (neG_ H5.out hg);replace H5:=aM (blkB_ H5.out hb);clear hb hbox hg;have CK9:=AA7.out;have CL0:=V7.out;have DG6:=k6.out;have DG7:=S3.out;have CH5:=AG9.out;have CH6:=V8.out;have ⟨AV0,AV1,AV2,AV3⟩:=cz2_ I4.out;have ⟨Ad3,Ad4,Ad5,Ad6⟩:=cz2_ G7.out));go_loopg [28] kj2 (fun kq v28 w'=>∃ (H7:Int) (V9:List (S75)) (M0:Value),v28 = .int .i64 H7∧Aside0 (Y11.l0 kq B0 (B0.length:Int) H7 D0 B0 I0 E0 t3 V9=some (r1,r2,r3,r4,r5))∧Aside0 (kq≤kj2)∧Aside0 (Kd.R k38 38 w' w.heap.size (fun _=>True) (.slice Ac6 t3.length Ac7) t3)∧Aside0 (Kd.R k75 75 w' w.heap.size (fun _=>True) M0 V9)∧Aside0 (w'.heap[AU6]? = some (.cells #[(.slice G0 D0.length G1),(.slice J5 B0.length H0)] 37 (0,0)))∧Aside0 (w'.heap[AU7]? = some (.cells #[(.slice U2 I0.length U3),(.slice i5 E0.length W3)] 37 (0,0)))∧Aside0 (w'.heap[AL0]? = some (.cells #[(.slice none 0 0),(.slice none 0 0),.int .i64 0,.int .i64 0,.int .i64 0] 53 (0,0)))∧Aside0 (w'.heap[AE1]? = some (.cells #[(.slice Ac6 t3.length Ac7),M0] 37 (0,0)))∧Aside0 (Below w.heap.size w w'));case atStart=>exact ⟨(0),(([]:List (S75))),(.slice none 0 0),(z1_),H',⟨Nat.le_refl _⟩,⟨by (with_reducible repeat (first | apply Kd.R_alloc | apply Kd.R_drewN | apply Kd.R_drew));exact Kd.R_mono (rf2_ (Kd.R_types B18.out I4.out (by decide)) (fun _ hk=>hk.2)) (fun _ hk=>trivial)⟩,⟨z21_⟩,⟨z36_ V7.out G7.out⟩,⟨z36_ S3.out H2.out⟩,⟨z36_ V8.out H5.out⟩,⟨z44_ I4.out⟩,⟨z0_ HB.out⟩⟩
    case round =>
     clear H';obtain ⟨H7,V9,M0,rfl,HA,HK2,F9,E6,G7,H2,H5,I4,HB⟩:=hrel
     cases gk with
     | zero=>exact absurd HA.out (by simp [Y11.l0])
     | succ k2 =>
      have H:=HA.out;clear HA;simp only [Y11.l0] at H;by_cases c37:H7<(B0.length:Int)
      ·rw [if_pos c37] at H;have c37b0:decide (H7<(B0.length:Int))=true:=dE c37;clear c37;by_cases c38:0≤H7
       ·rw [if_pos c38] at H;have c38b0:decide (0≤H7)=true:=dE c38;clear c38;by_cases c39:H7<(B0.length:Int)
        ·rw [if_pos c39] at H;have c39b0:decide (H7<(B0.length:Int))=true:=dE c39;clear c39;have CE5:=aM H;clear H;have Dm3:0≤(H7:Int):=dT (z2_);have Dm4:H7<(B0.length:Int):=dT (z2_);obtain ⟨CX3,ET5,B19,B20,B21,B22⟩:=at_T75 L6.out H7 Dm3 Dm4;cases ET5;replace B19:=wc_ HB.out B19;replace B20:=wc_ HB.out B20;replace B21:=wc_ HB.out B21;replace B22:=wc_ HB.out B22;replace Dm3:=eq_true Dm3;replace Dm4:=eq_true Dm4;go_upto_region 7 with (first | ((with_reducible refine gd_ 7 ?_);refine be_ 7 #[.int .i64 0,.int .i64 0,.bool false,.string (⟨#[]⟩:ByteArray)] 75 ?_;intro Ab9 hg w41 hbox hb;replace F9:=aM (Kd.R_below (z3_ F9.out) hb);replace E6:=aM (Kd.R_below (Kd.R_elderB (z3_ E6.out) Ab9 (Nat.le_of_eq hg.symm)) hb);have AJ7:=aM (hbox);have GW614:=aM ((z7_ HB.out:w.heap.size≤Ab9));have GE614:=aM ((z7_ HB.out:w.heap.size≤Ab9));replace HB:=aM (below_step (z0_ HB.out) hb);have AO1:=aM (neL_ G7.out hg);have AZ2:=aM (neG_ G7.out hg);replace G7:=aM (blkB_ G7.out hb);have AO2:=aM (neL_ H2.out hg);have AZ3:=aM (neG_ H2.out hg);replace H2:=aM (blkB_ H2.out hb);have AO3:=aM (neL_ H5.out hg);have AZ4:=aM (neG_ H5.out hg);replace H5:=aM (blkB_ H5.out hb);have AO4:=aM (neL_ I4.out hg);have AZ5:=aM (neG_ I4.out hg);replace I4:=aM (blkB_ I4.out hb);clear hb hbox hg;have CL3:=AZ2.out;have CL4:=AO1.out;have hnb43:=AZ3.out;have hnc43:=AO2.out;have ED4:=AZ4.out;have ED5:=AO3.out;have CI4:=AZ5.out;have CI5:=AO4.out;have ⟨BI1,BI2,Bl7,Bl8,BI3,BI4,Bl9,Bm0⟩:=cz4_ AJ7.out));(try simp only [Act.put,sa_,s0_,ss_]);go_cut [44] (fun v44 wc=>∃ (kq:Nat) (BP1:Bool),v44 = .bool BP1∧Aside0 (Y11.j2 kq B0 (B0.length:Int) H7 BP1 D0 B0 I0 E0 t3 V9 ((rd_T75 B0 H7).f0.f0) ((rd_T75 B0 H7).f0.f1) ((rd_T75 B0 H7).f1) ((rd_T75 B0 H7).f2)=some (r1,r2,r3,r4,r5))∧Aside0 (kq≤k2)∧Aside0 (Kd.R k38 38 wc w.heap.size (fun _=>True) (.slice Ac6 t3.length Ac7) t3)∧Aside0 (Kd.R k75 75 wc w.heap.size (fun k_=>k_≠Ab9) M0 V9)∧Aside0 (wc.heap[AU6]? = some (.cells #[(.slice G0 D0.length G1),(.slice (some CX3) B0.length H0)] 37 (0,0)))∧Aside0 (wc.heap[AU7]? = some (.cells #[(.slice U2 I0.length U3),(.slice i5 E0.length W3)] 37 (0,0)))∧Aside0 (wc.heap[AL0]? = some (.cells #[(.slice none 0 0),(.slice none 0 0),.int .i64 0,.int .i64 0,.int .i64 0] 53 (0,0)))∧Aside0 (wc.heap[AE1]? = some (.cells #[(.slice Ac6 t3.length Ac7),M0] 37 (0,0)))∧Aside0 (wc.heap[Ab9]? = some (.cells #[.int .i64 ((rd_T75 B0 H7).f0.f0),.int .i64 ((rd_T75 B0 H7).f0.f1),.bool ((rd_T75 B0 H7).f1),.string ((rd_T75 B0 H7).f2)] 75 (0,0)))∧Aside0 (Below w.heap.size w wc))
         case first =>
          have H:=CE5.out;clear CE5;replace H:=bS H;obtain ⟨CE0,ED6,H⟩:=H;(try dsimp only at H);have A47:=aM ED6;clear ED6;have CL5:=aM H;clear H;have D97:=j9.out;have D98:=j8.out;have DJ9:=k4.out;have DK0:=k5.out;have D99:=S3.out;have EA0:=k6.out;have Du0:=AO2.out;have Du1:=AZ3.out;have ⟨Ce4,Ce5,Ce6,Ce7⟩:=cz2_ H2.out;have CL7:=AZ2.out;have CL8:=AO1.out;have ED7:=AZ4.out;have ED8:=AO3.out;have ED9:=AZ5.out;have EE0:=AO4.out;have ⟨Cs5,Cs6,Cs7,Cs8,Cs9,Ct0,Ct1,Ct2⟩:=cz4_ AJ7.out;go_wp2_with (first | (with_reducible refine hold_ 36 38 ?_) | ((with_reducible refine gc_ 84 ?_);refine gl_ (some 35) Tryz.func84 #[.agg #[.slice U2 I0.length U3,.slice i5 E0.length W3],.agg #[.int .i64 ((rd_T75 B0 H7).f0.f0),.int .i64 ((rd_T75 B0 H7).f0.f1)]] ?_;(with_reducible refine (Y75.calls k2 _ _ I0 _ _ E0 ((rd_T75 B0 H7).f0.f0) ((rd_T75 B0 H7).f0.f1) CE0 _ ?s1 ?s2 ?s3 ?s4 A47.out).mono ?_);(case s1=>exact Kd.C_below AT9.out (z0_ HB.out));(case s2=>exact AU0.out);(case s3=>exact Kd.C_below AK4.out (z0_ HB.out));(case s4=>exact Af4.out);rintro e w58 ⟨rfl,hb⟩;refine ⟨_,rfl,?_⟩;replace F9:=aM (Kd.R_below (z43_ F9.out AJ7.out) hb);replace E6:=aM (Kd.R_below (by (with_reducible repeat (first | apply Kd.R_alloc | apply Kd.R_drewN | apply Kd.R_drew));exact (Kd.R_mono (rf4_ (Kd.R_mono E6.out (fun k_ hk=>(⟨hk,hk.2⟩:_∧k_≠Ab9))) (fun _ hk=>hk.2)) (fun _ h_=>h_.1))) hb);replace G7:=aM (blk_below (g:=AU6) (o:=.cells #[.slice G0 D0.length G1,.slice (some CX3) B0.length H0] 37 (0,0)) (z15_ AO1.out G7.out) hb);replace H2:=aM (blk_below (g:=AU7) (o:=.cells #[.slice U2 I0.length U3,.slice i5 E0.length W3] 37 (0,0)) (z15_ AO2.out H2.out) hb);replace H5:=aM (blk_below (g:=AL0) (o:=.cells #[.slice none 0 0,.slice none 0 0,.int .i64 0,.int .i64 0,.int .i64 0] 53 (0,0)) (z15_ AO3.out H5.out) hb);replace I4:=aM (blk_below (g:=AE1) (o:=.cells #[.slice Ac6 t3.length Ac7,M0] 37 (0,0)) (z15_ AO4.out I4.out) hb);replace AJ7:=aM (blk_below (g:=Ab9) (o:=.cells #[.int .i64 ((rd_T75 B0 H7).f0.f0),.int .i64 ((rd_T75 B0 H7).f0.f1),.bool ((rd_T75 B0 H7).f1),.string ((rd_T75 B0 H7).f2)] 75 (0,0)) (z29_ AJ7.out) hb);replace HB:=aM (below_step (z0_ HB.out) hb)));refine Held_.out_ ?_;have H:=CL5.out;clear CL5;by_cases c59:CE0≥0
          ·rw [if_pos c59] at H;have c59b0:decide (0≤CE0)=true:=dE c59;clear c59;(first | rw [c59b0] | (simp only [i64_w,i32_w];rw [c59b0]) | skip);have H':=aM H;clear H;go_wp2;go_meet;case rel=>exact ⟨_,(true),(z1_),H',⟨z20_ HJ2.out HK2.out⟩,⟨z3_ F9.out⟩,⟨z49_ E6.out⟩,⟨z4_ G7.out⟩,⟨z4_ H2.out⟩,⟨z4_ H5.out⟩,⟨z4_ I4.out⟩,⟨z4_ AJ7.out⟩,⟨z0_ HB.out⟩⟩
          ·rw [if_neg c59] at H;have c59b0:decide (0≤CE0)=false:=dF c59;clear c59;(first | rw [c59b0] | (simp only [i64_w,i32_w];rw [c59b0]) | skip);replace H:=bS H;obtain ⟨C45,EE1,H⟩:=H;(try dsimp only at H);have A60:=aM EE1;clear EE1;have H':=aM H;clear H;have CO8:=j9.out;have CO9:=j8.out;have DH1:=k4.out;have DH2:=k5.out;have EA4:=S3.out;have EA5:=k6.out;have CV4:=AO2.out;have CV5:=AZ3.out;have ⟨Bz7,Bz8,Bz9,B00⟩:=cz2_ H2.out;have DM8:=AZ2.out;have DM9:=AO1.out;have EE2:=AZ4.out;have EE3:=AO3.out;have hnb68:=AZ5.out;have hnc68:=AO4.out;have ⟨C55,C56,C57,C58,C59,C60,C61,C62⟩:=cz4_ AJ7.out;go_wp2_with (first | (go_at_call 31;(with_reducible refine (Y47.calls k2 _ _ I0 ((rd_T75 B0 H7).f0.f0) ((rd_T75 B0 H7).f0.f1) C45 _ ?s1 ?s2 A60.out).mono ?_);(case s1 =>exact zC_ (Kd.C_below AT9.out HB.out));(case s2=>exact AU0.out);rintro e w70 ⟨rfl,hb⟩;replace F9:=aM (Kd.R_below (z3_ F9.out) hb);replace E6:=aM (Kd.R_below (z3_ E6.out) hb);replace G7:=aM (blkB_ G7.out hb);replace H2:=aM (blkB_ H2.out hb);replace H5:=aM (blkB_ H5.out hb);replace I4:=aM (blkB_ I4.out hb);replace AJ7:=aM (blkB_ AJ7.out hb);replace HB:=aM (below_step (z0_ HB.out) hb)));go_meet;case rel=>exact ⟨_,(!C45),(z1_),H',⟨z20_ HJ2.out HK2.out⟩,⟨z3_ F9.out⟩,⟨z49_ E6.out⟩,⟨z4_ G7.out⟩,⟨z4_ H2.out⟩,⟨z4_ H5.out⟩,⟨z4_ I4.out⟩,⟨z4_ AJ7.out⟩,⟨z0_ HB.out⟩⟩
         case rest =>
          clear CE5;obtain ⟨kq,BP1,rfl,HA,C63,F9,E6,G7,H2,H5,I4,AJ7,HB⟩:=hcut
          cases kq with
          | zero=>exact absurd HA.out (by simp [Y11.j2])
          | succ Dm5 =>
           have H:=HA.out;clear HA;simp only [Y11.j2] at H;by_cases c71:BP1=true
           ·subst c71;rw [if_pos rfl] at H;by_cases c72:V9.length<3518437208883
            ·rw [if_pos c72] at H;have EE4:=aM c72;clear c72;obtain ⟨CX4,BY5⟩:∃ y_:List (S75),y_=(V9 ++ [(⟨(⟨((rd_T75 B0 H7).f0.f0),((rd_T75 B0 H7).f0.f1)⟩:S38),((rd_T75 B0 H7).f1),((rd_T75 B0 H7).f2)⟩:S75)]):=⟨_,rfl⟩;(replace H:(Y11.l0 Dm5 B0 (B0.length:Int) (wrap64 (H7+1)) D0 B0 I0 E0 t3 CX4)=some (r1,r2,r3,r4,r5):=by first | (rw [BY5];with_reducible exact H) | (have H2_:=(Option.bind_some _ _).symm.trans H;rw [BY5];with_reducible exact H2_) | (have H2_:=(Option.bind_some _ _).symm.trans H;with_reducible exact H2_) | with_reducible exact H | (rw [BY5];exact H) | exact H);have EE5:=aM BY5;clear BY5;have H':=aM H;clear H;have EE6:=AA7.out;have EE7:=V7.out;have DF6:=k6.out;have DF7:=S3.out;have hnb75:=AG9.out;have hnc75:=V8.out;have hnb76:=AO4.out;have hnc76:=AZ5.out;have ⟨hcz77_0,hcz77_1,hfz77_0,hfz77_1⟩:=cz2_ I4.out;have hnb78:=AZ2.out;have hnc78:=AO1.out;have D23:=AZ3.out;have D24:=AO2.out;have DJ0:=AZ4.out;have DJ1:=AO3.out;have ⟨C64,C65,C66,C67,C68,C69,C70,C71⟩:=cz4_ AJ7.out;go_wp2_with (first | ((with_reducible refine gate_builtin (b:=.append) (xs:=#[.tmp 46,.tmp 48]) rfl ?_);at_builtin;refine Kd.R_append k75 (w0:=w) w.heap.size rfl (.tmp 46) (.tmp 48) 35 75 (.agg #[(.int .i64 0),(.int .i64 0),(.bool false),(.string ⟨#[]⟩)]) 40 rfl Tryz.underlying35 info75 rfl (by decide) (by omega) M0 V9 (⟨(⟨((rd_T75 B0 H7).f0.f0),((rd_T75 B0 H7).f0.f1)⟩:S38),((rd_T75 B0 H7).f1),((rd_T75 B0 H7).f2)⟩:S75) [.int .i64 ((rd_T75 B0 H7).f0.f0),.int .i64 ((rd_T75 B0 H7).f0.f1),.bool ((rd_T75 B0 H7).f1),.string ((rd_T75 B0 H7).f2)] (fun k_=>k_≠Ab9) (fun _=>False) rfl rfl ?aP (fun _ hk=>hk.elim) ?aF ?aO ?aB ?aS ?aL ?_;(case aP=>exact k75_mkM _ _ _ (⟨(⟨((rd_T75 B0 H7).f0.f0),((rd_T75 B0 H7).f0.f1)⟩:S38),((rd_T75 B0 H7).f1),((rd_T75 B0 H7).f2)⟩:S75));(case aB=>exact (z0_ HB.out));(case aF=>exact (fun k_ hk=>Kd.freshB (g:=Ab9) (o:=.cells #[.int .i64 ((rd_T75 B0 H7).f0.f0),.int .i64 ((rd_T75 B0 H7).f0.f1),.bool ((rd_T75 B0 H7).f1),.string ((rd_T75 B0 H7).f2)] 75 (0,0)) (z4_ AJ7.out) k_ hk));(case aO=>exact (z3_ E6.out));(case aS=>exact (below_size (z0_ HB.out)));(case aL=>have:=EE4.out;omega);intro v618 w82 ho hb hg hat;rw [← EE5.out] at ho;replace F9:=aM (Kd.R_over' (z3_ F9.out) (Kd.R_typed (z3_ E6.out)) (by decide) hg);replace G7:=aM (blk_grown (g:=AU6) (o:=.cells #[.slice G0 D0.length G1,.slice (some CX3) B0.length H0] 37 (0,0)) (z4_ G7.out) hg (Kd.R_ne E6.out G7.out (by decide)));replace H2:=aM (blk_grown (g:=AU7) (o:=.cells #[.slice U2 I0.length U3,.slice i5 E0.length W3] 37 (0,0)) (z4_ H2.out) hg (Kd.R_ne E6.out H2.out (by decide)));replace H5:=aM (blk_grown (g:=AL0) (o:=.cells #[.slice none 0 0,.slice none 0 0,.int .i64 0,.int .i64 0,.int .i64 0] 53 (0,0)) (z4_ H5.out) hg (Kd.R_ne E6.out H5.out (by decide)));replace I4:=aM (blk_grown (g:=AE1) (o:=.cells #[.slice Ac6 t3.length Ac7,M0] 37 (0,0)) (z4_ I4.out) hg (Kd.R_ne E6.out I4.out (by decide)));replace AJ7:=aM (blk_grown (g:=Ab9) (o:=.cells #[.int .i64 ((rd_T75 B0 H7).f0.f0),.int .i64 ((rd_T75 B0 H7).f0.f1),.bool ((rd_T75 B0 H7).f1),.string ((rd_T75 B0 H7).f2)] 75 (0,0)) (z4_ AJ7.out) hg (Kd.R_away E6.out (fun _ hk=>hk)));replace HB:=aM (hb);have DN9:=aM (ho);clear E6;clear ho hb hg hat;obtain ⟨CN1,CN2,Dc1⟩:=Kd.R_slice DN9.out;subst Dc1;have ⟨hcz84_0,hcz84_1,hfz84_0,hfz84_1⟩:=cz2_ I4.out));go_roundg Dm5;(case measure=>have:=HJ2.out;have:=HK2.out;have:=C63.out;omega);case rel=>exact ⟨(wrap64 (H7+1)),(CX4),(.slice CN1 CX4.length CN2),(z1_),H',⟨by have:=HJ2.out;have:=HK2.out;have:=C63.out;omega⟩,⟨by (with_reducible repeat (first | apply Kd.R_alloc | apply Kd.R_drewN | apply Kd.R_drew));exact Kd.R_mono (Kd.R_far (p:=⟨AE1,1,none⟩) (Kd.R_types F9.out I4.out (by decide)) (fun _ hk=>hk.2) (.slice CN1 CX4.length CN2)) (fun _ hk=>trivial)⟩,⟨by (with_reducible repeat (first | apply Kd.R_alloc | apply Kd.R_drewN | apply Kd.R_drew));exact Kd.R_mono (Kd.R_far (p:=⟨AE1,1,none⟩) (Kd.R_types DN9.out I4.out (by decide)) (fun _ hk=>hk.2) (.slice CN1 CX4.length CN2)) (fun _ hk=>trivial)⟩,⟨z18_ V7.out G7.out⟩,⟨z18_ S3.out H2.out⟩,⟨z18_ V8.out H5.out⟩,⟨by (with_reducible repeat (first | refine blk_drewN ?_ _ | refine blk_drew ?_ | refine blk_alloc ?_ _));refine blk_put (cs:=#[.slice Ac6 t3.length Ac7,M0]) ?_ 1 _ rfl;(with_reducible repeat (first | refine blk_drewN ?_ _ | refine blk_drew ?_ | refine blk_alloc ?_ _));exact I4.out⟩,⟨z0_ HB.out⟩⟩
            ·rw [if_neg c72] at H;exact nO H
           ·replace c71:=Bool.eq_false_iff.mpr c71;subst c71;rw [if_neg (show ¬ (false=true) by decide)] at H;have H':=aM H;clear H;go_wp2;go_roundg Dm5;(case measure=>have:=HJ2.out;have:=HK2.out;have:=C63.out;omega);case rel=>exact ⟨(wrap64 (H7+1)),(V9),(M0),(z1_),H',⟨by have:=HJ2.out;have:=HK2.out;have:=C63.out;omega⟩,⟨z3_ F9.out⟩,⟨z52_ E6.out⟩,⟨z4_ G7.out⟩,⟨z4_ H2.out⟩,⟨z4_ H5.out⟩,⟨z4_ I4.out⟩,⟨z0_ HB.out⟩⟩
        ·rw [if_neg c39] at H;exact nO H
       ·rw [if_neg c38] at H;exact nO H
      ·rw [if_neg c37] at H;have c37b0:decide (H7<(B0.length:Int))=false:=dF c37;clear c37;have H':=aM H;clear H;have D25:=j9.out;have D26:=j8.out;have DJ2:=k4.out;have DJ3:=k5.out;have hnb87:=S3.out;have hnc87:=k6.out;have ⟨hcz88_0,hcz88_1,hfz88_0,hfz88_1⟩:=cz2_ H2.out;go_wp2;go_loopg [55] k2 (fun kq v55 w'=>∃ (H8:Int) (K1:List (S75)) (M0:Value),v55 = .int .i64 H8∧Aside0 (Y11.l1 kq E0 (E0.length:Int) H8 D0 B0 t3 K1=some (r1,r2,r3,r4,r5))∧Aside0 (kq≤k2)∧Aside0 (Kd.R k38 38 w' w.heap.size (fun _=>True) (.slice Ac6 t3.length Ac7) t3)∧Aside0 (Kd.R k75 75 w' w.heap.size (fun _=>True) M0 K1)∧Aside0 (w'.heap[AU6]? = some (.cells #[(.slice G0 D0.length G1),(.slice J5 B0.length H0)] 37 (0,0)))∧Aside0 (w'.heap[AU7]? = some (.cells #[(.slice U2 I0.length U3),(.slice i5 E0.length W3)] 37 (0,0)))∧Aside0 (w'.heap[AL0]? = some (.cells #[(.slice none 0 0),(.slice none 0 0),.int .i64 0,.int .i64 0,.int .i64 0] 53 (0,0)))∧Aside0 (w'.heap[AE1]? = some (.cells #[(.slice Ac6 t3.length Ac7),M0] 37 (0,0)))∧Aside0 (Below w.heap.size w w'));case atStart=>exact ⟨(0),(V9),(M0),(z1_),H',⟨Nat.le_refl _⟩,⟨z3_ F9.out⟩,⟨z3_ E6.out⟩,⟨z4_ G7.out⟩,⟨z4_ H2.out⟩,⟨z4_ H5.out⟩,⟨z4_ I4.out⟩,⟨z0_ HB.out⟩⟩
       case round =>
        clear H';obtain ⟨H8,K1,M0,rfl,HA,HK3,F9,E6,G7,H2,H5,I4,HB⟩:=hrel
        cases gk with
        | zero=>exact absurd HA.out (by simp [Y11.l1])
        | succ k3 =>
         have H:=HA.out;clear HA;simp only [Y11.l1] at H;by_cases c89:H8<(E0.length:Int)
         ·rw [if_pos c89] at H;have c89b0:decide (H8<(E0.length:Int))=true:=dE c89;clear c89;by_cases c90:0≤H8
          ·rw [if_pos c90] at H;have c90b0:decide (0≤H8)=true:=dE c90;clear c90;by_cases c91:H8<(E0.length:Int)
           ·rw [if_pos c91] at H;have c91b0:decide (H8<(E0.length:Int))=true:=dE c91;clear c91;have Dm6:=aM H;clear H;have Dm7:0≤(H8:Int):=dT (z2_);have Dm8:H8<(E0.length:Int):=dT (z2_);obtain ⟨CX5,ET6,B23,B24,B25,B26⟩:=at_T75 AK4.out H8 Dm7 Dm8;cases ET6;replace B23:=wc_ HB.out B23;replace B24:=wc_ HB.out B24;replace B25:=wc_ HB.out B25;replace B26:=wc_ HB.out B26;replace Dm7:=eq_true Dm7;replace Dm8:=eq_true Dm8;go_upto_region 13 with (first | ((with_reducible refine gd_ 9 ?_);refine be_ 9 #[.int .i64 0,.int .i64 0,.bool false,.string (⟨#[]⟩:ByteArray)] 75 ?_;intro Ac0 hg w93 hbox hb;replace F9:=aM (Kd.R_below (z3_ F9.out) hb);replace E6:=aM (Kd.R_below (Kd.R_elderB (z3_ E6.out) Ac0 (Nat.le_of_eq hg.symm)) hb);have AJ8:=aM (hbox);have GW621:=aM ((z7_ HB.out:w.heap.size≤Ac0));have GE621:=aM ((z7_ HB.out:w.heap.size≤Ac0));replace HB:=aM (below_step (z0_ HB.out) hb);have AO5:=aM (neL_ G7.out hg);have AZ6:=aM (neG_ G7.out hg);replace G7:=aM (blkB_ G7.out hb);have AO6:=aM (neL_ H2.out hg);have AZ7:=aM (neG_ H2.out hg);replace H2:=aM (blkB_ H2.out hb);have AO7:=aM (neL_ H5.out hg);have AZ8:=aM (neG_ H5.out hg);replace H5:=aM (blkB_ H5.out hb);have AO8:=aM (neL_ I4.out hg);have AZ9:=aM (neG_ I4.out hg);replace I4:=aM (blkB_ I4.out hb);clear hb hbox hg;have hnb94:=AZ6.out;have hnc94:=AO5.out;have hnb95:=AZ7.out;have hnc95:=AO6.out;have hnb96:=AZ8.out;have hnc96:=AO7.out;have hnb97:=AZ9.out;have hnc97:=AO8.out;have ⟨hcz98_0,hcz98_1,hcz98_2,hcz98_3,hfz98_0,hfz98_1,hfz98_2,hfz98_3⟩:=cz4_ AJ8.out));(try simp only [Act.put,sa_,s0_,ss_]);go_cut [71] (fun v71 wc=>∃ (kq:Nat) (BP2:Bool),v71 = .bool BP2∧Aside0 (Y11.j4 kq E0 (E0.length:Int) H8 BP2 D0 B0 t3 K1 ((rd_T75 E0 H8).f0.f0) ((rd_T75 E0 H8).f0.f1) ((rd_T75 E0 H8).f1) ((rd_T75 E0 H8).f2)=some (r1,r2,r3,r4,r5))∧Aside0 (kq≤k3)∧Aside0 (Kd.R k38 38 wc w.heap.size (fun _=>True) (.slice Ac6 t3.length Ac7) t3)∧Aside0 (Kd.R k75 75 wc w.heap.size (fun k_=>k_≠Ac0) M0 K1)∧Aside0 (wc.heap[AU6]? = some (.cells #[(.slice G0 D0.length G1),(.slice J5 B0.length H0)] 37 (0,0)))∧Aside0 (wc.heap[AU7]? = some (.cells #[(.slice U2 I0.length U3),(.slice (some CX5) E0.length W3)] 37 (0,0)))∧Aside0 (wc.heap[AL0]? = some (.cells #[(.slice none 0 0),(.slice none 0 0),.int .i64 0,.int .i64 0,.int .i64 0] 53 (0,0)))∧Aside0 (wc.heap[AE1]? = some (.cells #[(.slice Ac6 t3.length Ac7),M0] 37 (0,0)))∧Aside0 (wc.heap[Ac0]? = some (.cells #[.int .i64 ((rd_T75 E0 H8).f0.f0),.int .i64 ((rd_T75 E0 H8).f0.f1),.bool ((rd_T75 E0 H8).f1),.string ((rd_T75 E0 H8).f2)] 75 (0,0)))∧Aside0 (Below w.heap.size w wc))
            case first =>
             have H:=Dm6.out;clear Dm6;replace H:=bS H;obtain ⟨CE1,CX6,H⟩:=H;(try dsimp only at H);have A99:=aM CX6;clear CX6;have DO0:=aM H;clear H;have hnb101:=j8.out;have hnc101:=j9.out;have hnb102:=AA5.out;have hnc102:=AA6.out;have hnb103:=V7.out;have hnc103:=AA7.out;have hnb104:=AO5.out;have hnc104:=AZ6.out;have ⟨hcz105_0,hcz105_1,hfz105_0,hfz105_1⟩:=cz2_ G7.out;have hnb106:=AZ7.out;have hnc106:=AO6.out;have hnb107:=AZ8.out;have hnc107:=AO7.out;have hnb108:=AZ9.out;have hnc108:=AO8.out;have ⟨hcz109_0,hcz109_1,hcz109_2,hcz109_3,hfz109_0,hfz109_1,hfz109_2,hfz109_3⟩:=cz4_ AJ8.out;go_wp2_with (first | (with_reducible refine hold_ 63 65 ?_) | ((with_reducible refine gc_ 84 ?_);refine gl_ (some 62) Tryz.func84 #[.agg #[.slice G0 D0.length G1,.slice J5 B0.length H0],.agg #[.int .i64 ((rd_T75 E0 H8).f0.f0),.int .i64 ((rd_T75 E0 H8).f0.f1)]] ?_;(with_reducible refine (Y75.calls k3 _ _ D0 _ _ B0 ((rd_T75 E0 H8).f0.f0) ((rd_T75 E0 H8).f0.f1) CE1 _ ?s1 ?s2 ?s3 ?s4 A99.out).mono ?_);(case s1=>exact Kd.C_below M1.out (z0_ HB.out));(case s2=>exact M2.out);(case s3=>exact Kd.C_below L6.out (z0_ HB.out));(case s4=>exact e9.out);rintro e w110 ⟨rfl,hb⟩;refine ⟨_,rfl,?_⟩;replace F9:=aM (Kd.R_below (z43_ F9.out AJ8.out) hb);replace E6:=aM (Kd.R_below (by (with_reducible repeat (first | apply Kd.R_alloc | apply Kd.R_drewN | apply Kd.R_drew));exact (Kd.R_mono (rf4_ (Kd.R_mono E6.out (fun k_ hk=>(⟨hk,hk.2⟩:_∧k_≠Ac0))) (fun _ hk=>hk.2)) (fun _ h_=>h_.1))) hb);replace G7:=aM (blk_below (g:=AU6) (o:=.cells #[.slice G0 D0.length G1,.slice J5 B0.length H0] 37 (0,0)) (z15_ AO5.out G7.out) hb);replace H2:=aM (blk_below (g:=AU7) (o:=.cells #[.slice U2 I0.length U3,.slice (some CX5) E0.length W3] 37 (0,0)) (z15_ AO6.out H2.out) hb);replace H5:=aM (blk_below (g:=AL0) (o:=.cells #[.slice none 0 0,.slice none 0 0,.int .i64 0,.int .i64 0,.int .i64 0] 53 (0,0)) (z15_ AO7.out H5.out) hb);replace I4:=aM (blk_below (g:=AE1) (o:=.cells #[.slice Ac6 t3.length Ac7,M0] 37 (0,0)) (z15_ AO8.out I4.out) hb);replace AJ8:=aM (blk_below (g:=Ac0) (o:=.cells #[.int .i64 ((rd_T75 E0 H8).f0.f0),.int .i64 ((rd_T75 E0 H8).f0.f1),.bool ((rd_T75 E0 H8).f1),.string ((rd_T75 E0 H8).f2)] 75 (0,0)) (z29_ AJ8.out) hb);replace HB:=aM (below_step (z0_ HB.out) hb)));refine Held_.out_ ?_;have H:=DO0.out;clear DO0;by_cases CE6:CE1<0
             ·rw [if_pos CE6] at H;have c111b0:decide (CE1<0)=true:=dE CE6;clear CE6;(first | rw [c111b0] | (simp only [i64_w,i32_w];rw [c111b0]) | skip);replace H:=bS H;obtain ⟨C50,DO1,H⟩:=H;(try dsimp only at H);have ET7:=aM DO1;clear DO1;have H':=aM H;clear H;have hnb113:=j8.out;have hnc113:=j9.out;have hnb114:=AA5.out;have hnc114:=AA6.out;have hnb115:=V7.out;have hnc115:=AA7.out;have hnb116:=AO5.out;have hnc116:=AZ6.out;have ⟨hcz117_0,hcz117_1,hfz117_0,hfz117_1⟩:=cz2_ G7.out;have hnb118:=AZ7.out;have hnc118:=AO6.out;have hnb119:=AZ8.out;have hnc119:=AO7.out;have hnb120:=AZ9.out;have hnc120:=AO8.out;have ⟨hcz121_0,hcz121_1,hcz121_2,hcz121_3,hfz121_0,hfz121_1,hfz121_2,hfz121_3⟩:=cz4_ AJ8.out;go_wp2_with (first | (go_at_call 31;(with_reducible refine (Y47.calls k3 _ _ D0 ((rd_T75 E0 H8).f0.f0) ((rd_T75 E0 H8).f0.f1) C50 _ ?s1 ?s2 ET7.out).mono ?_);(case s1 =>exact zC_ (Kd.C_below M1.out HB.out));(case s2=>exact M2.out);rintro e w122 ⟨rfl,hb⟩;replace F9:=aM (Kd.R_below (z3_ F9.out) hb);replace E6:=aM (Kd.R_below (z3_ E6.out) hb);replace G7:=aM (blkB_ G7.out hb);replace H2:=aM (blkB_ H2.out hb);replace H5:=aM (blkB_ H5.out hb);replace I4:=aM (blkB_ I4.out hb);replace AJ8:=aM (blkB_ AJ8.out hb);replace HB:=aM (below_step (z0_ HB.out) hb)));go_meet;case rel=>exact ⟨_,(!C50),(z1_),H',⟨by have:=HJ2.out;have:=HK2.out;have:=HK3.out;first | omega | exact Nat.le_refl _⟩,⟨z3_ F9.out⟩,⟨z49_ E6.out⟩,⟨z4_ G7.out⟩,⟨z4_ H2.out⟩,⟨z4_ H5.out⟩,⟨z4_ I4.out⟩,⟨z4_ AJ8.out⟩,⟨z0_ HB.out⟩⟩
             ·rw [if_neg CE6] at H;have c111b0:decide (CE1<0)=false:=dF CE6;clear CE6;(first | rw [c111b0] | (simp only [i64_w,i32_w];rw [c111b0]) | skip);have H':=aM H;clear H;go_wp2;go_meet;case rel=>exact ⟨_,(false),(z1_),H',⟨by have:=HJ2.out;have:=HK2.out;have:=HK3.out;first | omega | exact Nat.le_refl _⟩,⟨z3_ F9.out⟩,⟨z49_ E6.out⟩,⟨z4_ G7.out⟩,⟨z4_ H2.out⟩,⟨z4_ H5.out⟩,⟨z4_ I4.out⟩,⟨z4_ AJ8.out⟩,⟨z0_ HB.out⟩⟩
            case rest =>
             clear Dm6;obtain ⟨kq,BP2,rfl,HA,C72,F9,E6,G7,H2,H5,I4,AJ8,HB⟩:=hcut
             cases kq with
             | zero=>exact absurd HA.out (by simp [Y11.j4])
             | succ Dm9 =>
              have H:=HA.out;clear HA;simp only [Y11.j4] at H;by_cases C73:BP2=true
              ·subst C73;rw [if_pos rfl] at H;by_cases c124:K1.length<3518437208883
               ·rw [if_pos c124] at H;have Dn0:=aM c124;clear c124;obtain ⟨CX7,BY6⟩:∃ y_:List (S75),y_=(K1 ++ [(⟨(⟨((rd_T75 E0 H8).f0.f0),((rd_T75 E0 H8).f0.f1)⟩:S38),((rd_T75 E0 H8).f1),((rd_T75 E0 H8).f2)⟩:S75)]):=⟨_,rfl⟩;(replace H:(Y11.l1 Dm9 E0 (E0.length:Int) (wrap64 (H8+1)) D0 B0 t3 CX7)=some (r1,r2,r3,r4,r5):=by first | (rw [BY6];with_reducible exact H) | (have H2_:=(Option.bind_some _ _).symm.trans H;rw [BY6];with_reducible exact H2_) | (have H2_:=(Option.bind_some _ _).symm.trans H;with_reducible exact H2_) | with_reducible exact H | (rw [BY6];exact H) | exact H);have EE8:=aM BY6;clear BY6;have H':=aM H;clear H;have hnb125:=AA7.out;have hnc125:=V7.out;have hnb126:=k6.out;have hnc126:=S3.out;have hnb127:=AG9.out;have hnc127:=V8.out;have hnb128:=AO8.out;have hnc128:=AZ9.out;have ⟨hcz129_0,hcz129_1,hfz129_0,hfz129_1⟩:=cz2_ I4.out;have hnb130:=AZ6.out;have hnc130:=AO5.out;have hnb131:=AZ7.out;have hnc131:=AO6.out;have hnb132:=AZ8.out;have hnc132:=AO7.out;have ⟨hcz133_0,hcz133_1,hcz133_2,hcz133_3,hfz133_0,hfz133_1,hfz133_2,hfz133_3⟩:=cz4_ AJ8.out;go_wp2_with (first | ((with_reducible refine gate_builtin (b:=.append) (xs:=#[.tmp 73,.tmp 75]) rfl ?_);at_builtin;refine Kd.R_append k75 (w0:=w) w.heap.size rfl (.tmp 73) (.tmp 75) 35 75 (.agg #[(.int .i64 0),(.int .i64 0),(.bool false),(.string ⟨#[]⟩)]) 40 rfl Tryz.underlying35 info75 rfl (by decide) (by omega) M0 K1 (⟨(⟨((rd_T75 E0 H8).f0.f0),((rd_T75 E0 H8).f0.f1)⟩:S38),((rd_T75 E0 H8).f1),((rd_T75 E0 H8).f2)⟩:S75) [.int .i64 ((rd_T75 E0 H8).f0.f0),.int .i64 ((rd_T75 E0 H8).f0.f1),.bool ((rd_T75 E0 H8).f1),.string ((rd_T75 E0 H8).f2)] (fun k_=>k_≠Ac0) (fun _=>False) rfl rfl ?aP (fun _ hk=>hk.elim) ?aF ?aO ?aB ?aS ?aL ?_;(case aP=>exact k75_mkM _ _ _ (⟨(⟨((rd_T75 E0 H8).f0.f0),((rd_T75 E0 H8).f0.f1)⟩:S38),((rd_T75 E0 H8).f1),((rd_T75 E0 H8).f2)⟩:S75));(case aB=>exact (z0_ HB.out));(case aF=>exact (fun k_ hk=>Kd.freshB (g:=Ac0) (o:=.cells #[.int .i64 ((rd_T75 E0 H8).f0.f0),.int .i64 ((rd_T75 E0 H8).f0.f1),.bool ((rd_T75 E0 H8).f1),.string ((rd_T75 E0 H8).f2)] 75 (0,0)) (z4_ AJ8.out) k_ hk));(case aO=>exact (z3_ E6.out));(case aS=>exact (below_size (z0_ HB.out)));(case aL=>have:=Dn0.out;omega);intro v625 w134 ho hb hg hat;rw [← EE8.out] at ho;replace F9:=aM (Kd.R_over' (z3_ F9.out) (Kd.R_typed (z3_ E6.out)) (by decide) hg);replace G7:=aM (blk_grown (g:=AU6) (o:=.cells #[.slice G0 D0.length G1,.slice J5 B0.length H0] 37 (0,0)) (z4_ G7.out) hg (Kd.R_ne E6.out G7.out (by decide)));replace H2:=aM (blk_grown (g:=AU7) (o:=.cells #[.slice U2 I0.length U3,.slice (some CX5) E0.length W3] 37 (0,0)) (z4_ H2.out) hg (Kd.R_ne E6.out H2.out (by decide)));replace H5:=aM (blk_grown (g:=AL0) (o:=.cells #[.slice none 0 0,.slice none 0 0,.int .i64 0,.int .i64 0,.int .i64 0] 53 (0,0)) (z4_ H5.out) hg (Kd.R_ne E6.out H5.out (by decide)));replace I4:=aM (blk_grown (g:=AE1) (o:=.cells #[.slice Ac6 t3.length Ac7,M0] 37 (0,0)) (z4_ I4.out) hg (Kd.R_ne E6.out I4.out (by decide)));replace AJ8:=aM (blk_grown (g:=Ac0) (o:=.cells #[.int .i64 ((rd_T75 E0 H8).f0.f0),.int .i64 ((rd_T75 E0 H8).f0.f1),.bool ((rd_T75 E0 H8).f1),.string ((rd_T75 E0 H8).f2)] 75 (0,0)) (z4_ AJ8.out) hg (Kd.R_away E6.out (fun _ hk=>hk)));replace HB:=aM (hb);have DO2:=aM (ho);clear E6;clear ho hb hg hat;obtain ⟨CX8,CX9,EE9⟩:=Kd.R_slice DO2.out;subst EE9;have ⟨hcz136_0,hcz136_1,hfz136_0,hfz136_1⟩:=cz2_ I4.out));go_roundg Dm9;(case measure=>have:=HJ2.out;have:=HK2.out;have:=HK3.out;have:=C72.out;omega);case rel=>exact ⟨(wrap64 (H8+1)),(CX7),(.slice CX8 CX7.length CX9),(z1_),H',⟨by have:=HJ2.out;have:=HK2.out;have:=HK3.out;have:=C72.out;omega⟩,⟨by (with_reducible repeat (first | apply Kd.R_alloc | apply Kd.R_drewN | apply Kd.R_drew));exact Kd.R_mono (Kd.R_far (p:=⟨AE1,1,none⟩) (Kd.R_types F9.out I4.out (by decide)) (fun _ hk=>hk.2) (.slice CX8 CX7.length CX9)) (fun _ hk=>trivial)⟩,⟨by (with_reducible repeat (first | apply Kd.R_alloc | apply Kd.R_drewN | apply Kd.R_drew));exact Kd.R_mono (Kd.R_far (p:=⟨AE1,1,none⟩) (Kd.R_types DO2.out I4.out (by decide)) (fun _ hk=>hk.2) (.slice CX8 CX7.length CX9)) (fun _ hk=>trivial)⟩,⟨z18_ V7.out G7.out⟩,⟨z18_ S3.out H2.out⟩,⟨z18_ V8.out H5.out⟩,⟨by (with_reducible repeat (first | refine blk_drewN ?_ _ | refine blk_drew ?_ | refine blk_alloc ?_ _));refine blk_put (cs:=#[.slice Ac6 t3.length Ac7,M0]) ?_ 1 _ rfl;(with_reducible repeat (first | refine blk_drewN ?_ _ | refine blk_drew ?_ | refine blk_alloc ?_ _));exact I4.out⟩,⟨z0_ HB.out⟩⟩
               ·rw [if_neg c124] at H;exact nO H
              ·replace C73:=Bool.eq_false_iff.mpr C73;subst C73;rw [if_neg (show ¬ (false=true) by decide)] at H;have H':=aM H;clear H;go_wp2;go_roundg Dm9;(case measure=>have:=HJ2.out;have:=HK2.out;have:=HK3.out;have:=C72.out;omega);case rel=>exact ⟨(wrap64 (H8+1)),(K1),(M0),(z1_),H',⟨by have:=HJ2.out;have:=HK2.out;have:=HK3.out;have:=C72.out;omega⟩,⟨z3_ F9.out⟩,⟨z52_ E6.out⟩,⟨z4_ G7.out⟩,⟨z4_ H2.out⟩,⟨z4_ H5.out⟩,⟨z4_ I4.out⟩,⟨z0_ HB.out⟩⟩
           ·rw [if_neg c91] at H;exact nO H
          ·rw [if_neg c90] at H;exact nO H
         ·rw [if_neg c89] at H;have c89b0:decide (H8<(E0.length:Int))=false:=dF c89;clear c89;have DO3:=aM H;clear H;have hnb138:=AA7.out;have hnc138:=V7.out;have hnb139:=k6.out;have hnc139:=S3.out;have hnb140:=AG9.out;have hnc140:=V8.out;have ⟨hcz141_0,hcz141_1,hfz141_0,hfz141_1⟩:=cz2_ I4.out;obtain ⟨CY0,CY1,EF0⟩:=Kd.R_slice E6.out;subst EF0;go_upto_if 82 with (fail);have H:=DO3.out;clear DO3;by_cases c143:(K1.length:Int)>8
          ·rw [if_pos c143] at H;have c143b0:decide (8<(K1.length:Int))=true:=dE c143;have c143b1:decide (8<K1.length)=true:=dE (by omega);clear c143;(first | rw [c143b0] | (simp only [i64_w,i32_w];rw [c143b0]) | skip);simp only [Option.some.injEq,Prod.mk.injEq] at H;obtain ⟨rfl,rfl,rfl,rfl,rfl⟩:=H;have hnb144:=AA6.out;have hnc144:=AA5.out;have hnb145:=k5.out;have hnc145:=k4.out;have hnb146:=V8.out;have hnc146:=AG9.out;have ⟨hcz147_0,hcz147_1,hcz147_2,hcz147_3,hcz147_4,hfz147_0,hfz147_1,hfz147_2,hfz147_3,hfz147_4⟩:=cz5_ H5.out;go_wp2;refine bodyPost_ret (results_cell_row rfl _ _ AL0 53 #[.slice none 0 0,.slice none 0 0,.int .i64 0,.int .i64 0,.int .i64 9] (0,0) _ rfl (z26_ H5.out) Tryz.underlying53 rfl (by kernel_rfl)) rfl ?_;exact ⟨_,_,z6_,z21_,z21_,z0_ HB.out⟩
          ·rw [if_neg c143] at H;have c143b0:decide (8<(K1.length:Int))=false:=dF c143;have c143b1:decide (8<K1.length)=false:=dF (by omega);clear c143;(first | rw [c143b0] | (simp only [i64_w,i32_w];rw [c143b0]) | skip);replace H:=bS H;obtain ⟨CE2,DO4,H⟩:=H;(try dsimp only at H);have ET8:=aM DO4;clear DO4;simp only [Option.some.injEq,Prod.mk.injEq] at H;obtain ⟨rfl,rfl,rfl,rfl,rfl⟩:=H;have hnb149:=AA7.out;have hnc149:=V7.out;have hnb150:=k6.out;have hnc150:=S3.out;have hnb151:=AG9.out;have hnc151:=V8.out;have ⟨hcz152_0,hcz152_1,hfz152_0,hfz152_1⟩:=cz2_ I4.out;go_wp2_with (first | ((with_reducible refine gc_ 85 ?_);refine gl_ (some 86) Tryz.func85 #[.slice CY0 K1.length CY1] ?_;(with_reducible refine (Y76.calls k3 (fun k_=>some k_=(.slice CY0 K1.length CY1:Value).ownBlock) (.slice CY0 K1.length CY1) K1 CE2 w _ ?s1 ?s2 ET8.out).mono ?_);(case s1=>repeat (first | (with_reducible first | exact HB.out | apply below_alloc | apply pw_below_drewN | apply below_drew1 | refine below_set ?_ (ao_ (by assumption))) | exact HB.out));(case s2=>exact Kd.R_tight rfl E6.out);rintro e w153 ⟨v628,rfl,ho0,hb,hkp⟩;refine ⟨_,rfl,?_⟩;replace F9:=aM (Kd.R_mono (ok':=fun k_=>True) (Kd.R_keptB ((Kd.R_apart' F9.out (Kd.R_typed E6.out) (by decide))) hkp (fun k_ hk_ hs_=>(hk_.2) hs_)) (fun k_ hk_=>trivial));replace G7:=aM (blk_kept (z4_ G7.out) hkp (fun hs_=>(fun e_=>(Kd.R_ne E6.out G7.out (by decide)) e_) hs_));replace H2:=aM (blk_kept (z4_ H2.out) hkp (fun hs_=>(fun e_=>(Kd.R_ne E6.out H2.out (by decide)) e_) hs_));replace H5:=aM (blk_kept (z4_ H5.out) hkp (fun hs_=>(fun e_=>(Kd.R_ne E6.out H5.out (by decide)) e_) hs_));replace I4:=aM (blk_kept (z4_ I4.out) hkp (fun hs_=>(fun e_=>(Kd.R_ne E6.out I4.out (by decide)) e_) hs_));have DO5:=aM (Kd.R_mono (ok':=fun k_=>True) ho0 (fun k_ hk_=>trivial));replace HB:=aM (hb);clear E6;obtain ⟨CY2,CY3,EF1⟩:=Kd.R_slice DO5.out;subst EF1;have ⟨hcz155_0,hcz155_1,hfz155_0,hfz155_1⟩:=cz2_ I4.out;have hnb156:=AA6.out;have hnc156:=AA5.out;have hnb157:=k5.out;have hnc157:=k4.out;have ⟨hcz158_0,hcz158_1,hcz158_2,hcz158_3,hcz158_4,hfz158_0,hfz158_1,hfz158_2,hfz158_3,hfz158_4⟩:=cz5_ H5.out));refine bodyPost_ret (results_cell_row rfl _ _ AL0 53 #[.slice Ac6 t3.length Ac7,.slice CY2 CE2.length CY3,.int .i64 0,.int .i64 0,.int .i64 0] (0,0) _ rfl (by (with_reducible repeat (first | refine blk_drewN ?_ _ | refine blk_drew ?_ | refine blk_alloc ?_ _));apply put5_;(with_reducible repeat (first | refine blk_drewN ?_ _ | refine blk_drew ?_ | refine blk_alloc ?_ _));refine blk_far ?_ V8.out _;(with_reducible repeat (first | refine blk_drewN ?_ _ | refine blk_drew ?_ | refine blk_alloc ?_ _));exact H5.out) Tryz.underlying53 rfl (by kernel_rfl)) rfl ?_;exact ⟨_,_,z6_,by (with_reducible repeat (first | apply Kd.R_alloc | apply Kd.R_drewN | apply Kd.R_drew));exact Kd.R_mono (rf5_ (Kd.R_far (p:=⟨AE1,1,none⟩) (Kd.R_types (Kd.R_types F9.out I4.out (by decide)) H5.out (by decide)) (fun _ hk=>hk.1.2) (.slice CY2 CE2.length CY3)) (fun _ hk=>hk.2)) (fun _ hk=>trivial),by (with_reducible repeat (first | apply Kd.R_alloc | apply Kd.R_drewN | apply Kd.R_drew));exact Kd.R_mono (rf5_ (Kd.R_far (p:=⟨AE1,1,none⟩) (Kd.R_types (Kd.R_types DO5.out I4.out (by decide)) H5.out (by decide)) (fun _ hk=>hk.1.2) (.slice CY2 CE2.length CY3)) (fun _ hk=>hk.2)) (fun _ hk=>trivial),z0_ HB.out⟩


/-! ### Y36: function 32 -/
def Y36.l0:Nat→List (S61)→Int→Int→List (S38)→List (S75)→Int→Int→Int→Option ((List (S38)) × (List (S75)) × Int × Int × Int)
 | 0,_,_,_,_,_,_,_,_=>none
 | k+1,x11,x12,x13,BP3,BP4,B27,B28,B29=>if x13<x12 then (if 0≤x13 then (if x13<(x11.length:Int) then (if (rd_T61 x11 x13).f2=true then ((Y72.f k ((rd_T61 x11 x13).f3)).bind fun Ah9=>(if Ah9.2.2.2.2=0 then ((Y11.f k BP3 BP4 Ah9.1 Ah9.2.1).bind fun Z1=>(if Z1.2.2.2.2=0 then (Y36.l0 k x11 x12 (wrap64 (x13+1)) Z1.1 Z1.2.1 Z1.2.2.1 Z1.2.2.2.1 Z1.2.2.2.2) else (some (Z1.1,Z1.2.1,Z1.2.2.1,Z1.2.2.2.1,Z1.2.2.2.2)))) else (some (([]:List (S38)),([]:List (S75)),0,0,Ah9.2.2.2.2)))) else (Y36.l0 k x11 x12 (wrap64 (x13+1)) BP3 BP4 B27 B28 B29)) else (none)) else (none)) else (some (BP3,BP4,B27,B28,B29))
def Y36.f (k:Nat) (C2:Int) (C3:Int) (C9:Bool) (C4:ByteArray) (D3:Int) (D6:Int) (C0:List (S61)) (D2:List (S38)) (D4:List (S75)) (D7:Int) (C5:Int):Option ((List (S38)) × (List (S75)) × Int × Int × Int):=Y36.l0 k C0 (C0.length:Int) 0 ([]:List (S38)) ([]:List (S75)) 0 0 0
theorem Y36.mono_l:∀ k,(∀ y0 y1 y2 y3 y4 y5 y6 y7,LeO (Y36.l0 k y0 y1 y2 y3 y4 y5 y6 y7) (Y36.l0 (k+1) y0 y1 y2 y3 y4 y5 y6 y7))
 | 0=>by intros <;> exact LeO.none _
 | k+1=>by
  have ih0:=Y36.mono_l k;have m0:=@Y72.mono;have m1:=@Y11.mono
  ·intros;unfold Y36.l0;exact mO
theorem Y36.mono:∀ a0 a1 a2 a3 a4 a5 a6 a7 a8 a9 a10 k,LeO (Y36.f k a0 a1 a2 a3 a4 a5 a6 a7 a8 a9 a10) (Y36.f (k+1) a0 a1 a2 a3 a4 a5 a6 a7 a8 a9 a10):=by
 intro a0 a1 a2 a3 a4 a5 a6 a7 a8 a9 a10 k;have m0:=@Y72.mono;have m1:=@Y11.mono;have ih0:=Y36.mono_l k;unfold Y36.f;exact mO
theorem Y36.calls {BY7:Nat} (k:Nat) (C2:Int) (C3:Int) (C9:Bool) (C4:ByteArray) (D3:Int) (D6:Int) (J4:Option Addr) (I5:Nat) (C0:List (S61)) (I7:Option Addr) (I8:Nat) (D2:List (S38)) (I9:Option Addr) (J0:Nat) (D4:List (S75)) (D7:Int) (C5:Int) (r1:List (S38)) (r2:List (S75)) (r3:Int) (r4:Int) (r5:Int) (w:World) (hgb:w.heap[BY7]? = some (.cells #[.int .i64 C2,.int .i64 C3,.bool C9,.string C4,.int .i64 D3,.int .i64 D6,.slice J4 C0.length I5,.slice I7 D2.length I8,.slice I9 D4.length J0,.int .i64 D7,.int .i64 C5] 40 (0,0))) (P2:Kd.C k61 w J4 C0.length C0) (Q3:C0.length≤I5) (P3:Kd.C k38 w I7 D2.length D2) (Q4:D2.length≤I8) (P4:Kd.C k75 w I9 D4.length D4) (Q5:D4.length≤J0) (h:Y36.f k C2 C3 C9 C4 D3 D6 C0 D2 D4 D7 C5=some (r1,r2,r3,r4,r5)) :
  Calls Tryz.prog 32 #[.pointer (some ⟨BY7,0,none⟩)] w fun e w'=>∃ v0_ v1_:Value,e = .returned (.agg #[v0_,v1_,.int .i64 r3,.int .i64 r4,.int .i64 r5])∧Kd.R k38 38 w' w.heap.size (fun _=>True) v0_ r1∧Kd.R k75 75 w' w.heap.size (fun _=>True) v1_ r2∧Below w.heap.size w w':=by
 have BQ4:=Tryz.underlying40;have BR6:=Tryz.underlying53;have BG0:=Tryz.underlying61;have AS4:=Tryz.underlying37;have N7:=aM P2;have R5:=aM Q3;clear P2 Q3;have Q6:=aM P3;have Q7:=aM Q4;clear P3 Q4;have R6:=aM P4;have R7:=aM Q5;clear P4 Q5;have HB:=aM (Below.refl w.heap.size w);have H:(Y36.l0 k C0 (C0.length:Int) 0 ([]:List (S38)) ([]:List (S75)) 0 0 0)=some (r1,r2,r3,r4,r5):=h;clear h;have H':=aM H;clear H;have V2:=aM hgb;clear hgb;go_enter Tryz.func32,Tryz.ntmps32;go_wp2_with (first | ((with_reducible refine gd_ 2 ?_);refine be_ 2 #[.slice none 0 0,.slice none 0 0,.int .i64 0,.int .i64 0,.int .i64 0] 53 ?_;intro Am6 hg w3 hbox hb;have P7:=aM (hbox);have GW631:=aM ((z7_ HB.out:w.heap.size≤Am6));have GE631:=aM ((z7_ HB.out:w.heap.size≤Am6));replace HB:=aM (below_step (z0_ HB.out) hb);have Aa0:=aM (neL_ V2.out hg);have Aa1:=aM (neG_ V2.out hg);replace V2:=aM (blkB_ V2.out hb);clear hb hbox hg) | ((with_reducible refine gd_ 3 ?_);refine be_ 3 #[.slice none 0 0,.slice none 0 0,.int .i64 0,.int .i64 0,.int .i64 0] 53 ?_;intro AJ9 hg w4 hbox hb;have V3:=aM (hbox);have GW632:=aM ((z7_ HB.out:w.heap.size≤AJ9));have GE632:=aM ((z7_ HB.out:w.heap.size≤AJ9));replace HB:=aM (below_step (z0_ HB.out) hb);have AH0:=aM (neL_ V2.out hg);have Aa2:=aM (neG_ V2.out hg);replace V2:=aM (blkB_ V2.out hb);have k7:=aM (neL_ P7.out hg);have AO9:=aM (neG_ P7.out hg);replace P7:=aM (blkB_ P7.out hb);clear hb hbox hg;have D48:=Aa2.out;have D49:=AH0.out;have B69:=AO9.out;have B70:=k7.out;have ⟨Aj4,Aj5,CP2,CP3,hcz7_4,Aj6,Aj7,CP4,CP5,hfz7_4⟩:=cz5_ V3.out;have BS2:=Aa0.out;have BS3:=Aa1.out;have ⟨t7,t8,Az5,BF3,Ba4,DS8,DS9,DT0,DT1,DT2,Cc2,t9,u2,Az6,BF4,Ba5,DT3,DT4,DT5,DT6,DT7,Cc3⟩:=cz11_ V2.out));go_loopg [13] k (fun kq v13 w'=>∃ (E4:Int) (AH1:Int) (AH2:Int) (AH3:Int) (Q0:List (S38)) (Q1:List (S75)) (k8:Int) (k9:Int) (l2:Int) (Ai0:Value) (Ai1:Value),v13 = .int .i64 E4∧Aside0 (Y36.l0 kq C0 (C0.length:Int) E4 Q0 Q1 k8 k9 l2=some (r1,r2,r3,r4,r5))∧Aside0 (kq≤k)∧Aside0 (Kd.R k38 38 w' w.heap.size (fun _=>True) Ai0 Q0)∧Aside0 (Kd.R k75 75 w' w.heap.size (fun _=>True) Ai1 Q1)∧Aside0 (w'.heap[BY7]? = some (.cells #[.int .i64 C2,.int .i64 C3,.bool C9,.string C4,.int .i64 D3,.int .i64 D6,(.slice J4 C0.length I5),(.slice I7 D2.length I8),(.slice I9 D4.length J0),.int .i64 D7,.int .i64 C5] 40 (0,0)))∧Aside0 (w'.heap[Am6]? = some (.cells #[(.slice none 0 0),(.slice none 0 0),.int .i64 AH1,.int .i64 AH2,.int .i64 AH3] 53 (0,0)))∧Aside0 (w'.heap[AJ9]? = some (.cells #[Ai0,Ai1,.int .i64 k8,.int .i64 k9,.int .i64 l2] 53 (0,0)))∧Aside0 (Below w.heap.size w w'));case atStart=>exact ⟨(0),(0),(0),(0),(([]:List (S38))),(([]:List (S75))),(0),(0),(0),(.slice none 0 0),(.slice none 0 0),(z1_),H',⟨Nat.le_refl _⟩,⟨z21_⟩,⟨z21_⟩,⟨z33_ AH0.out V2.out⟩,⟨z33_ k7.out P7.out⟩,⟨z26_ V3.out⟩,⟨z0_ HB.out⟩⟩
 case round =>
  clear H';obtain ⟨E4,AH1,AH2,AH3,Q0,Q1,k8,k9,l2,Ai0,Ai1,rfl,HA,HK1,L4,L5,V2,P7,V3,HB⟩:=hrel
  cases gk with
  | zero=>exact absurd HA.out (by simp [Y36.l0])
  | succ k1 =>
   have H:=HA.out;clear HA;simp only [Y36.l0] at H;by_cases c10:E4<(C0.length:Int)
   ·rw [if_pos c10] at H;have c10b0:decide (E4<(C0.length:Int))=true:=dE c10;clear c10;by_cases c11:0≤E4
    ·rw [if_pos c11] at H;have c11b0:decide (0≤E4)=true:=dE c11;clear c11;by_cases c12:E4<(C0.length:Int)
     ·rw [if_pos c12] at H;have c12b0:decide (E4<(C0.length:Int))=true:=dE c12;clear c12;have Ac4:=aM H;clear H;have Dn1:0≤(E4:Int):=dT (z2_);have Dn2:E4<(C0.length:Int):=dT (z2_);obtain ⟨DO6,ET9,B30,B31,B32,B33⟩:=at_T61 N7.out E4 Dn1 Dn2;cases ET9;replace B30:=wc_ HB.out B30;replace B31:=wc_ HB.out B31;replace B32:=wc_ HB.out B32;replace B33:=wc_ HB.out B33;replace Dn1:=eq_true Dn1;replace Dn2:=eq_true Dn2;go_upto_if 18 with (first | ((with_reducible refine gd_ 5 ?_);refine be_ 5 #[.int .i64 0,.int .i64 0,.bool false,.string (⟨#[]⟩:ByteArray)] 61 ?_;intro B34 hg w14 hbox hb;replace L4:=aM (Kd.R_below (z3_ L4.out) hb);replace L5:=aM (Kd.R_below (z3_ L5.out) hb);have AE2:=aM (hbox);have GW634:=aM ((z7_ HB.out:w.heap.size≤B34));have GE634:=aM ((z7_ HB.out:w.heap.size≤B34));replace HB:=aM (below_step (z0_ HB.out) hb);have Aa3:=aM (neL_ V2.out hg);have BD8:=aM (neG_ V2.out hg);replace V2:=aM (blkB_ V2.out hb);have AH4:=aM (neL_ P7.out hg);have Aa4:=aM (neG_ P7.out hg);replace P7:=aM (blkB_ P7.out hb);have AH5:=aM (neL_ V3.out hg);have Aa5:=aM (neG_ V3.out hg);replace V3:=aM (blkB_ V3.out hb);clear hb hbox hg;have BB5:=BD8.out;have BB6:=Aa3.out;have BR3:=Aa4.out;have BR4:=AH4.out;have BS5:=Aa5.out;have BS6:=AH5.out;have ⟨AR2,AR3,By0,By1,AR4,AR5,By2,By3⟩:=cz4_ AE2.out));have H:=Ac4.out;clear Ac4;obtain ⟨EF2,CY4⟩:∃ b_:Bool,b_=((rd_T61 C0 E4).f2):=⟨_,rfl⟩;(replace H:(if EF2=true then ((Y72.f k1 ((rd_T61 C0 E4).f3)).bind fun Ah9=>(if Ah9.2.2.2.2=0 then ((Y11.f k1 Q0 Q1 Ah9.1 Ah9.2.1).bind fun Z1=>(if Z1.2.2.2.2=0 then (Y36.l0 k1 C0 (C0.length:Int) (wrap64 (E4+1)) Z1.1 Z1.2.1 Z1.2.2.1 Z1.2.2.2.1 Z1.2.2.2.2) else (some (Z1.1,Z1.2.1,Z1.2.2.1,Z1.2.2.2.1,Z1.2.2.2.2)))) else (some (([]:List (S38)),([]:List (S75)),0,0,Ah9.2.2.2.2)))) else (Y36.l0 k1 C0 (C0.length:Int) (wrap64 (E4+1)) Q0 Q1 k8 k9 l2))=some (r1,r2,r3,r4,r5):=by rw [← CY4] at H;exact H);have EF3:=aM CY4;clear CY4;(try rw [← EF3.out]);by_cases c20:EF2=true
      ·subst c20;rw [if_pos rfl] at H;replace H:=bS H;obtain ⟨⟨CE7,CE8,EF4,EF5,BY8⟩,CS5,H⟩:=H;(try dsimp only at H);have A21:=aM CS5;clear CS5;have CH3:=aM H;clear H;have Bh7:=BD8.out;have Bh8:=Aa3.out;have CU9:=Aa4.out;have CV0:=AH4.out;have Bp5:=Aa5.out;have Bp6:=AH5.out;have ⟨Ae2,Ae3,As8,BO5,Ae4,Ae5,As9,BO6⟩:=cz4_ AE2.out;go_upto_if 24 with (first | ((with_reducible refine gc_ 59 ?_);refine gl_ (some 21) Tryz.func59 #[.string ((rd_T61 C0 E4).f3)] ?_;(with_reducible refine (Y72.calls k1 ((rd_T61 C0 E4).f3) CE7 CE8 EF4 EF5 BY8 _ A21.out).mono ?_);rintro e w27 ⟨v636,v639,rfl,ho0,ho1,hb⟩;refine ⟨_,rfl,?_⟩;have Am7:=aM (Kd.R_lower (Kd.R_new' ho0 (Kd.R_lt (z43_ L4.out AE2.out))) (below_size (z0_ HB.out)));replace L4:=aM (Kd.R_elder' (z43_ L4.out AE2.out) (Kd.R_base ho0) hb);have Am8:=aM (Kd.R_lower (Kd.R_new' ho1 (Kd.R_lt (z43_ L5.out AE2.out))) (below_size (z0_ HB.out)));replace L5:=aM (Kd.R_elder' (z43_ L5.out AE2.out) (Kd.R_base ho1) hb);replace V2:=aM (blk_below (g:=BY7) (o:=.cells #[.int .i64 C2,.int .i64 C3,.bool C9,.string C4,.int .i64 D3,.int .i64 D6,.slice (some DO6) C0.length I5,.slice I7 D2.length I8,.slice I9 D4.length J0,.int .i64 D7,.int .i64 C5] 40 (0,0)) (z15_ Aa3.out V2.out) hb);replace P7:=aM (blk_below (g:=Am6) (o:=.cells #[.slice none 0 0,.slice none 0 0,.int .i64 AH1,.int .i64 AH2,.int .i64 AH3] 53 (0,0)) (z15_ AH4.out P7.out) hb);replace V3:=aM (blk_below (g:=AJ9) (o:=.cells #[Ai0,Ai1,.int .i64 k8,.int .i64 k9,.int .i64 l2] 53 (0,0)) (z15_ AH5.out V3.out) hb);replace AE2:=aM (blk_below (g:=B34) (o:=.cells #[.int .i64 ((rd_T61 C0 E4).f0),.int .i64 ((rd_T61 C0 E4).f1),.bool true,.string ((rd_T61 C0 E4).f3)] 61 (0,0)) (z29_ AE2.out) hb);replace HB:=aM (below_step (z0_ HB.out) hb)) | ((with_reducible refine gd_ 6 ?_);refine be_ 6 #[.slice none 0 0,.slice none 0 0,.int .i64 0,.int .i64 0,.int .i64 0] 53 ?_;intro CY5 hg w28 hbox hb;replace L4:=aM (Kd.R_below (z3_ L4.out) hb);replace L5:=aM (Kd.R_below (z3_ L5.out) hb);replace Am7:=aM (Kd.R_below (z3_ Am7.out) hb);replace Am8:=aM (Kd.R_below (z3_ Am8.out) hb);have AD0:=aM (hbox);have GW644:=aM ((z7_ HB.out:w.heap.size≤CY5));have GE644:=aM ((z7_ HB.out:w.heap.size≤CY5));replace HB:=aM (below_step (z0_ HB.out) hb);have Aa6:=aM (neL_ V2.out hg);have Al6:=aM (neG_ V2.out hg);replace V2:=aM (blkB_ V2.out hb);have AH6:=aM (neL_ P7.out hg);have Aa7:=aM (neG_ P7.out hg);replace P7:=aM (blkB_ P7.out hb);have AP0:=aM (neL_ V3.out hg);have Aa8:=aM (neG_ V3.out hg);replace V3:=aM (blkB_ V3.out hb);have Aa9:=aM (neL_ AE2.out hg);have Al7:=aM (neG_ AE2.out hg);replace AE2:=aM (blkB_ AE2.out hb);clear hb hbox hg;obtain ⟨BY9,BB0,Dn3⟩:=Kd.R_slice Am7.out;subst Dn3;have hnb30:=Al6.out;have hnc30:=Aa6.out;have Dx5:=Aa7.out;have Dx6:=AH6.out;have CK9:=Aa8.out;have CL0:=AP0.out;have DG6:=Al7.out;have DG7:=Aa9.out;have ⟨Bk7,Bk8,Cj7,Cj8,hcz34_4,Bk9,Bl0,Cj9,Ck0,hfz34_4⟩:=cz5_ AD0.out;obtain ⟨CY6,CE9,C74⟩:=Kd.R_slice Am8.out;subst C74));have H:=CH3.out;clear CH3;by_cases c36:BY8=0
       ·rw [if_pos c36] at H;have c36b0:(BY8 == 0)=true:=beq_iff_eq.mpr c36;have c36b1:(BY8 != 0)=false:=bne_eq_false_iff_eq.mpr c36;clear c36;(first | rw [c36b0] | (simp only [i64_w,i32_w];rw [c36b0]) | skip);replace H:=bS H;obtain ⟨⟨CF0,CF1,CY7,CY8,BB1⟩,EF6,H⟩:=H;(try dsimp only at H);have A37:=aM EF6;clear EF6;have CO7:=aM H;clear H;have hnb39:=Aa2.out;have hnc39:=AH0.out;have CN8:=AO9.out;have CN9:=k7.out;have CL1:=AH5.out;have CL2:=Aa5.out;have CL3:=AP0.out;have CL4:=Aa8.out;have ⟨BH7,BH8,Cr0,Cr1,Cr2,BH9,BI0,Cr3,Cr4,Cr5⟩:=cz5_ V3.out;have ED4:=Al6.out;have ED5:=Aa6.out;have CI4:=Aa7.out;have CI5:=AH6.out;have D10:=Al7.out;have D11:=Aa9.out;have ⟨hcz47_0,hcz47_1,hcz47_2,hcz47_3,hcz47_4,hfz47_0,hfz47_1,hfz47_2,hfz47_3,hfz47_4⟩:=cz5_ AD0.out;obtain ⟨Dn4,C75,EU0⟩:=Kd.R_slice L4.out;subst EU0;obtain ⟨BU1,BN5,Dd4⟩:=Kd.R_slice L5.out;subst Dd4;go_upto_if 35 with (first | ((with_reducible refine gc_ 60 ?_);refine gl_ (some 32) Tryz.func60 #[.agg #[.slice Dn4 Q0.length C75,.slice BU1 Q1.length BN5],.agg #[.slice BY9 CE7.length BB0,.slice CY6 CE8.length CE9]] ?_;(with_reducible refine (Y11.calls k1 _ _ Q0 _ _ Q1 _ _ CE7 _ _ CE8 CF0 CF1 CY7 CY8 BB1 _ ?s1 ?s2 ?s3 ?s4 ?s5 ?s6 ?s7 ?s8 A37.out).mono ?_);(case s1=>refine (Kd.R_reads' (e:=38) (base:=w.heap.size) (ok:=fun k_=>(True∧some k_≠(.slice BY9 CE7.length BB0:Value).ownBlock)) (n:=Q0.length) (c:=C75) ?_).2.2;exact (z16_ L4.out AD0.out));(case s2=>exact (Kd.R_reads' L4.out).2.1);(case s3=>refine (Kd.R_reads' (e:=75) (base:=w.heap.size) (ok:=fun k_=>(True∧some k_≠(.slice CY6 CE8.length CE9:Value).ownBlock)) (n:=Q1.length) (c:=BN5) ?_).2.2;exact (z16_ L5.out AD0.out));(case s4=>exact (Kd.R_reads' L5.out).2.1);(case s5=>refine (Kd.R_reads' (e:=38) (base:=w.heap.size) (ok:=fun k_=>(True∧some k_≠(.slice Dn4 Q0.length C75:Value).ownBlock)) (n:=CE7.length) (c:=BB0) ?_).2.2;exact (z16_ Am7.out AD0.out));(case s6=>exact (Kd.R_reads' Am7.out).2.1);(case s7=>refine (Kd.R_reads' (e:=75) (base:=w.heap.size) (ok:=fun k_=>(True∧some k_≠(.slice BU1 Q1.length BN5:Value).ownBlock)) (n:=CE8.length) (c:=CE9) ?_).2.2;exact (z16_ Am8.out AD0.out));(case s8=>exact (Kd.R_reads' Am8.out).2.1);rintro e w50 ⟨v646,v649,rfl,ho0,ho1,hb⟩;refine ⟨_,rfl,?_⟩;have CY9:=aM (Kd.R_lower (Kd.R_new' (Kd.R_new' ho0 (Kd.R_lt (z16_ L4.out AD0.out))) (Kd.R_lt (z16_ Am7.out AD0.out))) (below_size (z0_ HB.out)));replace L4:=aM (Kd.R_elder' (z16_ L4.out AD0.out) (Kd.R_base ho0) hb);replace Am7:=aM (Kd.R_elder' (z16_ Am7.out AD0.out) (Kd.R_base ho0) hb);have CZ0:=aM (Kd.R_lower (Kd.R_new' (Kd.R_new' ho1 (Kd.R_lt (z16_ L5.out AD0.out))) (Kd.R_lt (z16_ Am8.out AD0.out))) (below_size (z0_ HB.out)));replace L5:=aM (Kd.R_elder' (z16_ L5.out AD0.out) (Kd.R_base ho1) hb);replace Am8:=aM (Kd.R_elder' (z16_ Am8.out AD0.out) (Kd.R_base ho1) hb);replace V2:=aM (blk_below (g:=BY7) (o:=.cells #[.int .i64 C2,.int .i64 C3,.bool C9,.string C4,.int .i64 D3,.int .i64 D6,.slice (some DO6) C0.length I5,.slice I7 D2.length I8,.slice I9 D4.length J0,.int .i64 D7,.int .i64 C5] 40 (0,0)) (z33_ Aa6.out V2.out) hb);replace P7:=aM (blk_below (g:=Am6) (o:=.cells #[.slice none 0 0,.slice none 0 0,.int .i64 AH1,.int .i64 AH2,.int .i64 AH3] 53 (0,0)) (z33_ AH6.out P7.out) hb);replace V3:=aM (blk_below (g:=AJ9) (o:=.cells #[.slice Dn4 Q0.length C75,.slice BU1 Q1.length BN5,.int .i64 k8,.int .i64 k9,.int .i64 l2] 53 (0,0)) (z33_ AP0.out V3.out) hb);replace AE2:=aM (blk_below (g:=B34) (o:=.cells #[.int .i64 ((rd_T61 C0 E4).f0),.int .i64 ((rd_T61 C0 E4).f1),.bool true,.string ((rd_T61 C0 E4).f3)] 61 (0,0)) (z33_ Aa9.out AE2.out) hb);replace AD0:=aM (blk_below (g:=CY5) (o:=.cells #[.slice BY9 CE7.length BB0,.slice CY6 CE8.length CE9,.int .i64 EF4,.int .i64 EF5,.int .i64 BY8] 53 (0,0)) (z26_ AD0.out) hb);replace HB:=aM (below_step (z0_ HB.out) hb);obtain ⟨C76,C77,EU1⟩:=Kd.R_slice CY9.out;subst EU1;have ⟨C19,C20,hcz52_2,hcz52_3,hcz52_4,C21,C22,hfz52_2,hfz52_3,hfz52_4⟩:=cz5_ V3.out;obtain ⟨C78,C79,EU2⟩:=Kd.R_slice CZ0.out;subst EU2));have H:=CO7.out;clear CO7;by_cases c54:BB1=0
        ·rw [if_pos c54] at H;have c54b0:(BB1 == 0)=true:=beq_iff_eq.mpr c54;have c54b1:(BB1 != 0)=false:=bne_eq_false_iff_eq.mpr c54;clear c54;(first | rw [c54b0] | (simp only [i64_w,i32_w];rw [c54b0]) | skip);have H':=aM H;clear H;go_wp2;go_roundg k1;(case measure=>have:=HK1.out;omega);case rel=>exact ⟨(wrap64 (E4+1)),(AH1),(AH2),(AH3),(CF0),(CF1),(CY7),(CY8),(BB1),(.slice C76 CF0.length C77),(.slice C78 CF1.length C79),(z1_),H',⟨by have:=HK1.out;omega⟩,⟨z28_ CY9.out V3.out⟩,⟨z28_ CZ0.out V3.out⟩,⟨z33_ AH0.out V2.out⟩,⟨z33_ k7.out P7.out⟩,⟨z26_ V3.out⟩,⟨z0_ HB.out⟩⟩
        ·rw [if_neg c54] at H;have c54b0:(BB1 == 0)=false:=beq_eq_false_iff_ne.mpr c54;have c54b1:(BB1 != 0)=true:=bne_iff_ne.mpr c54;(first | rw [c54b0] | (simp only [i64_w,i32_w];rw [c54b0]) | skip);simp only [Option.some.injEq,Prod.mk.injEq] at H;obtain ⟨rfl,rfl,rfl,rfl,rfl⟩:=H;have ED7:=Aa2.out;have ED8:=AH0.out;have ED9:=AO9.out;have EE0:=k7.out;have hnb57:=AH5.out;have hnc57:=Aa5.out;have hnb58:=AP0.out;have hnc58:=Aa8.out;have ⟨hcz59_0,hcz59_1,hcz59_2,hcz59_3,hcz59_4,hfz59_0,hfz59_1,hfz59_2,hfz59_3,hfz59_4⟩:=cz5_ V3.out;have hnb60:=Aa1.out;have hnc60:=Aa0.out;have CO8:=AH4.out;have CO9:=Aa4.out;have DH1:=AH6.out;have DH2:=Aa7.out;have ⟨BI5,BI6,Bq6,Bq7,Cl3,BI7,BI8,Bq8,Bq9,Cl4⟩:=cz5_ P7.out;go_wp2;refine bodyPost_ret (results_cell_row rfl _ _ Am6 53 #[.slice C76 CF0.length C77,.slice C78 CF1.length C79,.int .i64 CY7,.int .i64 CY8,.int .i64 BB1] (0,0) _ rfl (z61_ k7.out P7.out) Tryz.underlying53 rfl (by kernel_rfl)) rfl ?_;exact ⟨_,_,z6_,by (with_reducible repeat (first | apply Kd.R_alloc | apply Kd.R_drewN | apply Kd.R_drew));exact Kd.R_mono (rf5_ (Kd.R_far (p:=⟨AJ9,4,none⟩) (Kd.R_far (p:=⟨AJ9,3,none⟩) (Kd.R_far (p:=⟨AJ9,2,none⟩) (Kd.R_far (p:=⟨AJ9,1,none⟩) (Kd.R_far (p:=⟨AJ9,0,none⟩) (Kd.R_types (Kd.R_types CY9.out V3.out (by decide)) P7.out (by decide)) (fun _ hk=>hk.1.2) (.slice C76 CF0.length C77)) (fun _ hk=>hk.1.2) (.slice C78 CF1.length C79)) (fun _ hk=>hk.1.2) (.int .i64 CY7)) (fun _ hk=>hk.1.2) (.int .i64 CY8)) (fun _ hk=>hk.1.2) (.int .i64 BB1)) (fun _ hk=>hk.2)) (fun _ hk=>trivial),by (with_reducible repeat (first | apply Kd.R_alloc | apply Kd.R_drewN | apply Kd.R_drew));exact Kd.R_mono (rf5_ (Kd.R_far (p:=⟨AJ9,4,none⟩) (Kd.R_far (p:=⟨AJ9,3,none⟩) (Kd.R_far (p:=⟨AJ9,2,none⟩) (Kd.R_far (p:=⟨AJ9,1,none⟩) (Kd.R_far (p:=⟨AJ9,0,none⟩) (Kd.R_types (Kd.R_types CZ0.out V3.out (by decide)) P7.out (by decide)) (fun _ hk=>hk.1.2) (.slice C76 CF0.length C77)) (fun _ hk=>hk.1.2) (.slice C78 CF1.length C79)) (fun _ hk=>hk.1.2) (.int .i64 CY7)) (fun _ hk=>hk.1.2) (.int .i64 CY8)) (fun _ hk=>hk.1.2) (.int .i64 BB1)) (fun _ hk=>hk.2)) (fun _ hk=>trivial),z0_ HB.out⟩
       ·rw [if_neg c36] at H;have c36b0:(BY8 == 0)=false:=beq_eq_false_iff_ne.mpr c36;have c36b1:(BY8 != 0)=true:=bne_iff_ne.mpr c36;(first | rw [c36b0] | (simp only [i64_w,i32_w];rw [c36b0]) | skip);simp only [Option.some.injEq,Prod.mk.injEq] at H;obtain ⟨rfl,rfl,rfl,rfl,rfl⟩:=H;have CV4:=Al6.out;have CV5:=Aa6.out;have DF4:=Aa7.out;have DF5:=AH6.out;have DM8:=Aa8.out;have DM9:=AP0.out;have EE2:=Al7.out;have EE3:=Aa9.out;have ⟨Cl6,Cl7,Cl8,Cl9,Cm0,Cm1,Cm2,Cm3,Cm4,Cm5⟩:=cz5_ AD0.out;have hnb69:=Aa1.out;have hnc69:=Aa0.out;have CM9:=k7.out;have CN0:=AO9.out;have DI6:=AH4.out;have DI7:=Aa4.out;have ⟨Bm5,Bm6,hcz72_2,hcz72_3,hcz72_4,Bm7,Bm8,hfz72_2,hfz72_3,hfz72_4⟩:=cz5_ P7.out;go_wp2;refine bodyPost_ret (results_cell_row rfl _ _ Am6 53 #[.slice none 0 0,.slice none 0 0,.int .i64 0,.int .i64 0,.int .i64 BY8] (0,0) _ rfl (z61_ AH6.out P7.out) Tryz.underlying53 rfl (by kernel_rfl)) rfl ?_;exact ⟨_,_,z6_,z21_,z21_,z0_ HB.out⟩
      ·replace c20:=Bool.eq_false_iff.mpr c20;subst c20;rw [if_neg (show ¬ (false=true) by decide)] at H;have H':=aM H;clear H;go_wp2;go_roundg k1;(case measure=>have:=HK1.out;omega);case rel=>exact ⟨(wrap64 (E4+1)),(AH1),(AH2),(AH3),(Q0),(Q1),(k8),(k9),(l2),(Ai0),(Ai1),(z1_),H',⟨by have:=HK1.out;omega⟩,⟨by (with_reducible repeat (first | apply Kd.R_alloc | apply Kd.R_drewN | apply Kd.R_drew));exact Kd.R_mono (rf4_ (Kd.R_types L4.out AE2.out (by decide)) (fun _ hk=>hk.2)) (fun _ hk=>trivial)⟩,⟨by (with_reducible repeat (first | apply Kd.R_alloc | apply Kd.R_drewN | apply Kd.R_drew));exact Kd.R_mono (rf4_ (Kd.R_types L5.out AE2.out (by decide)) (fun _ hk=>hk.2)) (fun _ hk=>trivial)⟩,⟨z15_ Aa3.out V2.out⟩,⟨z15_ AH4.out P7.out⟩,⟨z15_ AH5.out V3.out⟩,⟨z0_ HB.out⟩⟩
     ·rw [if_neg c12] at H;exact nO H
    ·rw [if_neg c11] at H;exact nO H
   ·rw [if_neg c10] at H;have c10b0:decide (E4<(C0.length:Int))=false:=dF c10;clear c10;simp only [Option.some.injEq,Prod.mk.injEq] at H;obtain ⟨rfl,rfl,rfl,rfl,rfl⟩:=H;have EE6:=Aa2.out;have EE7:=AH0.out;have DF6:=AO9.out;have DF7:=k7.out;have ⟨Bm9,Bn0,Bn1,Cf2,hcz75_4,Bn2,Bn3,Bn4,Cf3,hfz75_4⟩:=cz5_ V3.out;obtain ⟨EU3,EU4,EU5⟩:=Kd.R_slice L4.out;subst EU5;have EA8:=Aa1.out;have EA9:=Aa0.out;have ⟨C32,C33,hcz78_2,hcz78_3,hcz78_4,C34,C35,hfz78_2,hfz78_3,hfz78_4⟩:=cz5_ P7.out;obtain ⟨Dn5,C80,Dn6⟩:=Kd.R_slice L5.out;subst Dn6;go_wp2;refine bodyPost_ret (results_cell_row rfl _ _ Am6 53 #[.slice EU3 Q0.length EU4,.slice Dn5 Q1.length C80,.int .i64 k8,.int .i64 k9,.int .i64 l2] (0,0) _ rfl (z26_ P7.out) Tryz.underlying53 rfl (by kernel_rfl)) rfl ?_;exact ⟨_,_,z6_,z28_ L4.out P7.out,z28_ L5.out P7.out,z0_ HB.out⟩


attribute [local go_sem high] eqA38
/-! ### Y12: function 61 -/
def Y12.l0:Nat→List (S38)→List (S38)→Int→Int→Option (Bool)
 | 0,_,_,_,_=>none
 | k+1,x0,x1,x12,x13=>if x13<x12 then (if 0≤x13 then (if x13<(x0.length:Int) then (if x13<(x1.length:Int) then (if (!(((rd_T38 x0 x13).f0) == ((rd_T38 x1 x13).f0)) || (!(((rd_T38 x0 x13).f1) == ((rd_T38 x1 x13).f1))))=true then (some false) else (Y12.l0 k x0 x1 x12 (wrap64 (x13+1)))) else (none)) else (none)) else (none)) else (some true)
def Y12.f (k:Nat) (l0:List (S38)) (l1:List (S38)):Option (Bool):=if (l0.length:Int)=(l1.length:Int) then (Y12.l0 k l0 l1 (l0.length:Int) 0) else (some false)
theorem Y12.mono_l:∀ k,(∀ y0 y1 y2 y3,LeO (Y12.l0 k y0 y1 y2 y3) (Y12.l0 (k+1) y0 y1 y2 y3))
 | 0=>by intros <;> exact LeO.none _
 | k+1=>by
  have ih0:=Y12.mono_l k
  ·intros;unfold Y12.l0;exact mO
theorem Y12.mono:∀ a0 a1 k,LeO (Y12.f k a0 a1) (Y12.f (k+1) a0 a1):=by
 intro a0 a1 k;have ih0:=Y12.mono_l k;unfold Y12.f;exact mO
theorem Y12.calls (k:Nat) (A0:Option Addr) (c0:Nat) (l0:List (S38)) (A1:Option Addr) (c1:Nat) (l1:List (S38)) (r:Bool) (w:World) (hr0:Kd.C k38 w A0 l0.length l0) (hc0:l0.length≤c0) (hr1:Kd.C k38 w A1 l1.length l1) (hc1:l1.length≤c1) (h:Y12.f k l0 l1=some r) :
  Calls Tryz.prog 61 #[.slice A0 l0.length c0,.slice A1 l1.length c1] w fun e w'=>e = .returned (.bool r)∧Drawn0 w w':=by
 have Z4:=Tryz.underlying38;have HR0:=aM hr0;have HC0:=aM hc0;clear hr0 hc0;have HR1:=aM hr1;have HC1:=aM hc1;clear hr1 hc1;have H:(if (l0.length:Int)=(l1.length:Int) then (Y12.l0 k l0 l1 (l0.length:Int) 0) else (some false))=some r:=h;clear h;by_cases c3:(l0.length:Int)=(l1.length:Int)
 ·rw [if_pos c3] at H;have c3b0:((l0.length:Int) == (l1.length:Int))=true:=beq_iff_eq.mpr c3;have c3b1:((l0.length:Int) != (l1.length:Int))=false:=bne_eq_false_iff_eq.mpr c3;(have c3b2:(l0.length == l1.length)=true:=by first | simpa using c3 | (simp at c3 ⊢;omega));clear c3;have H':=aM H;clear H;go_enter Tryz.func61,Tryz.ntmps61;go_wp2;(repeat (go_quiet (fail);try go_wp2));go_loopg [13] k (fun kq v13 w'=>∃ (E4:Int),v13 = .int .i64 E4∧Aside0 (Y12.l0 kq l0 l1 (l0.length:Int) E4=some r)∧Aside0 (kq≤k)∧Drawn0 w w');case atStart=>exact ⟨(0),(z1_),H',⟨Nat.le_refl _⟩,z9_⟩
  case round =>
   clear H';obtain ⟨E4,rfl,HA,HK1,⟨m1,rfl⟩⟩:=hrel
   cases gk with
   | zero=>exact absurd HA.out (by simp [Y12.l0])
   | succ k1 =>
    have H:=HA.out;clear HA;simp only [Y12.l0] at H;by_cases c4:E4<(l0.length:Int)
    ·rw [if_pos c4] at H;have c4b0:decide (E4<(l0.length:Int))=true:=dE c4;clear c4;by_cases c5:0≤E4
     ·rw [if_pos c5] at H;have c5b0:decide (0≤E4)=true:=dE c5;clear c5;by_cases c6:E4<(l0.length:Int)
      ·rw [if_pos c6] at H;have c6b0:decide (E4<(l0.length:Int))=true:=dE c6;clear c6;by_cases c7:E4<(l1.length:Int)
       ·rw [if_pos c7] at H;have c7b0:decide (E4<(l1.length:Int))=true:=dE c7;clear c7;by_cases c8:(!(((rd_T38 l0 E4).f0) == ((rd_T38 l1 E4).f0)) || (!(((rd_T38 l0 E4).f1) == ((rd_T38 l1 E4).f1))))=true
        ·rw [if_pos c8] at H;have c8b0:(!(((rd_T38 l0 E4).f0) == ((rd_T38 l1 E4).f0)) || (!(((rd_T38 l0 E4).f1) == ((rd_T38 l1 E4).f1))))=true:=c8;clear c8;obtain rfl:=sI H;have Be5:0≤(E4:Int):=dT (z2_);have Be6:E4<(l0.length:Int):=dT (z2_);obtain ⟨EF7,Dn7,C81,C82⟩:=at_T38 HR0.out E4 Be5 Be6;cases Dn7;replace Be5:=eq_true Be5;replace Be6:=eq_true Be6;have Be7:0≤(E4:Int):=dT (z2_);have Be8:E4<(l1.length:Int):=dT (z2_);obtain ⟨EF8,Dn8,C83,C84⟩:=at_T38 HR1.out E4 Be7 Be8;cases Dn8;replace Be7:=eq_true Be7;replace Be8:=eq_true Be8;go_wp2;(repeat (go_quiet (fail);try go_wp2));go_ret;exact ⟨z1_,z9_⟩
        ·rw [if_neg c8] at H;(have c8b0:(!(((rd_T38 l0 E4).f0) == ((rd_T38 l1 E4).f0)) || (!(((rd_T38 l0 E4).f1) == ((rd_T38 l1 E4).f1))))=false:=by simpa using c8);clear c8;have H':=aM H;clear H;have Be5:0≤(E4:Int):=dT (z2_);have Be6:E4<(l0.length:Int):=dT (z2_);obtain ⟨EF7,Dn7,C81,C82⟩:=at_T38 HR0.out E4 Be5 Be6;cases Dn7;replace Be5:=eq_true Be5;replace Be6:=eq_true Be6;have Be7:0≤(E4:Int):=dT (z2_);have Be8:E4<(l1.length:Int):=dT (z2_);obtain ⟨EF8,Dn8,C83,C84⟩:=at_T38 HR1.out E4 Be7 Be8;cases Dn8;replace Be7:=eq_true Be7;replace Be8:=eq_true Be8;go_wp2;(repeat (go_quiet (fail);try go_wp2));go_roundg k1;(case measure=>have:=HK1.out;omega);case rel=>exact ⟨(wrap64 (E4+1)),(z1_),H',⟨by have:=HK1.out;omega⟩,z9_⟩
       ·rw [if_neg c7] at H;exact nO H
      ·rw [if_neg c6] at H;exact nO H
     ·rw [if_neg c5] at H;exact nO H
    ·rw [if_neg c4] at H;have c4b0:decide (E4<(l0.length:Int))=false:=dF c4;clear c4;obtain rfl:=sI H;go_wp2;(repeat (go_quiet (fail);try go_wp2));go_ret;exact ⟨z1_,z9_⟩
 ·rw [if_neg c3] at H;have c3b0:((l0.length:Int) == (l1.length:Int))=false:=beq_eq_false_iff_ne.mpr c3;have c3b1:((l0.length:Int) != (l1.length:Int))=true:=bne_iff_ne.mpr c3;(have c3b2:(l0.length == l1.length)=false:=by first | simpa using c3 | (simp at c3 ⊢;omega));obtain rfl:=sI H;go_enter Tryz.func61,Tryz.ntmps61;go_wp2;(repeat (go_quiet (fail);try go_wp2));go_ret;exact ⟨z1_,z9_⟩


theorem eqA75 (d:Nat) (w:World) (x0 y0:Int) (x1 y1:Int) (x2 y2:Bool) (x3 y3:ByteArray) :
  (Op.equalIn (d+3) 75 (.agg #[.int .i64 x0,.int .i64 x1,.bool x2,.string x3]) (.agg #[.int .i64 y0,.int .i64 y1,.bool y2,.string y3])).run Tryz.prog w = .ok ((x0 == y0 && (x1 == y1)) && (x2 == y2 && (x3.toList == y3.toList))) w:=by
 refine eqA_of Tryz.underlying75 (by kernel_rfl) ?_;refine eqf_cons (by rfl) (by go_simp) (by go_simp) (eqA38 (d+0) w _ _ _ _) ?_;refine eqf_cons (by rfl) (by go_simp;rfl) (by go_simp;rfl) (by go_simp) ?_;exact eqf_last (by rfl) (by go_simp;rfl) (by go_simp;rfl) (by go_simp)

attribute [local go_sem high] eqA75
/-! ### Y15: function 62 -/
def Y15.l0:Nat→List (S75)→List (S75)→Int→Int→Option (Bool)
 | 0,_,_,_,_=>none
 | k+1,x0,x1,x12,x13=>if x13<x12 then (if 0≤x13 then (if x13<(x0.length:Int) then (if x13<(x1.length:Int) then (if ((!(((rd_T75 x0 x13).f0.f0) == ((rd_T75 x1 x13).f0.f0)) || (!(((rd_T75 x0 x13).f0.f1) == ((rd_T75 x1 x13).f0.f1)))) || (!(((rd_T75 x0 x13).f1) == ((rd_T75 x1 x13).f1)) || (!((((rd_T75 x0 x13).f2).toList) == (((rd_T75 x1 x13).f2).toList)))))=true then (some false) else (Y15.l0 k x0 x1 x12 (wrap64 (x13+1)))) else (none)) else (none)) else (none)) else (some true)
def Y15.f (k:Nat) (l0:List (S75)) (l1:List (S75)):Option (Bool):=if (l0.length:Int)=(l1.length:Int) then (Y15.l0 k l0 l1 (l0.length:Int) 0) else (some false)
theorem Y15.mono_l:∀ k,(∀ y0 y1 y2 y3,LeO (Y15.l0 k y0 y1 y2 y3) (Y15.l0 (k+1) y0 y1 y2 y3))
 | 0=>by intros <;> exact LeO.none _
 | k+1=>by
  have ih0:=Y15.mono_l k
  ·intros;unfold Y15.l0;exact mO
theorem Y15.mono:∀ a0 a1 k,LeO (Y15.f k a0 a1) (Y15.f (k+1) a0 a1):=by
 intro a0 a1 k;have ih0:=Y15.mono_l k;unfold Y15.f;exact mO
theorem Y15.calls (k:Nat) (A0:Option Addr) (c0:Nat) (l0:List (S75)) (A1:Option Addr) (c1:Nat) (l1:List (S75)) (r:Bool) (w:World) (hr0:Kd.C k75 w A0 l0.length l0) (hc0:l0.length≤c0) (hr1:Kd.C k75 w A1 l1.length l1) (hc1:l1.length≤c1) (h:Y15.f k l0 l1=some r) :
  Calls Tryz.prog 62 #[.slice A0 l0.length c0,.slice A1 l1.length c1] w fun e w'=>e = .returned (.bool r)∧Drawn0 w w':=by
 have AS8:=Tryz.underlying75;have HR0:=aM hr0;have HC0:=aM hc0;clear hr0 hc0;have HR1:=aM hr1;have HC1:=aM hc1;clear hr1 hc1;have H:(if (l0.length:Int)=(l1.length:Int) then (Y15.l0 k l0 l1 (l0.length:Int) 0) else (some false))=some r:=h;clear h;by_cases c3:(l0.length:Int)=(l1.length:Int)
 ·rw [if_pos c3] at H;have c3b0:((l0.length:Int) == (l1.length:Int))=true:=beq_iff_eq.mpr c3;have c3b1:((l0.length:Int) != (l1.length:Int))=false:=bne_eq_false_iff_eq.mpr c3;(have c3b2:(l0.length == l1.length)=true:=by first | simpa using c3 | (simp at c3 ⊢;omega));clear c3;have H':=aM H;clear H;go_enter Tryz.func62,Tryz.ntmps62;go_wp2;(repeat (go_quiet (fail);try go_wp2));go_loopg [13] k (fun kq v13 w'=>∃ (E4:Int),v13 = .int .i64 E4∧Aside0 (Y15.l0 kq l0 l1 (l0.length:Int) E4=some r)∧Aside0 (kq≤k)∧Drawn0 w w');case atStart=>exact ⟨(0),(z1_),H',⟨Nat.le_refl _⟩,z9_⟩
  case round =>
   clear H';obtain ⟨E4,rfl,HA,HK1,⟨m1,rfl⟩⟩:=hrel
   cases gk with
   | zero=>exact absurd HA.out (by simp [Y15.l0])
   | succ k1 =>
    have H:=HA.out;clear HA;simp only [Y15.l0] at H;by_cases c4:E4<(l0.length:Int)
    ·rw [if_pos c4] at H;have c4b0:decide (E4<(l0.length:Int))=true:=dE c4;clear c4;by_cases c5:0≤E4
     ·rw [if_pos c5] at H;have c5b0:decide (0≤E4)=true:=dE c5;clear c5;by_cases c6:E4<(l0.length:Int)
      ·rw [if_pos c6] at H;have c6b0:decide (E4<(l0.length:Int))=true:=dE c6;clear c6;by_cases c7:E4<(l1.length:Int)
       ·rw [if_pos c7] at H;have c7b0:decide (E4<(l1.length:Int))=true:=dE c7;clear c7;by_cases c8:((!(((rd_T75 l0 E4).f0.f0) == ((rd_T75 l1 E4).f0.f0)) || (!(((rd_T75 l0 E4).f0.f1) == ((rd_T75 l1 E4).f0.f1)))) || (!(((rd_T75 l0 E4).f1) == ((rd_T75 l1 E4).f1)) || (!((((rd_T75 l0 E4).f2).toList) == (((rd_T75 l1 E4).f2).toList)))))=true
        ·rw [if_pos c8] at H;have c8b0:((!(((rd_T75 l0 E4).f0.f0) == ((rd_T75 l1 E4).f0.f0)) || (!(((rd_T75 l0 E4).f0.f1) == ((rd_T75 l1 E4).f0.f1)))) || (!(((rd_T75 l0 E4).f1) == ((rd_T75 l1 E4).f1)) || (!((((rd_T75 l0 E4).f2).toList) == (((rd_T75 l1 E4).f2).toList)))))=true:=c8;clear c8;obtain rfl:=sI H;have Be9:0≤(E4:Int):=dT (z2_);have Bf0:E4<(l0.length:Int):=dT (z2_);obtain ⟨EF9,Dn9,C85,C86,C87,C88⟩:=at_T75 HR0.out E4 Be9 Bf0;cases Dn9;replace Be9:=eq_true Be9;replace Bf0:=eq_true Bf0;have Bf1:0≤(E4:Int):=dT (z2_);have Bf2:E4<(l1.length:Int):=dT (z2_);obtain ⟨EG0,Do0,C89,C90,C91,C92⟩:=at_T75 HR1.out E4 Bf1 Bf2;cases Do0;replace Bf1:=eq_true Bf1;replace Bf2:=eq_true Bf2;go_wp2;(repeat (go_quiet (fail);try go_wp2));go_ret;exact ⟨z1_,z9_⟩
        ·rw [if_neg c8] at H;(have c8b0:((!(((rd_T75 l0 E4).f0.f0) == ((rd_T75 l1 E4).f0.f0)) || (!(((rd_T75 l0 E4).f0.f1) == ((rd_T75 l1 E4).f0.f1)))) || (!(((rd_T75 l0 E4).f1) == ((rd_T75 l1 E4).f1)) || (!((((rd_T75 l0 E4).f2).toList) == (((rd_T75 l1 E4).f2).toList)))))=false:=by simpa using c8);clear c8;have H':=aM H;clear H;have Be9:0≤(E4:Int):=dT (z2_);have Bf0:E4<(l0.length:Int):=dT (z2_);obtain ⟨EF9,Dn9,C85,C86,C87,C88⟩:=at_T75 HR0.out E4 Be9 Bf0;cases Dn9;replace Be9:=eq_true Be9;replace Bf0:=eq_true Bf0;have Bf1:0≤(E4:Int):=dT (z2_);have Bf2:E4<(l1.length:Int):=dT (z2_);obtain ⟨EG0,Do0,C89,C90,C91,C92⟩:=at_T75 HR1.out E4 Bf1 Bf2;cases Do0;replace Bf1:=eq_true Bf1;replace Bf2:=eq_true Bf2;go_wp2;(repeat (go_quiet (fail);try go_wp2));go_roundg k1;(case measure=>have:=HK1.out;omega);case rel=>exact ⟨(wrap64 (E4+1)),(z1_),H',⟨by have:=HK1.out;omega⟩,z9_⟩
       ·rw [if_neg c7] at H;exact nO H
      ·rw [if_neg c6] at H;exact nO H
     ·rw [if_neg c5] at H;exact nO H
    ·rw [if_neg c4] at H;have c4b0:decide (E4<(l0.length:Int))=false:=dF c4;clear c4;obtain rfl:=sI H;go_wp2;(repeat (go_quiet (fail);try go_wp2));go_ret;exact ⟨z1_,z9_⟩
 ·rw [if_neg c3] at H;have c3b0:((l0.length:Int) == (l1.length:Int))=false:=beq_eq_false_iff_ne.mpr c3;have c3b1:((l0.length:Int) != (l1.length:Int))=true:=bne_iff_ne.mpr c3;(have c3b2:(l0.length == l1.length)=false:=by first | simpa using c3 | (simp at c3 ⊢;omega));obtain rfl:=sI H;go_enter Tryz.func62,Tryz.ntmps62;go_wp2;(repeat (go_quiet (fail);try go_wp2));go_ret;exact ⟨z1_,z9_⟩


/-! ### Y78: function 33 -/
def Y78.f (k:Nat) (D0:List (S38)) (B0:List (S75)) (I0:List (S38)) (E0:List (S75)):Option (Bool):=(Y12.f k D0 I0).bind fun CF2=>(if CF2=true then ((Y15.f k B0 E0).bind fun CZ1=>(some CZ1)) else (some false))
theorem Y78.mono:∀ a0 a1 a2 a3 k,LeO (Y78.f k a0 a1 a2 a3) (Y78.f (k+1) a0 a1 a2 a3):=by
 intro a0 a1 a2 a3 k;have m0:=@Y12.mono;have m1:=@Y15.mono;unfold Y78.f;exact mO
theorem Y78.calls (k:Nat) (G0:Option Addr) (G1:Nat) (D0:List (S38)) (J5:Option Addr) (H0:Nat) (B0:List (S75)) (U2:Option Addr) (U3:Nat) (I0:List (S38)) (i5:Option Addr) (W3:Nat) (E0:List (S75)) (r:Bool) (w:World) (O0:Kd.C k38 w G0 D0.length D0) (O1:D0.length≤G1) (O2:Kd.C k75 w J5 B0.length B0) (O3:B0.length≤H0) (AT5:Kd.C k38 w U2 I0.length I0) (AT6:I0.length≤U3) (AT7:Kd.C k75 w i5 E0.length E0) (AT8:E0.length≤W3) (h:Y78.f k D0 B0 I0 E0=some r) :
  Calls Tryz.prog 33 #[.agg #[.slice G0 D0.length G1,.slice J5 B0.length H0],.agg #[.slice U2 I0.length U3,.slice i5 E0.length W3]] w fun e w'=>e = .returned (.bool r)∧Below w.heap.size w w':=by
 have AS4:=Tryz.underlying37;have M1:=aM O0;have M2:=aM O1;clear O0 O1;have L6:=aM O2;have e9:=aM O3;clear O2 O3;have AT9:=aM AT5;have AU0:=aM AT6;clear AT5 AT6;have AK4:=aM AT7;have Af4:=aM AT8;clear AT7 AT8;have HB:=aM (Below.refl w.heap.size w);have H:((Y12.f k D0 I0).bind fun CF2=>(if CF2=true then ((Y15.f k B0 E0).bind fun CZ1=>(some CZ1)) else (some false)))=some r:=h;clear h;replace H:=bS H;obtain ⟨CF2,A30,H⟩:=H;(try dsimp only at H);have A3:=aM A30;clear A30;have HC4:=aM H;clear H;go_enter Tryz.func33,Tryz.ntmps33;go_wp2_with (first | (with_reducible refine hold_ 10 11 ?_) | ((with_reducible refine gd_ 2 ?_);refine be_ 2 #[.slice G0 D0.length G1,.slice J5 B0.length H0] 37 ?_;intro DO7 hg w5 hbox hb;have BD9:=aM (hbox);have GW658:=aM ((z8_ HB.out:w.heap.size≤DO7));have GE658:=aM ((z8_ HB.out:w.heap.size≤DO7));replace HB:=aM (below_step (z5_ HB.out) hb);clear hb hbox hg) | ((with_reducible refine gd_ 3 ?_);refine be_ 3 #[.slice U2 I0.length U3,.slice i5 E0.length W3] 37 ?_;intro DO8 hg w6 hbox hb;have DO9:=aM (hbox);have GW659:=aM ((z7_ HB.out:w.heap.size≤DO8));have GE659:=aM ((z7_ HB.out:w.heap.size≤DO8));replace HB:=aM (below_step (z0_ HB.out) hb);have BE0:=aM (neL_ BD9.out hg);have BE1:=aM (neG_ BD9.out hg);replace BD9:=aM (blkB_ BD9.out hb);clear hb hbox hg;have Cn2:=BE0.out;have Cn3:=BE1.out;have ⟨n4,n6,n7,n8⟩:=cz2_ BD9.out;have ⟨t7,t8,t9,u2⟩:=cz2_ DO9.out) | ((with_reducible refine gc_ 61 ?_);refine gl_ (some 9) Tryz.func61 #[.slice G0 D0.length G1,.slice U2 I0.length U3] ?_;(with_reducible refine (Y12.calls k _ _ D0 _ _ I0 CF2 _ ?s1 ?s2 ?s3 ?s4 A3.out).mono ?_);(case s1 =>exact zC_ (Kd.C_below M1.out HB.out));(case s2=>exact M2.out);(case s3 =>exact zC_ (Kd.C_below AT9.out HB.out));(case s4=>exact AU0.out);rintro e w' ⟨rfl,⟨nd,rfl⟩⟩;refine ⟨_,rfl,?_⟩));refine Held_.out_ ?_;have H:=HC4.out;clear HC4;by_cases c10:CF2=true
 ·subst c10;rw [if_pos rfl] at H;replace H:=bS H;obtain ⟨CZ1,AT1,H⟩:=H;(try dsimp only at H);have A11:=aM AT1;clear AT1;obtain rfl:=sI H;have DL1:=BE0.out;have DL2:=BE1.out;have ⟨AQ3,AQ4,AQ5,AQ6⟩:=cz2_ BD9.out;have ⟨AP8,AP9,AQ0,AQ1⟩:=cz2_ DO9.out;go_wp2_with (first | (go_at_call 62;(with_reducible refine (Y15.calls k _ _ B0 _ _ E0 CZ1 _ ?s1 ?s2 ?s3 ?s4 A11.out).mono ?_);(case s1 =>exact zC_ (Kd.C_below L6.out HB.out));(case s2=>exact e9.out);(case s3 =>exact zC_ (Kd.C_below AK4.out HB.out));(case s4=>exact Af4.out);rintro e w' ⟨rfl,⟨nd,rfl⟩⟩));go_ret;exact ⟨z6_,z0_ HB.out⟩
 ·replace c10:=Bool.eq_false_iff.mpr c10;subst c10;rw [if_neg (show ¬ (false=true) by decide)] at H;obtain rfl:=sI H;go_wp2;go_ret;exact ⟨z6_,z0_ HB.out⟩


/-! ### Y83: function 28 -/
def Y83.f (C2:Int) (C3:Int) (C9:Bool) (C4:ByteArray) (D8:Int) (E3:Int) (I3:Bool) (I6:ByteArray):Option (Bool):=some (C2 == D8)
theorem Y83.calls (C2:Int) (C3:Int) (C9:Bool) (C4:ByteArray) (gb1:Nat) (D8:Int) (E3:Int) (I3:Bool) (I6:ByteArray) (r:Bool) (w:World) (hk1:w.heap[gb1]? = some (.cells #[.int .i64 D8,.int .i64 E3,.bool I3,.string I6] 61 (0,0))) (h:Y83.f C2 C3 C9 C4 D8 E3 I3 I6=some r) :
  Calls Tryz.prog 28 #[.agg #[.int .i64 C2,.int .i64 C3,.bool C9,.string C4],.pointer (some ⟨gb1,0,none⟩)] w fun e w'=>e = .returned (.bool r)∧Below w.heap.size w w':=by
 have BG0:=Tryz.underlying61;have o9:=aM hk1;clear hk1;have HB:=aM (Below.refl w.heap.size w);have H:(some (C2 == D8))=some r:=h;clear h;obtain rfl:=sI H;go_enter Tryz.func28,Tryz.ntmps28;go_wp2_with (first | ((with_reducible refine gd_ 2 ?_);refine be_ 2 #[.int .i64 C2,.int .i64 C3,.bool C9,.string C4] 61 ?_;intro DP0 hg w3 hbox hb;have EG1:=aM (hbox);have GW662:=aM ((z7_ HB.out:w.heap.size≤DP0));have GE662:=aM ((z7_ HB.out:w.heap.size≤DP0));replace HB:=aM (below_step (z0_ HB.out) hb);have CZ2:=aM (neL_ o9.out hg);have CZ3:=aM (neG_ o9.out hg);replace o9:=aM (blkB_ o9.out hb);clear hb hbox hg;have D27:=CZ3.out;have D28:=CZ2.out;have ⟨AL4,AL5,Ac2,Ai6,AL6,AL7,Ac3,Ai7⟩:=cz4_ EG1.out;have ⟨Ai8,Ai9,CJ3,hcz6_3,Aj0,Aj1,CJ4,hfz6_3⟩:=cz4_ o9.out));go_ret;exact ⟨z6_,z0_ HB.out⟩


/-! ### Y2: function 54 -/
def Y2.l0:Nat→List (S61)→Int→Int→Int→Int→Bool→ByteArray→Option (Int)
 | 0,_,_,_,_,_,_,_=>none
 | k+1,x0,x7,x8,A83,A84,CZ4,CZ5=>if x8<x7 then (if 0≤x8 then (if x8<(x0.length:Int) then ((Y83.f ((rd_T61 x0 x8).f0) ((rd_T61 x0 x8).f1) ((rd_T61 x0 x8).f2) ((rd_T61 x0 x8).f3) A83 A84 CZ4 CZ5).bind fun C93=>(if C93=true then (some x8) else (Y2.l0 k x0 x7 (wrap64 (x8+1)) A83 A84 CZ4 CZ5))) else (none)) else (none)) else (some (-1))
def Y2.f (k:Nat) (l0:List (S61)) (D8:Int) (E3:Int) (I3:Bool) (I6:ByteArray):Option (Int):=Y2.l0 k l0 (l0.length:Int) 0 D8 E3 I3 I6
theorem Y2.mono_l:∀ k,(∀ y0 y1 y2 y3 y4 y5 y6,LeO (Y2.l0 k y0 y1 y2 y3 y4 y5 y6) (Y2.l0 (k+1) y0 y1 y2 y3 y4 y5 y6))
 | 0=>by intros <;> exact LeO.none _
 | k+1=>by
  have ih0:=Y2.mono_l k
  ·intros;unfold Y2.l0;exact mO
theorem Y2.mono:∀ a0 a1 a2 a3 a4 k,LeO (Y2.f k a0 a1 a2 a3 a4) (Y2.f (k+1) a0 a1 a2 a3 a4):=by
 intro a0 a1 a2 a3 a4 k;have ih0:=Y2.mono_l k;unfold Y2.f;exact mO
theorem Y2.calls (k:Nat) (A0:Option Addr) (c0:Nat) (l0:List (S61)) (gb1:Nat) (D8:Int) (E3:Int) (I3:Bool) (I6:ByteArray) (r:Int) (w:World) (hr0:Kd.C k61 w A0 l0.length l0) (hc0:l0.length≤c0) (hk1:w.heap[gb1]? = some (.cells #[.int .i64 D8,.int .i64 E3,.bool I3,.string I6] 61 (0,0))) (h:Y2.f k l0 D8 E3 I3 I6=some r) :
  Calls Tryz.prog 54 #[.slice A0 l0.length c0,.func (.func 28) #[] #[.pointer (some ⟨gb1,0,none⟩)]] w fun e w'=>e = .returned (.int .i64 r)∧Below w.heap.size w w':=by
 have BG0:=Tryz.underlying61;have HR0:=aM hr0;have HC0:=aM hc0;clear hr0 hc0;have o9:=aM hk1;clear hk1;have HB:=aM (Below.refl w.heap.size w);have H:(Y2.l0 k l0 (l0.length:Int) 0 D8 E3 I3 I6)=some r:=h;clear h;have H':=aM H;clear H;go_enter Tryz.func54,Tryz.ntmps54;go_wp2;go_loopg [8] k (fun kq v8 w'=>∃ (H4:Int),v8 = .int .i64 H4∧Aside0 (Y2.l0 kq l0 (l0.length:Int) H4 D8 E3 I3 I6=some r)∧Aside0 (kq≤k)∧Aside0 (w'.heap[gb1]? = some (.cells #[.int .i64 D8,.int .i64 E3,.bool I3,.string I6] 61 (0,0)))∧Aside0 (Below w.heap.size w w'));case atStart=>exact ⟨(0),(z1_),H',⟨Nat.le_refl _⟩,⟨z4_ o9.out⟩,⟨z0_ HB.out⟩⟩
 case round =>
  clear H';obtain ⟨H4,rfl,HA,HK1,o9,HB⟩:=hrel
  cases gk with
  | zero=>exact absurd HA.out (by simp [Y2.l0])
  | succ k1 =>
   have H:=HA.out;clear HA;simp only [Y2.l0] at H;by_cases c3:H4<(l0.length:Int)
   ·rw [if_pos c3] at H;have c3b0:decide (H4<(l0.length:Int))=true:=dE c3;clear c3;by_cases c4:0≤H4
    ·rw [if_pos c4] at H;have c4b0:decide (0≤H4)=true:=dE c4;clear c4;by_cases c5:H4<(l0.length:Int)
     ·rw [if_pos c5] at H;have c5b0:decide (H4<(l0.length:Int))=true:=dE c5;clear c5;replace H:=bS H;obtain ⟨C93,A60,H⟩:=H;(try dsimp only at H);have A6:=aM A60;clear A60;have HC7:=aM H;clear H;have Do1:0≤(H4:Int):=dT (z2_);have Do2:H4<(l0.length:Int):=dT (z2_);obtain ⟨ad663,EU6,B35,B36,B37,B38⟩:=at_T61 HR0.out H4 Do1 Do2;cases EU6;replace B35:=wc_ HB.out B35;replace B36:=wc_ HB.out B36;replace B37:=wc_ HB.out B37;replace B38:=wc_ HB.out B38;replace Do1:=eq_true Do1;replace Do2:=eq_true Do2;go_upto_if 16 with (first | (go_at_call 28;(with_reducible refine (Y83.calls ((rd_T61 l0 H4).f0) ((rd_T61 l0 H4).f1) ((rd_T61 l0 H4).f2) ((rd_T61 l0 H4).f3) gb1 D8 E3 I3 I6 C93 _ ?s1 A6.out).mono ?_);(case s1=>(with_reducible repeat (first | refine blk_drewN ?_ _ | refine blk_drew ?_ | refine blk_alloc ?_ _));exact o9.out);rintro e w8 ⟨rfl,hb⟩;replace o9:=aM (blkB_ o9.out hb);replace HB:=aM (below_step (z0_ HB.out) hb)));have H:=HC7.out;clear HC7;by_cases c9:C93=true
      ·subst c9;rw [if_pos rfl] at H;obtain rfl:=sI H;go_wp2;go_ret;exact ⟨z6_,z0_ HB.out⟩
      ·replace c9:=Bool.eq_false_iff.mpr c9;subst c9;rw [if_neg (show ¬ (false=true) by decide)] at H;have H':=aM H;clear H;go_wp2;go_roundg k1;(case measure=>have:=HK1.out;omega);case rel=>exact ⟨(wrap64 (H4+1)),(z1_),H',⟨by have:=HK1.out;omega⟩,⟨z4_ o9.out⟩,⟨z0_ HB.out⟩⟩
     ·rw [if_neg c5] at H;exact nO H
    ·rw [if_neg c4] at H;exact nO H
   ·rw [if_neg c3] at H;have c3b0:decide (H4<(l0.length:Int))=false:=dF c3;clear c3;obtain rfl:=sI H;go_wp2;go_ret;exact ⟨z6_,z0_ HB.out⟩


/-! ### Y25: function 27 -/
def Y25.f (k:Nat) (l0:List (S61)) (D8:Int) (E3:Int) (I3:Bool) (I6:ByteArray):Option (Bool):=(Y2.f k l0 D8 E3 I3 I6).bind fun CZ6=>(some (decide (CZ6≥0)))
theorem Y25.mono:∀ a0 a1 a2 a3 a4 k,LeO (Y25.f k a0 a1 a2 a3 a4) (Y25.f (k+1) a0 a1 a2 a3 a4):=by
 intro a0 a1 a2 a3 a4 k;have m0:=@Y2.mono;unfold Y25.f;exact mO
theorem Y25.calls (k:Nat) (A0:Option Addr) (c0:Nat) (l0:List (S61)) (gb1:Nat) (D8:Int) (E3:Int) (I3:Bool) (I6:ByteArray) (r:Bool) (w:World) (hr0:Kd.C k61 w A0 l0.length l0) (hc0:l0.length≤c0) (hk1:w.heap[gb1]? = some (.cells #[.int .i64 D8,.int .i64 E3,.bool I3,.string I6] 61 (0,0))) (h:Y25.f k l0 D8 E3 I3 I6=some r) :
  Calls Tryz.prog 27 #[.slice A0 l0.length c0,.func (.func 28) #[] #[.pointer (some ⟨gb1,0,none⟩)]] w fun e w'=>e = .returned (.bool r)∧Below w.heap.size w w':=by
 have HR0:=aM hr0;have HC0:=aM hc0;clear hr0 hc0;have o9:=aM hk1;clear hk1;have HB:=aM (Below.refl w.heap.size w);have H:((Y2.f k l0 D8 E3 I3 I6).bind fun CZ6=>(some (decide (CZ6≥0))))=some r:=h;clear h;replace H:=bS H;obtain ⟨CZ6,A30,H⟩:=H;(try dsimp only at H);have A3:=aM A30;clear A30;obtain rfl:=sI H;go_enter Tryz.func27,Tryz.ntmps27;go_wp2_with (first | ((with_reducible refine gc_ 54 ?_);refine gl_ (some 7) Tryz.func54 #[.slice A0 l0.length c0,.func (.func 28) #[] #[.pointer (some ⟨gb1,0,none⟩)]] ?_;(with_reducible refine (Y2.calls k _ _ l0 gb1 D8 E3 I3 I6 CZ6 _ ?s1 ?s2 ?s3 A3.out).mono ?_);(case s1 =>exact zC_ (HR0.out));(case s2=>exact HC0.out);(case s3=>(with_reducible repeat (first | refine blk_drewN ?_ _ | refine blk_drew ?_ | refine blk_alloc ?_ _));exact o9.out);rintro e w4 ⟨rfl,hb⟩;refine ⟨_,rfl,?_⟩;replace o9:=aM (blkB_ o9.out hb);replace HB:=aM (below_step (z0_ HB.out) hb)));go_ret;exact ⟨z6_,z0_ HB.out⟩


attribute [local go_sem high] eqA38
/-! ### Y3: function 7 -/
mutual
def Y3.j0:Nat→Bool→Int→Int→Bool→ByteArray→Int→Int→List (S61)→List (S38)→List (S75)→Int→Int→Option (Bool)
 | 0,_,_,_,_,_,_,_,_,_,_,_,_=>none
 | k+1,x46,p9,q5,d6,q6,q9,t2,U5,X4,d7,X5,X6=>if x46=true then (some false) else (Y3.l0 k U5 (U5.length:Int) 0 p9 q5 d6 q6 q9 t2 U5 X4 d7 X5 X6)
def Y3.l0:Nat→List (S61)→Int→Int→Int→Int→Bool→ByteArray→Int→Int→List (S61)→List (S38)→List (S75)→Int→Int→Option (Bool)
 | 0,_,_,_,_,_,_,_,_,_,_,_,_,_,_=>none
 | k+1,x48,x49,x50,p9,q5,d6,q6,q9,t2,U5,X4,d7,X5,X6=>if x50<x49 then (if 0≤x50 then (if x50<(x48.length:Int) then ((Y64.f ((rd_T61 x48 x50).f0)).bind fun C94=>(if C94=true then ((Y64.f ((rd_T61 x48 x50).f1)).bind fun C95=>(if C95=true then (if x50≤(U5.length:Int) then ((Y25.f k (U5.take (x50:Int).toNat) ((rd_T61 x48 x50).f0) ((rd_T61 x48 x50).f1) ((rd_T61 x48 x50).f2) ((rd_T61 x48 x50).f3)).bind fun CF3=>(if CF3=true then (Y3.j2 k x48 x49 x50 true p9 q5 d6 q6 q9 t2 U5 X4 d7 X5 X6) else (if ((rd_T61 x48 x50).f2=true) then (if d6=true then (Y3.j2 k x48 x49 x50 false p9 q5 d6 q6 q9 t2 U5 X4 d7 X5 X6) else (Y3.j2 k x48 x49 x50 (((rd_T61 x48 x50).f3).toList != ([]:List UInt8)) p9 q5 d6 q6 q9 t2 U5 X4 d7 X5 X6)) else (Y3.j2 k x48 x49 x50 (((rd_T61 x48 x50).f3).toList != ([]:List UInt8)) p9 q5 d6 q6 q9 t2 U5 X4 d7 X5 X6)))) else (none)) else (Y3.j2 k x48 x49 x50 true p9 q5 d6 q6 q9 t2 U5 X4 d7 X5 X6))) else (Y3.j2 k x48 x49 x50 true p9 q5 d6 q6 q9 t2 U5 X4 d7 X5 X6))) else (none)) else (none)) else ((Y7.f k X4 d7).bind fun C96=>(if C96=true then (if d6=true then ((Y36.f k p9 q5 d6 q6 q9 t2 U5 X4 d7 X5 X6).bind fun CZ7=>(if (X5 == 0 && (X6 == 0))=true then (if CZ7.2.2.2.2=0 then ((Y78.f k CZ7.1 CZ7.2.1 X4 d7).bind fun Do3=>(some Do3)) else (some false)) else (some false))) else ((Y73.f X5 X6).bind fun C97=>(if C97=true then ((Y47.f k X4 X5 X6).bind fun Do4=>(some Do4)) else (some false)))) else (some false)))
def Y3.j2:Nat→List (S61)→Int→Int→Bool→Int→Int→Bool→ByteArray→Int→Int→List (S61)→List (S38)→List (S75)→Int→Int→Option (Bool)
 | 0,_,_,_,_,_,_,_,_,_,_,_,_,_,_,_=>none
 | k+1,x48,x49,x50,x87,p9,q5,d6,q6,q9,t2,U5,X4,d7,X5,X6=>if x87=true then (some false) else (Y3.l0 k x48 x49 (wrap64 (x50+1)) p9 q5 d6 q6 q9 t2 U5 X4 d7 X5 X6)
end
def Y3.f (k:Nat) (C2:Int) (C3:Int) (C9:Bool) (C4:ByteArray) (D3:Int) (D6:Int) (C0:List (S61)) (D2:List (S38)) (D4:List (S75)) (D7:Int) (C5:Int):Option (Bool):=(Y34.f C2 1 1000000).bind fun CZ8=>(if CZ8=true then ((Y64.f C3).bind fun CZ9=>(if CZ9=true then ((Y64.f D3).bind fun Ca0=>(if Ca0=true then ((Y19.f k C4).bind fun Ca1=>(if Ca1=true then ((Y34.f D6 1 6).bind fun BP5=>(if BP5=true then ((Y34.f (C0.length:Int) 1 5).bind fun BP6=>(if BP6=true then ((Y42.f k C2 C3 C9 C4 D3 D6 C0 D2 D4 D7 C5).bind fun BB2=>(Y3.j0 k (decide (BB2>D3)) C2 C3 C9 C4 D3 D6 C0 D2 D4 D7 C5)) else (Y3.j0 k true C2 C3 C9 C4 D3 D6 C0 D2 D4 D7 C5))) else (Y3.j0 k true C2 C3 C9 C4 D3 D6 C0 D2 D4 D7 C5))) else (Y3.j0 k true C2 C3 C9 C4 D3 D6 C0 D2 D4 D7 C5))) else (Y3.j0 k true C2 C3 C9 C4 D3 D6 C0 D2 D4 D7 C5))) else (Y3.j0 k true C2 C3 C9 C4 D3 D6 C0 D2 D4 D7 C5))) else (Y3.j0 k true C2 C3 C9 C4 D3 D6 C0 D2 D4 D7 C5))
theorem Y3.mono_l:∀ k,(∀ y0 y1 y2 y3 y4 y5 y6 y7 y8 y9 y10 y11,LeO (Y3.j0 k y0 y1 y2 y3 y4 y5 y6 y7 y8 y9 y10 y11) (Y3.j0 (k+1) y0 y1 y2 y3 y4 y5 y6 y7 y8 y9 y10 y11))∧(∀ y0 y1 y2 y3 y4 y5 y6 y7 y8 y9 y10 y11 y12 y13,LeO (Y3.l0 k y0 y1 y2 y3 y4 y5 y6 y7 y8 y9 y10 y11 y12 y13) (Y3.l0 (k+1) y0 y1 y2 y3 y4 y5 y6 y7 y8 y9 y10 y11 y12 y13))∧(∀ y0 y1 y2 y3 y4 y5 y6 y7 y8 y9 y10 y11 y12 y13 y14,LeO (Y3.j2 k y0 y1 y2 y3 y4 y5 y6 y7 y8 y9 y10 y11 y12 y13 y14) (Y3.j2 (k+1) y0 y1 y2 y3 y4 y5 y6 y7 y8 y9 y10 y11 y12 y13 y14))
 | 0=>by refine ⟨?_,?_,?_⟩ <;> intros <;> exact LeO.none _
 | k+1=>by
  obtain ⟨ih0,ih1,ih2⟩:=Y3.mono_l k;have m0:=@Y19.mono;have m1:=@Y42.mono;have m2:=@Y36.mono;have m3:=@Y7.mono;have m4:=@Y78.mono;have m5:=@Y47.mono;have m6:=@Y25.mono;refine ⟨?_,?_,?_⟩
  ·intros;unfold Y3.j0;exact mO
  ·intros;unfold Y3.l0;exact mO
  ·intros;unfold Y3.j2;exact mO
theorem Y3.mono:∀ a0 a1 a2 a3 a4 a5 a6 a7 a8 a9 a10 k,LeO (Y3.f k a0 a1 a2 a3 a4 a5 a6 a7 a8 a9 a10) (Y3.f (k+1) a0 a1 a2 a3 a4 a5 a6 a7 a8 a9 a10):=by
 intro a0 a1 a2 a3 a4 a5 a6 a7 a8 a9 a10 k;have m0:=@Y19.mono;have m1:=@Y42.mono;have m2:=@Y36.mono;have m3:=@Y7.mono;have m4:=@Y78.mono;have m5:=@Y47.mono;have m6:=@Y25.mono;obtain ⟨ih0,ih1,ih2⟩:=Y3.mono_l k;unfold Y3.f;exact mO
def Y3.T1:Bool × List (List Nat × List Nat):=(true,[([],[]),([0],[0]),([1],[1]),([2],[2]),([3,2],[3]),([4],[4]),([5,4],[4,5]),([6,4,4],[4,6]),([7,4],[4,7]),([4,8],[4,8]),([9,7],[9]),([10],[10]),([11,10],[10,11]),([12,10,10],[10,12]),([13,10],[10,13]),([10,14],[10,14]),([15,13],[15]),([16],[16]),([17,16],[16,17]),([18,16,16],[16,18]),([19,16],[16,19]),([16,20],[16,20]),([21,19],[21]),([22],[22]),([23,22],[22,23]),([24,22,22],[22,24]),([25,22],[22,25]),([22,26],[22,26]),([27,25],[27]),([28],[28]),([29,28],[28,29]),([30,28],[28,30]),([31,28,28],[28,31]),([32,28],[28,32]),([28,33],[28,33]),([34,32],[34]),([35,35],[35]),([35],[35]),([37,35],[35,37]),([36,38,35],[35,36,38]),([35,39],[35,39])])
def Y3.B1:List Nat:=[0,1,3,7,15,31,63,127,255,511,1023,2047,4095,8191,16383,32767,65535,131071,262143,524287,1048575,2097151,4194303,8388607,16777215,33554431,67108863,134217727,268435455,536870911,1073741823,2147483647,4294967295,8589934591,17179869183,34359738367,68719476735,68719476735,206158430207,549755813887,1099511627775]
theorem Y3.tab1:rtab .any (opsOf Tryz.f7 1)=Y3.T1:=by kernel_rfl
theorem Y3.bits1:waitsOk Y3.T1.2 Y3.B1=true:=by kernel_rfl
theorem Y3.calls (k:Nat) (C2:Int) (C3:Int) (C9:Bool) (C4:ByteArray) (D3:Int) (D6:Int) (J4:Option Addr) (I5:Nat) (C0:List (S61)) (I7:Option Addr) (I8:Nat) (D2:List (S38)) (I9:Option Addr) (J0:Nat) (D4:List (S75)) (D7:Int) (C5:Int) (r:Bool) (w:World) (P2:Kd.C k61 w J4 C0.length C0) (Q3:C0.length≤I5) (P3:Kd.C k38 w I7 D2.length D2) (Q4:D2.length≤I8) (P4:Kd.C k75 w I9 D4.length D4) (Q5:D4.length≤J0) (h:Y3.f k C2 C3 C9 C4 D3 D6 C0 D2 D4 D7 C5=some r) :
  Calls Tryz.prog 7 #[.agg #[.int .i64 C2,.int .i64 C3,.bool C9,.string C4,.int .i64 D3,.int .i64 D6,.slice J4 C0.length I5,.slice I7 D2.length I8,.slice I9 D4.length J0,.int .i64 D7,.int .i64 C5]] w fun e w'=>e = .returned (.bool r)∧Below w.heap.size w w':=by
 have BQ4:=Tryz.underlying40;have BG0:=Tryz.underlying61;have AS4:=Tryz.underlying37;have Z4:=Tryz.underlying38;have BR6:=Tryz.underlying53;have N7:=aM P2;have R5:=aM Q3;clear P2 Q3;have Q6:=aM P3;have Q7:=aM Q4;clear P3 Q4;have R6:=aM P4;have R7:=aM Q5;clear P4 Q5;have HB:=aM (Below.refl w.heap.size w);have H:((Y34.f C2 1 1000000).bind fun CZ8=>(if CZ8=true then ((Y64.f C3).bind fun CZ9=>(if CZ9=true then ((Y64.f D3).bind fun Ca0=>(if Ca0=true then ((Y19.f k C4).bind fun Ca1=>(if Ca1=true then ((Y34.f D6 1 6).bind fun BP5=>(if BP5=true then ((Y34.f (C0.length:Int) 1 5).bind fun BP6=>(if BP6=true then ((Y42.f k C2 C3 C9 C4 D3 D6 C0 D2 D4 D7 C5).bind fun BB2=>(Y3.j0 k (decide (BB2>D3)) C2 C3 C9 C4 D3 D6 C0 D2 D4 D7 C5)) else (Y3.j0 k true C2 C3 C9 C4 D3 D6 C0 D2 D4 D7 C5))) else (Y3.j0 k true C2 C3 C9 C4 D3 D6 C0 D2 D4 D7 C5))) else (Y3.j0 k true C2 C3 C9 C4 D3 D6 C0 D2 D4 D7 C5))) else (Y3.j0 k true C2 C3 C9 C4 D3 D6 C0 D2 D4 D7 C5))) else (Y3.j0 k true C2 C3 C9 C4 D3 D6 C0 D2 D4 D7 C5))) else (Y3.j0 k true C2 C3 C9 C4 D3 D6 C0 D2 D4 D7 C5)))=some r:=h;clear h;have HC2:=aM H;clear H;go_enter Tryz.func7,Tryz.ntmps7;go_upto_region 1 with (first | ((with_reducible refine gd_ 1 ?_);(try (refine gate_guard (by rfl) ?_;dsimp only));refine be_ 1 #[.int .i64 C2,.int .i64 C3,.bool C9,.string C4,.int .i64 D3,.int .i64 D6,.slice J4 C0.length I5,.slice I7 D2.length I8,.slice I9 D4.length J0,.int .i64 D7,.int .i64 C5] 40 ?_;intro Ai2 hg w3 hbox hb;have E7:=aM (hbox);have GW666:=aM ((z8_ HB.out:w.heap.size≤Ai2));have GE666:=aM ((z8_ HB.out:w.heap.size≤Ai2));replace HB:=aM (below_step (z5_ HB.out) hb);clear hb hbox hg));(try simp only [Act.put,sa_,s0_,ss_]);go_cut [46] (fun v46 wc=>∃ (kq:Nat) (B39:Bool),v46 = .bool B39∧Aside0 (Y3.j0 kq B39 C2 C3 C9 C4 D3 D6 C0 D2 D4 D7 C5=some r)∧Aside0 (kq≤k)∧Aside0 (wc.heap[Ai2]? = some (.cells #[.int .i64 C2,.int .i64 C3,.bool C9,.string C4,.int .i64 D3,.int .i64 D6,(.slice J4 C0.length I5),(.slice I7 D2.length I8),(.slice I9 D4.length J0),.int .i64 D7,.int .i64 C5] 40 (0,0)))∧Aside0 (Below w.heap.size w wc))
 case first=>as_aux_lemma =>
  have H:=HC2.out;clear HC2;replace H:=bS H;obtain ⟨CZ8,A40,H⟩:=H;(try dsimp only at H);have A4:=aM A40;clear A40;by_cases c5:CZ8=true
  ·subst c5;rw [if_pos rfl] at H;replace H:=bS H;obtain ⟨CZ9,A60,H⟩:=H;(try dsimp only at H);have A6:=aM A60;clear A60;by_cases c7:CZ9=true
   ·subst c7;rw [if_pos rfl] at H;replace H:=bS H;obtain ⟨Ca0,A80,H⟩:=H;(try dsimp only at H);have A8:=aM A80;clear A80;by_cases c9:Ca0=true
    ·subst c9;rw [if_pos rfl] at H;replace H:=bS H;obtain ⟨Ca1,AT0,H⟩:=H;(try dsimp only at H);have A10:=aM AT0;clear AT0;by_cases c11:Ca1=true
     ·subst c11;rw [if_pos rfl] at H;replace H:=bS H;obtain ⟨BP5,Az7,H⟩:=H;(try dsimp only at H);have A12:=aM Az7;clear Az7;by_cases c13:BP5=true
      ·subst c13;rw [if_pos rfl] at H;replace H:=bS H;obtain ⟨BP6,BY4,H⟩:=H;(try dsimp only at H);have A14:=aM BY4;clear BY4;by_cases c15:BP6=true
       ·subst c15;rw [if_pos rfl] at H;replace H:=bS H;obtain ⟨BB2,CU8,H⟩:=H;(try dsimp only at H);have A16:=aM CU8;clear CU8;have H':=aM H;clear H;(try go_wp2);replace E7:=aM (blk_drew E7.out);replace HB:=aM (below_drew1 HB.out);generalize hd_:w3.drew=w17 at E7 HB;refine st11_ 41 hd_ E7.out (fun hHeld=>?_);clear hd_;refine with_tabW Y3.tab1 Y3.bits1 (fun HT_ HW_=>?_);(iterate 2 first | refine pa_ HT_.out ?_ | refine ta11_ HT_.out HW_.out hHeld ?_);refine oa_ HT_.out (fun K hK=>?_);refine gs_ Tryz.func23 #[.int .i64 C2,.int .i64 1,.int .i64 1000000] ?_;(with_reducible refine (Y34.calls C2 1 1000000 true _ A4.out).mono ?_);rintro e w' ⟨rfl,⟨nd,rfl⟩⟩;refine ⟨_,rfl,?_⟩;refine hK.out _ _ (cc11_ E7.out) (fun hHeld=>?_);clear hK K;refine nm_ 8 ?_;(iterate 4 first | refine pa_ HT_.out ?_ | refine ta11_ HT_.out HW_.out hHeld ?_);refine oa_ HT_.out (fun K hK=>?_);refine gs_ Tryz.func24 #[.int .i64 C3] ?_;(with_reducible refine (Y64.calls C3 true _ A6.out).mono ?_);rintro e w' ⟨rfl,⟨nd,rfl⟩⟩;refine ⟨_,rfl,?_⟩;refine hK.out _ _ (cc11_ E7.out) (fun hHeld=>?_);clear hK K;refine nm_ 13 ?_;(iterate 5 first | refine pa_ HT_.out ?_ | refine ta11_ HT_.out HW_.out hHeld ?_);refine oa_ HT_.out (fun K hK=>?_);refine gs_ Tryz.func24 #[.int .i64 D3] ?_;(with_reducible refine (Y64.calls D3 true _ A8.out).mono ?_);rintro e w' ⟨rfl,⟨nd,rfl⟩⟩;refine ⟨_,rfl,?_⟩;refine hK.out _ _ (cc11_ E7.out) (fun hHeld=>?_);clear hK K;refine nm_ 19 ?_;(iterate 5 first | refine pa_ HT_.out ?_ | refine ta11_ HT_.out HW_.out hHeld ?_);refine oa_ HT_.out (fun K hK=>?_);refine gs_ Tryz.func25 #[.string C4] ?_;(with_reducible refine (Y19.calls k C4 true _ A10.out).mono ?_);rintro e w' ⟨rfl,⟨nd,rfl⟩⟩;refine ⟨_,rfl,?_⟩;refine hK.out _ _ (cc11_ E7.out) (fun hHeld=>?_);clear hK K;refine nm_ 25 ?_;(iterate 5 first | refine pa_ HT_.out ?_ | refine ta11_ HT_.out HW_.out hHeld ?_);refine oa_ HT_.out (fun K hK=>?_);refine gs_ Tryz.func23 #[.int .i64 D6,.int .i64 1,.int .i64 6] ?_;(with_reducible refine (Y34.calls D6 1 6 true _ A12.out).mono ?_);rintro e w' ⟨rfl,⟨nd,rfl⟩⟩;refine ⟨_,rfl,?_⟩;refine hK.out _ _ (cc11_ E7.out) (fun hHeld=>?_);clear hK K;refine nm_ 31 ?_;(iterate 6 first | refine pa_ HT_.out ?_ | refine ta11_ HT_.out HW_.out hHeld ?_);refine oa_ HT_.out (fun K hK=>?_);refine gs_ Tryz.func23 #[.int .i64 (C0.length:Int),.int .i64 1,.int .i64 5] ?_;(with_reducible refine (Y34.calls (C0.length:Int) 1 5 true _ A14.out).mono ?_);rintro e w' ⟨rfl,⟨nd,rfl⟩⟩;refine ⟨_,rfl,?_⟩;refine hK.out _ _ (cc11_ E7.out) (fun hHeld=>?_);clear hK K;refine nm_ 38 ?_;(iterate 3 refine pa_ HT_.out ?_);refine pu_ 37 43 #[I,I,I,I,I,I,I,I,I,I,I,I,I,I,I,I,I,I,I,I,I,I,I,I,I,I,I,I,I,I,I,I,I,I,I,I,O,I,O,O,O] HT_.out ?_;refine tk11_ 38 44 #[I,I,I,I,I,I,I,I,I,I,I,I,I,I,I,I,I,I,I,I,I,I,I,I,I,I,I,I,I,I,I,I,I,I,I,I,O,I,I,O,O] HT_.out HW_.out hHeld ?_;refine o1_ 36 42 (nq 41 39) HT_.out (fun K hK=>?_);refine gs_ Tryz.func26 #[.pointer (some ⟨Ai2,0,none⟩)] ?_;(with_reducible refine (Y42.calls k C2 C3 C9 C4 D3 D6 _ _ C0 _ _ D2 _ _ D4 D7 C5 BB2 _ (z4_ E7.out) ?s1 ?s2 ?s3 ?s4 ?s5 ?s6 A16.out).mono ?_);(case s1 =>exact zC_ (Kd.C_below N7.out (z0_ HB.out)));(case s2=>exact R5.out);(case s3 =>exact zC_ (Kd.C_below Q6.out (z0_ HB.out)));(case s4=>exact Q7.out);(case s5 =>exact zC_ (Kd.C_below R6.out (z0_ HB.out)));(case s6=>exact R7.out);rintro e w18 ⟨rfl,hb⟩;refine ⟨_,rfl,?_⟩;replace E7:=aM (blkB_ E7.out hb);replace HB:=aM (below_step (z0_ HB.out) hb);refine hK.out _ _ (cc11_ E7.out) (fun hHeld=>?_);clear hK K;refine nm_ 42 ?_;(iterate 2 refine pa_ HT_.out ?_);refine done_ (done_of HT_.out (by kernel_rfl)) ?_;(try go_wp2);go_meet;case rel=>exact ⟨_,(decide (BB2>D3)),(z1_),H',⟨by first | omega | exact Nat.le_refl _⟩,⟨z4_ E7.out⟩,⟨z0_ HB.out⟩⟩
       ·replace c15:=Bool.eq_false_iff.mpr c15;subst c15;rw [if_neg (show ¬ (false=true) by decide)] at H;have H':=aM H;clear H;(try go_wp2);replace E7:=aM (blk_drew E7.out);replace HB:=aM (below_drew1 HB.out);generalize hd_:w3.drew=w19 at E7 HB;refine st11_ 41 hd_ E7.out (fun hHeld=>?_);clear hd_;refine with_tabW Y3.tab1 Y3.bits1 (fun HT_ HW_=>?_);(iterate 2 first | refine pa_ HT_.out ?_ | refine ta11_ HT_.out HW_.out hHeld ?_);refine oa_ HT_.out (fun K hK=>?_);refine gs_ Tryz.func23 #[.int .i64 C2,.int .i64 1,.int .i64 1000000] ?_;(with_reducible refine (Y34.calls C2 1 1000000 true _ A4.out).mono ?_);rintro e w' ⟨rfl,⟨nd,rfl⟩⟩;refine ⟨_,rfl,?_⟩;refine hK.out _ _ (cc11_ E7.out) (fun hHeld=>?_);clear hK K;refine nm_ 8 ?_;(iterate 4 first | refine pa_ HT_.out ?_ | refine ta11_ HT_.out HW_.out hHeld ?_);refine oa_ HT_.out (fun K hK=>?_);refine gs_ Tryz.func24 #[.int .i64 C3] ?_;(with_reducible refine (Y64.calls C3 true _ A6.out).mono ?_);rintro e w' ⟨rfl,⟨nd,rfl⟩⟩;refine ⟨_,rfl,?_⟩;refine hK.out _ _ (cc11_ E7.out) (fun hHeld=>?_);clear hK K;refine nm_ 13 ?_;(iterate 5 first | refine pa_ HT_.out ?_ | refine ta11_ HT_.out HW_.out hHeld ?_);refine oa_ HT_.out (fun K hK=>?_);refine gs_ Tryz.func24 #[.int .i64 D3] ?_;(with_reducible refine (Y64.calls D3 true _ A8.out).mono ?_);rintro e w' ⟨rfl,⟨nd,rfl⟩⟩;refine ⟨_,rfl,?_⟩;refine hK.out _ _ (cc11_ E7.out) (fun hHeld=>?_);clear hK K;refine nm_ 19 ?_;(iterate 5 first | refine pa_ HT_.out ?_ | refine ta11_ HT_.out HW_.out hHeld ?_);refine oa_ HT_.out (fun K hK=>?_);refine gs_ Tryz.func25 #[.string C4] ?_;(with_reducible refine (Y19.calls k C4 true _ A10.out).mono ?_);rintro e w' ⟨rfl,⟨nd,rfl⟩⟩;refine ⟨_,rfl,?_⟩;refine hK.out _ _ (cc11_ E7.out) (fun hHeld=>?_);clear hK K;refine nm_ 25 ?_;(iterate 5 first | refine pa_ HT_.out ?_ | refine ta11_ HT_.out HW_.out hHeld ?_);refine oa_ HT_.out (fun K hK=>?_);refine gs_ Tryz.func23 #[.int .i64 D6,.int .i64 1,.int .i64 6] ?_;(with_reducible refine (Y34.calls D6 1 6 true _ A12.out).mono ?_);rintro e w' ⟨rfl,⟨nd,rfl⟩⟩;refine ⟨_,rfl,?_⟩;refine hK.out _ _ (cc11_ E7.out) (fun hHeld=>?_);clear hK K;refine nm_ 31 ?_;(iterate 6 first | refine pa_ HT_.out ?_ | refine ta11_ HT_.out HW_.out hHeld ?_);refine oa_ HT_.out (fun K hK=>?_);refine gs_ Tryz.func23 #[.int .i64 (C0.length:Int),.int .i64 1,.int .i64 5] ?_;(with_reducible refine (Y34.calls (C0.length:Int) 1 5 false _ A14.out).mono ?_);rintro e w' ⟨rfl,⟨nd,rfl⟩⟩;refine ⟨_,rfl,?_⟩;refine hK.out _ _ (cc11_ E7.out) (fun hHeld=>?_);clear hK K;refine nm_ 38 ?_;(iterate 8 first | refine pa_ HT_.out ?_ | refine pz_ HT_.out ?_);refine done_ (done_of HT_.out (by kernel_rfl)) ?_;(try go_wp2);go_meet;case rel=>exact ⟨_,(true),(z1_),H',⟨by first | omega | exact Nat.le_refl _⟩,⟨z4_ E7.out⟩,⟨z0_ HB.out⟩⟩
      ·replace c13:=Bool.eq_false_iff.mpr c13;subst c13;rw [if_neg (show ¬ (false=true) by decide)] at H;have H':=aM H;clear H;(try go_wp2);replace E7:=aM (blk_drew E7.out);replace HB:=aM (below_drew1 HB.out);generalize hd_:w3.drew=w20 at E7 HB;refine st11_ 41 hd_ E7.out (fun hHeld=>?_);clear hd_;refine with_tabW Y3.tab1 Y3.bits1 (fun HT_ HW_=>?_);(iterate 2 first | refine pa_ HT_.out ?_ | refine ta11_ HT_.out HW_.out hHeld ?_);refine oa_ HT_.out (fun K hK=>?_);refine gs_ Tryz.func23 #[.int .i64 C2,.int .i64 1,.int .i64 1000000] ?_;(with_reducible refine (Y34.calls C2 1 1000000 true _ A4.out).mono ?_);rintro e w' ⟨rfl,⟨nd,rfl⟩⟩;refine ⟨_,rfl,?_⟩;refine hK.out _ _ (cc11_ E7.out) (fun hHeld=>?_);clear hK K;refine nm_ 8 ?_;(iterate 4 first | refine pa_ HT_.out ?_ | refine ta11_ HT_.out HW_.out hHeld ?_);refine oa_ HT_.out (fun K hK=>?_);refine gs_ Tryz.func24 #[.int .i64 C3] ?_;(with_reducible refine (Y64.calls C3 true _ A6.out).mono ?_);rintro e w' ⟨rfl,⟨nd,rfl⟩⟩;refine ⟨_,rfl,?_⟩;refine hK.out _ _ (cc11_ E7.out) (fun hHeld=>?_);clear hK K;refine nm_ 13 ?_;(iterate 5 first | refine pa_ HT_.out ?_ | refine ta11_ HT_.out HW_.out hHeld ?_);refine oa_ HT_.out (fun K hK=>?_);refine gs_ Tryz.func24 #[.int .i64 D3] ?_;(with_reducible refine (Y64.calls D3 true _ A8.out).mono ?_);rintro e w' ⟨rfl,⟨nd,rfl⟩⟩;refine ⟨_,rfl,?_⟩;refine hK.out _ _ (cc11_ E7.out) (fun hHeld=>?_);clear hK K;refine nm_ 19 ?_;(iterate 5 first | refine pa_ HT_.out ?_ | refine ta11_ HT_.out HW_.out hHeld ?_);refine oa_ HT_.out (fun K hK=>?_);refine gs_ Tryz.func25 #[.string C4] ?_;(with_reducible refine (Y19.calls k C4 true _ A10.out).mono ?_);rintro e w' ⟨rfl,⟨nd,rfl⟩⟩;refine ⟨_,rfl,?_⟩;refine hK.out _ _ (cc11_ E7.out) (fun hHeld=>?_);clear hK K;refine nm_ 25 ?_;(iterate 5 first | refine pa_ HT_.out ?_ | refine ta11_ HT_.out HW_.out hHeld ?_);refine oa_ HT_.out (fun K hK=>?_);refine gs_ Tryz.func23 #[.int .i64 D6,.int .i64 1,.int .i64 6] ?_;(with_reducible refine (Y34.calls D6 1 6 false _ A12.out).mono ?_);rintro e w' ⟨rfl,⟨nd,rfl⟩⟩;refine ⟨_,rfl,?_⟩;refine hK.out _ _ (cc11_ E7.out) (fun hHeld=>?_);clear hK K;refine nm_ 31 ?_;(iterate 15 first | refine pz_ HT_.out ?_ | refine pa_ HT_.out ?_);refine done_ (done_of HT_.out (by kernel_rfl)) ?_;(try go_wp2);go_meet;case rel=>exact ⟨_,(true),(z1_),H',⟨by first | omega | exact Nat.le_refl _⟩,⟨z4_ E7.out⟩,⟨z0_ HB.out⟩⟩
     ·replace c11:=Bool.eq_false_iff.mpr c11;subst c11;rw [if_neg (show ¬ (false=true) by decide)] at H;have H':=aM H;clear H;(try go_wp2);replace E7:=aM (blk_drew E7.out);replace HB:=aM (below_drew1 HB.out);generalize hd_:w3.drew=w21 at E7 HB;refine st11_ 41 hd_ E7.out (fun hHeld=>?_);clear hd_;refine with_tabW Y3.tab1 Y3.bits1 (fun HT_ HW_=>?_);(iterate 2 first | refine pa_ HT_.out ?_ | refine ta11_ HT_.out HW_.out hHeld ?_);refine oa_ HT_.out (fun K hK=>?_);refine gs_ Tryz.func23 #[.int .i64 C2,.int .i64 1,.int .i64 1000000] ?_;(with_reducible refine (Y34.calls C2 1 1000000 true _ A4.out).mono ?_);rintro e w' ⟨rfl,⟨nd,rfl⟩⟩;refine ⟨_,rfl,?_⟩;refine hK.out _ _ (cc11_ E7.out) (fun hHeld=>?_);clear hK K;refine nm_ 8 ?_;(iterate 4 first | refine pa_ HT_.out ?_ | refine ta11_ HT_.out HW_.out hHeld ?_);refine oa_ HT_.out (fun K hK=>?_);refine gs_ Tryz.func24 #[.int .i64 C3] ?_;(with_reducible refine (Y64.calls C3 true _ A6.out).mono ?_);rintro e w' ⟨rfl,⟨nd,rfl⟩⟩;refine ⟨_,rfl,?_⟩;refine hK.out _ _ (cc11_ E7.out) (fun hHeld=>?_);clear hK K;refine nm_ 13 ?_;(iterate 5 first | refine pa_ HT_.out ?_ | refine ta11_ HT_.out HW_.out hHeld ?_);refine oa_ HT_.out (fun K hK=>?_);refine gs_ Tryz.func24 #[.int .i64 D3] ?_;(with_reducible refine (Y64.calls D3 true _ A8.out).mono ?_);rintro e w' ⟨rfl,⟨nd,rfl⟩⟩;refine ⟨_,rfl,?_⟩;refine hK.out _ _ (cc11_ E7.out) (fun hHeld=>?_);clear hK K;refine nm_ 19 ?_;(iterate 5 first | refine pa_ HT_.out ?_ | refine ta11_ HT_.out HW_.out hHeld ?_);refine oa_ HT_.out (fun K hK=>?_);refine gs_ Tryz.func25 #[.string C4] ?_;(with_reducible refine (Y19.calls k C4 false _ A10.out).mono ?_);rintro e w' ⟨rfl,⟨nd,rfl⟩⟩;refine ⟨_,rfl,?_⟩;refine hK.out _ _ (cc11_ E7.out) (fun hHeld=>?_);clear hK K;refine nm_ 25 ?_;(iterate 21 first | refine pz_ HT_.out ?_ | refine pa_ HT_.out ?_);refine done_ (done_of HT_.out (by kernel_rfl)) ?_;(try go_wp2);go_meet;case rel=>exact ⟨_,(true),(z1_),H',⟨by first | omega | exact Nat.le_refl _⟩,⟨z4_ E7.out⟩,⟨z0_ HB.out⟩⟩
    ·replace c9:=Bool.eq_false_iff.mpr c9;subst c9;rw [if_neg (show ¬ (false=true) by decide)] at H;have H':=aM H;clear H;(try go_wp2);replace E7:=aM (blk_drew E7.out);replace HB:=aM (below_drew1 HB.out);generalize hd_:w3.drew=w22 at E7 HB;refine st11_ 41 hd_ E7.out (fun hHeld=>?_);clear hd_;refine with_tabW Y3.tab1 Y3.bits1 (fun HT_ HW_=>?_);(iterate 2 first | refine pa_ HT_.out ?_ | refine ta11_ HT_.out HW_.out hHeld ?_);refine oa_ HT_.out (fun K hK=>?_);refine gs_ Tryz.func23 #[.int .i64 C2,.int .i64 1,.int .i64 1000000] ?_;(with_reducible refine (Y34.calls C2 1 1000000 true _ A4.out).mono ?_);rintro e w' ⟨rfl,⟨nd,rfl⟩⟩;refine ⟨_,rfl,?_⟩;refine hK.out _ _ (cc11_ E7.out) (fun hHeld=>?_);clear hK K;refine nm_ 8 ?_;(iterate 4 first | refine pa_ HT_.out ?_ | refine ta11_ HT_.out HW_.out hHeld ?_);refine oa_ HT_.out (fun K hK=>?_);refine gs_ Tryz.func24 #[.int .i64 C3] ?_;(with_reducible refine (Y64.calls C3 true _ A6.out).mono ?_);rintro e w' ⟨rfl,⟨nd,rfl⟩⟩;refine ⟨_,rfl,?_⟩;refine hK.out _ _ (cc11_ E7.out) (fun hHeld=>?_);clear hK K;refine nm_ 13 ?_;(iterate 5 first | refine pa_ HT_.out ?_ | refine ta11_ HT_.out HW_.out hHeld ?_);refine oa_ HT_.out (fun K hK=>?_);refine gs_ Tryz.func24 #[.int .i64 D3] ?_;(with_reducible refine (Y64.calls D3 false _ A8.out).mono ?_);rintro e w' ⟨rfl,⟨nd,rfl⟩⟩;refine ⟨_,rfl,?_⟩;refine hK.out _ _ (cc11_ E7.out) (fun hHeld=>?_);clear hK K;refine nm_ 19 ?_;(iterate 27 first | refine pz_ HT_.out ?_ | refine pa_ HT_.out ?_);refine done_ (done_of HT_.out (by kernel_rfl)) ?_;(try go_wp2);go_meet;case rel=>exact ⟨_,(true),(z1_),H',⟨by first | omega | exact Nat.le_refl _⟩,⟨z4_ E7.out⟩,⟨z0_ HB.out⟩⟩
   ·replace c7:=Bool.eq_false_iff.mpr c7;subst c7;rw [if_neg (show ¬ (false=true) by decide)] at H;have H':=aM H;clear H;(try go_wp2);replace E7:=aM (blk_drew E7.out);replace HB:=aM (below_drew1 HB.out);generalize hd_:w3.drew=w23 at E7 HB;refine st11_ 41 hd_ E7.out (fun hHeld=>?_);clear hd_;refine with_tabW Y3.tab1 Y3.bits1 (fun HT_ HW_=>?_);(iterate 2 first | refine pa_ HT_.out ?_ | refine ta11_ HT_.out HW_.out hHeld ?_);refine oa_ HT_.out (fun K hK=>?_);refine gs_ Tryz.func23 #[.int .i64 C2,.int .i64 1,.int .i64 1000000] ?_;(with_reducible refine (Y34.calls C2 1 1000000 true _ A4.out).mono ?_);rintro e w' ⟨rfl,⟨nd,rfl⟩⟩;refine ⟨_,rfl,?_⟩;refine hK.out _ _ (cc11_ E7.out) (fun hHeld=>?_);clear hK K;refine nm_ 8 ?_;(iterate 4 first | refine pa_ HT_.out ?_ | refine ta11_ HT_.out HW_.out hHeld ?_);refine oa_ HT_.out (fun K hK=>?_);refine gs_ Tryz.func24 #[.int .i64 C3] ?_;(with_reducible refine (Y64.calls C3 false _ A6.out).mono ?_);rintro e w' ⟨rfl,⟨nd,rfl⟩⟩;refine ⟨_,rfl,?_⟩;refine hK.out _ _ (cc11_ E7.out) (fun hHeld=>?_);clear hK K;refine nm_ 13 ?_;(iterate 33 first | refine pz_ HT_.out ?_ | refine pa_ HT_.out ?_);refine done_ (done_of HT_.out (by kernel_rfl)) ?_;(try go_wp2);go_meet;case rel=>exact ⟨_,(true),(z1_),H',⟨by first | omega | exact Nat.le_refl _⟩,⟨z4_ E7.out⟩,⟨z0_ HB.out⟩⟩
  ·replace c5:=Bool.eq_false_iff.mpr c5;subst c5;rw [if_neg (show ¬ (false=true) by decide)] at H;have H':=aM H;clear H;(try go_wp2);replace E7:=aM (blk_drew E7.out);replace HB:=aM (below_drew1 HB.out);generalize hd_:w3.drew=w24 at E7 HB;refine st11_ 41 hd_ E7.out (fun hHeld=>?_);clear hd_;refine with_tabW Y3.tab1 Y3.bits1 (fun HT_ HW_=>?_);(iterate 2 first | refine pa_ HT_.out ?_ | refine ta11_ HT_.out HW_.out hHeld ?_);refine oa_ HT_.out (fun K hK=>?_);refine gs_ Tryz.func23 #[.int .i64 C2,.int .i64 1,.int .i64 1000000] ?_;(with_reducible refine (Y34.calls C2 1 1000000 false _ A4.out).mono ?_);rintro e w' ⟨rfl,⟨nd,rfl⟩⟩;refine ⟨_,rfl,?_⟩;refine hK.out _ _ (cc11_ E7.out) (fun hHeld=>?_);clear hK K;refine nm_ 8 ?_;(iterate 38 first | refine pz_ HT_.out ?_ | refine pa_ HT_.out ?_);refine done_ (done_of HT_.out (by kernel_rfl)) ?_;(try go_wp2);go_meet;case rel=>exact ⟨_,(true),(z1_),H',⟨by first | omega | exact Nat.le_refl _⟩,⟨z4_ E7.out⟩,⟨z0_ HB.out⟩⟩
 case rest=>as_aux_lemma =>
  clear HC2;obtain ⟨kq,B39,rfl,HA,HJ1,E7,HB⟩:=hcut
  cases kq with
  | zero=>exact absurd HA.out (by simp [Y3.j0])
  | succ kj1 =>
   have H:=HA.out;clear HA;simp only [Y3.j0] at H;by_cases c25:B39=true
   ·subst c25;rw [if_pos rfl] at H;obtain rfl:=sI H;go_wp2;go_ret;exact ⟨z6_,z0_ HB.out⟩
   ·replace c25:=Bool.eq_false_iff.mpr c25;subst c25;rw [if_neg (show ¬ (false=true) by decide)] at H;have H':=aM H;clear H;have ⟨Ae2,Ae3,As8,BO5,C98,C99,DA0,DA1,DA2,DA3,Ca2,Ae4,Ae5,As9,BO6,DA4,DA5,DA6,DA7,DA8,DA9,Ca3⟩:=cz11_ E7.out;go_wp2;go_loopg [50] kj1 (fun kq v50 w'=>∃ (H9:Int),v50 = .int .i64 H9∧Aside0 (Y3.l0 kq C0 (C0.length:Int) H9 C2 C3 C9 C4 D3 D6 C0 D2 D4 D7 C5=some r)∧Aside0 (kq≤kj1)∧Aside0 (w'.heap[Ai2]? = some (.cells #[.int .i64 C2,.int .i64 C3,.bool C9,.string C4,.int .i64 D3,.int .i64 D6,(.slice J4 C0.length I5),(.slice I7 D2.length I8),(.slice I9 D4.length J0),.int .i64 D7,.int .i64 C5] 40 (0,0)))∧Aside0 (Below w.heap.size w w'));case atStart=>exact ⟨(0),(z1_),H',⟨Nat.le_refl _⟩,⟨z4_ E7.out⟩,⟨z0_ HB.out⟩⟩
    case round=>as_aux_lemma =>
     clear H';obtain ⟨H9,rfl,HA,HK2,E7,HB⟩:=hrel
     cases gk with
     | zero=>exact absurd HA.out (by simp [Y3.l0])
     | succ k2 =>
      have H:=HA.out;clear HA;simp only [Y3.l0] at H;by_cases c27:H9<(C0.length:Int)
      ·rw [if_pos c27] at H;have c27b0:decide (H9<(C0.length:Int))=true:=dE c27;clear c27;by_cases c28:0≤H9
       ·rw [if_pos c28] at H;have c28b0:decide (0≤H9)=true:=dE c28;clear c28;by_cases c29:H9<(C0.length:Int)
        ·rw [if_pos c29] at H;have c29b0:decide (H9<(C0.length:Int))=true:=dE c29;clear c29;have Do5:=aM H;clear H;have Do6:0≤(H9:Int):=dT (z2_);have Do7:H9<(C0.length:Int):=dT (z2_);obtain ⟨B40,EU7,B41,B42,B43,B44⟩:=at_T61 N7.out H9 Do6 Do7;cases EU7;replace B41:=wc_ HB.out B41;replace B42:=wc_ HB.out B42;replace B43:=wc_ HB.out B43;replace B44:=wc_ HB.out B44;replace Do6:=eq_true Do6;replace Do7:=eq_true Do7;go_upto_region 6 with (first | ((with_reducible refine gd_ 4 ?_);(try (refine gate_guard (by rfl) ?_;dsimp only));refine be_ 4 #[.int .i64 0,.int .i64 0,.bool false,.string (⟨#[]⟩:ByteArray)] 61 ?_;intro BZ0 hg w31 hbox hb;have AD1:=aM (hbox);have GW675:=aM ((z7_ HB.out:w.heap.size≤BZ0));have GE675:=aM ((z7_ HB.out:w.heap.size≤BZ0));replace HB:=aM (below_step (z0_ HB.out) hb);have S4:=aM (neL_ E7.out hg);have l3:=aM (neG_ E7.out hg);replace E7:=aM (blkB_ E7.out hb);clear hb hbox hg;have CK9:=l3.out;have CL0:=S4.out;have ⟨hcz33_0,hcz33_1,hcz33_2,hcz33_3,hfz33_0,hfz33_1,hfz33_2,hfz33_3⟩:=cz4_ AD1.out));(try simp only [Act.put,sa_,s0_,ss_]);go_cut [87] (fun v87 wc=>∃ (kq:Nat) (BP7:Bool),v87 = .bool BP7∧Aside0 (Y3.j2 kq C0 (C0.length:Int) H9 BP7 C2 C3 C9 C4 D3 D6 C0 D2 D4 D7 C5=some r)∧Aside0 (kq≤k2)∧Aside0 (wc.heap[Ai2]? = some (.cells #[.int .i64 C2,.int .i64 C3,.bool C9,.string C4,.int .i64 D3,.int .i64 D6,(.slice (some B40) C0.length I5),(.slice I7 D2.length I8),(.slice I9 D4.length J0),.int .i64 D7,.int .i64 C5] 40 (0,0)))∧Aside0 (wc.heap[BZ0]? = some (.cells #[.int .i64 ((rd_T61 C0 H9).f0),.int .i64 ((rd_T61 C0 H9).f1),.bool ((rd_T61 C0 H9).f2),.string ((rd_T61 C0 H9).f3)] 61 (0,0)))∧Aside0 (Below w.heap.size w wc))
         case first=>as_aux_lemma =>
          have H:=Do5.out;clear Do5;replace H:=bS H;obtain ⟨C94,EG2,H⟩:=H;(try dsimp only at H);have A34:=aM EG2;clear EG2;have EG3:=aM H;clear H;have DF2:=l3.out;have DF3:=S4.out;have ⟨Bl1,Bl2,Bl3,Ce2,Bl4,Bl5,Bl6,Ce3⟩:=cz4_ AD1.out;go_wp2_with (first | (with_reducible refine hold_ 58 60 ?_) | ((with_reducible refine gc_ 24 ?_);refine gl_ (some 57) Tryz.func24 #[.int .i64 ((rd_T61 C0 H9).f0)] ?_;(with_reducible refine (Y64.calls ((rd_T61 C0 H9).f0) C94 _ A34.out).mono ?_);rintro e w' ⟨rfl,⟨nd,rfl⟩⟩;refine ⟨_,rfl,?_⟩));refine Held_.out_ ?_;have H:=EG3.out;clear EG3;by_cases c38:C94=true
          ·subst c38;rw [if_pos rfl] at H;replace H:=bS H;obtain ⟨C95,EG4,H⟩:=H;(try dsimp only at H);have A39:=aM EG4;clear EG4;have CE5:=aM H;clear H;have CL1:=l3.out;have CL2:=S4.out;have ⟨By8,By9,Bz0,C17,Bz1,Bz2,Bz3,C18⟩:=cz4_ AD1.out;go_wp2_with (first | (with_reducible refine hold_ 63 66 ?_) | (go_at_call 24;(with_reducible refine (Y64.calls ((rd_T61 C0 H9).f1) C95 _ A39.out).mono ?_);rintro e w' ⟨rfl,⟨nd,rfl⟩⟩));refine Held_.out_ ?_;have H:=CE5.out;clear CE5;by_cases c43:C95=true
           ·subst c43;rw [if_pos rfl] at H;have c44b0:=eq_true (dT (z2_):0≤H9);by_cases c45:H9≤(C0.length:Int)
            ·rw [if_pos c45] at H;have c45b0:=eq_true c45;have c45b1:decide (H9≤(C0.length:Int))=true:=dE c45;clear c45;obtain ⟨DB0,BZ1⟩:∃ y_:List (S61),y_=(C0.take (H9:Int).toNat):=⟨_,rfl⟩;(replace H:((Y25.f k2 DB0 ((rd_T61 C0 H9).f0) ((rd_T61 C0 H9).f1) ((rd_T61 C0 H9).f2) ((rd_T61 C0 H9).f3)).bind fun CF3=>(if CF3=true then (Y3.j2 k2 C0 (C0.length:Int) H9 true C2 C3 C9 C4 D3 D6 C0 D2 D4 D7 C5) else (if ((rd_T61 C0 H9).f2=true) then (if C9=true then (Y3.j2 k2 C0 (C0.length:Int) H9 false C2 C3 C9 C4 D3 D6 C0 D2 D4 D7 C5) else (Y3.j2 k2 C0 (C0.length:Int) H9 (((rd_T61 C0 H9).f3).toList != ([]:List UInt8)) C2 C3 C9 C4 D3 D6 C0 D2 D4 D7 C5)) else (Y3.j2 k2 C0 (C0.length:Int) H9 (((rd_T61 C0 H9).f3).toList != ([]:List UInt8)) C2 C3 C9 C4 D3 D6 C0 D2 D4 D7 C5))))=some r:=by first | (rw [BZ1];with_reducible exact H) | (have H2_:=(Option.bind_some _ _).symm.trans H;rw [BZ1];with_reducible exact H2_) | (have H2_:=(Option.bind_some _ _).symm.trans H;with_reducible exact H2_) | with_reducible exact H | (rw [BZ1];exact H) | exact H);have DP1:=aM BZ1;clear BZ1;replace H:=bS H;obtain ⟨CF3,CV2,H⟩:=H;(try dsimp only at H);have A46:=aM CV2;clear CV2;have B81:=aM H;clear H;have hnb48:=S4.out;have hnc48:=l3.out;have ⟨Ck7,Ck8,Ck9,hcz49_3,hcz49_4,hcz49_5,hcz49_6,hcz49_7,hcz49_8,hcz49_9,hcz49_10,Cl0,Cl1,Cl2,hfz49_3,hfz49_4,hfz49_5,hfz49_6,hfz49_7,hfz49_8,hfz49_9,hfz49_10⟩:=cz11_ E7.out;have q50:(H9:Int)≤((C0.length:Int):Int):=dT (z2_);obtain ⟨i050,DP2,_,EG5,_⟩:=info_parts info61;have B45:C0.length≤I5:=R5.out;have EG6:Kd.C k61 _ (some B40) C0.length C0:=N7.out;have Do8:=cut_to (P:=Tryz.prog) 33 61 .i64 Tryz.underlying33 DP2 (some B40) C0.length I5 H9 (dT (z2_)) q50 B45;have Do9:=Kd.C_take (m:=(H9:Int).toNat) EG6 (by omega);have Dp0:DB0.length=(H9:Int).toNat:=(by rw [DP1.out,List.length_take];omega);rw [← DP1.out] at Do9;rw [← Dp0] at Do8;have EG7:=aM Do9;have EG8:=aM (show DB0.length≤I5 from by omega);clear Do9 EG6 B45 DP2 EG5;have KY50:=aM Dp0;clear Dp0;replace q50:=eq_true q50;go_wp2_with (first | (with_reducible refine hold_ 72 74 ?_) | (go_at_call 27;(with_reducible refine (Y25.calls k2 _ _ DB0 BZ0 ((rd_T61 C0 H9).f0) ((rd_T61 C0 H9).f1) ((rd_T61 C0 H9).f2) ((rd_T61 C0 H9).f3) CF3 _ ?s1 ?s2 ?s3 A46.out).mono ?_);(case s1=>exact Kd.C_below EG7.out (z0_ HB.out));(case s2=>exact EG8.out);(case s3=>(with_reducible repeat (first | refine blk_drewN ?_ _ | refine blk_drew ?_ | refine blk_alloc ?_ _));apply put4_;(with_reducible repeat (first | refine blk_drewN ?_ _ | refine blk_drew ?_ | refine blk_alloc ?_ _));exact AD1.out);rintro e w51 ⟨rfl,hb⟩;replace E7:=aM (blk_below (g:=Ai2) (o:=.cells #[.int .i64 C2,.int .i64 C3,.bool C9,.string C4,.int .i64 D3,.int .i64 D6,.slice (some B40) C0.length I5,.slice I7 D2.length I8,.slice I9 D4.length J0,.int .i64 D7,.int .i64 C5] 40 (0,0)) (z15_ S4.out E7.out) hb);replace AD1:=aM (blk_below (g:=BZ0) (o:=.cells #[.int .i64 ((rd_T61 C0 H9).f0),.int .i64 ((rd_T61 C0 H9).f1),.bool ((rd_T61 C0 H9).f2),.string ((rd_T61 C0 H9).f3)] 61 (0,0)) (z29_ AD1.out) hb);replace HB:=aM (below_step (z0_ HB.out) hb)));refine Held_.out_ ?_;have H:=B81.out;clear B81;by_cases c52:CF3=true
             ·subst c52;rw [if_pos rfl] at H;have H':=aM H;clear H;go_wp2;go_meet;case rel=>exact ⟨_,(true),(z1_),H',⟨z20_ HJ1.out HK2.out⟩,⟨z4_ E7.out⟩,⟨z4_ AD1.out⟩,⟨z0_ HB.out⟩⟩
             ·replace c52:=Bool.eq_false_iff.mpr c52;subst c52;rw [if_neg (show ¬ (false=true) by decide)] at H;have EG9:=aM H;clear H;have CL7:=l3.out;have CL8:=S4.out;have ⟨Bq2,Bq3,Bz6,C23,Bq4,Bq5,C24,C25⟩:=cz4_ AD1.out;go_wp2_with (first | (with_reducible refine hold_ 72 78 ?_));refine Held_.out_ ?_;have H:=EG9.out;clear EG9;obtain ⟨EH0,Ca4⟩:∃ b_:Bool,b_=((rd_T61 C0 H9).f2):=⟨_,rfl⟩;(replace H:(if (EH0=true) then (if C9=true then (Y3.j2 k2 C0 (C0.length:Int) H9 false C2 C3 C9 C4 D3 D6 C0 D2 D4 D7 C5) else (Y3.j2 k2 C0 (C0.length:Int) H9 (((rd_T61 C0 H9).f3).toList != ([]:List UInt8)) C2 C3 C9 C4 D3 D6 C0 D2 D4 D7 C5)) else (Y3.j2 k2 C0 (C0.length:Int) H9 (((rd_T61 C0 H9).f3).toList != ([]:List UInt8)) C2 C3 C9 C4 D3 D6 C0 D2 D4 D7 C5))=some r:=by rw [← Ca4] at H;exact H);have Ai3:=aM Ca4;clear Ca4;(try rw [← Ai3.out]);(try rw [← Ai3.out] at AD1);(try rw [← Ai3.out] at Bz6);by_cases c57:(EH0=true)
              ·subst c57;rw [if_pos rfl] at H;by_cases c58:C9=true
               ·subst c58;rw [if_pos rfl] at H;have H':=aM H;clear H;have hnb59:=S4.out;have hnc59:=l3.out;have ⟨C26,C27,C28,hcz60_3,hcz60_4,hcz60_5,hcz60_6,hcz60_7,hcz60_8,hcz60_9,hcz60_10,C29,C30,C31,hfz60_3,hfz60_4,hfz60_5,hfz60_6,hfz60_7,hfz60_8,hfz60_9,hfz60_10⟩:=cz11_ E7.out;go_wp2;go_meet;case rel=>(try rw [← Ai3.out]);exact ⟨_,(false),(z1_),H',⟨z20_ HJ1.out HK2.out⟩,⟨z4_ E7.out⟩,⟨z4_ AD1.out⟩,⟨z0_ HB.out⟩⟩
               ·replace c58:=Bool.eq_false_iff.mpr c58;subst c58;rw [if_neg (show ¬ (false=true) by decide)] at H;have H':=aM H;clear H;have CO8:=S4.out;have CO9:=l3.out;have ⟨Bu3,Bu4,Bu5,Ct3,Ct4,hcz62_5,hcz62_6,hcz62_7,hcz62_8,hcz62_9,hcz62_10,Bu6,Bu7,Bu8,Ct5,Ct6,hfz62_5,hfz62_6,hfz62_7,hfz62_8,hfz62_9,hfz62_10⟩:=cz11_ E7.out;have ⟨BI5,BI6,Bq6,Bq7,BI7,BI8,Bq8,Bq9⟩:=cz4_ AD1.out;go_wp2;go_meet;case rel=>(try rw [← Ai3.out]);exact ⟨_,((((rd_T61 C0 H9).f3).toList != ([]:List UInt8))),(z1_),H',⟨z20_ HJ1.out HK2.out⟩,⟨z4_ E7.out⟩,⟨z4_ AD1.out⟩,⟨z0_ HB.out⟩⟩
              ·replace c57:=Bool.eq_false_iff.mpr c57;subst c57;rw [if_neg (show ¬ (false=true) by decide)] at H;have H':=aM H;clear H;have CV4:=l3.out;have CV5:=S4.out;have ⟨Bz7,Bz8,hcz65_2,hcz65_3,Bz9,B00,hfz65_2,hfz65_3⟩:=cz4_ AD1.out;go_wp2;go_meet;case rel=>(try rw [← Ai3.out]);exact ⟨_,((((rd_T61 C0 H9).f3).toList != ([]:List UInt8))),(z1_),H',⟨z20_ HJ1.out HK2.out⟩,⟨z4_ E7.out⟩,⟨z4_ AD1.out⟩,⟨z0_ HB.out⟩⟩
            ·rw [if_neg c45] at H;exact nO H
           ·replace c43:=Bool.eq_false_iff.mpr c43;subst c43;rw [if_neg (show ¬ (false=true) by decide)] at H;have H':=aM H;clear H;go_wp2;go_meet;case rel=>(try rw [← Ai3.out]);exact ⟨_,(true),(z1_),H',⟨z20_ HJ1.out HK2.out⟩,⟨z15_ S4.out E7.out⟩,⟨z29_ AD1.out⟩,⟨z0_ HB.out⟩⟩
          ·replace c38:=Bool.eq_false_iff.mpr c38;subst c38;rw [if_neg (show ¬ (false=true) by decide)] at H;have H':=aM H;clear H;go_wp2;go_meet;case rel=>(try rw [← Ai3.out]);exact ⟨_,(true),(z1_),H',⟨z20_ HJ1.out HK2.out⟩,⟨z15_ S4.out E7.out⟩,⟨z29_ AD1.out⟩,⟨z0_ HB.out⟩⟩
         case rest=>as_aux_lemma =>
          clear Do5;obtain ⟨kq,BP7,rfl,HA,EH1,E7,AD1,HB⟩:=hcut
          cases kq with
          | zero=>exact absurd HA.out (by simp [Y3.j2])
          | succ EU8 =>
           have H:=HA.out;clear HA;simp only [Y3.j2] at H;by_cases c66:BP7=true
           ·subst c66;rw [if_pos rfl] at H;obtain rfl:=sI H;go_wp2;go_ret;exact ⟨z6_,z0_ HB.out⟩
           ·replace c66:=Bool.eq_false_iff.mpr c66;subst c66;rw [if_neg (show ¬ (false=true) by decide)] at H;have H':=aM H;clear H;go_wp2;go_roundg EU8;(case measure=>have:=HJ1.out;have:=HK2.out;have:=EH1.out;omega);case rel=>(try rw [← Ai3.out]);exact ⟨(wrap64 (H9+1)),(z1_),H',⟨by have:=HJ1.out;have:=HK2.out;have:=EH1.out;omega⟩,⟨z4_ E7.out⟩,⟨z0_ HB.out⟩⟩
        ·rw [if_neg c29] at H;exact nO H
       ·rw [if_neg c28] at H;exact nO H
      ·rw [if_neg c27] at H;have c27b0:decide (H9<(C0.length:Int))=false:=dF c27;clear c27;replace H:=bS H;obtain ⟨C96,EH2,H⟩:=H;(try dsimp only at H);have A67:=aM EH2;clear EH2;have EH3:=aM H;clear H;have ⟨C55,C56,C57,C58,hcz69_4,hcz69_5,hcz69_6,hcz69_7,hcz69_8,hcz69_9,hcz69_10,C59,C60,C61,C62,hfz69_4,hfz69_5,hfz69_6,hfz69_7,hfz69_8,hfz69_9,hfz69_10⟩:=cz11_ E7.out;go_upto_if 92 with (first | ((with_reducible refine gc_ 29 ?_);refine gl_ (some 91) Tryz.func29 #[.agg #[.slice I7 D2.length I8,.slice I9 D4.length J0]] ?_;(with_reducible refine (Y7.calls k2 _ _ D2 _ _ D4 C96 _ ?s1 ?s2 ?s3 ?s4 A67.out).mono ?_);(case s1 =>exact zC_ (Kd.C_below Q6.out HB.out));(case s2=>exact Q7.out);(case s3 =>exact zC_ (Kd.C_below R6.out HB.out));(case s4=>exact R7.out);rintro e w70 ⟨rfl,hb⟩;refine ⟨_,rfl,?_⟩;replace E7:=aM (blkB_ E7.out hb);replace HB:=aM (below_step (z0_ HB.out) hb)));have H:=EH3.out;clear EH3;by_cases c71:C96=true
       ·subst c71;rw [if_pos rfl] at H;have EH4:=aM H;clear H;have ⟨Co3,Co4,hcz73_2,hcz73_3,hcz73_4,hcz73_5,hcz73_6,hcz73_7,hcz73_8,hcz73_9,hcz73_10,Co5,Co6,hfz73_2,hfz73_3,hfz73_4,hfz73_5,hfz73_6,hfz73_7,hfz73_8,hfz73_9,hfz73_10⟩:=cz11_ E7.out;go_upto_if 95 with (fail);have H:=EH4.out;clear EH4;by_cases c74:C9=true
        ·subst c74;rw [if_pos rfl] at H;replace H:=bS H;obtain ⟨⟨DB1,DB2,EH5,EH6,Bf3⟩,CP0,H⟩:=H;(try dsimp only at H);have A75:=aM CP0;clear CP0;have EH7:=aM H;clear H;go_wp2_with (first | (with_reducible refine hold_ 111 113 ?_) | ((with_reducible refine gc_ 32 ?_);refine gl_ (some 107) Tryz.func32 #[.pointer (some ⟨Ai2,0,none⟩)] ?_;(with_reducible refine (Y36.calls k2 C2 C3 true C4 D3 D6 _ _ C0 _ _ D2 _ _ D4 D7 C5 DB1 DB2 EH5 EH6 Bf3 _ (z4_ E7.out) ?s1 ?s2 ?s3 ?s4 ?s5 ?s6 A75.out).mono ?_);(case s1 =>exact zC_ (Kd.C_below N7.out HB.out));(case s2=>exact R5.out);(case s3 =>exact zC_ (Kd.C_below Q6.out HB.out));(case s4=>exact Q7.out);(case s5 =>exact zC_ (Kd.C_below R6.out HB.out));(case s6=>exact R7.out);rintro e w77 ⟨v687,v690,rfl,ho0,ho1,hb⟩;refine ⟨_,rfl,?_⟩;have A87:=aM (Kd.R_lower ho0 (below_size (z0_ HB.out)));have A88:=aM (Kd.R_lower ho1 (below_size (z0_ HB.out)));replace E7:=aM (blkB_ E7.out hb);replace HB:=aM (below_step (z0_ HB.out) hb)) | ((with_reducible refine gd_ 5 ?_);(try (refine gate_guard (by rfl) ?_;dsimp only));refine be_ 5 #[.slice none 0 0,.slice none 0 0,.int .i64 0,.int .i64 0,.int .i64 0] 53 ?_;intro Ca5 hg w78 hbox hb;replace A87:=aM (Kd.R_below (z3_ A87.out) hb);replace A88:=aM (Kd.R_below (z3_ A88.out) hb);have Ai4:=aM (hbox);have GW695:=aM ((z7_ HB.out:w.heap.size≤Ca5));have GE695:=aM ((z7_ HB.out:w.heap.size≤Ca5));replace HB:=aM (below_step (z0_ HB.out) hb);have Ab0:=aM (neL_ E7.out hg);have Al8:=aM (neG_ E7.out hg);replace E7:=aM (blkB_ E7.out hb);clear hb hbox hg;obtain ⟨Dn5,C80,Dn6⟩:=Kd.R_slice A87.out;subst Dn6;have DJ0:=Al8.out;have DJ1:=Ab0.out;have ⟨C64,C65,C66,C67,hcz81_4,C68,C69,C70,C71,hfz81_4⟩:=cz5_ Ai4.out;obtain ⟨EU9,EH8,EV0⟩:=Kd.R_slice A88.out;subst EV0;have ⟨hcz83_0,hcz83_1,hcz83_2,hcz83_3,hcz83_4,hcz83_5,hcz83_6,hcz83_7,hcz83_8,hcz83_9,hcz83_10,hfz83_0,hfz83_1,hfz83_2,hfz83_3,hfz83_4,hfz83_5,hfz83_6,hfz83_7,hfz83_8,hfz83_9,hfz83_10⟩:=cz11_ E7.out));refine Held_.out_ ?_;have H:=EH7.out;clear EH7;by_cases c84:(D7 == 0 && (C5 == 0))=true
         ·rw [if_pos c84] at H;have c84b0:(D7 == 0 && (C5 == 0))=true:=c84;(try (have c84b1:decide (D7=0 && (C5 == 0))=true:=by simpa using c84));(try (have c84b2:(D7 == 0 && (C5 == 0))=true:=by simpa using c84));clear c84;(first | rw [c84b0] | (simp only [i64_w,i32_w];rw [c84b0]) | skip);have EH9:=aM H;clear H;have DJ2:=Al8.out;have DJ3:=Ab0.out;have ⟨Co7,Co8,hcz87_2,hcz87_3,hcz87_4,Co9,Cp0,hfz87_2,hfz87_3,hfz87_4⟩:=cz5_ Ai4.out;go_wp2_with (first | (with_reducible refine hold_ 111 118 ?_));refine Held_.out_ ?_;have H:=EH9.out;clear EH9;by_cases c88:Bf3=0
          ·rw [if_pos c88] at H;have c88b0:(Bf3 == 0)=true:=beq_iff_eq.mpr c88;have c88b1:(Bf3 != 0)=false:=bne_eq_false_iff_eq.mpr c88;clear c88;(first | rw [c88b0] | (simp only [i64_w,i32_w];rw [c88b0]) | skip);replace H:=bS H;obtain ⟨Do3,EI0,H⟩:=H;(try dsimp only at H);have A89:=aM EI0;clear EI0;obtain rfl:=sI H;have hnb90:=Al8.out;have hnc90:=Ab0.out;have ⟨hcz91_0,hcz91_1,hcz91_2,hcz91_3,hcz91_4,hfz91_0,hfz91_1,hfz91_2,hfz91_3,hfz91_4⟩:=cz5_ Ai4.out;have ⟨hcz92_0,hcz92_1,hcz92_2,hcz92_3,hcz92_4,hcz92_5,hcz92_6,hcz92_7,hcz92_8,hcz92_9,hcz92_10,hfz92_0,hfz92_1,hfz92_2,hfz92_3,hfz92_4,hfz92_5,hfz92_6,hfz92_7,hfz92_8,hfz92_9,hfz92_10⟩:=cz11_ E7.out;go_wp2_with (first | (go_at_call 33;(with_reducible refine (Y78.calls k2 _ _ DB1 _ _ DB2 _ _ D2 _ _ D4 Do3 _ ?s1 ?s2 ?s3 ?s4 ?s5 ?s6 ?s7 ?s8 A89.out).mono ?_);(case s1=>refine (Kd.R_reads' (e:=38) (base:=w.heap.size) (ok:=fun k_=>True) (n:=DB1.length) (c:=C80) ?_).2.2;exact (z16_ A87.out Ai4.out));(case s2=>exact (Kd.R_reads' A87.out).2.1);(case s3=>refine (Kd.R_reads' (e:=75) (base:=w.heap.size) (ok:=fun k_=>True) (n:=DB2.length) (c:=EH8) ?_).2.2;exact (z16_ A88.out Ai4.out));(case s4=>exact (Kd.R_reads' A88.out).2.1);(case s5=>exact Kd.C_below Q6.out (z0_ HB.out));(case s6=>exact Q7.out);(case s7=>exact Kd.C_below R6.out (z0_ HB.out));(case s8=>exact R7.out);rintro e w93 ⟨rfl,hb⟩;replace A87:=aM (Kd.R_below (z16_ A87.out Ai4.out) hb);replace A88:=aM (Kd.R_below (z16_ A88.out Ai4.out) hb);replace E7:=aM (blk_below (g:=Ai2) (o:=.cells #[.int .i64 C2,.int .i64 C3,.bool true,.string C4,.int .i64 D3,.int .i64 D6,.slice J4 C0.length I5,.slice I7 D2.length I8,.slice I9 D4.length J0,.int .i64 D7,.int .i64 C5] 40 (0,0)) (z33_ Ab0.out E7.out) hb);replace Ai4:=aM (blk_below (g:=Ca5) (o:=.cells #[.slice Dn5 DB1.length C80,.slice EU9 DB2.length EH8,.int .i64 EH5,.int .i64 EH6,.int .i64 Bf3] 53 (0,0)) (z26_ Ai4.out) hb);replace HB:=aM (below_step (z0_ HB.out) hb)));go_ret;exact ⟨z6_,z0_ HB.out⟩
          ·rw [if_neg c88] at H;have c88b0:(Bf3 == 0)=false:=beq_eq_false_iff_ne.mpr c88;have c88b1:(Bf3 != 0)=true:=bne_iff_ne.mpr c88;(first | rw [c88b0] | (simp only [i64_w,i32_w];rw [c88b0]) | skip);obtain rfl:=sI H;go_wp2;go_ret;exact ⟨z6_,z0_ HB.out⟩
         ·rw [if_neg c84] at H;(have c84b0:(D7 == 0 && (C5 == 0))=false:=by simpa using c84);(try (have c84b1:decide (D7=0 && (C5 == 0))=false:=by simpa using c84));(try (have c84b2:(D7 == 0 && (C5 == 0))=false:=by simpa using c84));(try (have c84b3:¬ (D7=0 && (C5 == 0)):=by simpa using c84));clear c84;(first | rw [c84b0] | (simp only [i64_w,i32_w];rw [c84b0]) | skip);obtain rfl:=sI H;go_wp2;go_ret;exact ⟨z6_,z0_ HB.out⟩
        ·replace c74:=Bool.eq_false_iff.mpr c74;subst c74;rw [if_neg (show ¬ (false=true) by decide)] at H;replace H:=bS H;obtain ⟨C97,EI1,H⟩:=H;(try dsimp only at H);have A94:=aM EI1;clear EI1;have EI2:=aM H;clear H;have ⟨hcz96_0,hcz96_1,hcz96_2,hcz96_3,hcz96_4,hcz96_5,hcz96_6,hcz96_7,hcz96_8,hcz96_9,hcz96_10,hfz96_0,hfz96_1,hfz96_2,hfz96_3,hfz96_4,hfz96_5,hfz96_6,hfz96_7,hfz96_8,hfz96_9,hfz96_10⟩:=cz11_ E7.out;go_wp2_with (first | (with_reducible refine hold_ 99 100 ?_) | ((with_reducible refine gc_ 30 ?_);refine gl_ (some 98) Tryz.func30 #[.agg #[.int .i64 D7,.int .i64 C5]] ?_;(with_reducible refine (Y73.calls D7 C5 C97 _ A94.out).mono ?_);rintro e w97 ⟨rfl,hb⟩;refine ⟨_,rfl,?_⟩;replace E7:=aM (blkB_ E7.out hb);replace HB:=aM (below_step (z0_ HB.out) hb)));refine Held_.out_ ?_;have H:=EI2.out;clear EI2;by_cases c98:C97=true
         ·subst c98;rw [if_pos rfl] at H;replace H:=bS H;obtain ⟨Do4,CX6,H⟩:=H;(try dsimp only at H);have A99:=aM CX6;clear CX6;obtain rfl:=sI H;have ⟨hcz100_0,hcz100_1,hcz100_2,hcz100_3,hcz100_4,hcz100_5,hcz100_6,hcz100_7,hcz100_8,hcz100_9,hcz100_10,hfz100_0,hfz100_1,hfz100_2,hfz100_3,hfz100_4,hfz100_5,hfz100_6,hfz100_7,hfz100_8,hfz100_9,hfz100_10⟩:=cz11_ E7.out;go_wp2_with (first | (go_at_call 31;(with_reducible refine (Y47.calls k2 _ _ D2 D7 C5 Do4 _ ?s1 ?s2 A99.out).mono ?_);(case s1 =>exact zC_ (Kd.C_below Q6.out HB.out));(case s2=>exact Q7.out);rintro e w101 ⟨rfl,hb⟩;replace E7:=aM (blkB_ E7.out hb);replace HB:=aM (below_step (z0_ HB.out) hb)));go_ret;exact ⟨z6_,z0_ HB.out⟩
         ·replace c98:=Bool.eq_false_iff.mpr c98;subst c98;rw [if_neg (show ¬ (false=true) by decide)] at H;obtain rfl:=sI H;go_wp2;go_ret;exact ⟨z6_,z0_ HB.out⟩
       ·replace c71:=Bool.eq_false_iff.mpr c71;subst c71;rw [if_neg (show ¬ (false=true) by decide)] at H;obtain rfl:=sI H;go_wp2;go_ret;exact ⟨z6_,z0_ HB.out⟩


/-! ### Y101: function 63 -/
def Y101.f (C2:Int) (C3:Int) (C9:Bool) (C4:ByteArray) (D8:Int) (E3:Int) (I3:Bool) (I6:ByteArray):Option (Bool):=if C2=D8 then (if C3=E3 then (if (C9 != I3)=true then (none) else (if C4.toList=I6.toList then (some true) else (none))) else (none)) else (none)
theorem Y101.calls (C2:Int) (C3:Int) (C9:Bool) (C4:ByteArray) (D8:Int) (E3:Int) (I3:Bool) (I6:ByteArray) (r:Bool) (w:World) (h:Y101.f C2 C3 C9 C4 D8 E3 I3 I6=some r) :
  Calls Tryz.prog 63 #[.agg #[.int .i64 C2,.int .i64 C3,.bool C9,.string C4],.agg #[.int .i64 D8,.int .i64 E3,.bool I3,.string I6]] w fun e w'=>e = .returned (.bool r)∧Below w.heap.size w w':=by
 have BG0:=Tryz.underlying61;have HB:=aM (Below.refl w.heap.size w);have H:(if C2=D8 then (if C3=E3 then (if (C9 != I3)=true then (none) else (if C4.toList=I6.toList then (some true) else (none))) else (none)) else (none))=some r:=h;clear h;by_cases c3:C2=D8
 ·rw [if_pos c3] at H;have c3b0:(C2 == D8)=true:=beq_iff_eq.mpr c3;have c3b1:(C2 != D8)=false:=bne_eq_false_iff_eq.mpr c3;clear c3;by_cases c4:C3=E3
  ·rw [if_pos c4] at H;have c4b0:(C3 == E3)=true:=beq_iff_eq.mpr c4;have c4b1:(C3 != E3)=false:=bne_eq_false_iff_eq.mpr c4;clear c4;by_cases c5:(C9 != I3)=true
   ·rw [if_pos c5] at H;exact nO H
   ·rw [if_neg c5] at H;(have c5b0:(C9 != I3)=false:=by simpa using c5);(try (have c5b1:decide (C9=I3)=true:=by simpa using c5));(try (have c5b2:(C9 == I3)=true:=by simpa using c5));clear c5;by_cases c6:C4.toList=I6.toList
    ·rw [if_pos c6] at H;have c6b0:(C4.toList == I6.toList)=true:=beq_iff_eq.mpr c6;have c6b1:(C4.toList != I6.toList)=false:=bne_eq_false_iff_eq.mpr c6;clear c6;obtain rfl:=sI H;go_enter Tryz.func63,Tryz.ntmps63;go_wp2_with (first | ((with_reducible refine gd_ 2 ?_);refine be_ 2 #[.int .i64 C2,.int .i64 C3,.bool C9,.string C4] 61 ?_;intro DP3 hg w7 hbox hb;have BZ2:=aM (hbox);have GW697:=aM ((z8_ HB.out:w.heap.size≤DP3));have GE697:=aM ((z8_ HB.out:w.heap.size≤DP3));replace HB:=aM (below_step (z5_ HB.out) hb);clear hb hbox hg) | ((with_reducible refine gd_ 3 ?_);refine be_ 3 #[.int .i64 D8,.int .i64 E3,.bool I3,.string I6] 61 ?_;intro DP4 hg w8 hbox hb;have EI3:=aM (hbox);have GW698:=aM ((z7_ HB.out:w.heap.size≤DP4));have GE698:=aM ((z7_ HB.out:w.heap.size≤DP4));replace HB:=aM (below_step (z0_ HB.out) hb);have CF4:=aM (neL_ BZ2.out hg);have CF5:=aM (neG_ BZ2.out hg);replace BZ2:=aM (blkB_ BZ2.out hb);clear hb hbox hg;have CB8:=CF4.out;have CB9:=CF5.out;have ⟨m9,n0,Ag4,Av8,n2,n3,Ag5,Av9⟩:=cz4_ BZ2.out;have ⟨AA9,AB0,AU8,Ac9,AB1,AB2,AU9,Ad0⟩:=cz4_ EI3.out));go_ret;exact ⟨z6_,z0_ HB.out⟩
    ·rw [if_neg c6] at H;exact nO H
  ·rw [if_neg c4] at H;exact nO H
 ·rw [if_neg c3] at H;exact nO H


/-! ### Y48: function 34 -/
def Y48.l0:Nat→List (S61)→List (S61)→Int→Option (Bool)
 | 0,_,_,_=>none
 | k+1,x0,x1,x5=>if x5<(x0.length:Int) then (if 0≤x5 then (if x5<(x1.length:Int) then ((Y101.f ((rd_T61 x0 x5).f0) ((rd_T61 x0 x5).f1) ((rd_T61 x0 x5).f2) ((rd_T61 x0 x5).f3) ((rd_T61 x1 x5).f0) ((rd_T61 x1 x5).f1) ((rd_T61 x1 x5).f2) ((rd_T61 x1 x5).f3)).bind fun Dp1=>(if Dp1=true then (Y48.l0 k x0 x1 (wrap64 (x5+1))) else (none))) else (none)) else (none)) else (some true)
def Y48.f (k:Nat) (l0:List (S61)) (l1:List (S61)):Option (Bool):=if (l0.length:Int)=(l1.length:Int) then (Y48.l0 k l0 l1 0) else (none)
theorem Y48.mono_l:∀ k,(∀ y0 y1 y2,LeO (Y48.l0 k y0 y1 y2) (Y48.l0 (k+1) y0 y1 y2))
 | 0=>by intros <;> exact LeO.none _
 | k+1=>by
  have ih0:=Y48.mono_l k
  ·intros;unfold Y48.l0;exact mO
theorem Y48.mono:∀ a0 a1 k,LeO (Y48.f k a0 a1) (Y48.f (k+1) a0 a1):=by
 intro a0 a1 k;have ih0:=Y48.mono_l k;unfold Y48.f;exact mO
def Y48.T6:Bool × List (List Nat × List Nat):=(true,[([],[]),([],[]),([0,1],[0,1]),([2],[2]),([],[]),([],[]),([4,5],[4,5]),([6],[6]),([3,7],[3,7]),([8],[8])])
def Y48.B6:List Nat:=[0,0,3,7,0,0,48,112,255,511]
theorem Y48.tab6:rtab .any (opsOf Tryz.f34 6)=Y48.T6:=by kernel_rfl
theorem Y48.bits6:waitsOk Y48.T6.2 Y48.B6=true:=by kernel_rfl
theorem Y48.calls (k:Nat) (A0:Option Addr) (c0:Nat) (l0:List (S61)) (A1:Option Addr) (c1:Nat) (l1:List (S61)) (r:Bool) (w:World) (hr0:Kd.C k61 w A0 l0.length l0) (hc0:l0.length≤c0) (hr1:Kd.C k61 w A1 l1.length l1) (hc1:l1.length≤c1) (h:Y48.f k l0 l1=some r) :
  Calls Tryz.prog 34 #[.slice A0 l0.length c0,.slice A1 l1.length c1] w fun e w'=>e = .returned (.bool r)∧Below w.heap.size w w':=by
 have BG0:=Tryz.underlying61;have HR0:=aM hr0;have HC0:=aM hc0;clear hr0 hc0;have HR1:=aM hr1;have HC1:=aM hc1;clear hr1 hc1;have HB:=aM (Below.refl w.heap.size w);have H:(if (l0.length:Int)=(l1.length:Int) then (Y48.l0 k l0 l1 0) else (none))=some r:=h;clear h;by_cases c3:(l0.length:Int)=(l1.length:Int)
 ·rw [if_pos c3] at H;have c3b0:((l0.length:Int) == (l1.length:Int))=true:=beq_iff_eq.mpr c3;have c3b1:((l0.length:Int) != (l1.length:Int))=false:=bne_eq_false_iff_eq.mpr c3;(have c3b2:(l0.length == l1.length)=true:=by first | simpa using c3 | (simp at c3 ⊢;omega));clear c3;have H':=aM H;clear H;go_enter Tryz.func34,Tryz.ntmps34;go_wp2;go_loopg [5] k (fun kq v5 w'=>∃ (C1:Int),v5 = .int .i64 C1∧Aside0 (Y48.l0 kq l0 l1 C1=some r)∧Aside0 (kq≤k)∧Aside0 (Below w.heap.size w w'));case atStart=>exact ⟨(0),(z1_),H',⟨Nat.le_refl _⟩,⟨z5_ HB.out⟩⟩
  case round =>
   clear H';obtain ⟨C1,rfl,HA,HK1,HB⟩:=hrel
   cases gk with
   | zero=>exact absurd HA.out (by simp [Y48.l0])
   | succ k1 =>
    have H:=HA.out;clear HA;simp only [Y48.l0] at H;by_cases c4:C1<(l0.length:Int)
    ·rw [if_pos c4] at H;have c4b0:decide (C1<(l0.length:Int))=true:=dE c4;clear c4;by_cases c5:0≤C1
     ·rw [if_pos c5] at H;have c5b0:decide (0≤C1)=true:=dE c5;clear c5;by_cases c6:C1<(l1.length:Int)
      ·rw [if_pos c6] at H;have c6b0:decide (C1<(l1.length:Int))=true:=dE c6;clear c6;replace H:=bS H;obtain ⟨Dp1,A70,H⟩:=H;(try dsimp only at H);have A7:=aM A70;clear A70;by_cases c8:Dp1=true
       ·subst c8;rw [if_pos rfl] at H;have H':=aM H;clear H;(try go_wp2);replace HB:=aM (below_drew1 HB.out);have Dp2:0≤(C1:Int):=dT (z2_);have Dp3:C1<(l0.length:Int):=dT (z2_);obtain ⟨A91,EV1,Ax2,Ax3,Ax4,Ax5⟩:=at_T61 HR0.out C1 Dp2 Dp3;have B46:=Ax5;have B47:=Ax4;have B48:=Ax3;have B49:=Ax2;cases EV1;replace Ax2:=wc_ HB.out Ax2;replace Ax3:=wc_ HB.out Ax3;replace Ax4:=wc_ HB.out Ax4;replace Ax5:=wc_ HB.out Ax5;replace Dp2:=eq_true Dp2;replace Dp3:=eq_true Dp3;have Dp4:0≤(C1:Int):=dT (z2_);have Dp5:C1<(l1.length:Int):=dT (z2_);obtain ⟨A92,EV2,Ax6,Ax7,Ax8,Ax9⟩:=at_T61 HR1.out C1 Dp4 Dp5;have B50:=Ax9;have B51:=Ax8;have B52:=Ax7;have B53:=Ax6;cases EV2;replace Ax6:=wc_ HB.out Ax6;replace Ax7:=wc_ HB.out Ax7;replace Ax8:=wc_ HB.out Ax8;replace Ax9:=wc_ HB.out Ax9;replace Dp4:=eq_true Dp4;replace Dp5:=eq_true Dp5;refine start_ (n:=10) (S:=fun w'=>w'.cell? (A91.add ((C1).toNat*4))=some (.int .i64 ((rd_T61 l0 C1).f0))∧w'.cell? ⟨(A91.add ((C1).toNat*4)).block,(A91.add ((C1).toNat*4)).off+1,none⟩=some (.int .i64 ((rd_T61 l0 C1).f1))∧w'.cell? ⟨(A91.add ((C1).toNat*4)).block,(A91.add ((C1).toNat*4)).off+2,none⟩=some (.bool ((rd_T61 l0 C1).f2))∧w'.cell? ⟨(A91.add ((C1).toNat*4)).block,(A91.add ((C1).toNat*4)).off+3,none⟩=some (.string ((rd_T61 l0 C1).f3))∧w'.cell? (A92.add ((C1).toNat*4))=some (.int .i64 ((rd_T61 l1 C1).f0))∧w'.cell? ⟨(A92.add ((C1).toNat*4)).block,(A92.add ((C1).toNat*4)).off+1,none⟩=some (.int .i64 ((rd_T61 l1 C1).f1))∧w'.cell? ⟨(A92.add ((C1).toNat*4)).block,(A92.add ((C1).toNat*4)).off+2,none⟩=some (.bool ((rd_T61 l1 C1).f2))∧w'.cell? ⟨(A92.add ((C1).toNat*4)).block,(A92.add ((C1).toNat*4)).off+3,none⟩=some (.string ((rd_T61 l1 C1).f3))) (ds:=[]) (nq 10 0) (by kernel_rfl) rfl rfl ⟨(wc_ HB.out B49:),(wc_ HB.out B48:),(wc_ HB.out B47:),(wc_ HB.out B46:),(wc_ HB.out B53:),(wc_ HB.out B52:),(wc_ HB.out B51:),(wc_ HB.out B50:)⟩ (fun hHeld=>?_);refine with_tabW Y48.tab6 Y48.bits6 (fun HT_ HW_=>?_);generalize wr.drew=w9 at HB Ax2 Ax3 Ax4 Ax5 Ax6 Ax7 Ax8 Ax9 hHeld ⊢;(iterate 3 refine pa_ HT_.out ?_);refine pu_ 4 21 #[I,I,I,O,I,O,O,O,O,O] HT_.out ?_;refine pu_ 5 22 #[I,I,I,O,I,I,O,O,O,O] HT_.out ?_;refine pu_ 6 23 #[I,I,I,O,I,I,I,O,O,O] HT_.out ?_;refine tk8_ 3 20 (nq 10 7) HT_.out HW_.out hHeld ?_;refine ta8_ HT_.out HW_.out hHeld ?_;refine oa_ HT_.out (fun K hK=>?_);refine gs_ Tryz.func63 #[.agg #[.int .i64 ((rd_T61 l0 C1).f0),.int .i64 ((rd_T61 l0 C1).f1),.bool ((rd_T61 l0 C1).f2),.string ((rd_T61 l0 C1).f3)],.agg #[.int .i64 ((rd_T61 l1 C1).f0),.int .i64 ((rd_T61 l1 C1).f1),.bool ((rd_T61 l1 C1).f2),.string ((rd_T61 l1 C1).f3)]] ?_;(with_reducible refine (Y101.calls ((rd_T61 l0 C1).f0) ((rd_T61 l0 C1).f1) ((rd_T61 l0 C1).f2) ((rd_T61 l0 C1).f3) ((rd_T61 l1 C1).f0) ((rd_T61 l1 C1).f1) ((rd_T61 l1 C1).f2) ((rd_T61 l1 C1).f3) true _ A7.out).mono ?_);rintro e w10 ⟨rfl,hb⟩;refine ⟨_,rfl,?_⟩;replace HB:=aM (below_step (z5_ HB.out) hb);refine hK.out _ _ ⟨(wc_ HB.out B49:),(wc_ HB.out B48:),(wc_ HB.out B47:),(wc_ HB.out B46:),(wc_ HB.out B53:),(wc_ HB.out B52:),(wc_ HB.out B51:),(wc_ HB.out B50:)⟩ (fun hHeld=>?_);clear hK K;refine nm_ 25 ?_;refine pa_ HT_.out ?_;refine done_ (done_of HT_.out (by kernel_rfl)) ?_;(try go_wp2);go_roundg k1;(case measure=>have:=HK1.out;omega);case rel=>exact ⟨(wrap64 (C1+1)),(z1_),H',⟨by have:=HK1.out;omega⟩,⟨z5_ HB.out⟩⟩
       ·replace c8:=Bool.eq_false_iff.mpr c8;subst c8;rw [if_neg (show ¬ (false=true) by decide)] at H;exact nO H
      ·rw [if_neg c6] at H;exact nO H
     ·rw [if_neg c5] at H;exact nO H
    ·rw [if_neg c4] at H;have c4b0:decide (C1<(l0.length:Int))=false:=dF c4;clear c4;obtain rfl:=sI H;go_wp2;go_ret;exact ⟨z6_,z5_ HB.out⟩
 ·rw [if_neg c3] at H;exact nO H


/-! ### Y82: function 36 -/
def Y82.f (C2:Int) (C3:Int) (D8:Int) (E3:Int):Option (Bool):=if C2=D8 then (if C3=E3 then (some true) else (none)) else (none)
theorem Y82.calls (C2:Int) (C3:Int) (D8:Int) (E3:Int) (r:Bool) (w:World) (h:Y82.f C2 C3 D8 E3=some r) :
  Calls Tryz.prog 36 #[.agg #[.int .i64 C2,.int .i64 C3],.agg #[.int .i64 D8,.int .i64 E3]] w fun e w'=>e = .returned (.bool r)∧Below w.heap.size w w':=by
 have Z4:=Tryz.underlying38;have HB:=aM (Below.refl w.heap.size w);have H:(if C2=D8 then (if C3=E3 then (some true) else (none)) else (none))=some r:=h;clear h;by_cases c3:C2=D8
 ·rw [if_pos c3] at H;have c3b0:(C2 == D8)=true:=beq_iff_eq.mpr c3;have c3b1:(C2 != D8)=false:=bne_eq_false_iff_eq.mpr c3;clear c3;by_cases c4:C3=E3
  ·rw [if_pos c4] at H;have c4b0:(C3 == E3)=true:=beq_iff_eq.mpr c4;have c4b1:(C3 != E3)=false:=bne_eq_false_iff_eq.mpr c4;clear c4;obtain rfl:=sI H;go_enter Tryz.func36,Tryz.ntmps36;go_wp2_with (first | ((with_reducible refine gd_ 2 ?_);refine be_ 2 #[.int .i64 C2,.int .i64 C3] 38 ?_;intro DP5 hg w5 hbox hb;have BZ3:=aM (hbox);have GW702:=aM ((z8_ HB.out:w.heap.size≤DP5));have GE702:=aM ((z8_ HB.out:w.heap.size≤DP5));replace HB:=aM (below_step (z5_ HB.out) hb);clear hb hbox hg) | ((with_reducible refine gd_ 3 ?_);refine be_ 3 #[.int .i64 D8,.int .i64 E3] 38 ?_;intro DP6 hg w6 hbox hb;have EI4:=aM (hbox);have GW703:=aM ((z7_ HB.out:w.heap.size≤DP6));have GE703:=aM ((z7_ HB.out:w.heap.size≤DP6));replace HB:=aM (below_step (z0_ HB.out) hb);have CF6:=aM (neL_ BZ3.out hg);have CF7:=aM (neG_ BZ3.out hg);replace BZ3:=aM (blkB_ BZ3.out hb);clear hb hbox hg;have Cn2:=CF6.out;have Cn3:=CF7.out;have ⟨n4,n6,n7,n8⟩:=cz2_ BZ3.out;have ⟨t7,t8,t9,u2⟩:=cz2_ EI4.out));go_ret;exact ⟨z6_,z0_ HB.out⟩
  ·rw [if_neg c4] at H;exact nO H
 ·rw [if_neg c3] at H;exact nO H


/-! ### Y40: function 64 -/
def Y40.l0:Nat→List (S38)→List (S38)→Int→Option (Bool)
 | 0,_,_,_=>none
 | k+1,x0,x1,x5=>if x5<(x0.length:Int) then (if 0≤x5 then (if x5<(x1.length:Int) then ((Y82.f ((rd_T38 x0 x5).f0) ((rd_T38 x0 x5).f1) ((rd_T38 x1 x5).f0) ((rd_T38 x1 x5).f1)).bind fun Dp6=>(if Dp6=true then (Y40.l0 k x0 x1 (wrap64 (x5+1))) else (none))) else (none)) else (none)) else (some true)
def Y40.f (k:Nat) (l0:List (S38)) (l1:List (S38)):Option (Bool):=if (l0.length:Int)=(l1.length:Int) then (Y40.l0 k l0 l1 0) else (none)
theorem Y40.mono_l:∀ k,(∀ y0 y1 y2,LeO (Y40.l0 k y0 y1 y2) (Y40.l0 (k+1) y0 y1 y2))
 | 0=>by intros <;> exact LeO.none _
 | k+1=>by
  have ih0:=Y40.mono_l k
  ·intros;unfold Y40.l0;exact mO
theorem Y40.mono:∀ a0 a1 k,LeO (Y40.f k a0 a1) (Y40.f (k+1) a0 a1):=by
 intro a0 a1 k;have ih0:=Y40.mono_l k;unfold Y40.f;exact mO
def Y40.T6:Bool × List (List Nat × List Nat):=(true,[([],[]),([],[]),([0,1],[0,1]),([2],[2]),([],[]),([],[]),([4,5],[4,5]),([6],[6]),([3,7],[3,7]),([8],[8])])
def Y40.B6:List Nat:=[0,0,3,7,0,0,48,112,255,511]
theorem Y40.tab6:rtab .any (opsOf Tryz.f64 6)=Y40.T6:=by kernel_rfl
theorem Y40.bits6:waitsOk Y40.T6.2 Y40.B6=true:=by kernel_rfl
theorem Y40.calls (k:Nat) (A0:Option Addr) (c0:Nat) (l0:List (S38)) (A1:Option Addr) (c1:Nat) (l1:List (S38)) (r:Bool) (w:World) (hr0:Kd.C k38 w A0 l0.length l0) (hc0:l0.length≤c0) (hr1:Kd.C k38 w A1 l1.length l1) (hc1:l1.length≤c1) (h:Y40.f k l0 l1=some r) :
  Calls Tryz.prog 64 #[.slice A0 l0.length c0,.slice A1 l1.length c1] w fun e w'=>e = .returned (.bool r)∧Below w.heap.size w w':=by
 have Z4:=Tryz.underlying38;have HR0:=aM hr0;have HC0:=aM hc0;clear hr0 hc0;have HR1:=aM hr1;have HC1:=aM hc1;clear hr1 hc1;have HB:=aM (Below.refl w.heap.size w);have H:(if (l0.length:Int)=(l1.length:Int) then (Y40.l0 k l0 l1 0) else (none))=some r:=h;clear h;by_cases c3:(l0.length:Int)=(l1.length:Int)
 ·rw [if_pos c3] at H;have c3b0:((l0.length:Int) == (l1.length:Int))=true:=beq_iff_eq.mpr c3;have c3b1:((l0.length:Int) != (l1.length:Int))=false:=bne_eq_false_iff_eq.mpr c3;(have c3b2:(l0.length == l1.length)=true:=by first | simpa using c3 | (simp at c3 ⊢;omega));clear c3;have H':=aM H;clear H;go_enter Tryz.func64,Tryz.ntmps64;go_wp2;go_loopg [5] k (fun kq v5 w'=>∃ (C1:Int),v5 = .int .i64 C1∧Aside0 (Y40.l0 kq l0 l1 C1=some r)∧Aside0 (kq≤k)∧Aside0 (Below w.heap.size w w'));case atStart=>exact ⟨(0),(z1_),H',⟨Nat.le_refl _⟩,⟨z5_ HB.out⟩⟩
  case round =>
   clear H';obtain ⟨C1,rfl,HA,HK1,HB⟩:=hrel
   cases gk with
   | zero=>exact absurd HA.out (by simp [Y40.l0])
   | succ k1 =>
    have H:=HA.out;clear HA;simp only [Y40.l0] at H;by_cases c4:C1<(l0.length:Int)
    ·rw [if_pos c4] at H;have c4b0:decide (C1<(l0.length:Int))=true:=dE c4;clear c4;by_cases c5:0≤C1
     ·rw [if_pos c5] at H;have c5b0:decide (0≤C1)=true:=dE c5;clear c5;by_cases c6:C1<(l1.length:Int)
      ·rw [if_pos c6] at H;have c6b0:decide (C1<(l1.length:Int))=true:=dE c6;clear c6;replace H:=bS H;obtain ⟨Dp6,A70,H⟩:=H;(try dsimp only at H);have A7:=aM A70;clear A70;by_cases c8:Dp6=true
       ·subst c8;rw [if_pos rfl] at H;have H':=aM H;clear H;(try go_wp2);replace HB:=aM (below_drew1 HB.out);have Dp7:0≤(C1:Int):=dT (z2_);have Dp8:C1<(l0.length:Int):=dT (z2_);obtain ⟨Ca6,EV3,Ay0,Ay1⟩:=at_T38 HR0.out C1 Dp7 Dp8;have B54:=Ay1;have B55:=Ay0;cases EV3;replace Ay0:=wc_ HB.out Ay0;replace Ay1:=wc_ HB.out Ay1;replace Dp7:=eq_true Dp7;replace Dp8:=eq_true Dp8;have Dp9:0≤(C1:Int):=dT (z2_);have Dq0:C1<(l1.length:Int):=dT (z2_);obtain ⟨Ca7,EV4,Ay2,Ay3⟩:=at_T38 HR1.out C1 Dp9 Dq0;have B56:=Ay3;have B57:=Ay2;cases EV4;replace Ay2:=wc_ HB.out Ay2;replace Ay3:=wc_ HB.out Ay3;replace Dp9:=eq_true Dp9;replace Dq0:=eq_true Dq0;refine start_ (n:=10) (S:=fun w'=>w'.cell? (Ca6.add ((C1).toNat*2))=some (.int .i64 ((rd_T38 l0 C1).f0))∧w'.cell? ⟨(Ca6.add ((C1).toNat*2)).block,(Ca6.add ((C1).toNat*2)).off+1,none⟩=some (.int .i64 ((rd_T38 l0 C1).f1))∧w'.cell? (Ca7.add ((C1).toNat*2))=some (.int .i64 ((rd_T38 l1 C1).f0))∧w'.cell? ⟨(Ca7.add ((C1).toNat*2)).block,(Ca7.add ((C1).toNat*2)).off+1,none⟩=some (.int .i64 ((rd_T38 l1 C1).f1))) (ds:=[]) (nq 10 0) (by kernel_rfl) rfl rfl ⟨(wc_ HB.out B55:),(wc_ HB.out B54:),(wc_ HB.out B57:),(wc_ HB.out B56:)⟩ (fun hHeld=>?_);refine with_tabW Y40.tab6 Y40.bits6 (fun HT_ HW_=>?_);generalize wr.drew=w9 at HB Ay0 Ay1 Ay2 Ay3 hHeld ⊢;(iterate 3 refine pa_ HT_.out ?_);refine pu_ 4 21 #[I,I,I,O,I,O,O,O,O,O] HT_.out ?_;refine pu_ 5 22 #[I,I,I,O,I,I,O,O,O,O] HT_.out ?_;refine pu_ 6 23 #[I,I,I,O,I,I,I,O,O,O] HT_.out ?_;refine tk4_ 3 20 (nq 10 7) HT_.out HW_.out hHeld ?_;refine ta4_ HT_.out HW_.out hHeld ?_;refine oa_ HT_.out (fun K hK=>?_);refine gs_ Tryz.func36 #[.agg #[.int .i64 ((rd_T38 l0 C1).f0),.int .i64 ((rd_T38 l0 C1).f1)],.agg #[.int .i64 ((rd_T38 l1 C1).f0),.int .i64 ((rd_T38 l1 C1).f1)]] ?_;(with_reducible refine (Y82.calls ((rd_T38 l0 C1).f0) ((rd_T38 l0 C1).f1) ((rd_T38 l1 C1).f0) ((rd_T38 l1 C1).f1) true _ A7.out).mono ?_);rintro e w10 ⟨rfl,hb⟩;refine ⟨_,rfl,?_⟩;replace HB:=aM (below_step (z5_ HB.out) hb);refine hK.out _ _ ⟨(wc_ HB.out B55:),(wc_ HB.out B54:),(wc_ HB.out B57:),(wc_ HB.out B56:)⟩ (fun hHeld=>?_);clear hK K;refine nm_ 25 ?_;refine pa_ HT_.out ?_;refine done_ (done_of HT_.out (by kernel_rfl)) ?_;(try go_wp2);go_roundg k1;(case measure=>have:=HK1.out;omega);case rel=>exact ⟨(wrap64 (C1+1)),(z1_),H',⟨by have:=HK1.out;omega⟩,⟨z5_ HB.out⟩⟩
       ·replace c8:=Bool.eq_false_iff.mpr c8;subst c8;rw [if_neg (show ¬ (false=true) by decide)] at H;exact nO H
      ·rw [if_neg c6] at H;exact nO H
     ·rw [if_neg c5] at H;exact nO H
    ·rw [if_neg c4] at H;have c4b0:decide (C1<(l0.length:Int))=false:=dF c4;clear c4;obtain rfl:=sI H;go_wp2;go_ret;exact ⟨z6_,z5_ HB.out⟩
 ·rw [if_neg c3] at H;exact nO H


/-! ### Y102: function 86 -/
def Y102.f (C2:Int) (C3:Int) (C9:Bool) (C4:ByteArray) (D8:Int) (E3:Int) (I3:Bool) (I6:ByteArray):Option (Bool):=(Y82.f C2 C3 D8 E3).bind fun Ca8=>(if Ca8=true then (if (C9 != I3)=true then (none) else (if C4.toList=I6.toList then (some true) else (none))) else (none))
theorem Y102.calls (C2:Int) (C3:Int) (C9:Bool) (C4:ByteArray) (D8:Int) (E3:Int) (I3:Bool) (I6:ByteArray) (r:Bool) (w:World) (h:Y102.f C2 C3 C9 C4 D8 E3 I3 I6=some r) :
  Calls Tryz.prog 86 #[.agg #[.int .i64 C2,.int .i64 C3,.bool C9,.string C4],.agg #[.int .i64 D8,.int .i64 E3,.bool I3,.string I6]] w fun e w'=>e = .returned (.bool r)∧Below w.heap.size w w':=by
 have AS8:=Tryz.underlying75;have Z4:=Tryz.underlying38;have HB:=aM (Below.refl w.heap.size w);have H:((Y82.f C2 C3 D8 E3).bind fun Ca8=>(if Ca8=true then (if (C9 != I3)=true then (none) else (if C4.toList=I6.toList then (some true) else (none))) else (none)))=some r:=h;clear h;replace H:=bS H;obtain ⟨Ca8,A30,H⟩:=H;(try dsimp only at H);have A3:=aM A30;clear A30;by_cases c4:Ca8=true
 ·subst c4;rw [if_pos rfl] at H;by_cases c5:(C9 != I3)=true
  ·rw [if_pos c5] at H;exact nO H
  ·rw [if_neg c5] at H;(have c5b0:(C9 != I3)=false:=by simpa using c5);(try (have c5b1:decide (C9=I3)=true:=by simpa using c5));(try (have c5b2:(C9 == I3)=true:=by simpa using c5));clear c5;by_cases c6:C4.toList=I6.toList
   ·rw [if_pos c6] at H;have c6b0:(C4.toList == I6.toList)=true:=beq_iff_eq.mpr c6;have c6b1:(C4.toList != I6.toList)=false:=bne_eq_false_iff_eq.mpr c6;clear c6;obtain rfl:=sI H;go_enter Tryz.func86,Tryz.ntmps86;go_wp2_with (first | ((with_reducible refine gd_ 2 ?_);refine be_ 2 #[.int .i64 C2,.int .i64 C3,.bool C9,.string C4] 75 ?_;intro DP7 hg w7 hbox hb;have Am9:=aM (hbox);have GW707:=aM ((z8_ HB.out:w.heap.size≤DP7));have GE707:=aM ((z8_ HB.out:w.heap.size≤DP7));replace HB:=aM (below_step (z5_ HB.out) hb);clear hb hbox hg) | ((with_reducible refine gd_ 3 ?_);refine be_ 3 #[.int .i64 D8,.int .i64 E3,.bool I3,.string I6] 75 ?_;intro DP8 hg w8 hbox hb;have B58:=aM (hbox);have GW708:=aM ((z7_ HB.out:w.heap.size≤DP8));have GE708:=aM ((z7_ HB.out:w.heap.size≤DP8));replace HB:=aM (below_step (z0_ HB.out) hb);have CF8:=aM (neL_ Am9.out hg);have CF9:=aM (neG_ Am9.out hg);replace Am9:=aM (blkB_ Am9.out hb);clear hb hbox hg;have CB8:=CF8.out;have CB9:=CF9.out;have ⟨m9,n0,Ag4,Av8,n2,n3,Ag5,Av9⟩:=cz4_ Am9.out;have ⟨AA9,AB0,AU8,Ac9,AB1,AB2,AU9,Ad0⟩:=cz4_ B58.out) | ((with_reducible refine gc_ 36 ?_);refine gl_ (some 9) Tryz.func36 #[.agg #[.int .i64 C2,.int .i64 C3],.agg #[.int .i64 D8,.int .i64 E3]] ?_;(with_reducible refine (Y82.calls C2 C3 D8 E3 true _ A3.out).mono ?_);rintro e w12 ⟨rfl,hb⟩;refine ⟨_,rfl,?_⟩;replace Am9:=aM (blkB_ Am9.out hb);replace B58:=aM (blkB_ B58.out hb);replace HB:=aM (below_step (z0_ HB.out) hb);have ⟨AQ3,AQ4,Bv6,Cu3,AQ5,AQ6,Bv7,Cu4⟩:=cz4_ Am9.out;have ⟨AP8,AP9,BF5,Cc4,AQ0,AQ1,BF6,Cc5⟩:=cz4_ B58.out));go_ret;exact ⟨z6_,z0_ HB.out⟩
   ·rw [if_neg c6] at H;exact nO H
 ·replace c4:=Bool.eq_false_iff.mpr c4;subst c4;rw [if_neg (show ¬ (false=true) by decide)] at H;exact nO H


/-! ### Y49: function 65 -/
def Y49.l0:Nat→List (S75)→List (S75)→Int→Option (Bool)
 | 0,_,_,_=>none
 | k+1,x0,x1,x5=>if x5<(x0.length:Int) then (if 0≤x5 then (if x5<(x1.length:Int) then ((Y102.f ((rd_T75 x0 x5).f0.f0) ((rd_T75 x0 x5).f0.f1) ((rd_T75 x0 x5).f1) ((rd_T75 x0 x5).f2) ((rd_T75 x1 x5).f0.f0) ((rd_T75 x1 x5).f0.f1) ((rd_T75 x1 x5).f1) ((rd_T75 x1 x5).f2)).bind fun Dq1=>(if Dq1=true then (Y49.l0 k x0 x1 (wrap64 (x5+1))) else (none))) else (none)) else (none)) else (some true)
def Y49.f (k:Nat) (l0:List (S75)) (l1:List (S75)):Option (Bool):=if (l0.length:Int)=(l1.length:Int) then (Y49.l0 k l0 l1 0) else (none)
theorem Y49.mono_l:∀ k,(∀ y0 y1 y2,LeO (Y49.l0 k y0 y1 y2) (Y49.l0 (k+1) y0 y1 y2))
 | 0=>by intros <;> exact LeO.none _
 | k+1=>by
  have ih0:=Y49.mono_l k
  ·intros;unfold Y49.l0;exact mO
theorem Y49.mono:∀ a0 a1 k,LeO (Y49.f k a0 a1) (Y49.f (k+1) a0 a1):=by
 intro a0 a1 k;have ih0:=Y49.mono_l k;unfold Y49.f;exact mO
def Y49.T6:Bool × List (List Nat × List Nat):=(true,[([],[]),([],[]),([0,1],[0,1]),([2],[2]),([],[]),([],[]),([4,5],[4,5]),([6],[6]),([3,7],[3,7]),([8],[8])])
def Y49.B6:List Nat:=[0,0,3,7,0,0,48,112,255,511]
theorem Y49.tab6:rtab .any (opsOf Tryz.f65 6)=Y49.T6:=by kernel_rfl
theorem Y49.bits6:waitsOk Y49.T6.2 Y49.B6=true:=by kernel_rfl
theorem Y49.calls (k:Nat) (A0:Option Addr) (c0:Nat) (l0:List (S75)) (A1:Option Addr) (c1:Nat) (l1:List (S75)) (r:Bool) (w:World) (hr0:Kd.C k75 w A0 l0.length l0) (hc0:l0.length≤c0) (hr1:Kd.C k75 w A1 l1.length l1) (hc1:l1.length≤c1) (h:Y49.f k l0 l1=some r) :
  Calls Tryz.prog 65 #[.slice A0 l0.length c0,.slice A1 l1.length c1] w fun e w'=>e = .returned (.bool r)∧Below w.heap.size w w':=by
 have AS8:=Tryz.underlying75;have HR0:=aM hr0;have HC0:=aM hc0;clear hr0 hc0;have HR1:=aM hr1;have HC1:=aM hc1;clear hr1 hc1;have HB:=aM (Below.refl w.heap.size w);have H:(if (l0.length:Int)=(l1.length:Int) then (Y49.l0 k l0 l1 0) else (none))=some r:=h;clear h;by_cases c3:(l0.length:Int)=(l1.length:Int)
 ·rw [if_pos c3] at H;have c3b0:((l0.length:Int) == (l1.length:Int))=true:=beq_iff_eq.mpr c3;have c3b1:((l0.length:Int) != (l1.length:Int))=false:=bne_eq_false_iff_eq.mpr c3;(have c3b2:(l0.length == l1.length)=true:=by first | simpa using c3 | (simp at c3 ⊢;omega));clear c3;have H':=aM H;clear H;go_enter Tryz.func65,Tryz.ntmps65;go_wp2;go_loopg [5] k (fun kq v5 w'=>∃ (C1:Int),v5 = .int .i64 C1∧Aside0 (Y49.l0 kq l0 l1 C1=some r)∧Aside0 (kq≤k)∧Aside0 (Below w.heap.size w w'));case atStart=>exact ⟨(0),(z1_),H',⟨Nat.le_refl _⟩,⟨z5_ HB.out⟩⟩
  case round =>
   clear H';obtain ⟨C1,rfl,HA,HK1,HB⟩:=hrel
   cases gk with
   | zero=>exact absurd HA.out (by simp [Y49.l0])
   | succ k1 =>
    have H:=HA.out;clear HA;simp only [Y49.l0] at H;by_cases c4:C1<(l0.length:Int)
    ·rw [if_pos c4] at H;have c4b0:decide (C1<(l0.length:Int))=true:=dE c4;clear c4;by_cases c5:0≤C1
     ·rw [if_pos c5] at H;have c5b0:decide (0≤C1)=true:=dE c5;clear c5;by_cases c6:C1<(l1.length:Int)
      ·rw [if_pos c6] at H;have c6b0:decide (C1<(l1.length:Int))=true:=dE c6;clear c6;replace H:=bS H;obtain ⟨Dq1,A70,H⟩:=H;(try dsimp only at H);have A7:=aM A70;clear A70;by_cases c8:Dq1=true
       ·subst c8;rw [if_pos rfl] at H;have H':=aM H;clear H;(try go_wp2);replace HB:=aM (below_drew1 HB.out);have Dq2:0≤(C1:Int):=dT (z2_);have Dq3:C1<(l0.length:Int):=dT (z2_);obtain ⟨A93,EV5,Ay4,Ay5,Ay6,Ay7⟩:=at_T75 HR0.out C1 Dq2 Dq3;have B59:=Ay7;have B60:=Ay6;have B61:=Ay5;have B62:=Ay4;cases EV5;replace Ay4:=wc_ HB.out Ay4;replace Ay5:=wc_ HB.out Ay5;replace Ay6:=wc_ HB.out Ay6;replace Ay7:=wc_ HB.out Ay7;replace Dq2:=eq_true Dq2;replace Dq3:=eq_true Dq3;have Dq4:0≤(C1:Int):=dT (z2_);have Dq5:C1<(l1.length:Int):=dT (z2_);obtain ⟨A95,EV6,Ay8,Ay9,Az0,Az1⟩:=at_T75 HR1.out C1 Dq4 Dq5;have B63:=Az1;have B64:=Az0;have B65:=Ay9;have B66:=Ay8;cases EV6;replace Ay8:=wc_ HB.out Ay8;replace Ay9:=wc_ HB.out Ay9;replace Az0:=wc_ HB.out Az0;replace Az1:=wc_ HB.out Az1;replace Dq4:=eq_true Dq4;replace Dq5:=eq_true Dq5;refine start_ (n:=10) (S:=fun w'=>w'.cell? (A93.add ((C1).toNat*4))=some (.int .i64 ((rd_T75 l0 C1).f0.f0))∧w'.cell? ⟨(A93.add ((C1).toNat*4)).block,(A93.add ((C1).toNat*4)).off+1,none⟩=some (.int .i64 ((rd_T75 l0 C1).f0.f1))∧w'.cell? ⟨(A93.add ((C1).toNat*4)).block,(A93.add ((C1).toNat*4)).off+2,none⟩=some (.bool ((rd_T75 l0 C1).f1))∧w'.cell? ⟨(A93.add ((C1).toNat*4)).block,(A93.add ((C1).toNat*4)).off+3,none⟩=some (.string ((rd_T75 l0 C1).f2))∧w'.cell? (A95.add ((C1).toNat*4))=some (.int .i64 ((rd_T75 l1 C1).f0.f0))∧w'.cell? ⟨(A95.add ((C1).toNat*4)).block,(A95.add ((C1).toNat*4)).off+1,none⟩=some (.int .i64 ((rd_T75 l1 C1).f0.f1))∧w'.cell? ⟨(A95.add ((C1).toNat*4)).block,(A95.add ((C1).toNat*4)).off+2,none⟩=some (.bool ((rd_T75 l1 C1).f1))∧w'.cell? ⟨(A95.add ((C1).toNat*4)).block,(A95.add ((C1).toNat*4)).off+3,none⟩=some (.string ((rd_T75 l1 C1).f2))) (ds:=[]) (nq 10 0) (by kernel_rfl) rfl rfl ⟨(wc_ HB.out B62:),(wc_ HB.out B61:),(wc_ HB.out B60:),(wc_ HB.out B59:),(wc_ HB.out B66:),(wc_ HB.out B65:),(wc_ HB.out B64:),(wc_ HB.out B63:)⟩ (fun hHeld=>?_);refine with_tabW Y49.tab6 Y49.bits6 (fun HT_ HW_=>?_);generalize wr.drew=w9 at HB Ay4 Ay5 Ay6 Ay7 Ay8 Ay9 Az0 Az1 hHeld ⊢;(iterate 3 refine pa_ HT_.out ?_);refine pu_ 4 21 #[I,I,I,O,I,O,O,O,O,O] HT_.out ?_;refine pu_ 5 22 #[I,I,I,O,I,I,O,O,O,O] HT_.out ?_;refine pu_ 6 23 #[I,I,I,O,I,I,I,O,O,O] HT_.out ?_;refine tk8_ 3 20 (nq 10 7) HT_.out HW_.out hHeld ?_;refine ta8_ HT_.out HW_.out hHeld ?_;refine oa_ HT_.out (fun K hK=>?_);refine gs_ Tryz.func86 #[.agg #[.int .i64 ((rd_T75 l0 C1).f0.f0),.int .i64 ((rd_T75 l0 C1).f0.f1),.bool ((rd_T75 l0 C1).f1),.string ((rd_T75 l0 C1).f2)],.agg #[.int .i64 ((rd_T75 l1 C1).f0.f0),.int .i64 ((rd_T75 l1 C1).f0.f1),.bool ((rd_T75 l1 C1).f1),.string ((rd_T75 l1 C1).f2)]] ?_;(with_reducible refine (Y102.calls ((rd_T75 l0 C1).f0.f0) ((rd_T75 l0 C1).f0.f1) ((rd_T75 l0 C1).f1) ((rd_T75 l0 C1).f2) ((rd_T75 l1 C1).f0.f0) ((rd_T75 l1 C1).f0.f1) ((rd_T75 l1 C1).f1) ((rd_T75 l1 C1).f2) true _ A7.out).mono ?_);rintro e w10 ⟨rfl,hb⟩;refine ⟨_,rfl,?_⟩;replace HB:=aM (below_step (z5_ HB.out) hb);refine hK.out _ _ ⟨(wc_ HB.out B62:),(wc_ HB.out B61:),(wc_ HB.out B60:),(wc_ HB.out B59:),(wc_ HB.out B66:),(wc_ HB.out B65:),(wc_ HB.out B64:),(wc_ HB.out B63:)⟩ (fun hHeld=>?_);clear hK K;refine nm_ 25 ?_;refine pa_ HT_.out ?_;refine done_ (done_of HT_.out (by kernel_rfl)) ?_;(try go_wp2);go_roundg k1;(case measure=>have:=HK1.out;omega);case rel=>exact ⟨(wrap64 (C1+1)),(z1_),H',⟨by have:=HK1.out;omega⟩,⟨z5_ HB.out⟩⟩
       ·replace c8:=Bool.eq_false_iff.mpr c8;subst c8;rw [if_neg (show ¬ (false=true) by decide)] at H;exact nO H
      ·rw [if_neg c6] at H;exact nO H
     ·rw [if_neg c5] at H;exact nO H
    ·rw [if_neg c4] at H;have c4b0:decide (C1<(l0.length:Int))=false:=dF c4;clear c4;obtain rfl:=sI H;go_wp2;go_ret;exact ⟨z6_,z5_ HB.out⟩
 ·rw [if_neg c3] at H;exact nO H


/-! ### Y90: function 35 -/
def Y90.f (k:Nat) (D0:List (S38)) (B0:List (S75)) (I0:List (S38)) (E0:List (S75)):Option (Bool):=(Y40.f k D0 I0).bind fun Ca9=>(if Ca9=true then ((Y49.f k B0 E0).bind fun Cb0=>(if Cb0=true then (some true) else (none))) else (none))
theorem Y90.mono:∀ a0 a1 a2 a3 k,LeO (Y90.f k a0 a1 a2 a3) (Y90.f (k+1) a0 a1 a2 a3):=by
 intro a0 a1 a2 a3 k;have m0:=@Y40.mono;have m1:=@Y49.mono;unfold Y90.f;exact mO
theorem Y90.calls (k:Nat) (G0:Option Addr) (G1:Nat) (D0:List (S38)) (J5:Option Addr) (H0:Nat) (B0:List (S75)) (U2:Option Addr) (U3:Nat) (I0:List (S38)) (i5:Option Addr) (W3:Nat) (E0:List (S75)) (r:Bool) (w:World) (O0:Kd.C k38 w G0 D0.length D0) (O1:D0.length≤G1) (O2:Kd.C k75 w J5 B0.length B0) (O3:B0.length≤H0) (AT5:Kd.C k38 w U2 I0.length I0) (AT6:I0.length≤U3) (AT7:Kd.C k75 w i5 E0.length E0) (AT8:E0.length≤W3) (h:Y90.f k D0 B0 I0 E0=some r) :
  Calls Tryz.prog 35 #[.agg #[.slice G0 D0.length G1,.slice J5 B0.length H0],.agg #[.slice U2 I0.length U3,.slice i5 E0.length W3]] w fun e w'=>e = .returned (.bool r)∧Below w.heap.size w w':=by
 have AS4:=Tryz.underlying37;have M1:=aM O0;have M2:=aM O1;clear O0 O1;have L6:=aM O2;have e9:=aM O3;clear O2 O3;have AT9:=aM AT5;have AU0:=aM AT6;clear AT5 AT6;have AK4:=aM AT7;have Af4:=aM AT8;clear AT7 AT8;have HB:=aM (Below.refl w.heap.size w);have H:((Y40.f k D0 I0).bind fun Ca9=>(if Ca9=true then ((Y49.f k B0 E0).bind fun Cb0=>(if Cb0=true then (some true) else (none))) else (none)))=some r:=h;clear h;replace H:=bS H;obtain ⟨Ca9,A30,H⟩:=H;(try dsimp only at H);have A3:=aM A30;clear A30;by_cases c4:Ca9=true
 ·subst c4;rw [if_pos rfl] at H;replace H:=bS H;obtain ⟨Cb0,A50,H⟩:=H;(try dsimp only at H);have A5:=aM A50;clear A50;by_cases c6:Cb0=true
  ·subst c6;rw [if_pos rfl] at H;obtain rfl:=sI H;go_enter Tryz.func35,Tryz.ntmps35;go_wp2_with (first | ((with_reducible refine gd_ 2 ?_);refine be_ 2 #[.slice G0 D0.length G1,.slice J5 B0.length H0] 37 ?_;intro DP9 hg w7 hbox hb;have Ac1:=aM (hbox);have GW713:=aM ((z8_ HB.out:w.heap.size≤DP9));have GE713:=aM ((z8_ HB.out:w.heap.size≤DP9));replace HB:=aM (below_step (z5_ HB.out) hb);clear hb hbox hg) | ((with_reducible refine gd_ 3 ?_);refine be_ 3 #[.slice U2 I0.length U3,.slice i5 E0.length W3] 37 ?_;intro DQ0 hg w8 hbox hb;have BE2:=aM (hbox);have GW714:=aM ((z7_ HB.out:w.heap.size≤DQ0));have GE714:=aM ((z7_ HB.out:w.heap.size≤DQ0));replace HB:=aM (below_step (z0_ HB.out) hb);have CG0:=aM (neL_ Ac1.out hg);have CG1:=aM (neG_ Ac1.out hg);replace Ac1:=aM (blkB_ Ac1.out hb);clear hb hbox hg;have CB8:=CG0.out;have CB9:=CG1.out;have ⟨m9,n0,n2,n3⟩:=cz2_ Ac1.out;have ⟨AA9,AB0,AB1,AB2⟩:=cz2_ BE2.out) | ((with_reducible refine gc_ 64 ?_);refine gl_ (some 9) Tryz.func64 #[.slice G0 D0.length G1,.slice U2 I0.length U3] ?_;(with_reducible refine (Y40.calls k _ _ D0 _ _ I0 true _ ?s1 ?s2 ?s3 ?s4 A3.out).mono ?_);(case s1 =>exact zC_ (Kd.C_below M1.out HB.out));(case s2=>exact M2.out);(case s3 =>exact zC_ (Kd.C_below AT9.out HB.out));(case s4=>exact AU0.out);rintro e w12 ⟨rfl,hb⟩;refine ⟨_,rfl,?_⟩;replace Ac1:=aM (blkB_ Ac1.out hb);replace BE2:=aM (blkB_ BE2.out hb);replace HB:=aM (below_step (z0_ HB.out) hb);have ⟨AQ3,AQ4,AQ5,AQ6⟩:=cz2_ Ac1.out;have ⟨AP8,AP9,AQ0,AQ1⟩:=cz2_ BE2.out) | ((with_reducible refine gc_ 65 ?_);refine gl_ (some 15) Tryz.func65 #[.slice J5 B0.length H0,.slice i5 E0.length W3] ?_;(with_reducible refine (Y49.calls k _ _ B0 _ _ E0 true _ ?s1 ?s2 ?s3 ?s4 A5.out).mono ?_);(case s1 =>exact zC_ (Kd.C_below L6.out HB.out));(case s2=>exact e9.out);(case s3 =>exact zC_ (Kd.C_below AK4.out HB.out));(case s4=>exact Af4.out);rintro e w15 ⟨rfl,hb⟩;refine ⟨_,rfl,?_⟩;replace Ac1:=aM (blkB_ Ac1.out hb);replace BE2:=aM (blkB_ BE2.out hb);replace HB:=aM (below_step (z0_ HB.out) hb)));go_ret;exact ⟨z6_,z0_ HB.out⟩
  ·replace c6:=Bool.eq_false_iff.mpr c6;subst c6;rw [if_neg (show ¬ (false=true) by decide)] at H;exact nO H
 ·replace c4:=Bool.eq_false_iff.mpr c4;subst c4;rw [if_neg (show ¬ (false=true) by decide)] at H;exact nO H


/-! ### Y88: function 8 -/
def Y88.f (k:Nat) (C2:Int) (C3:Int) (C9:Bool) (C4:ByteArray) (D3:Int) (D6:Int) (C0:List (S61)) (D2:List (S38)) (D4:List (S75)) (D7:Int) (C5:Int) (D8:Int) (E3:Int) (I3:Bool) (I6:ByteArray) (BP8:Int) (BP9:Int) (A96:List (S61)) (A97:List (S38)) (A98:List (S75)) (BZ4:Int) (An0:Int):Option (Bool):=if C2=D8 then (if C3=E3 then (if (C9 != I3)=true then (none) else (if C4.toList=I6.toList then (if D3=BP8 then (if D6=BP9 then ((Y48.f k C0 A96).bind fun Cb1=>(if Cb1=true then ((Y90.f k D2 D4 A97 A98).bind fun Cb2=>(if Cb2=true then ((Y82.f D7 C5 BZ4 An0).bind fun Cb3=>(if Cb3=true then (some true) else (none))) else (none))) else (none))) else (none)) else (none)) else (none))) else (none)) else (none)
theorem Y88.mono:∀ a0 a1 a2 a3 a4 a5 a6 a7 a8 a9 a10 a11 a12 a13 a14 a15 a16 a17 a18 a19 a20 a21 k,LeO (Y88.f k a0 a1 a2 a3 a4 a5 a6 a7 a8 a9 a10 a11 a12 a13 a14 a15 a16 a17 a18 a19 a20 a21) (Y88.f (k+1) a0 a1 a2 a3 a4 a5 a6 a7 a8 a9 a10 a11 a12 a13 a14 a15 a16 a17 a18 a19 a20 a21):=by
 intro a0 a1 a2 a3 a4 a5 a6 a7 a8 a9 a10 a11 a12 a13 a14 a15 a16 a17 a18 a19 a20 a21 k;have m0:=@Y48.mono;have m1:=@Y90.mono;unfold Y88.f;exact mO
theorem Y88.calls (k:Nat) (C2:Int) (C3:Int) (C9:Bool) (C4:ByteArray) (D3:Int) (D6:Int) (J4:Option Addr) (I5:Nat) (C0:List (S61)) (I7:Option Addr) (I8:Nat) (D2:List (S38)) (I9:Option Addr) (J0:Nat) (D4:List (S75)) (D7:Int) (C5:Int) (D8:Int) (E3:Int) (I3:Bool) (I6:ByteArray) (BP8:Int) (BP9:Int) (DB3:Option Addr) (DB4:Nat) (A96:List (S61)) (DB5:Option Addr) (DB6:Nat) (A97:List (S38)) (DB7:Option Addr) (DB8:Nat) (A98:List (S75)) (BZ4:Int) (An0:Int) (r:Bool) (w:World) (P2:Kd.C k61 w J4 C0.length C0) (Q3:C0.length≤I5) (P3:Kd.C k38 w I7 D2.length D2) (Q4:D2.length≤I8) (P4:Kd.C k75 w I9 D4.length D4) (Q5:D4.length≤J0) (DQ1:Kd.C k61 w DB3 A96.length A96) (DQ2:A96.length≤DB4) (DQ3:Kd.C k38 w DB5 A97.length A97) (DQ4:A97.length≤DB6) (DQ5:Kd.C k75 w DB7 A98.length A98) (DQ6:A98.length≤DB8) (h:Y88.f k C2 C3 C9 C4 D3 D6 C0 D2 D4 D7 C5 D8 E3 I3 I6 BP8 BP9 A96 A97 A98 BZ4 An0=some r) :
  Calls Tryz.prog 8 #[.agg #[.int .i64 C2,.int .i64 C3,.bool C9,.string C4,.int .i64 D3,.int .i64 D6,.slice J4 C0.length I5,.slice I7 D2.length I8,.slice I9 D4.length J0,.int .i64 D7,.int .i64 C5],.agg #[.int .i64 D8,.int .i64 E3,.bool I3,.string I6,.int .i64 BP8,.int .i64 BP9,.slice DB3 A96.length DB4,.slice DB5 A97.length DB6,.slice DB7 A98.length DB8,.int .i64 BZ4,.int .i64 An0]] w fun e w'=>e = .returned (.bool r)∧Below w.heap.size w w':=by
 have BQ4:=Tryz.underlying40;have AS4:=Tryz.underlying37;have Z4:=Tryz.underlying38;have N7:=aM P2;have R5:=aM Q3;clear P2 Q3;have Q6:=aM P3;have Q7:=aM Q4;clear P3 Q4;have R6:=aM P4;have R7:=aM Q5;clear P4 Q5;have EI5:=aM DQ1;have EI6:=aM DQ2;clear DQ1 DQ2;have EI7:=aM DQ3;have EI8:=aM DQ4;clear DQ3 DQ4;have EI9:=aM DQ5;have EJ0:=aM DQ6;clear DQ5 DQ6;have HB:=aM (Below.refl w.heap.size w);have H:(if C2=D8 then (if C3=E3 then (if (C9 != I3)=true then (none) else (if C4.toList=I6.toList then (if D3=BP8 then (if D6=BP9 then ((Y48.f k C0 A96).bind fun Cb1=>(if Cb1=true then ((Y90.f k D2 D4 A97 A98).bind fun Cb2=>(if Cb2=true then ((Y82.f D7 C5 BZ4 An0).bind fun Cb3=>(if Cb3=true then (some true) else (none))) else (none))) else (none))) else (none)) else (none)) else (none))) else (none)) else (none))=some r:=h;clear h;by_cases c3:C2=D8
 ·rw [if_pos c3] at H;have c3b0:(C2 == D8)=true:=beq_iff_eq.mpr c3;have c3b1:(C2 != D8)=false:=bne_eq_false_iff_eq.mpr c3;clear c3;by_cases c4:C3=E3
  ·rw [if_pos c4] at H;have c4b0:(C3 == E3)=true:=beq_iff_eq.mpr c4;have c4b1:(C3 != E3)=false:=bne_eq_false_iff_eq.mpr c4;clear c4;by_cases c5:(C9 != I3)=true
   ·rw [if_pos c5] at H;exact nO H
   ·rw [if_neg c5] at H;(have c5b0:(C9 != I3)=false:=by simpa using c5);(try (have c5b1:decide (C9=I3)=true:=by simpa using c5));(try (have c5b2:(C9 == I3)=true:=by simpa using c5));clear c5;by_cases c6:C4.toList=I6.toList
    ·rw [if_pos c6] at H;have c6b0:(C4.toList == I6.toList)=true:=beq_iff_eq.mpr c6;have c6b1:(C4.toList != I6.toList)=false:=bne_eq_false_iff_eq.mpr c6;clear c6;by_cases c7:D3=BP8
     ·rw [if_pos c7] at H;have c7b0:(D3 == BP8)=true:=beq_iff_eq.mpr c7;have c7b1:(D3 != BP8)=false:=bne_eq_false_iff_eq.mpr c7;clear c7;by_cases c8:D6=BP9
      ·rw [if_pos c8] at H;have c8b0:(D6 == BP9)=true:=beq_iff_eq.mpr c8;have c8b1:(D6 != BP9)=false:=bne_eq_false_iff_eq.mpr c8;clear c8;replace H:=bS H;obtain ⟨Cb1,A90,H⟩:=H;(try dsimp only at H);have A9:=aM A90;clear A90;by_cases c10:Cb1=true
       ·subst c10;rw [if_pos rfl] at H;replace H:=bS H;obtain ⟨Cb2,AT1,H⟩:=H;(try dsimp only at H);have A11:=aM AT1;clear AT1;by_cases c12:Cb2=true
        ·subst c12;rw [if_pos rfl] at H;replace H:=bS H;obtain ⟨Cb3,BX6,H⟩:=H;(try dsimp only at H);have A13:=aM BX6;clear BX6;by_cases c14:Cb3=true
         ·subst c14;rw [if_pos rfl] at H;obtain rfl:=sI H;go_enter Tryz.func8,Tryz.ntmps8;go_wp2_with (first | ((with_reducible refine gd_ 2 ?_);refine be_ 2 #[.int .i64 C2,.int .i64 C3,.bool C9,.string C4,.int .i64 D3,.int .i64 D6,.slice J4 C0.length I5,.slice I7 D2.length I8,.slice I9 D4.length J0,.int .i64 D7,.int .i64 C5] 40 ?_;intro DQ7 hg w15 hbox hb;have AP1:=aM (hbox);have GW717:=aM ((z8_ HB.out:w.heap.size≤DQ7));have GE717:=aM ((z8_ HB.out:w.heap.size≤DQ7));replace HB:=aM (below_step (z5_ HB.out) hb);clear hb hbox hg) | ((with_reducible refine gd_ 3 ?_);refine be_ 3 #[.int .i64 D8,.int .i64 E3,.bool I3,.string I6,.int .i64 BP8,.int .i64 BP9,.slice DB3 A96.length DB4,.slice DB5 A97.length DB6,.slice DB7 A98.length DB8,.int .i64 BZ4,.int .i64 An0] 40 ?_;intro DQ8 hg w16 hbox hb;have Ai5:=aM (hbox);have GW718:=aM ((z7_ HB.out:w.heap.size≤DQ8));have GE718:=aM ((z7_ HB.out:w.heap.size≤DQ8));replace HB:=aM (below_step (z0_ HB.out) hb);have CG2:=aM (neL_ AP1.out hg);have CG3:=aM (neG_ AP1.out hg);replace AP1:=aM (blkB_ AP1.out hb);clear hb hbox hg;have BS5:=CG2.out;have BS6:=CG3.out;have ⟨AR2,AR3,By0,By1,hcz18_4,hcz18_5,hcz18_6,hcz18_7,hcz18_8,hcz18_9,hcz18_10,AR4,AR5,By2,By3,hfz18_4,hfz18_5,hfz18_6,hfz18_7,hfz18_8,hfz18_9,hfz18_10⟩:=cz11_ AP1.out;have ⟨AW2,AW3,As4,Cw0,Cw1,Cw2,Cw3,Cw4,Cw5,Cw6,CQ9,AW4,AW5,As5,Cw7,Cw8,Cw9,Cx0,Cx1,Cx2,Cx3,CR0⟩:=cz11_ Ai5.out) | ((with_reducible refine gc_ 34 ?_);refine gl_ (some 39) Tryz.func34 #[.slice J4 C0.length I5,.slice DB3 A96.length DB4] ?_;(with_reducible refine (Y48.calls k _ _ C0 _ _ A96 true _ ?s1 ?s2 ?s3 ?s4 A9.out).mono ?_);(case s1 =>exact zC_ (Kd.C_below N7.out HB.out));(case s2=>exact R5.out);(case s3 =>exact zC_ (Kd.C_below EI5.out HB.out));(case s4=>exact EI6.out);rintro e w20 ⟨rfl,hb⟩;refine ⟨_,rfl,?_⟩;replace AP1:=aM (blkB_ AP1.out hb);replace Ai5:=aM (blkB_ Ai5.out hb);replace HB:=aM (below_step (z0_ HB.out) hb);have ⟨BG7,BG8,BG9,Bk5,Cx4,Cx5,Cx6,Cx7,Cx8,Cx9,CR2,BH0,BH1,BH2,Bk6,Cy0,Cy1,Cy2,Cy3,Cy4,Cy5,CR3⟩:=cz11_ AP1.out;have ⟨At2,At3,At4,BM9,BN0,DB9,DC0,DC1,DC2,DC3,Cb4,At5,At6,At7,BN1,BN2,DC4,DC5,DC6,DC7,DC8,Cb5⟩:=cz11_ Ai5.out) | ((with_reducible refine gc_ 35 ?_);refine gl_ (some 45) Tryz.func35 #[.agg #[.slice I7 D2.length I8,.slice I9 D4.length J0],.agg #[.slice DB5 A97.length DB6,.slice DB7 A98.length DB8]] ?_;(with_reducible refine (Y90.calls k _ _ D2 _ _ D4 _ _ A97 _ _ A98 true _ ?s1 ?s2 ?s3 ?s4 ?s5 ?s6 ?s7 ?s8 A11.out).mono ?_);(case s1 =>exact zC_ (Kd.C_below Q6.out HB.out));(case s2=>exact Q7.out);(case s3 =>exact zC_ (Kd.C_below R6.out HB.out));(case s4=>exact R7.out);(case s5 =>exact zC_ (Kd.C_below EI7.out HB.out));(case s6=>exact EI8.out);(case s7 =>exact zC_ (Kd.C_below EI9.out HB.out));(case s8=>exact EJ0.out);rintro e w23 ⟨rfl,hb⟩;refine ⟨_,rfl,?_⟩;replace AP1:=aM (blkB_ AP1.out hb);replace Ai5:=aM (blkB_ Ai5.out hb);replace HB:=aM (below_step (z0_ HB.out) hb);have ⟨Ap6,Ap7,BG3,Bh9,Cy6,Cy7,Cy8,Cy9,Cz0,Cz1,CR4,Ap8,Ap9,BG4,Bi0,Cz2,Cz3,Cz4,Cz5,Cz6,Cz7,CR5⟩:=cz11_ AP1.out;have ⟨C36,C37,hcz25_2,hcz25_3,hcz25_4,hcz25_5,hcz25_6,hcz25_7,hcz25_8,hcz25_9,hcz25_10,C38,C39,hfz25_2,hfz25_3,hfz25_4,hfz25_5,hfz25_6,hfz25_7,hfz25_8,hfz25_9,hfz25_10⟩:=cz11_ Ai5.out) | ((with_reducible refine gc_ 36 ?_);refine gl_ (some 51) Tryz.func36 #[.agg #[.int .i64 D7,.int .i64 C5],.agg #[.int .i64 BZ4,.int .i64 An0]] ?_;(with_reducible refine (Y82.calls D7 C5 BZ4 An0 true _ A13.out).mono ?_);rintro e w26 ⟨rfl,hb⟩;refine ⟨_,rfl,?_⟩;replace AP1:=aM (blkB_ AP1.out hb);replace Ai5:=aM (blkB_ Ai5.out hb);replace HB:=aM (below_step (z0_ HB.out) hb)));go_ret;exact ⟨z6_,z0_ HB.out⟩
         ·replace c14:=Bool.eq_false_iff.mpr c14;subst c14;rw [if_neg (show ¬ (false=true) by decide)] at H;exact nO H
        ·replace c12:=Bool.eq_false_iff.mpr c12;subst c12;rw [if_neg (show ¬ (false=true) by decide)] at H;exact nO H
       ·replace c10:=Bool.eq_false_iff.mpr c10;subst c10;rw [if_neg (show ¬ (false=true) by decide)] at H;exact nO H
      ·rw [if_neg c8] at H;exact nO H
     ·rw [if_neg c7] at H;exact nO H
    ·rw [if_neg c6] at H;exact nO H
  ·rw [if_neg c4] at H;exact nO H
 ·rw [if_neg c3] at H;exact nO H


/-! ### Y65: function 3 -/
def Y65.f (k:Nat) (C2:Int) (C3:Int) (C9:Bool) (C4:ByteArray) (D3:Int) (D6:Int) (C0:List (S70)) (D2:List (S28)) (D4:List (S96)) (D7:Int) (C5:Int):Option (Bool):=(Y87.f k C2 C3 C9 C4 D3 D6 C0 D2 D4 D7 C5 1048576).bind fun BZ5=>(if BZ5<0 then (some true) else ((Y70.f k C2 C3 C9 C4 D3 D6 C0 D2 D4 D7 C5).bind fun Z2=>((Y6.f k Z2.1 Z2.2.1 Z2.2.2.1 Z2.2.2.2.1 Z2.2.2.2.2.1 Z2.2.2.2.2.2.1 Z2.2.2.2.2.2.2.1 Z2.2.2.2.2.2.2.2.1 Z2.2.2.2.2.2.2.2.2.1 Z2.2.2.2.2.2.2.2.2.2.1 Z2.2.2.2.2.2.2.2.2.2.2).bind fun BQ0=>((Y70.f k C2 C3 C9 C4 D3 D6 C0 D2 D4 D7 C5).bind fun J8=>((Y3.f k J8.1 J8.2.1 J8.2.2.1 J8.2.2.2.1 J8.2.2.2.2.1 J8.2.2.2.2.2.1 J8.2.2.2.2.2.2.1 J8.2.2.2.2.2.2.2.1 J8.2.2.2.2.2.2.2.2.1 J8.2.2.2.2.2.2.2.2.2.1 J8.2.2.2.2.2.2.2.2.2.2).bind fun BQ1=>(if (BQ1 != BQ0)=true then (none) else ((Y70.f k C2 C3 C9 C4 D3 D6 C0 D2 D4 D7 C5).bind fun Z3=>((Y88.f k J8.1 J8.2.1 J8.2.2.1 J8.2.2.2.1 J8.2.2.2.2.1 J8.2.2.2.2.2.1 J8.2.2.2.2.2.2.1 J8.2.2.2.2.2.2.2.1 J8.2.2.2.2.2.2.2.2.1 J8.2.2.2.2.2.2.2.2.2.1 J8.2.2.2.2.2.2.2.2.2.2 Z3.1 Z3.2.1 Z3.2.2.1 Z3.2.2.2.1 Z3.2.2.2.2.1 Z3.2.2.2.2.2.1 Z3.2.2.2.2.2.2.1 Z3.2.2.2.2.2.2.2.1 Z3.2.2.2.2.2.2.2.2.1 Z3.2.2.2.2.2.2.2.2.2.1 Z3.2.2.2.2.2.2.2.2.2.2).bind fun Cb6=>(if Cb6=true then (some true) else (none))))))))))
theorem Y65.mono:∀ a0 a1 a2 a3 a4 a5 a6 a7 a8 a9 a10 k,LeO (Y65.f k a0 a1 a2 a3 a4 a5 a6 a7 a8 a9 a10) (Y65.f (k+1) a0 a1 a2 a3 a4 a5 a6 a7 a8 a9 a10):=by
 intro a0 a1 a2 a3 a4 a5 a6 a7 a8 a9 a10 k;have m0:=@Y3.mono;have m1:=@Y88.mono;have m2:=@Y87.mono;have m3:=@Y70.mono;have m4:=@Y6.mono;unfold Y65.f;exact mO
theorem Y65.calls (k:Nat) (C2:Int) (C3:Int) (C9:Bool) (C4:ByteArray) (D3:Int) (D6:Int) (J4:Option Addr) (I5:Nat) (C0:List (S70)) (I7:Option Addr) (I8:Nat) (D2:List (S28)) (I9:Option Addr) (J0:Nat) (D4:List (S96)) (D7:Int) (C5:Int) (r:Bool) (w:World) (P2:Kd.C k70 w J4 C0.length C0) (Q3:C0.length≤I5) (P3:Kd.C k28 w I7 D2.length D2) (Q4:D2.length≤I8) (P4:Kd.C k96 w I9 D4.length D4) (Q5:D4.length≤J0) (h:Y65.f k C2 C3 C9 C4 D3 D6 C0 D2 D4 D7 C5=some r) :
  Calls Tryz.prog 3 #[.agg #[.int .i64 C2,.int .i64 C3,.bool C9,.string C4,.int .i64 D3,.int .i64 D6,.slice J4 C0.length I5,.slice I7 D2.length I8,.slice I9 D4.length J0,.int .i64 D7,.int .i64 C5]] w fun e w'=>e = .returned (.bool r)∧Below w.heap.size w w':=by
 have Ds7:=Tryz.underlying30;have BQ4:=Tryz.underlying40;have N7:=aM P2;have R5:=aM Q3;clear P2 Q3;have Q6:=aM P3;have Q7:=aM Q4;clear P3 Q4;have R6:=aM P4;have R7:=aM Q5;clear P4 Q5;have HB:=aM (Below.refl w.heap.size w);have H:((Y87.f k C2 C3 C9 C4 D3 D6 C0 D2 D4 D7 C5 1048576).bind fun BZ5=>(if BZ5<0 then (some true) else ((Y70.f k C2 C3 C9 C4 D3 D6 C0 D2 D4 D7 C5).bind fun Z2=>((Y6.f k Z2.1 Z2.2.1 Z2.2.2.1 Z2.2.2.2.1 Z2.2.2.2.2.1 Z2.2.2.2.2.2.1 Z2.2.2.2.2.2.2.1 Z2.2.2.2.2.2.2.2.1 Z2.2.2.2.2.2.2.2.2.1 Z2.2.2.2.2.2.2.2.2.2.1 Z2.2.2.2.2.2.2.2.2.2.2).bind fun BQ0=>((Y70.f k C2 C3 C9 C4 D3 D6 C0 D2 D4 D7 C5).bind fun J8=>((Y3.f k J8.1 J8.2.1 J8.2.2.1 J8.2.2.2.1 J8.2.2.2.2.1 J8.2.2.2.2.2.1 J8.2.2.2.2.2.2.1 J8.2.2.2.2.2.2.2.1 J8.2.2.2.2.2.2.2.2.1 J8.2.2.2.2.2.2.2.2.2.1 J8.2.2.2.2.2.2.2.2.2.2).bind fun BQ1=>(if (BQ1 != BQ0)=true then (none) else ((Y70.f k C2 C3 C9 C4 D3 D6 C0 D2 D4 D7 C5).bind fun Z3=>((Y88.f k J8.1 J8.2.1 J8.2.2.1 J8.2.2.2.1 J8.2.2.2.2.1 J8.2.2.2.2.2.1 J8.2.2.2.2.2.2.1 J8.2.2.2.2.2.2.2.1 J8.2.2.2.2.2.2.2.2.1 J8.2.2.2.2.2.2.2.2.2.1 J8.2.2.2.2.2.2.2.2.2.2 Z3.1 Z3.2.1 Z3.2.2.1 Z3.2.2.2.1 Z3.2.2.2.2.1 Z3.2.2.2.2.2.1 Z3.2.2.2.2.2.2.1 Z3.2.2.2.2.2.2.2.1 Z3.2.2.2.2.2.2.2.2.1 Z3.2.2.2.2.2.2.2.2.2.1 Z3.2.2.2.2.2.2.2.2.2.2).bind fun Cb6=>(if Cb6=true then (some true) else (none)))))))))))=some r:=h;clear h;replace H:=bS H;obtain ⟨BZ5,A20,H⟩:=H;(try dsimp only at H);have A2:=aM A20;clear A20;have HC3:=aM H;clear H;go_enter Tryz.func3,Tryz.ntmps3;go_upto_if 11 with (first | ((with_reducible refine gd_ 1 ?_);refine be_ 1 #[.int .i64 C2,.int .i64 C3,.bool C9,.string C4,.int .i64 D3,.int .i64 D6,.slice J4 C0.length I5,.slice I7 D2.length I8,.slice I9 D4.length J0,.int .i64 D7,.int .i64 C5] 30 ?_;intro AL1 hg w4 hbox hb;have S5:=aM (hbox);have GW722:=aM ((z8_ HB.out:w.heap.size≤AL1));have GE722:=aM ((z8_ HB.out:w.heap.size≤AL1));replace HB:=aM (below_step (z5_ HB.out) hb);clear hb hbox hg;have ⟨AL4,AL5,Ac2,Ai6,CG6,DR8,DR9,DS0,DS1,DS2,Cc0,AL6,AL7,Ac3,Ai7,CG7,DS3,DS4,DS5,DS6,DS7,Cc1⟩:=cz11_ S5.out) | ((with_reducible refine gc_ 4 ?_);refine gl_ (some 9) Tryz.func4 #[.agg #[.int .i64 C2,.int .i64 C3,.bool C9,.string C4,.int .i64 D3,.int .i64 D6,.slice J4 C0.length I5,.slice I7 D2.length I8,.slice I9 D4.length J0,.int .i64 D7,.int .i64 C5],.int .i64 1048576] ?_;(with_reducible refine (Y87.calls k C2 C3 C9 C4 D3 D6 _ _ C0 _ _ D2 _ _ D4 D7 C5 1048576 BZ5 _ ?s1 ?s2 ?s3 ?s4 ?s5 ?s6 A2.out).mono ?_);(case s1 =>exact zC_ (Kd.C_below N7.out HB.out));(case s2=>exact R5.out);(case s3 =>exact zC_ (Kd.C_below Q6.out HB.out));(case s4=>exact Q7.out);(case s5 =>exact zC_ (Kd.C_below R6.out HB.out));(case s6=>exact R7.out);rintro e w6 ⟨rfl,hb⟩;refine ⟨_,rfl,?_⟩;replace S5:=aM (blkB_ S5.out hb);replace HB:=aM (below_step (z0_ HB.out) hb)));have H:=HC3.out;clear HC3;by_cases c7:BZ5<0
 ·rw [if_pos c7] at H;have c7b0:decide (BZ5<0)=true:=dE c7;clear c7;(first | rw [c7b0] | (simp only [i64_w,i32_w];rw [c7b0]) | skip);obtain rfl:=sI H;go_wp2;go_ret;exact ⟨z6_,z0_ HB.out⟩
 ·rw [if_neg c7] at H;have c7b0:decide (BZ5<0)=false:=dF c7;clear c7;(first | rw [c7b0] | (simp only [i64_w,i32_w];rw [c7b0]) | skip);replace H:=bS H;obtain ⟨⟨Dq6,Dq7,Dq8,Dq9,Dr0,Dr1,DC9,DD0,DD1,Dr2,Dr3⟩,A80,H⟩:=H;(try dsimp only at H);have A8:=aM A80;clear A80;replace H:=bS H;obtain ⟨BQ0,A90,H⟩:=H;(try dsimp only at H);have A9:=aM A90;clear A90;replace H:=bS H;obtain ⟨⟨Bf4,Bf5,Bf6,Bf7,Bf8,Bf9,BZ6,BZ7,BZ8,Bg0,Bg1⟩,AT0,H⟩:=H;(try dsimp only at H);have A10:=aM AT0;clear AT0;replace H:=bS H;obtain ⟨BQ1,AT1,H⟩:=H;(try dsimp only at H);have A11:=aM AT1;clear AT1;by_cases c12:(BQ1 != BQ0)=true
  ·rw [if_pos c12] at H;exact nO H
  ·rw [if_neg c12] at H;(have c12b0:(BQ1 != BQ0)=false:=by simpa using c12);(try (have c12b1:decide (BQ1=BQ0)=true:=by simpa using c12));(try (have c12b2:(BQ1 == BQ0)=true:=by simpa using c12));clear c12;replace H:=bS H;obtain ⟨⟨Dr4,Dr5,Dr6,Dr7,Dr8,Dr9,Ds0,Ds1,Ds2,Ds3,Ds4⟩,BX6,H⟩:=H;(try dsimp only at H);have A13:=aM BX6;clear BX6;replace H:=bS H;obtain ⟨Cb6,BY4,H⟩:=H;(try dsimp only at H);have A14:=aM BY4;clear BY4;by_cases c15:Cb6=true
   ·subst c15;rw [if_pos rfl] at H;obtain rfl:=sI H;have ⟨AV8,AV9,Aw0,Cu6,Cu7,Cu8,Cu9,Cv0,Cv1,Cv2,CQ7,AW0,AW1,Aw1,Cv3,Cv4,Cv5,Cv6,Cv7,Cv8,Cv9,CQ8⟩:=cz11_ S5.out;(try go_wp2_with (first | ((with_reducible refine gc_ 6 ?_);refine gl_ (some 13) Tryz.func6 #[.agg #[.int .i64 C2,.int .i64 C3,.bool C9,.string C4,.int .i64 D3,.int .i64 D6,.slice J4 C0.length I5,.slice I7 D2.length I8,.slice I9 D4.length J0,.int .i64 D7,.int .i64 C5]] ?_;(with_reducible refine (Y70.calls k C2 C3 C9 C4 D3 D6 _ _ C0 _ _ D2 _ _ D4 D7 C5 Dq6 Dq7 Dq8 Dq9 Dr0 Dr1 DC9 DD0 DD1 Dr2 Dr3 _ ?s1 ?s2 ?s3 ?s4 ?s5 ?s6 A8.out).mono ?_);(case s1 =>exact zC_ (Kd.C_below N7.out HB.out));(case s2=>exact R5.out);(case s3 =>exact zC_ (Kd.C_below Q6.out HB.out));(case s4=>exact Q7.out);(case s5 =>exact zC_ (Kd.C_below R6.out HB.out));(case s6=>exact R7.out);rintro e w17 ⟨v731,v734,v737,rfl,ho0,ho1,ho2,hb⟩;refine ⟨_,rfl,?_⟩;have l4:=aM (Kd.R_lower ho0 (below_size (z0_ HB.out)));have l5:=aM (Kd.R_lower ho1 (below_size (z0_ HB.out)));have l9:=aM (Kd.R_lower ho2 (below_size (z0_ HB.out)));replace S5:=aM (blkB_ S5.out hb);replace HB:=aM (below_step (z0_ HB.out) hb);obtain ⟨Ba2,Ba3,Df8⟩:=Kd.R_slice l4.out;subst Df8;obtain ⟨BA6,A33,CN7⟩:=Kd.R_slice l5.out;subst CN7;obtain ⟨BF1,BF2,CR1⟩:=Kd.R_slice l9.out;subst CR1) | ((with_reducible refine gc_ 5 ?_);refine gl_ (some 14) Tryz.func5 #[.agg #[.int .i64 Dq6,.int .i64 Dq7,.bool Dq8,.string Dq9,.int .i64 Dr0,.int .i64 Dr1,.slice Ba2 DC9.length Ba3,.slice BA6 DD0.length A33,.slice BF1 DD1.length BF2,.int .i64 Dr2,.int .i64 Dr3]] ?_;(with_reducible refine (Y6.calls k Dq6 Dq7 Dq8 Dq9 Dr0 Dr1 _ _ DC9 _ _ DD0 _ _ DD1 Dr2 Dr3 BQ0 _ ?s1 ?s2 ?s3 ?s4 ?s5 ?s6 A9.out).mono ?_);(case s1 =>exact zC_ ((Kd.R_reads' l4.out).2.2));(case s2=>exact (Kd.R_reads' l4.out).2.1);(case s3 =>exact zC_ ((Kd.R_reads' l5.out).2.2));(case s4=>exact (Kd.R_reads' l5.out).2.1);(case s5 =>exact zC_ ((Kd.R_reads' l9.out).2.2));(case s6=>exact (Kd.R_reads' l9.out).2.1);rintro e w21 ⟨rfl,hb⟩;refine ⟨_,rfl,?_⟩;replace l4:=aM (Kd.R_below (z3_ l4.out) hb);replace l5:=aM (Kd.R_below (z3_ l5.out) hb);replace l9:=aM (Kd.R_below (z3_ l9.out) hb);replace S5:=aM (blkB_ S5.out hb);replace HB:=aM (below_step (z0_ HB.out) hb);have ⟨At2,At3,At4,BM9,BN0,DB9,DC0,DC1,DC2,DC3,Cb4,At5,At6,At7,BN1,BN2,DC4,DC5,DC6,DC7,DC8,Cb5⟩:=cz11_ S5.out) | ((with_reducible refine gc_ 6 ?_);refine gl_ (some 16) Tryz.func6 #[.agg #[.int .i64 C2,.int .i64 C3,.bool C9,.string C4,.int .i64 D3,.int .i64 D6,.slice J4 C0.length I5,.slice I7 D2.length I8,.slice I9 D4.length J0,.int .i64 D7,.int .i64 C5]] ?_;(with_reducible refine (Y70.calls k C2 C3 C9 C4 D3 D6 _ _ C0 _ _ D2 _ _ D4 D7 C5 Bf4 Bf5 Bf6 Bf7 Bf8 Bf9 BZ6 BZ7 BZ8 Bg0 Bg1 _ ?s1 ?s2 ?s3 ?s4 ?s5 ?s6 A10.out).mono ?_);(case s1 =>exact zC_ (Kd.C_below N7.out HB.out));(case s2=>exact R5.out);(case s3 =>exact zC_ (Kd.C_below Q6.out HB.out));(case s4=>exact Q7.out);(case s5 =>exact zC_ (Kd.C_below R6.out HB.out));(case s6=>exact R7.out);rintro e w23 ⟨v749,v752,v755,rfl,ho0,ho1,ho2,hb⟩;refine ⟨_,rfl,?_⟩;have AD2:=aM (Kd.R_lower (Kd.R_new' ho0 (Kd.R_lt (z3_ l4.out))) (below_size (z0_ HB.out)));replace l4:=aM (Kd.R_elder' (z3_ l4.out) (Kd.R_base ho0) hb);have AD3:=aM (Kd.R_lower (Kd.R_new' ho1 (Kd.R_lt (z3_ l5.out))) (below_size (z0_ HB.out)));replace l5:=aM (Kd.R_elder' (z3_ l5.out) (Kd.R_base ho1) hb);have AD4:=aM (Kd.R_lower (Kd.R_new' ho2 (Kd.R_lt (z3_ l9.out))) (below_size (z0_ HB.out)));replace l9:=aM (Kd.R_elder' (z3_ l9.out) (Kd.R_base ho2) hb);replace S5:=aM (blkB_ S5.out hb);replace HB:=aM (below_step (z0_ HB.out) hb)) | ((with_reducible refine gd_ 5 ?_);refine be_ 5 #[.int .i64 0,.int .i64 0,.bool false,.string (⟨#[]⟩:ByteArray),.int .i64 0,.int .i64 0,.slice none 0 0,.slice none 0 0,.slice none 0 0,.int .i64 0,.int .i64 0] 40 ?_;intro AL2 hg w24 hbox hb;replace l4:=aM (Kd.R_below (z3_ l4.out) hb);replace l5:=aM (Kd.R_below (z3_ l5.out) hb);replace l9:=aM (Kd.R_below (z3_ l9.out) hb);replace AD2:=aM (Kd.R_below (z3_ AD2.out) hb);replace AD3:=aM (Kd.R_below (z3_ AD3.out) hb);replace AD4:=aM (Kd.R_below (z3_ AD4.out) hb);have e7:=aM (hbox);have GW759:=aM ((z7_ HB.out:w.heap.size≤AL2));have GE759:=aM ((z7_ HB.out:w.heap.size≤AL2));replace HB:=aM (below_step (z0_ HB.out) hb);have Q2:=aM (neL_ S5.out hg);have CG4:=aM (neG_ S5.out hg);replace S5:=aM (blkB_ S5.out hb);clear hb hbox hg;have Bp5:=CG4.out;have Bp6:=Q2.out;have ⟨Ae2,Ae3,As8,BO5,C98,C99,DA0,DA1,DA2,DA3,Ca2,Ae4,Ae5,As9,BO6,DA4,DA5,DA6,DA7,DA8,DA9,Ca3⟩:=cz11_ e7.out;obtain ⟨CW6,CD9,C41⟩:=Kd.R_slice AD2.out;subst C41;obtain ⟨DD2,Cb7,EV7⟩:=Kd.R_slice AD3.out;subst EV7;obtain ⟨BY9,BB0,Dn3⟩:=Kd.R_slice AD4.out;subst Dn3) | ((with_reducible refine gc_ 7 ?_);refine gl_ (some 18) Tryz.func7 #[.agg #[.int .i64 Bf4,.int .i64 Bf5,.bool Bf6,.string Bf7,.int .i64 Bf8,.int .i64 Bf9,.slice CW6 BZ6.length CD9,.slice DD2 BZ7.length Cb7,.slice BY9 BZ8.length BB0,.int .i64 Bg0,.int .i64 Bg1]] ?_;(with_reducible refine (Y3.calls k Bf4 Bf5 Bf6 Bf7 Bf8 Bf9 _ _ BZ6 _ _ BZ7 _ _ BZ8 Bg0 Bg1 BQ1 _ ?s1 ?s2 ?s3 ?s4 ?s5 ?s6 A11.out).mono ?_);(case s1=>refine (Kd.R_reads' (e:=61) (base:=w.heap.size) (ok:=fun k_=>(True∧some k_≠(.slice Ba2 DC9.length Ba3:Value).ownBlock)) (n:=BZ6.length) (c:=CD9) ?_).2.2;exact (z41_ AD2.out e7.out));(case s2=>exact (Kd.R_reads' AD2.out).2.1);(case s3=>refine (Kd.R_reads' (e:=38) (base:=w.heap.size) (ok:=fun k_=>(True∧some k_≠(.slice BA6 DD0.length A33:Value).ownBlock)) (n:=BZ7.length) (c:=Cb7) ?_).2.2;exact (z41_ AD3.out e7.out));(case s4=>exact (Kd.R_reads' AD3.out).2.1);(case s5=>refine (Kd.R_reads' (e:=75) (base:=w.heap.size) (ok:=fun k_=>(True∧some k_≠(.slice BF1 DD1.length BF2:Value).ownBlock)) (n:=BZ8.length) (c:=BB0) ?_).2.2;exact (z41_ AD4.out e7.out));(case s6=>exact (Kd.R_reads' AD4.out).2.1);rintro e w30 ⟨rfl,hb⟩;refine ⟨_,rfl,?_⟩;replace l4:=aM (Kd.R_below (z41_ l4.out e7.out) hb);replace l5:=aM (Kd.R_below (z41_ l5.out e7.out) hb);replace l9:=aM (Kd.R_below (z41_ l9.out e7.out) hb);replace AD2:=aM (Kd.R_below (z41_ AD2.out e7.out) hb);replace AD3:=aM (Kd.R_below (z41_ AD3.out e7.out) hb);replace AD4:=aM (Kd.R_below (z41_ AD4.out e7.out) hb);replace S5:=aM (blk_below (g:=AL1) (o:=.cells #[.int .i64 C2,.int .i64 C3,.bool C9,.string C4,.int .i64 D3,.int .i64 D6,.slice J4 C0.length I5,.slice I7 D2.length I8,.slice I9 D4.length J0,.int .i64 D7,.int .i64 C5] 30 (0,0)) (by (with_reducible repeat (first | refine blk_drewN ?_ _ | refine blk_drew ?_ | refine blk_alloc ?_ _));refine blk_far ?_ Q2.out _;(with_reducible repeat (first | refine blk_drewN ?_ _ | refine blk_drew ?_ | refine blk_alloc ?_ _));refine blk_far ?_ Q2.out _;(with_reducible repeat (first | refine blk_drewN ?_ _ | refine blk_drew ?_ | refine blk_alloc ?_ _));refine blk_far ?_ Q2.out _;(with_reducible repeat (first | refine blk_drewN ?_ _ | refine blk_drew ?_ | refine blk_alloc ?_ _));refine blk_far ?_ Q2.out _;(with_reducible repeat (first | refine blk_drewN ?_ _ | refine blk_drew ?_ | refine blk_alloc ?_ _));refine blk_far ?_ Q2.out _;(with_reducible repeat (first | refine blk_drewN ?_ _ | refine blk_drew ?_ | refine blk_alloc ?_ _));refine blk_far ?_ Q2.out _;(with_reducible repeat (first | refine blk_drewN ?_ _ | refine blk_drew ?_ | refine blk_alloc ?_ _));refine blk_far ?_ Q2.out _;(with_reducible repeat (first | refine blk_drewN ?_ _ | refine blk_drew ?_ | refine blk_alloc ?_ _));refine blk_far ?_ Q2.out _;(with_reducible repeat (first | refine blk_drewN ?_ _ | refine blk_drew ?_ | refine blk_alloc ?_ _));refine blk_far ?_ Q2.out _;(with_reducible repeat (first | refine blk_drewN ?_ _ | refine blk_drew ?_ | refine blk_alloc ?_ _));refine blk_far ?_ Q2.out _;(with_reducible repeat (first | refine blk_drewN ?_ _ | refine blk_drew ?_ | refine blk_alloc ?_ _));refine blk_far ?_ Q2.out _;(with_reducible repeat (first | refine blk_drewN ?_ _ | refine blk_drew ?_ | refine blk_alloc ?_ _));exact S5.out) hb);replace e7:=aM (blk_below (g:=AL2) (o:=.cells #[.int .i64 Bf4,.int .i64 Bf5,.bool Bf6,.string Bf7,.int .i64 Bf8,.int .i64 Bf9,.slice CW6 BZ6.length CD9,.slice DD2 BZ7.length Cb7,.slice BY9 BZ8.length BB0,.int .i64 Bg0,.int .i64 Bg1] 40 (0,0)) (by (with_reducible repeat (first | refine blk_drewN ?_ _ | refine blk_drew ?_ | refine blk_alloc ?_ _));apply put11_;(with_reducible repeat (first | refine blk_drewN ?_ _ | refine blk_drew ?_ | refine blk_alloc ?_ _));exact e7.out) hb);replace HB:=aM (below_step (z0_ HB.out) hb))));replace l4:=aM (Kd.R_drew l4.out);replace l5:=aM (Kd.R_drew l5.out);replace l9:=aM (Kd.R_drew l9.out);replace AD2:=aM (Kd.R_drew AD2.out);replace AD3:=aM (Kd.R_drew AD3.out);replace AD4:=aM (Kd.R_drew AD4.out);replace S5:=aM (blk_drew S5.out);replace e7:=aM (blk_drew e7.out);replace HB:=aM (below_drew1 HB.out);refine start_ (n:=5) (S:=fun w'=>w'.cell? ⟨AL2,0,none⟩=some (.int .i64 Bf4)∧w'.cell? ⟨AL2,1,none⟩=some (.int .i64 Bf5)∧w'.cell? ⟨AL2,2,none⟩=some (.bool Bf6)∧w'.cell? ⟨AL2,3,none⟩=some (.string Bf7)∧w'.cell? ⟨AL2,4,none⟩=some (.int .i64 Bf8)∧w'.cell? ⟨AL2,5,none⟩=some (.int .i64 Bf9)∧w'.cell? ⟨AL2,6,none⟩=some (.slice CW6 BZ6.length CD9)∧w'.cell? ⟨AL2,7,none⟩=some (.slice DD2 BZ7.length Cb7)∧w'.cell? ⟨AL2,8,none⟩=some (.slice BY9 BZ8.length BB0)∧w'.cell? ⟨AL2,9,none⟩=some (.int .i64 Bg0)∧w'.cell? ⟨AL2,10,none⟩=some (.int .i64 Bg1)∧w'.cell? ⟨AL1,0,none⟩=some (.int .i64 C2)∧w'.cell? ⟨AL1,1,none⟩=some (.int .i64 C3)∧w'.cell? ⟨AL1,2,none⟩=some (.bool C9)∧w'.cell? ⟨AL1,3,none⟩=some (.string C4)∧w'.cell? ⟨AL1,4,none⟩=some (.int .i64 D3)∧w'.cell? ⟨AL1,5,none⟩=some (.int .i64 D6)∧w'.cell? ⟨AL1,6,none⟩=some (.slice J4 C0.length I5)∧w'.cell? ⟨AL1,7,none⟩=some (.slice I7 D2.length I8)∧w'.cell? ⟨AL1,8,none⟩=some (.slice I9 D4.length J0)∧w'.cell? ⟨AL1,9,none⟩=some (.int .i64 D7)∧w'.cell? ⟨AL1,10,none⟩=some (.int .i64 C5)) (ds:=[]) (nq 5 0) (by kernel_rfl) rfl rfl (cj11_ e7.out (cc11_ S5.out)) (fun hHeld=>?_);generalize w30.drew=w31 at l4 l5 l9 AD2 AD3 AD4 S5 e7 HB hHeld ⊢;refine take_ (i:=0) (N:=some 22) (v:=?_) (a':=?_) (nq 5 1) rfl rfl (by kernel_rfl) (fun _ _ _ h=>h) (Or.inl ⟨by rfl,?_⟩) hHeld ?_ ?_;rotate_left
    ·rintro w' ⟨s0,s1,s2,s3,s4,s5,s6,s7,s8,s9,s10,s11,s12,s13,s14,s15,s16,s17,s18,s19,s20,s21⟩;go_simp;with_reducible rfl
    rotate_left
    ·simp only [Act.put,sa_,s0_,ss_,i64_w,i32_w];rfl
    refine take_ (i:=1) (N:=some 23) (v:=?_) (a':=?_) (nq 5 2) rfl rfl (by kernel_rfl) (fun _ _ _ h=>h) (Or.inl ⟨by rfl,?_⟩) hHeld ?_ ?_;rotate_left
    ·rintro w' ⟨s0,s1,s2,s3,s4,s5,s6,s7,s8,s9,s10,s11,s12,s13,s14,s15,s16,s17,s18,s19,s20,s21⟩;go_simp;with_reducible rfl
    rotate_left
    ·simp only [Act.put,sa_,s0_,ss_,i64_w,i32_w];rfl
    refine one_ (i:=2) (N:=some 24) (nq 5 3) rfl rfl (by kernel_rfl) (by decide) (fun K hK=>?_);refine gs_ Tryz.func6 #[.agg #[.int .i64 C2,.int .i64 C3,.bool C9,.string C4,.int .i64 D3,.int .i64 D6,.slice J4 C0.length I5,.slice I7 D2.length I8,.slice I9 D4.length J0,.int .i64 D7,.int .i64 C5]] ?_;(with_reducible refine (Y70.calls k C2 C3 C9 C4 D3 D6 _ _ C0 _ _ D2 _ _ D4 D7 C5 Dr4 Dr5 Dr6 Dr7 Dr8 Dr9 Ds0 Ds1 Ds2 Ds3 Ds4 _ ?s1 ?s2 ?s3 ?s4 ?s5 ?s6 A13.out).mono ?_);(case s1 =>exact zC_ (Kd.C_below N7.out HB.out));(case s2=>exact R5.out);(case s3 =>exact zC_ (Kd.C_below Q6.out HB.out));(case s4=>exact Q7.out);(case s5 =>exact zC_ (Kd.C_below R6.out HB.out));(case s6=>exact R7.out);rintro e w32 ⟨v768,v771,v774,rfl,ho0,ho1,ho2,hb⟩;refine ⟨_,rfl,?_⟩;have BZ9:=aM (Kd.R_lower (Kd.R_new' (Kd.R_new' ho0 (Kd.R_lt (z3_ l4.out))) (Kd.R_lt (z3_ AD2.out))) (below_size (z0_ HB.out)));replace l4:=aM (Kd.R_elder' (z3_ l4.out) (Kd.R_base ho0) hb);replace AD2:=aM (Kd.R_elder' (z3_ AD2.out) (Kd.R_base ho0) hb);have Ba0:=aM (Kd.R_lower (Kd.R_new' (Kd.R_new' ho1 (Kd.R_lt (z3_ l5.out))) (Kd.R_lt (z3_ AD3.out))) (below_size (z0_ HB.out)));replace l5:=aM (Kd.R_elder' (z3_ l5.out) (Kd.R_base ho1) hb);replace AD3:=aM (Kd.R_elder' (z3_ AD3.out) (Kd.R_base ho1) hb);have Ba1:=aM (Kd.R_lower (Kd.R_new' (Kd.R_new' ho2 (Kd.R_lt (z3_ l9.out))) (Kd.R_lt (z3_ AD4.out))) (below_size (z0_ HB.out)));replace l9:=aM (Kd.R_elder' (z3_ l9.out) (Kd.R_base ho2) hb);replace AD4:=aM (Kd.R_elder' (z3_ AD4.out) (Kd.R_base ho2) hb);replace S5:=aM (blkB_ S5.out hb);replace e7:=aM (blkB_ e7.out hb);replace HB:=aM (below_step (z0_ HB.out) hb);obtain ⟨EV8,EV9,EJ1⟩:=Kd.R_slice BZ9.out;(first | subst EJ1 | (injection EJ1 with f1_ f2_ f3_;have f4_:=f1_.symm;have f5_:=f3_.symm;clear f1_ f2_ f3_;subst f4_;subst f5_));obtain ⟨Dc8,Dc9,Cp7⟩:=Kd.R_slice Ba0.out;(first | subst Cp7 | (injection Cp7 with f1_ f2_ f3_;have f4_:=f1_.symm;have f5_:=f3_.symm;clear f1_ f2_ f3_;subst f4_;subst f5_));obtain ⟨CY6,CE9,C74⟩:=Kd.R_slice Ba1.out;(first | subst C74 | (injection C74 with f1_ f2_ f3_;have f4_:=f1_.symm;have f5_:=f3_.symm;clear f1_ f2_ f3_;subst f4_;subst f5_));refine hK.out _ _ (cj11_ e7.out (cc11_ S5.out)) (fun hHeld=>?_);clear hK K;refine nm_ 24 ?_;refine one_ (i:=3) (N:=some 25) (nq 5 4) rfl rfl (by kernel_rfl) (by decide) (fun K hK=>?_);refine gs_ Tryz.func8 #[.agg #[.int .i64 Bf4,.int .i64 Bf5,.bool Bf6,.string Bf7,.int .i64 Bf8,.int .i64 Bf9,.slice CW6 BZ6.length CD9,.slice DD2 BZ7.length Cb7,.slice BY9 BZ8.length BB0,.int .i64 Bg0,.int .i64 Bg1],.agg #[.int .i64 Dr4,.int .i64 Dr5,.bool Dr6,.string Dr7,.int .i64 Dr8,.int .i64 Dr9,.slice EV8 Ds0.length EV9,.slice Dc8 Ds1.length Dc9,.slice CY6 Ds2.length CE9,.int .i64 Ds3,.int .i64 Ds4]] ?_;(with_reducible refine (Y88.calls k Bf4 Bf5 Bf6 Bf7 Bf8 Bf9 _ _ BZ6 _ _ BZ7 _ _ BZ8 Bg0 Bg1 Dr4 Dr5 Dr6 Dr7 Dr8 Dr9 _ _ Ds0 _ _ Ds1 _ _ Ds2 Ds3 Ds4 true _ ?s1 ?s2 ?s3 ?s4 ?s5 ?s6 ?s7 ?s8 ?s9 ?s10 ?s11 ?s12 A14.out).mono ?_);(case s1 =>exact zC_ ((Kd.R_reads' AD2.out).2.2));(case s2=>exact (Kd.R_reads' AD2.out).2.1);(case s3 =>exact zC_ ((Kd.R_reads' AD3.out).2.2));(case s4=>exact (Kd.R_reads' AD3.out).2.1);(case s5 =>exact zC_ ((Kd.R_reads' AD4.out).2.2));(case s6=>exact (Kd.R_reads' AD4.out).2.1);(case s7 =>exact zC_ ((Kd.R_reads' BZ9.out).2.2));(case s8=>exact (Kd.R_reads' BZ9.out).2.1);(case s9 =>exact zC_ ((Kd.R_reads' Ba0.out).2.2));(case s10=>exact (Kd.R_reads' Ba0.out).2.1);(case s11 =>exact zC_ ((Kd.R_reads' Ba1.out).2.2));(case s12=>exact (Kd.R_reads' Ba1.out).2.1);rintro e w36 ⟨rfl,hb⟩;refine ⟨_,rfl,?_⟩;replace l4:=aM (Kd.R_below (z3_ l4.out) hb);replace l5:=aM (Kd.R_below (z3_ l5.out) hb);replace l9:=aM (Kd.R_below (z3_ l9.out) hb);replace AD2:=aM (Kd.R_below (z3_ AD2.out) hb);replace AD3:=aM (Kd.R_below (z3_ AD3.out) hb);replace AD4:=aM (Kd.R_below (z3_ AD4.out) hb);replace BZ9:=aM (Kd.R_below (z3_ BZ9.out) hb);replace Ba0:=aM (Kd.R_below (z3_ Ba0.out) hb);replace Ba1:=aM (Kd.R_below (z3_ Ba1.out) hb);replace S5:=aM (blkB_ S5.out hb);replace e7:=aM (blkB_ e7.out hb);replace HB:=aM (below_step (z0_ HB.out) hb);refine hK.out _ _ (cj11_ e7.out (cc11_ S5.out)) (fun hHeld=>?_);clear hK K;refine nm_ 25 ?_;refine pure_ (i:=4) (N:=some 26) (v:=?_) (a':=?_) (nq 5 5) rfl rfl (by kernel_rfl) (fun _ _ _ h=>h) (Or.inl ⟨by rfl,?_⟩) ?_ ?_;rotate_left
    ·intro w';go_simp;with_reducible rfl
    rotate_left
    ·simp only [Act.put,sa_,s0_,ss_,i64_w,i32_w];rfl
    refine done_ (by kernel_rfl) ?_;(try go_wp2);go_ret;exact ⟨z6_,z0_ HB.out⟩
   ·replace c15:=Bool.eq_false_iff.mpr c15;subst c15;rw [if_neg (show ¬ (false=true) by decide)] at H;exact nO H

end Go.Proofs.YtbkiajppiogifaaGreat.P

namespace Go.Proofs.YtbkiajppiogifaaGreat.P
open Go.RowKit Go.Proofs.YtbkiajppiogifaaGreat.RO
def Y65.Pure:Prop:=∀ (x0:S30),wfT30 x0→∃ k,Y65.f k x0.f0 x0.f1 x0.f2 x0.f3 x0.f4 x0.f5 x0.f6 x0.f7.f0 x0.f7.f1 x0.f8.f0 x0.f8.f1=some true
end Go.Proofs.YtbkiajppiogifaaGreat.P

namespace Go.Proofs.YtbkiajppiogifaaGreat.Q
open Go.RowKit Go.Proofs.YtbkiajppiogifaaGreatW.PrintWords Go.Proofs.YtbkiajppiogifaaGreatW.PrintMore

theorem w64 {x:Int} (h0 : -9223372036854775808≤x) (h1:x≤9223372036854775807):wrap64 x=x:=by unfold wrap64;omega
theorem u64w (n:Int):IntKind.u64.wrap n=n % 18446744073709551616:=by simp [IntKind.wrap,IntKind.bits,IntKind.signed]
theorem evIte {α:Type} {c:Prop} [Decidable c] {f g:Nat→Option α} {r:α} (h:c→Ev f r) (h':¬ c→Ev g r):Ev (fun k=>if c then f k else g k) r:=by
  by_cases hc:c
  · simp only [if_pos hc];exact h hc
  · simp only [if_neg hc];exact h' hc
theorem evPos {α:Type} {c:Prop} [Decidable c] {f g:Nat→Option α} {r:α} (hc:c) (h:Ev f r):Ev (fun k=>if c then f k else g k) r:=by
  simp only [if_pos hc];exact h
theorem evNeg {α:Type} {c:Prop} [Decidable c] {f g:Nat→Option α} {r:α} (hc:¬ c) (h:Ev g r):Ev (fun k=>if c then f k else g k) r:=by
  simp only [if_neg hc];exact h
theorem evOf {α:Type} {g:Option α} {r:α} (h:g=some r):Ev (fun _=>g) r:=⟨0,fun _ _=>h⟩
theorem evBind1 {α β:Type} {g:Option α} {f:Nat→α→Option β} {a:α} {r:β} (h:g=some a) (k:Ev (fun n=>f n a) r):Ev (fun n=>g.bind (f n)) r:=by
  subst h;exact k
theorem dropCons {α:Type} {l:List α} {i:Nat} {a:α} {s:List α} (h:l.drop i=a :: s) (d:α):i<l.length∧l.getD i d=a∧l.drop (i+1)=s:=by
  have hl:i<l.length:=by
    have:=congrArg List.length h
    simp at this;omega
  rw [List.drop_eq_getElem_cons hl] at h
  injection h with h1 h2
  exact ⟨hl,by rw [List.getD_eq_getElem?_getD,List.getElem?_eq_getElem hl];exact h1,h2⟩
theorem dropNil {α:Type} {l:List α} {i:Nat} (h:l.drop i=[]):l.length≤i:=by
  have:=congrArg List.length h
  simp at this;omega
theorem dropNil' {α:Type} {l:List α} {i:Nat} (h:l.drop i=[]) (hi:i≤l.length):l.length=i:=by
  have:=dropNil h;omega
theorem wraps_u64 (n:Int) (h₀:0≤n) (h₁:n<2 ^ 64):IntKind.u64.wrap n=n:=by rw [u64w];omega
theorem wraps_i64 (n:Int) (h₀:0≤n) (h₁:n<2 ^ 63):IntKind.i64.wrap n=n:=by rw [IntKind.wrap_i64];omega
end Go.Proofs.YtbkiajppiogifaaGreat.Q

namespace Go.Proofs.YtbkiajppiogifaaGreat.Q
open Go.RowKit Go.Proofs.YtbkiajppiogifaaGreat.P Go.Proofs.YtbkiajppiogifaaGreatW.PrintWords Go.Proofs.YtbkiajppiogifaaGreatW.PrintMore

theorem toList_loop (b:ByteArray):∀ (n i:Nat) (r:List UInt8),b.size-i=n→ByteArray.toList.loop b i r=r.reverse ++ b.data.toList.drop i:=by
  intro n
  induction n with
  | zero =>
    intro i r h
    unfold ByteArray.toList.loop
    have hs:b.data.toList.length=b.size:=by rw [Array.length_toList];rfl
    rw [if_neg (by omega),List.drop_of_length_le (by omega),List.append_nil]
  | succ n ih =>
    intro i r h
    unfold ByteArray.toList.loop
    have hs:b.data.toList.length=b.size:=by rw [Array.length_toList];rfl
    rw [if_pos (by omega),ih (i+1) _ (by omega),List.drop_eq_getElem_cons (i:=i) (by omega)]
    have:b.get! i=b.data.toList[i]'(by omega):=by
      have hi:i<b.data.size:=by rw [← Array.length_toList];omega
      show b.data[i]! = _
      rw [getElem!_pos b.data i hi]
      simp
    simp [this]
theorem toList_data (b:ByteArray):b.toList=b.data.toList:=by
  unfold ByteArray.toList
  rw [toList_loop b _ 0 [] rfl]
  simp
theorem toList_inj {a b:ByteArray} (h:a.toList=b.toList):a=b:=by
  rw [toList_data,toList_data] at h
  obtain ⟨a⟩:=a
  obtain ⟨b⟩:=b
  simp only [ByteArray.mk.injEq]
  exact Array.toList_inj.1 h
theorem toList_nil {s:ByteArray} (h:s.toList=[]):s.size=0:=by
  have h5:s.data.toList.length=s.size:=(by rw [Array.length_toList];rfl)
  rw [← toList_data,h] at h5
  simpa using h5.symm
def isWithin (n low high:Int):Bool:=decide (low≤n) && decide (n≤high)
def isNode (n:Int):Bool:=isWithin n 1 5
def isDot (a b:Int):Bool:=isNode a && isWithin b 1 1000000
theorem l02Is_is (n a b:Int):Y55.f n a b=some (isWithin n a b):=by
  unfold Y55.f isWithin
  split
  · rename_i h;simp [show a≤n from h]
  · rename_i h;simp [show ¬ a≤n from h]
theorem l02Node_is (n:Int):Y45.f n=some (isNode n):=by simp [Y45.f,l02Is_is,isNode]
theorem l02Dot_is (a b:Int):Y81.f a b=some (isDot a b):=by
  simp only [Y81.f,l02Node_is,l02Is_is,isDot,Option.bind_some]
  cases isNode a <;> simp
theorem within_is (n a b:Int):Y34.f n a b=some (isWithin n a b):=by
  unfold Y34.f isWithin
  split
  · rename_i h;simp [show a≤n from h]
  · rename_i h;simp [show ¬ a≤n from h]
theorem isNode_is (n:Int):Y64.f n=some (isNode n):=by simp [Y64.f,within_is,isNode]
theorem isDot_is (a b:Int):Y73.f a b=some (isDot a b):=by
  simp only [Y73.f,isNode_is,within_is,isDot,Option.bind_some]
  cases isNode a <;> simp
theorem isDot_iff (a b:Int):isDot a b=true ↔ (1≤a∧a≤5)∧1≤b∧b≤1000000:=by simp [isDot,isNode,isWithin]
end Go.Proofs.YtbkiajppiogifaaGreat.Q

namespace Go.Proofs.YtbkiajppiogifaaGreat.Q
open Go.RowKit Go.Proofs.YtbkiajppiogifaaGreat.P Go.Proofs.YtbkiajppiogifaaGreatW.PrintWords Go.Proofs.YtbkiajppiogifaaGreatW.PrintMore

abbrev Mark:=S38
/-- Dots whose nodes rise from above p. -/
def okFrom:Int→List Mark→Bool
  | _,[]=>true
  | p,m :: r=>isDot m.f0 m.f1 && (decide (p<m.f0) && okFrom m.f0 r)
def seenOk (v:List Mark):Bool:=okFrom 0 v
theorem okFrom_length:∀ (s:List Mark) (p:Int),p≤5→okFrom p s=true→(s.length:Int)≤5-p
  | [],p,h,_=>by simp;omega
  | m :: r,p,h,ho=>by
    simp only [okFrom,Bool.and_eq_true,decide_eq_true_eq,isDot_iff] at ho
    have:=okFrom_length r m.f0 ho.1.1.2 ho.2.2
    simp;omega
theorem seenOk_length {v:List Mark} (h:seenOk v=true):v.length≤5:=by
  have:=okFrom_length v 0 (by omega) h
  omega
/-- The node ahead of place i. -/
def prevAt (l:List Mark) (i:Nat):Int:=if i=0 then 0 else (l.getD (i-1) z38).f0
theorem prevAt_succ {l:List Mark} {i:Nat} {m:Mark} (h:l.getD i z38=m):prevAt l (i+1)=m.f0:=by
  simp only [prevAt,Nat.add_sub_cancel,h]
  simp
theorem impl_seenRight_l0 (l:List Mark) (hl:l.length≤4611686018427387904):∀ (s:List Mark) (i:Nat),l.drop i=s→i≤l.length→0≤prevAt l i →
    Ev (fun k=>Y27.l0 k l l (l.length:Int) (i:Int)) (okFrom (prevAt l i) s)
  | [],i,h,hi,hp=>by
    have:=dropNil' h hi
    refine Ev.step (f:=fun _=>some true) (fun k=>?_) (Ev.now _)
    simp only [Y27.l0]
    rw [if_neg (by omega)]
  | m :: s,i,h,hi,hp=>by
    obtain ⟨h1,h2,h3⟩:=dropCons h z38
    have hr:rd_T38 l (i:Int)=m:=by simpa [rd_T38] using h2
    have ih:=fun hq=>impl_seenRight_l0 l hl s (i+1) h3 (by omega) hq
    rw [prevAt_succ h2] at ih
    by_cases hd:isDot m.f0 m.f1=true
    · have hd':=(isDot_iff _ _).1 hd
      by_cases hlt:prevAt l i<m.f0
      · have ih:=ih (by omega)
        refine Ev.step (fun k=>?_) (show Ev _ (okFrom (prevAt l i) (m :: s)) from by simp only [okFrom,hd,hlt,decide_true,Bool.true_and];exact ih)
        simp only [Y27.l0,hr,isDot_is,Option.bind_some]
        rw [if_pos (by omega),if_pos (by omega),if_pos (by omega),if_pos hd,w64 (x:=(i:Int)+1) (by omega) (by omega)]
        by_cases hi0:i=0
        · subst hi0
          rw [if_neg (by omega)];rfl
        · have hq:rd_T38 l ((i:Int)-1)=l.getD (i-1) z38:=by
            simp only [rd_T38];congr 1;omega
          rw [w64 (x:=(i:Int)-1) (by omega) (by omega),if_pos (by omega),if_pos (by omega),if_pos (by omega),hq,if_neg (by simp only [prevAt,if_neg hi0] at hlt;omega)]
          rfl
      · refine Ev.step (f:=fun _=>some false) (fun k=>?_) (show Ev _ (okFrom (prevAt l i) (m :: s)) from by simp only [okFrom,hd,hlt,decide_false,Bool.false_and,Bool.and_false];exact Ev.now _)
        have hi0:i≠0:=by
          intro e;subst e
          simp [prevAt] at hlt;omega
        have hq:rd_T38 l ((i:Int)-1)=l.getD (i-1) z38:=by
          simp only [rd_T38];congr 1;omega
        simp only [Y27.l0,hr,isDot_is,Option.bind_some]
        rw [if_pos (by omega),if_pos (by omega),if_pos (by omega),if_pos hd,w64 (x:=(i:Int)-1) (by omega) (by omega),if_pos (by omega),if_pos (by omega),if_pos (by omega),hq,
          if_pos (by simp only [prevAt,if_neg hi0] at hlt;omega)]
    · refine Ev.step (f:=fun _=>some false) (fun k=>?_) (show Ev _ (okFrom (prevAt l i) (m :: s)) from by simp only [okFrom,Bool.eq_false_iff.mpr hd,Bool.false_and];exact Ev.now _)
      simp only [Y27.l0,hr,isDot_is,Option.bind_some]
      rw [if_pos (by omega),if_pos (by omega),if_pos (by omega),if_neg hd]
theorem impl_seenRight_ev (l:List Mark) (hl:l.length≤4611686018427387904):Ev (fun k=>Y27.f k l) (seenOk l) :=
  impl_seenRight_l0 l hl l 0 rfl (by omega) (by simp [prevAt])
theorem spec_SeenRight_l0 (l:List Mark) (hl:l.length≤4611686018427387904):∀ (s:List Mark) (i:Nat),l.drop i=s→i≤l.length→(i:Int)≤prevAt l i→prevAt l i≤5 →
    Ev (fun k=>Y14.l0 k l (i:Int)) (okFrom (prevAt l i) s)
  | [],i,h,hi,hp,hp5=>by
    have:=dropNil' h hi
    refine Ev.step (f:=fun k=>Y14.j1 k l (i:Int) false) (fun k=>?_) (Ev.step (f:=fun _=>some true) (fun k=>?_) (Ev.now _))
    · simp only [Y14.l0]
      rw [if_neg (by omega)]
    · simp only [Y14.j1]
      rw [if_neg (by simp)]
      congr 1
      simp;omega
  | m :: s,i,h,hi,hp,hp5=>by
    obtain ⟨h1,h2,h3⟩:=dropCons h z38
    have hr:rd_T38 l (i:Int)=m:=by simpa [rd_T38] using h2
    have ih:=fun hq=>spec_SeenRight_l0 l hl s (i+1) h3 (by omega) hq
    rw [prevAt_succ h2] at ih
    have hj:decide ((i:Int)≤5)=true:=by simp;omega
    have hl0:∀ k,Y14.l0 (k+1) l (i:Int)=Y14.j1 k l (i:Int) true:=fun k=>by
      simp only [Y14.l0]
      rw [if_pos (by omega),hj]
    by_cases hd:isDot m.f0 m.f1=true
    · have hd':=(isDot_iff _ _).1 hd
      by_cases hlt:prevAt l i<m.f0
      · have ih:=ih (by omega) (by omega)
        refine Ev.step hl0 (Ev.step (fun k=>?_) (show Ev _ (okFrom (prevAt l i) (m :: s)) from by simp only [okFrom,hd,hlt,decide_true,Bool.true_and];exact ih))
        simp only [Y14.j1,hr,l02Dot_is,Option.bind_some]
        rw [if_pos trivial,if_pos (by omega),if_pos (by omega),if_pos hd,w64 (x:=(i:Int)+1) (by omega) (by omega)]
        by_cases hi0:i=0
        · subst hi0
          rw [if_neg (by omega)];rfl
        · have hq:rd_T38 l ((i:Int)-1)=l.getD (i-1) z38:=by
            simp only [rd_T38];congr 1;omega
          rw [w64 (x:=(i:Int)-1) (by omega) (by omega),if_pos (by omega),if_pos (by omega),if_pos (by omega),hq,if_neg (by simp only [prevAt,if_neg hi0] at hlt;omega)]
          rfl
      · refine Ev.step hl0 (Ev.step (f:=fun _=>some false) (fun k=>?_) (show Ev _ (okFrom (prevAt l i) (m :: s)) from by simp only [okFrom,hd,hlt,decide_false,Bool.false_and,Bool.and_false];exact Ev.now _))
        have hi0:i≠0:=by
          intro e;subst e
          simp [prevAt] at hlt;omega
        have hq:rd_T38 l ((i:Int)-1)=l.getD (i-1) z38:=by
          simp only [rd_T38];congr 1;omega
        simp only [Y14.j1,hr,l02Dot_is,Option.bind_some]
        rw [if_pos trivial,if_pos (by omega),if_pos (by omega),if_pos hd,w64 (x:=(i:Int)-1) (by omega) (by omega),if_pos (by omega),if_pos (by omega),if_pos (by omega),hq,
          if_pos (by simp only [prevAt,if_neg hi0] at hlt;omega)]
    · refine Ev.step hl0 (Ev.step (f:=fun _=>some false) (fun k=>?_) (show Ev _ (okFrom (prevAt l i) (m :: s)) from by simp only [okFrom,Bool.eq_false_iff.mpr hd,Bool.false_and];exact Ev.now _))
      simp only [Y14.j1,hr,l02Dot_is,Option.bind_some]
      rw [if_pos trivial,if_pos (by omega),if_pos (by omega),if_neg hd]
theorem spec_SeenRight_ev (l:List Mark) (hl:l.length≤4611686018427387904):Ev (fun k=>Y14.f k l) (seenOk l) :=
  spec_SeenRight_l0 l hl l 0 rfl (by omega) (by simp [prevAt]) (by simp [prevAt])
end Go.Proofs.YtbkiajppiogifaaGreat.Q

namespace Go.Proofs.YtbkiajppiogifaaGreat.Q
open Go.RowKit Go.Proofs.YtbkiajppiogifaaGreat.P Go.Proofs.YtbkiajppiogifaaGreatW.PrintWords Go.Proofs.YtbkiajppiogifaaGreatW.PrintMore

abbrev LMark:=S28
def toMark (m:LMark):Mark:=⟨m.f0,m.f1⟩
theorem szMarkS_is (l:List LMark) (n:Int) (h0:0≤n) (h1:n≤1048576) (hl:l.length≤9223372036854775807) :
    Y93.f l n=some (if n<(l.length:Int) then -1 else n-(l.length:Int)):=by
  unfold Y93.f
  rw [w64 (by omega) (by omega)]
  split
  · rw [if_pos (by omega)]
  · rw [if_neg (by omega)]
theorem toMarkS_l0 (l:List LMark) (hl:l.length≤1048576):∀ (s:List LMark) (i:Nat),l.drop i=s→i≤l.length→∀ (acc:List Mark),acc.length=l.length→acc.take i=(l.take i).map toMark →
    Ev (fun k=>Y54.l0 k l acc (i:Int)) (l.map toMark)
  | [],i,h,hi,acc,ha,hc=>by
    have:=dropNil' h hi
    refine Ev.step (f:=fun _=>some (l.map toMark)) (fun k=>?_) (Ev.now _)
    simp only [Y54.l0]
    rw [if_neg (by omega)]
    rw [← this,List.take_of_length_le (by omega),List.take_length] at hc
    rw [hc]
  | m :: s,i,h,hi,acc,ha,hc=>by
    obtain ⟨h1,h2,h3⟩:=dropCons h z28
    have hr:rd_T28 l (i:Int)=m:=by simpa [rd_T28] using h2
    have hm:l[i]'h1=m:=by
      rw [List.getD_eq_getElem?_getD,List.getElem?_eq_getElem h1] at h2;exact h2
    refine Ev.step (fun k=>?_) (toMarkS_l0 l hl s (i+1) h3 (by omega) (acc.set i (toMark m)) (by simpa using ha) (by
      rw [List.take_succ_eq_append_getElem (by simp;omega),List.take_succ_eq_append_getElem h1,List.map_append,List.take_set_of_le (by omega),hc]
      simp [hm]))
    simp only [Y54.l0,Y79.f,hr,Option.bind_some,Int.toNat_natCast]
    rw [if_pos (by omega),if_pos (by omega),if_pos (by omega),w64 (by omega) (by omega)]
    rfl
theorem toMarkS_ev (l:List LMark) (hl:l.length≤1048576):Ev (fun k=>Y54.f k l) (l.map toMark):=by
  unfold Y54.f
  refine evPos (by omega) (evPos (by omega) ?_)
  exact toMarkS_l0 l hl l 0 rfl (by omega) _ (by simp) (by simp)
theorem eqMark_refl (a b:Int):Y82.f a b a b=some true:=by simp [Y82.f]
theorem eqMarkS_l0 (l:List Mark) (hl:l.length≤4611686018427387904):∀ (s:List Mark) (i:Nat),l.drop i=s→i≤l.length →
    Ev (fun k=>Y40.l0 k l l (i:Int)) true
  | [],i,h,hi=>by
    have:=dropNil' h hi
    refine Ev.step (f:=fun _=>some true) (fun k=>?_) (Ev.now _)
    simp only [Y40.l0]
    rw [if_neg (by omega)]
  | m :: s,i,h,hi=>by
    obtain ⟨h1,h2,h3⟩:=dropCons h z38
    refine Ev.step (fun k=>?_) (eqMarkS_l0 l hl s (i+1) h3 (by omega))
    simp only [Y40.l0,eqMark_refl,Option.bind_some]
    rw [if_pos (by omega),if_pos (by omega),if_pos (by omega),if_pos trivial,w64 (by omega) (by omega)]
    rfl
theorem eqMarkS_ev (l:List Mark) (hl:l.length≤4611686018427387904):Ev (fun k=>Y40.f k l l) true:=by
  unfold Y40.f
  exact evPos rfl (eqMarkS_l0 l hl l 0 rfl (by omega))
end Go.Proofs.YtbkiajppiogifaaGreat.Q

namespace Go.Proofs.YtbkiajppiogifaaGreat.Q
open Go.RowKit Go.Proofs.YtbkiajppiogifaaGreat.P Go.Proofs.YtbkiajppiogifaaGreatW.PrintWords Go.Proofs.YtbkiajppiogifaaGreatW.PrintMore

/-- The number that stands for n: an even one for n ≥ 0. -/
def zig (n:Int):Int:=if n<0 then -2*n-1 else 2*n
theorem zig_range {n:Int} (h0 : -9223372036854775808≤n) (h1:n≤9223372036854775807):0≤zig n∧zig n<18446744073709551616:=by
  unfold zig;split <;> omega
/-- Seven bits a byte, the lowest first; f + 1 bytes at the most. -/
def vbytes:Nat→Int→List Int
  | 0,u=>[u % 256]
  | f+1,u=>if u≥128 then (u % 128+128) :: vbytes f (u / 128) else [u % 256]
def putNum (n:Int):ByteArray:=strOfNums (vbytes 9 (zig n))
theorem fold_is {n:Int} (h0 : -9223372036854775808≤n) (h1:n≤9223372036854775807):Y94.f n=some (zig n):=by
  unfold Y94.f zig
  split
  · rw [w64 (x:=n+1) (by omega) (by omega),w64 (by omega) (by omega)]
    simp only [u64w]
    congr 1
    omega
  · simp only [u64w]
    congr 1
    omega
theorem vbytes_length:∀ f u,(vbytes f u).length≤f+1
  | 0,u=>by simp [vbytes]
  | f+1,u=>by
    unfold vbytes
    split
    · have:=vbytes_length f (u / 128)
      simp;omega
    · simp
theorem spec_PutNum_l0:∀ (f:Nat) (u:Int) (acc:List Int),0≤u→u<128 ^ (f+1)→u<18446744073709551616→acc.length+f+1<140737488355328 →
    Ev (fun k=>Y32.l0 k u acc) (strOfNums (acc ++ vbytes f u))
  | 0,u,acc,h0,h1,h2,h3=>by
    refine Ev.step (f:=fun _=>some (strOfNums (acc ++ vbytes 0 u))) (fun k=>?_) (Ev.now _)
    simp only [Y32.l0]
    rw [if_neg (by omega),if_pos (by omega)]
    rfl
  | f+1,u,acc,h0,h1,h2,h3=>by
    by_cases h:u≥128
    · have ih:=spec_PutNum_l0 f (u / 128) (acc ++ [u % 128+128]) (by omega) (by rw [Int.pow_succ] at h1;omega) (by omega) (by simp;omega)
      have hv:vbytes (f+1) u=[u % 128+128] ++ vbytes f (u / 128):=by simp [vbytes,h]
      rw [hv,← List.append_assoc]
      refine Ev.step (fun k=>?_) ih
      simp only [Y32.l0]
      rw [if_pos h,if_pos (by omega),Int.tdiv_eq_ediv_of_nonneg h0,Int.tmod_eq_emod_of_nonneg h0,u64w,u64w,show (u / 128) % 18446744073709551616=u / 128 from by omega,
        show (u % 128+128) % 18446744073709551616 % 256=u % 128+128 from by omega]
    · refine Ev.step (f:=fun _=>some (strOfNums (acc ++ vbytes (f+1) u))) (fun k=>?_) (Ev.now _)
      simp only [Y32.l0]
      rw [if_neg h,if_pos (by omega)]
      simp [vbytes,h]
theorem spec_PutNum_ev {n:Int} (h0 : -9223372036854775808≤n) (h1:n≤9223372036854775807):Ev (fun k=>Y32.f k n) (putNum n):=by
  have hz:=zig_range h0 h1
  unfold Y32.f
  rw [fold_is h0 h1]
  simp only [Option.bind_some]
  have:=spec_PutNum_l0 9 (zig n) [] hz.1 (by omega) hz.2 (by simp)
  simpa [putNum] using this
end Go.Proofs.YtbkiajppiogifaaGreat.Q

namespace Go.Proofs.YtbkiajppiogifaaGreat.Q
open Go.RowKit Go.Proofs.YtbkiajppiogifaaGreat.P Go.Proofs.YtbkiajppiogifaaGreatW.PrintWords Go.Proofs.YtbkiajppiogifaaGreatW.PrintMore

def firstLong:List ByteArray→Int→Int
  | [],_ => -1
  | a :: s,i=>if 8000<a.size then i else firstLong s (i+1)
theorem firstLong_any:∀ (s:List ByteArray) (i:Int),0≤i→decide (firstLong s i≥0)=s.any fun a=>decide (8000<a.size)
  | [],i,h=>by simp [firstLong]
  | a :: s,i,h=>by
    have ih:=firstLong_any s (i+1) (by omega)
    by_cases ha:8000<a.size
    · simp [firstLong,ha,h]
    · rw [firstLong,if_neg ha,ih,List.any_cons]
      simp [ha]
theorem isLong_l0 (l:List ByteArray) (hl:l.length≤4611686018427387904):∀ (s:List ByteArray) (i:Nat),l.drop i=s→i≤l.length →
    Ev (fun k=>Y8.l0 k l (l.length:Int) (i:Int)) (firstLong s i)
  | [],i,h,hi=>by
    have:=dropNil' h hi
    refine Ev.step (f:=fun _=>some (-1)) (fun k=>?_) (Ev.now _)
    simp only [Y8.l0]
    rw [if_neg (by omega)]
  | a :: s,i,h,hi=>by
    obtain ⟨h1,h2,h3⟩:=dropCons h ByteArray.empty
    have ih:=isLong_l0 l hl s (i+1) h3 (by omega)
    by_cases ha:8000<a.size
    · refine Ev.step (f:=fun _=>some (firstLong (a :: s) i)) (fun k=>?_) (Ev.now _)
      simp only [Y8.l0,Y95.f,rdOf,Int.toNat_natCast,h2]
      rw [if_pos (by omega),if_pos (by omega),if_pos (by omega)]
      simp [firstLong,ha]
      omega
    · refine Ev.step (fun k=>?_) (show Ev _ (firstLong (a :: s) i) from by simp only [firstLong,if_neg ha];exact ih)
      simp only [Y8.l0,Y95.f,rdOf,Int.toNat_natCast,h2]
      rw [if_pos (by omega),if_pos (by omega),if_pos (by omega),w64 (by omega) (by omega)]
      have:¬ ((a.size:Int)>8000):=by omega
      simp [this]
theorem isLong_ev (l:List ByteArray) (hl:l.length≤4611686018427387904):Ev (fun k=>Y66.f k l) (l.any fun a=>decide (8000<a.size)):=by
  unfold Y66.f Y30.f Y8.f
  have h:=isLong_l0 l hl l 0 rfl (by omega)
  refine Ev.bind (Ev.bind h (Ev.now _)) ?_
  have e:=firstLong_any l 0 (by omega)
  rw [show ((0:Nat):Int)=0 from rfl,e]
  exact Ev.now _
theorem isLong1_ev (a:ByteArray):Ev (fun k=>Y66.f k ([a]:List ByteArray)) (decide (8000<a.size)):=by
  have:=isLong_ev [a] (by simp)
  simpa using this
theorem putNum_size (n:Int):(putNum n).size≤10:=by
  have h:=vbytes_length 9 (zig n)
  unfold putNum
  rw [← data_length]
  simp only [strOfNums]
  simpa using h
def putText (t:ByteArray):ByteArray:=if 8000<t.size then ⟨#[]⟩ else putNum (t.size:Int) ++ t
theorem spec_PutText_ev (t:ByteArray):Ev (fun k=>Y77.f k t) (putText t):=by
  unfold Y77.f putText
  by_cases h:8000<t.size
  · rw [if_pos h];exact evPos (by omega) (Ev.now _)
  · rw [if_neg h]
    refine evNeg (by omega) (Ev.bind (spec_PutNum_ev (by omega) (by omega)) ?_)
    have:=putNum_size (t.size:Int)
    exact evPos (by omega) (Ev.now _)
end Go.Proofs.YtbkiajppiogifaaGreat.Q

namespace Go.Proofs.YtbkiajppiogifaaGreat.Q
open Go.RowKit Go.Proofs.YtbkiajppiogifaaGreat.P Go.Proofs.YtbkiajppiogifaaGreatW.PrintWords Go.Proofs.YtbkiajppiogifaaGreatW.PrintMore

def seenOf:List Mark→Int→Int
  | [],_=>0
  | m :: r,n=>if m.f0=n then m.f1 else seenOf r n
theorem l02Of_l0 (l:List Mark) (n:Int) (hl:l.length≤4611686018427387904):∀ (s:List Mark) (i:Nat),l.drop i=s→i≤l.length→Ev (fun k=>Y56.l0 k l n (i:Int)) (seenOf s n)
  | [],i,h,hi=>by
    have:=dropNil' h hi
    refine Ev.step (f:=fun _=>some 0) (fun k=>?_) (Ev.now _)
    simp only [Y56.l0]
    rw [if_neg (by omega)]
  | m :: s,i,h,hi=>by
    obtain ⟨h1,h2,h3⟩:=dropCons h z38
    have hr:rd_T38 l (i:Int)=m:=by simpa [rd_T38] using h2
    refine Ev.step (f:=fun k=>if m.f0=n then some m.f1 else Y56.l0 k l n ((i+1:Nat):Int)) (fun k=>?_) ?_
    · simp only [Y56.l0,hr]
      rw [if_pos (by omega),if_pos (by omega),w64 (by omega) (by omega)]
      rfl
    · simp only [seenOf]
      refine evIte (fun h=>?_) (fun h=>?_)
      · rw [if_pos h];exact Ev.now _
      · rw [if_neg h];exact l02Of_l0 l n hl s (i+1) h3 (by omega)
theorem l02Of_ev (l:List Mark) (n:Int) (hl:l.length≤4611686018427387904):Ev (fun k=>Y56.f k l n) (seenOf l n):=l02Of_l0 l n hl l 0 rfl (by omega)
theorem seenOf_l0 (l:List Mark) (n:Int) (hl:l.length≤4611686018427387904):∀ (s:List Mark) (i:Nat),l.drop i=s→i≤l.length→Ev (fun k=>Y53.l0 k n l (l.length:Int) (i:Int)) (seenOf s n)
  | [],i,h,hi=>by
    have:=dropNil' h hi
    refine Ev.step (f:=fun _=>some 0) (fun k=>?_) (Ev.now _)
    simp only [Y53.l0]
    rw [if_neg (by omega)]
  | m :: s,i,h,hi=>by
    obtain ⟨h1,h2,h3⟩:=dropCons h z38
    have hr:rd_T38 l (i:Int)=m:=by simpa [rd_T38] using h2
    refine Ev.step (f:=fun k=>if m.f0=n then some m.f1 else Y53.l0 k n l (l.length:Int) ((i+1:Nat):Int)) (fun k=>?_) ?_
    · simp only [Y53.l0,hr]
      rw [if_pos (by omega),if_pos (by omega),if_pos (by omega),w64 (by omega) (by omega)]
      rfl
    · simp only [seenOf]
      refine evIte (fun h=>?_) (fun h=>?_)
      · rw [if_pos h];exact Ev.now _
      · rw [if_neg h];exact seenOf_l0 l n hl s (i+1) h3 (by omega)
theorem seenOf_ev (l:List Mark) (n:Int) (hl:l.length≤4611686018427387904):Ev (fun k=>Y53.f k l n) (seenOf l n):=seenOf_l0 l n hl l 0 rfl (by omega)
def seenHas (l:List Mark) (a b:Int):Bool:=decide (b≤seenOf l a)
def seenHasOut (l:List Mark) (a b:Int):Bool:=seenOk l && (isDot a b && seenHas l a b)
theorem seenHas_ev (l:List Mark) (a b:Int) (hl:l.length≤4611686018427387904):Ev (fun k=>Y47.f k l a b) (seenHas l a b):=Ev.bind (seenOf_ev l a hl) (Ev.now _)
theorem spec_SeenHas_ev (l:List Mark) (a b:Int) (hl:l.length≤4611686018427387904):Ev (fun k=>Y35.f k l a b) (seenHasOut l a b):=by
  unfold Y35.f seenHasOut
  refine Ev.bind (spec_SeenRight_ev l hl) ?_
  cases seenOk l with
  | false=>exact evNeg (by simp) (Ev.now _)
  | true =>
    refine evPos rfl (evBind1 (l02Dot_is a b) ?_)
    cases isDot a b with
    | false=>exact evNeg (by simp) (Ev.now _)
    | true=>exact evPos rfl (Ev.bind (l02Of_ev l a hl) (Ev.now _))
/-- The join at the nodes from one on. -/
def joinFrom (a b:List Mark):Nat→Int→List Mark
  | 0,_=>[]
  | f+1,n=>(if mx (seenOf a n) (seenOf b n)>0 then [⟨n,mx (seenOf a n) (seenOf b n)⟩] else []) ++ joinFrom a b f (n+1)
def seenJoin (a b:List Mark):List Mark:=joinFrom a b 5 1
theorem l01Max_is (a b:Int):Y97.f a b=some (mx a b):=by
  unfold Y97.f mx
  by_cases h:a>b
  · rw [if_pos h,if_neg (by omega)]
  · rw [if_neg h]
    by_cases h2:a<b
    · rw [if_pos h2]
    · rw [if_neg h2,show a=b from by omega]
theorem l02Join_l0 (a b:List Mark) (ha:a.length≤4611686018427387904) (hb:b.length≤4611686018427387904):∀ (f:Nat) (n:Int),n+f=6→f≤5→∀ acc:List Mark,acc.length+f≤5→Ev (fun k=>Y51.l0 k a b acc n) (acc ++ joinFrom a b f n)
  | 0,n,hn,hf,acc,hacc=>by
    refine Ev.step (f:=fun _=>some acc) (fun k=>?_) (by simp only [joinFrom,List.append_nil];exact Ev.now _)
    simp only [Y51.l0]
    rw [if_neg (by omega)]
  | f+1,n,hn,hf,acc,hacc=>by
    refine Ev.step (fun k=>by simp only [Y51.l0];rw [if_pos (show n≤5 by omega),w64 (x:=n+1) (by omega) (by omega)]) (Ev.bind (l02Of_ev a n ha) (Ev.bind (l02Of_ev b n hb) (evBind1 (l01Max_is _ _) ?_)))
    simp only [joinFrom]
    refine evIte (fun h=>?_) (fun h=>?_)
    · rw [if_pos h,← List.append_assoc]
      exact evPos (by omega) (l02Join_l0 a b ha hb f (n+1) (by omega) (by omega) _ (by simp;omega))
    · rw [if_neg h,List.nil_append]
      exact l02Join_l0 a b ha hb f (n+1) (by omega) (by omega) _ (by omega)
theorem l02Join_ev (a b:List Mark) (ha:a.length≤4611686018427387904) (hb:b.length≤4611686018427387904):Ev (fun k=>Y51.f k a b) (seenJoin a b):=by
  have:=l02Join_l0 a b ha hb 5 1 (by omega) (by omega) [] (by simp)
  simpa [Y51.f,seenJoin] using this
theorem seenJoin_l0 (a b:List Mark) (ha:a.length≤4611686018427387904) (hb:b.length≤4611686018427387904):∀ (f:Nat) (n:Int),n+f=6→f≤5→∀ acc:List Mark,acc.length+f≤5→Ev (fun k=>Y46.l0 k a b acc n) (acc ++ joinFrom a b f n)
  | 0,n,hn,hf,acc,hacc=>by
    refine Ev.step (f:=fun _=>some acc) (fun k=>?_) (by simp only [joinFrom,List.append_nil];exact Ev.now _)
    simp only [Y46.l0]
    rw [if_neg (by omega)]
  | f+1,n,hn,hf,acc,hacc=>by
    refine Ev.step (fun k=>by simp only [Y46.l0];rw [if_pos (show n≤5 by omega),w64 (x:=n+1) (by omega) (by omega)]) (Ev.bind (seenOf_ev a n ha) (Ev.bind (seenOf_ev b n hb) ?_))
    simp only [joinFrom]
    refine evIte (fun h=>?_) (fun h=>?_)
    · rw [if_pos h,← List.append_assoc]
      exact evPos (by omega) (seenJoin_l0 a b ha hb f (n+1) (by omega) (by omega) _ (by simp;omega))
    · rw [if_neg h,List.nil_append]
      exact seenJoin_l0 a b ha hb f (n+1) (by omega) (by omega) _ (by omega)
theorem seenJoin_ev (a b:List Mark) (ha:a.length≤4611686018427387904) (hb:b.length≤4611686018427387904):Ev (fun k=>Y46.f k a b) (seenJoin a b):=by
  have:=seenJoin_l0 a b ha hb 5 1 (by omega) (by omega) [] (by simp)
  simpa [Y46.f,seenJoin] using this
theorem joinFrom_length (a b:List Mark):∀ (f:Nat) (n:Int),(joinFrom a b f n).length≤f
  | 0,n=>by simp [joinFrom]
  | f+1,n=>by
    have:=joinFrom_length a b f (n+1)
    simp only [joinFrom]
    split <;> simp <;> omega
theorem okFrom_mem:∀ (s:List Mark) (p:Int),okFrom p s=true→∀ m ∈ s,isDot m.f0 m.f1=true∧p<m.f0
  | [],_,_,m,hm=>by simp at hm
  | x :: r,p,h,m,hm=>by
    simp only [okFrom,Bool.and_eq_true,decide_eq_true_eq] at h
    rcases List.mem_cons.1 hm with rfl | hm
    · exact ⟨h.1,h.2.1⟩
    · have:=okFrom_mem r x.f0 h.2.2 m hm
      exact ⟨this.1,by omega⟩
/-- Marks whose numbers are small. -/
def Small (v:List Mark):Prop:=∀ m ∈ v,(0≤m.f0∧m.f0≤4294967295)∧0≤m.f1∧m.f1≤4294967295
theorem seenOk_small {v:List Mark} (h:seenOk v=true):Small v:=fun m hm=>by
  have:=(isDot_iff _ _).1 (okFrom_mem v 0 h m hm).1
  omega
def markBytes (m:Mark):ByteArray:=putNum m.f0 ++ putNum m.f1
def seenBytes (v:List Mark):ByteArray:=v.foldl (fun t m=>t ++ markBytes m) (putNum (v.length:Int))
theorem l02Bytes_l0 (l:List Mark) (hl:l.length≤1048576) (hsm:Small l):∀ (s:List Mark) (i:Nat),l.drop i=s→i≤l.length→∀ t:ByteArray,t.size≤10+20*i→Ev (fun k=>Y37.l0 k l t (i:Int)) (s.foldl (fun t m=>t ++ markBytes m) t)
  | [],i,h,hi,t,ht=>by
    have:=dropNil' h hi
    refine Ev.step (f:=fun _=>some t) (fun k=>?_) (Ev.now _)
    simp only [Y37.l0]
    rw [if_neg (by omega)]
  | m :: s,i,h,hi,t,ht=>by
    obtain ⟨h1,h2,h3⟩:=dropCons h z38
    have hr:rd_T38 l (i:Int)=m:=by simpa [rd_T38] using h2
    have hm:m ∈ l:=List.mem_of_mem_drop (by rw [h];exact List.mem_cons_self)
    have hb:=hsm m hm
    have p0:=putNum_size m.f0
    have p1:=putNum_size m.f1
    refine Ev.step (fun k=>by simp only [Y37.l0,hr];rw [if_pos (show (i:Int)<l.length by omega),if_pos (show (0:Int)≤i by omega),w64 (x:=(i:Int)+1) (by omega) (by omega)]) ?_
    refine Ev.bind (spec_PutNum_ev (by omega) (by omega)) (evPos (by omega) (Ev.bind (spec_PutNum_ev (by omega) (by omega)) (evPos (by omega) ?_)))
    rw [ByteArray.append_assoc]
    exact l02Bytes_l0 l hl hsm s (i+1) h3 (by omega) _ (by simp only [ByteArray.size_append];omega)
theorem l02Bytes_ev (l:List Mark) (hl:l.length≤1048576) (hsm:Small l):Ev (fun k=>Y37.f k l) (seenBytes l):=by
  unfold Y37.f
  exact Ev.bind (spec_PutNum_ev (by omega) (by omega)) (l02Bytes_l0 l hl hsm l 0 rfl (by omega) _ (by have:=putNum_size (l.length:Int);omega))
end Go.Proofs.YtbkiajppiogifaaGreat.Q
