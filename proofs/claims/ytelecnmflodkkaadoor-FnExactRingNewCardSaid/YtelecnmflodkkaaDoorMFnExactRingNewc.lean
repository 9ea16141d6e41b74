/- For all numbers the program's RingNew and the reference's return the same, of memory of its own. No condition. (Part 3 of 3: written by programs of this workplace and by hand, merged.) -/
import Derived.Test.YtelecnmflodkkaaDoorMFnExactRingNewa
import Derived.Test.YtelecnmflodkkaaDoorMFnExactRingNewb
import Derived.Test.YtelecnmflodkkaaDoorMFnExactRingNewWWords
import Derived.ChangeArms
import Derived.ChangeSlices
import Derived.WideShapes
import Derived.Test.YtelecnmflodkkaaDoorMFnExactRingNewWMore
import Derived.Laws.BitsLemmas
import Derived.Test.YtelecnmflodkkaaDoorRows
import Derived.Test.YtelecnmflodkkaaDoorTie
import Derived.Test.YtelecnmflodkkaaDoorCards
import Derived.WalkKit
import Derived.ProofKit
import Derived.OpenShut
import Derived.ShutString
import Derived.ChangeOld
import Derived.Below
import Derived.SizedLaws
import Derived.LaidMore
import Derived.Lay
import Derived.LaidOnce
import Derived.SevenTiedAt
import Derived.LaidLaws
import Derived.ChangeSame
import Derived.ChangeVars
import Derived.JoinedOf
set_option linter.unusedVariables false
set_option linter.unusedSimpArgs false

namespace Go.Proofs.YtelecnmflodkkaaDoor.P
open Go.RowKit Go.Proofs.YtelecnmflodkkaaDoorW.PrintWords Go.Proofs.YtelecnmflodkkaaDoorW.PrintLast Go.Proofs.YtelecnmflodkkaaDoorW.PrintMore
attribute [local go_sem] max2_int min2_int max_two min_two max_three min_three max_four min_four   -- for this text's walks alone
set_option linter.unusedVariables false
set_option linter.unusedSimpArgs false

/-! ### Y42: function 26 -/
def Y42.f (k:Nat) (a0_0:Int) (l0_1:List (S77)) (a1_0:Int) (l1_1:List (S77)):Option (Bool):=if a0_0=a1_0 then ((Y14.f k l0_1 l1_1).bind fun t262=>(if t262=true then (some true) else (none))) else (none)
theorem Y42.mono:∀ a0 a1 a2 a3 k,LeO (Y42.f k a0 a1 a2 a3) (Y42.f (k+1) a0 a1 a2 a3):=by
 intro a0 a1 a2 a3 k
 unfold Y42.f
 repeat' first
   | (with_reducible exact Y14.mono _ _ _)
   | (with_reducible exact LeO.refl _)
   | (with_reducible exact LeO.none _)
   | (with_reducible refine LeO.ite ?_ ?_)
   | (with_reducible refine LeO.bind ?_ (fun _=>?_))
   | exact Y14.mono _ _ _
   | exact LeO.none _
   | refine LeO.ite ?_ ?_
   | refine LeO.bind ?_ (fun _=>?_)
set_option maxHeartbeats 8000000 in
set_option maxRecDepth 100000 in
theorem Y42.calls (k:Nat) (a0_0:Int) (A0_1:Option Addr) (c0_1:Nat) (l0_1:List (S77)) (a1_0:Int) (A1_1:Option Addr) (c1_1:Nat) (l1_1:List (S77)) (r:Bool) (w:World) (hr0_1:Kd.C k77 w A0_1 l0_1.length l0_1) (hc0_1:l0_1.length≤c0_1) (hr1_1:Kd.C k77 w A1_1 l1_1.length l1_1) (hc1_1:l1_1.length≤c1_1) (h:Y42.f k a0_0 l0_1 a1_0 l1_1=some r) :
  Calls Tryd.prog 26 #[.agg #[.int .i64 a0_0,.slice A0_1 l0_1.length c0_1],.agg #[.int .i64 a1_0,.slice A1_1 l1_1.length c1_1]] w fun e w'=>e = .returned (.bool r)∧Below w.heap.size w w':=by
 have hu24:=Tryd.underlying24
 have HR0_1:=Aside0.mk hr0_1
 have HC0_1:=Aside0.mk hc0_1
 clear hr0_1 hc0_1
 have HR1_1:=Aside0.mk hr1_1
 have HC1_1:=Aside0.mk hc1_1
 clear hr1_1 hc1_1
 have HB:=Aside0.mk (Below.refl w.heap.size w)
 have H:(if a0_0=a1_0 then ((Y14.f k l0_1 l1_1).bind fun t262=>(if t262=true then (some true) else (none))) else (none))=some r:=h
 clear h
 by_cases c3:a0_0=a1_0
 ·rw [if_pos c3] at H
  have c3b0:(a0_0 == a1_0)=true:=beq_iff_eq.mpr c3
  have c3b1:(a0_0 != a1_0)=false:=bne_eq_false_iff_eq.mpr c3
  clear c3
  replace H:=Option.bind_eq_some_iff.mp H
  obtain ⟨t262,A40,H⟩:=H
  replace H:(if t262=true then (some true) else (none))=some r:=H
  have A4:=Aside0.mk A40
  clear A40
  by_cases c5:t262=true
  ·subst c5
   have H1:(some true)=some r:=by rw [if_pos rfl] at H;exact H
   clear H
   have H:=H1
   clear H1
   obtain rfl:=Option.some.inj H
   go_enter Tryd.func26,Tryd.ntmps26
   go_wp2_with (first | ((with_reducible refine gd_ 2 ?_);refine be_ 2 #[.int .i64 a0_0,.slice A0_1 l0_1.length c0_1] 24 ?_;intro gb260 hg w6 hbox hb;refine as4_ (below_step (z3_ HB.out) hb) (hbox) ((z10_ HB.out:w.heap.size≤gb260)) ((z10_ HB.out:w.heap.size≤gb260)) ?_;clear HB;intro HB BK260 GW260 GE260;clear hb hbox hg) | ((with_reducible refine gd_ 3 ?_);refine be_ 3 #[.int .i64 a1_0,.slice A1_1 l1_1.length c1_1] 24 ?_;intro gb261 hg w7 hbox hb;refine as7_ (blkB_ BK260.out hb) (below_step (z11_ HB.out GE260.out) hb) (hbox) ((z12_ HB.out GE260.out:w.heap.size≤gb261)) ((z12_ HB.out GE260.out:w.heap.size≤gb261)) (neL_ BK260.out hg) (neG_ BK260.out hg) ?_;clear BK260 HB;intro BK260 HB BK261 GW261 GE261 NB260_261 NB261_260;clear hb hbox hg;have hnb8:=NB260_261.out;have hnc8:=NB261_260.out;have ⟨hcz9_0,hcz9_1,hfz9_0,hfz9_1⟩:=cz2_ BK260.out;have ⟨hcz10_0,hcz10_1,hfz10_0,hfz10_1⟩:=cz2_ BK261.out) | ((with_reducible refine gc_ 59 ?_);refine gl_ (some 14) Tryd.func59 #[.slice A0_1 l0_1.length c0_1,.slice A1_1 l1_1.length c1_1] ?_;(with_reducible refine (Y14.calls k _ _ l0_1 _ _ l1_1 true _ ?s1 ?s2 ?s3 ?s4 A4.out).mono ?_);(case s1=>repeat (first | exact (Kd.C_below HR0_1.out HB.out) | (with_reducible refine Kd.C_alloc ?_ _) | (with_reducible refine Kd.C_drewN ?_ _) | (with_reducible refine Kd.C_drew ?_)));(case s2=>exact HC0_1.out);(case s3=>repeat (first | exact (Kd.C_below HR1_1.out HB.out) | (with_reducible refine Kd.C_alloc ?_ _) | (with_reducible refine Kd.C_drewN ?_ _) | (with_reducible refine Kd.C_drew ?_)));(case s4=>exact HC1_1.out);rintro e w11 ⟨rfl,hb⟩;refine ⟨_,rfl,?_⟩;refine as3_ (blkB_ BK260.out hb) (blkB_ BK261.out hb) (below_step (z9_ HB.out GE260.out GE261.out) hb) ?_;clear BK260 BK261 HB;intro BK260 BK261 HB;(try clear hb)))
   go_ret
   exact ⟨z7_,z9_ HB.out GE260.out GE261.out⟩
  ·replace c5:=Bool.eq_false_iff.mpr c5
   subst c5
   have H1:(none)=some r:=by rw [if_neg (show ¬ (false=true) by decide)] at H;exact H
   clear H
   have H:=H1
   clear H1
   exact absurd H (by simp)
 ·rw [if_neg c3] at H
  exact absurd H (by simp)


/-! ### Y27: function 10 -/
def Y27.f (k:Nat) (a0_0:Int) (l0_1:List (S77)) (a0_2:Int) (a1_0:Int) (l1_1:List (S77)) (a1_2:Int):Option (Bool):=(Y42.f k a0_0 l0_1 a1_0 l1_1).bind fun t265=>(if t265=true then (if a0_2=a1_2 then (some true) else (none)) else (none))
theorem Y27.mono:∀ a0 a1 a2 a3 a4 a5 k,LeO (Y27.f k a0 a1 a2 a3 a4 a5) (Y27.f (k+1) a0 a1 a2 a3 a4 a5):=by
 intro a0 a1 a2 a3 a4 a5 k
 unfold Y27.f
 repeat' first
   | (with_reducible exact Y42.mono _ _ _ _ _)
   | (with_reducible exact LeO.refl _)
   | (with_reducible exact LeO.none _)
   | (with_reducible refine LeO.ite ?_ ?_)
   | (with_reducible refine LeO.bind ?_ (fun _=>?_))
   | exact Y42.mono _ _ _ _ _
   | exact LeO.none _
   | refine LeO.ite ?_ ?_
   | refine LeO.bind ?_ (fun _=>?_)
set_option maxHeartbeats 8000000 in
set_option maxRecDepth 100000 in
theorem Y27.calls (k:Nat) (a0_0:Int) (A0_1:Option Addr) (c0_1:Nat) (l0_1:List (S77)) (a0_2:Int) (a1_0:Int) (A1_1:Option Addr) (c1_1:Nat) (l1_1:List (S77)) (a1_2:Int) (r:Bool) (w:World) (hr0_1:Kd.C k77 w A0_1 l0_1.length l0_1) (hc0_1:l0_1.length≤c0_1) (hr1_1:Kd.C k77 w A1_1 l1_1.length l1_1) (hc1_1:l1_1.length≤c1_1) (h:Y27.f k a0_0 l0_1 a0_2 a1_0 l1_1 a1_2=some r) :
  Calls Tryd.prog 10 #[.agg #[.int .i64 a0_0,.slice A0_1 l0_1.length c0_1,.int .i64 a0_2],.agg #[.int .i64 a1_0,.slice A1_1 l1_1.length c1_1,.int .i64 a1_2]] w fun e w'=>e = .returned (.bool r)∧Below w.heap.size w w':=by
 have hu26:=Tryd.underlying26
 have hu24:=Tryd.underlying24
 have HR0_1:=Aside0.mk hr0_1
 have HC0_1:=Aside0.mk hc0_1
 clear hr0_1 hc0_1
 have HR1_1:=Aside0.mk hr1_1
 have HC1_1:=Aside0.mk hc1_1
 clear hr1_1 hc1_1
 have HB:=Aside0.mk (Below.refl w.heap.size w)
 have H:((Y42.f k a0_0 l0_1 a1_0 l1_1).bind fun t265=>(if t265=true then (if a0_2=a1_2 then (some true) else (none)) else (none)))=some r:=h
 clear h
 replace H:=Option.bind_eq_some_iff.mp H
 obtain ⟨t265,A30,H⟩:=H
 replace H:(if t265=true then (if a0_2=a1_2 then (some true) else (none)) else (none))=some r:=H
 have A3:=Aside0.mk A30
 clear A30
 by_cases c4:t265=true
 ·subst c4
  have H1:(if a0_2=a1_2 then (some true) else (none))=some r:=by rw [if_pos rfl] at H;exact H
  clear H
  have H:=H1
  clear H1
  by_cases c5:a0_2=a1_2
  ·rw [if_pos c5] at H
   have c5b0:(a0_2 == a1_2)=true:=beq_iff_eq.mpr c5
   have c5b1:(a0_2 != a1_2)=false:=bne_eq_false_iff_eq.mpr c5
   clear c5
   obtain rfl:=Option.some.inj H
   go_enter Tryd.func10,Tryd.ntmps10
   go_wp2_with (first | ((with_reducible refine gd_ 2 ?_);refine be_ 2 #[.int .i64 a0_0,.slice A0_1 l0_1.length c0_1,.int .i64 a0_2] 26 ?_;intro gb263 hg w6 hbox hb;refine as4_ (below_step (z3_ HB.out) hb) (hbox) ((z10_ HB.out:w.heap.size≤gb263)) ((z10_ HB.out:w.heap.size≤gb263)) ?_;clear HB;intro HB BK263 GW263 GE263;clear hb hbox hg) | ((with_reducible refine gd_ 3 ?_);refine be_ 3 #[.int .i64 a1_0,.slice A1_1 l1_1.length c1_1,.int .i64 a1_2] 26 ?_;intro gb264 hg w7 hbox hb;refine as7_ (blkB_ BK263.out hb) (below_step (z11_ HB.out GE263.out) hb) (hbox) ((z12_ HB.out GE263.out:w.heap.size≤gb264)) ((z12_ HB.out GE263.out:w.heap.size≤gb264)) (neL_ BK263.out hg) (neG_ BK263.out hg) ?_;clear BK263 HB;intro BK263 HB BK264 GW264 GE264 NB263_264 NB264_263;clear hb hbox hg;have hnb8:=NB263_264.out;have hnc8:=NB264_263.out;have ⟨hcz9_0,hcz9_1,hcz9_2,hfz9_0,hfz9_1,hfz9_2⟩:=cz3_ BK263.out;have ⟨hcz10_0,hcz10_1,hcz10_2,hfz10_0,hfz10_1,hfz10_2⟩:=cz3_ BK264.out) | ((with_reducible refine gc_ 26 ?_);refine gl_ (some 9) Tryd.func26 #[.agg #[.int .i64 a0_0,.slice A0_1 l0_1.length c0_1],.agg #[.int .i64 a1_0,.slice A1_1 l1_1.length c1_1]] ?_;(with_reducible refine (Y42.calls k a0_0 _ _ l0_1 a1_0 _ _ l1_1 true _ ?s1 ?s2 ?s3 ?s4 A3.out).mono ?_);(case s1=>repeat (first | exact (Kd.C_below HR0_1.out HB.out) | (with_reducible refine Kd.C_alloc ?_ _) | (with_reducible refine Kd.C_drewN ?_ _) | (with_reducible refine Kd.C_drew ?_)));(case s2=>exact HC0_1.out);(case s3=>repeat (first | exact (Kd.C_below HR1_1.out HB.out) | (with_reducible refine Kd.C_alloc ?_ _) | (with_reducible refine Kd.C_drewN ?_ _) | (with_reducible refine Kd.C_drew ?_)));(case s4=>exact HC1_1.out);rintro e w11 ⟨rfl,hb⟩;refine ⟨_,rfl,?_⟩;refine as3_ (blkB_ BK263.out hb) (blkB_ BK264.out hb) (below_step (z9_ HB.out GE263.out GE264.out) hb) ?_;clear BK263 BK264 HB;intro BK263 BK264 HB;(try clear hb);have ⟨hcz12_0,hcz12_1,hcz12_2,hfz12_0,hfz12_1,hfz12_2⟩:=cz3_ BK263.out;have ⟨hcz13_0,hcz13_1,hcz13_2,hfz13_0,hfz13_1,hfz13_2⟩:=cz3_ BK264.out))
   go_ret
   exact ⟨z7_,z9_ HB.out GE263.out GE264.out⟩
  ·rw [if_neg c5] at H
   exact absurd H (by simp)
 ·replace c4:=Bool.eq_false_iff.mpr c4
  subst c4
  have H1:(none)=some r:=by rw [if_neg (show ¬ (false=true) by decide)] at H;exact H
  clear H
  have H:=H1
  clear H1
  exact absurd H (by simp)


/-! ### Y16: function 60 -/
def Y16.l0:Nat→List (S77)→Int→Int→Option (Int × (List (S77)))
 | 0,_,_,_=>none
 | k+1,x0,x1,x5=>if x5<(x0.length:Int) then (if 0≤x5 then ((some (x0.set (x5:Int).toNat (⟨x1,(rd_T77 x0 x5).f1⟩:S77):List (S77))).bind fun y266=>(Y16.l0 k (y266.set (x5:Int).toNat (⟨(rd_T77 y266 x5).f0,wrap64 (x1+1)⟩:S77)) (wrap64 ((wrap64 (x1+1))+1)) (wrap64 (x5+1)))) else (none)) else (some (x1,x0))
def Y16.f (k:Nat) (l0:List (S77)) (a1:Int):Option (Int × (List (S77))):=Y16.l0 k l0 a1 0
theorem Y16.mono_l:∀ k,(∀ y0 y1 y2,LeO (Y16.l0 k y0 y1 y2) (Y16.l0 (k+1) y0 y1 y2))
 | 0=>fun _ _ _ r h=>by simp [Y16.l0] at h
 | k+1=>by
  have ih0:=Y16.mono_l k
  ·intro y0 y1 y2
   unfold Y16.l0
   repeat' first
   | (with_reducible exact ih0 _ _ _)
   | (with_reducible exact LeO.refl _)
   | (with_reducible exact LeO.none _)
   | (with_reducible refine LeO.ite ?_ ?_)
   | (with_reducible refine LeO.bind ?_ (fun _=>?_))
   | exact ih0 _ _ _
   | exact LeO.none _
   | refine LeO.ite ?_ ?_
   | refine LeO.bind ?_ (fun _=>?_)
theorem Y16.mono:∀ a0 a1 k,LeO (Y16.f k a0 a1) (Y16.f (k+1) a0 a1):=by
 intro a0 a1 k
 have ih0:=Y16.mono_l k
 unfold Y16.f
 repeat' first
   | (with_reducible exact ih0 _ _ _)
   | (with_reducible exact LeO.refl _)
   | (with_reducible exact LeO.none _)
   | (with_reducible refine LeO.ite ?_ ?_)
   | (with_reducible refine LeO.bind ?_ (fun _=>?_))
   | exact ih0 _ _ _
   | exact LeO.none _
   | refine LeO.ite ?_ ?_
   | refine LeO.bind ?_ (fun _=>?_)
set_option maxHeartbeats 8000000 in
set_option maxRecDepth 100000 in
theorem Y16.calls (k:Nat) (P0_:Nat→Prop) (u9000_:Value) (l0:List (S77)) (a1:Int) (r1:Int) (r2:List (S77)) (w0 w:World) (hB:Below w0.heap.size w0 w) (ho0:Kd.R k77 77 w w0.heap.size P0_ u9000_ l0) (h:Y16.f k l0 a1=some (r1,r2)) :
  Calls Tryd.prog 60 #[u9000_,.int .i64 a1] w fun e w'=>e = .returned (.int .i64 r1)∧Kd.R k77 77 w' w0.heap.size (fun k_=>(P0_ k_∨w.heap.size≤k_)) u9000_ r2∧Below w0.heap.size w0 w'∧Kept w w' (fun k_=>P0_ k_):=by
 have HO0:=Aside0.mk (show Kd.R k77 77 w w0.heap.size (fun k_=>(P0_ k_∨w.heap.size≤k_)) u9000_ l0 from Kd.R_mono ho0 (fun k_ hk=>(.inl hk)))
 have HK:=Aside0.mk (Kept.refl w (fun k_=>P0_ k_))
 have HW0:=Aside0.mk hB.size
 have HB:=Aside0.mk hB
 clear hB
 have H:(Y16.l0 k l0 a1 0)=some (r1,r2):=h
 clear h
 have H':=Aside0.mk H
 clear H
 go_enter Tryd.func60,Tryd.ntmps60
 go_wp2
 go_loopg [1,5] k (fun kq v1 v5 w'=>∃ (x0_1:List (S77)) (x1_1:Int) (x5_1:Int),v1 = .int .i64 x1_1∧v5 = .int .i64 x5_1∧Aside0 (Y16.l0 kq x0_1 x1_1 x5_1=some (r1,r2))∧Aside0 (kq≤k)∧Aside0 (Kd.R k77 77 w' w0.heap.size (fun k_=>(P0_ k_∨w.heap.size≤k_)) u9000_ x0_1)∧Aside0 (Kept w w' (fun k_=>P0_ k_))∧Aside0 (Below w0.heap.size w0 w'))
 case atStart=>exact ⟨(l0),(a1),(0),(z1_),(z1_),H',⟨Nat.le_refl _⟩,⟨z2_ HO0.out⟩,⟨z5_ HK.out⟩,⟨z3_ HB.out⟩⟩
 case round =>
  clear H'
  try clear p2
  obtain ⟨x0_1,x1_1,x5_1,rfl,rfl,HA,HK1,HO_0,HK,HB⟩:=hrel
  cases gk with
  | zero=>exact absurd HA.out (by simp [Y16.l0])
  | succ k1 =>
   have H:=HA.out
   clear HA
   simp only [Y16.l0] at H
   by_cases c3:x5_1<(x0_1.length:Int)
   ·rw [if_pos c3] at H
    have c3b0:decide (x5_1<(x0_1.length:Int))=true:=decide_eq_true c3
    clear c3
    by_cases c4:0≤x5_1
    ·rw [if_pos c4] at H
     have c4b0:decide (0≤x5_1)=true:=decide_eq_true c4
     clear c4
     obtain ⟨y266,hy266⟩:∃ y_:List (S77),y_=(x0_1.set (x5_1:Int).toNat (⟨x1_1,(rd_T77 x0_1 x5_1).f1⟩:S77)):=⟨_,rfl⟩
     replace H:(Y16.l0 k1 (y266.set (x5_1:Int).toNat (⟨(rd_T77 y266 x5_1).f0,wrap64 (x1_1+1)⟩:S77)) (wrap64 ((wrap64 (x1_1+1))+1)) (wrap64 (x5_1+1)))=some (r1,r2):=by first | (rw [hy266];with_reducible exact H) | (have H2_:=(Option.bind_some _ _).symm.trans H;rw [hy266];with_reducible exact H2_) | (have H2_:=(Option.bind_some _ _).symm.trans H;with_reducible exact H2_) | with_reducible exact H | (rw [hy266];exact H) | exact H
     have Ny266:=Aside0.mk hy266
     clear hy266
     obtain ⟨y267,hy267⟩:∃ y_:List (S77),y_=(y266.set (x5_1:Int).toNat (⟨(rd_T77 y266 x5_1).f0,wrap64 (x1_1+1)⟩:S77)):=⟨_,rfl⟩
     replace H:(Y16.l0 k1 y267 (wrap64 ((wrap64 (x1_1+1))+1)) (wrap64 (x5_1+1)))=some (r1,r2):=by first | (rw [hy267];with_reducible exact H) | (have H2_:=(Option.bind_some _ _).symm.trans H;rw [hy267];with_reducible exact H2_) | (have H2_:=(Option.bind_some _ _).symm.trans H;with_reducible exact H2_) | with_reducible exact H | (rw [hy267];exact H) | exact H
     have Ny267:=Aside0.mk hy267
     clear hy267
     have H':=Aside0.mk H
     clear H
     obtain ⟨Ao7,co7,eo7⟩:=Kd.R_slice HO_0.out
     subst eo7
     have p5:0≤(x5_1:Int):=of_decide_eq_true (z0_)
     have q5:(x5_1:Int)<((x0_1.length:Int):Int):=of_decide_eq_true (z0_)
     obtain ⟨go5,co5,eo5,gb5,gl5,cl5,HG5⟩:=Kd.R_form HO_0.out (by omega)
     (first | cases eo5 | (injection eo5 with ea_ en_ ec_;(first | subst ea_ | (injection ea_ with ea_;subst ea_));subst ec_;clear en_))
     have GB5:=Aside0.mk gb5
     have GG5:=Aside0.mk HG5
     clear gb5 gl5 HG5
     have HMgo5:=Aside0.mk (show (P0_ go5∨w.heap.size≤go5) from (HO_0.out.1 _ rfl))
     obtain ⟨ce5,hcl5,hM5,hcc5,hfr5⟩:=Kd.R_elem HO_0.out z77 (x5_1:Int) p5 q5
     obtain rfl:=k77_openM hM5
     have hx5_0:wr.cell? ⟨go5,(x5_1:Int).toNat*2,none⟩=some (.int .i64 ((rd_T77 x0_1 x5_1).f0)):=hcc5 0 _ rfl
     have hx5_1:wr.cell? ⟨go5,(x5_1:Int).toNat*2+1,none⟩=some (.int .i64 ((rd_T77 x0_1 x5_1).f1)):=hcc5 1 _ rfl
     have hf5_0:wr.frozen? ⟨go5,(x5_1:Int).toNat*2,none⟩=false:=hfr5 0
     have hf5_1:wr.frozen? ⟨go5,(x5_1:Int).toNat*2+1,none⟩=false:=hfr5 1
     clear hcl5 hcc5 hfr5 hM5
     replace p5:=eq_true p5
     replace q5:=eq_true q5
     have HX8:=Aside0.mk (show Kd.R k77 77 wr w0.heap.size (fun k_=>(P0_ k_∨w.heap.size≤k_)) (.slice (some ⟨go5,0,none⟩) x0_1.length co7) x0_1 from (z2_ HO_0.out))
     obtain ⟨ce8,hcl8,hM8,hcc8,hfr8⟩:=Kd.R_elem HX8.out z77 (x5_1:Int) (of_decide_eq_true (z0_)) (z31_ HO_0.out)
     obtain rfl:=k77_openM hM8
     have HP8:=Kd.R_seg HX8.out (x5_1:Int) (of_decide_eq_true (z0_)) (z31_ HO_0.out) (seg:=[.int .i64 x1_1]) (j:=0) hcl8 hcc8 (show 1≤2 from by decide) (x':=(⟨x1_1,(rd_T77 x0_1 x5_1).f1⟩:S77)) (k77_mkM _ _ _ (⟨x1_1,(rd_T77 x0_1 x5_1).f1⟩:S77) ) (fun _ hk=>hk)
     have hx8_0:=hcc8 0 _ rfl
     (try simp only [show (k77).sz=2 from rfl,Nat.mul_one,Nat.add_zero] at hx8_0)
     have hf8_0:=hfr8 0
     (try simp only [show (k77).sz=2 from rfl,Nat.mul_one,Nat.add_zero] at hf8_0)
     clear hcl8 hcc8 hfr8 hM8
     go_wp2_with (first | ((with_reducible refine gate_store (t:=2) (p:=16) rfl ?_);refine store_event (t:=2) (p:=16) (v:=?vo_w9) (w1:=(wr.setCell ⟨go5,(x5_1:Int).toNat*2,none⟩ (.int .i64 x1_1))) ?hg ?ho ?hn ?hr ?_;(case ho=>rfl);(case hg=>rfl);(case hn=>rfl);(case hr=>first | (go_simp;done) | (go_simp;rfl));intro w9 hw;have hg:wr.grownBy w9 (some go5):=(by rw [hw];exact HP8.2);have hp_:Kd.R k77 77 w9 w0.heap.size (fun k_=>(P0_ k_∨w.heap.size≤k_)) (.slice (some ⟨go5,0,none⟩) x0_1.length co7) y266:=(by rw [hw,Ny266.out];exact HP8.1);clear HP8;refine as3_ (hp_) ((by rw [hw];exact below_set (HB.out) GB5.out:Below w0.heap.size w0 w9)) (Kept.of_grown (S:=(fun k_=>P0_ k_)) hg (z5_ HK.out) (fun k_ e_=>(HO_0.out.1 k_ e_))) ?_;clear HO_0 HB HK;intro HO_0 HB HK;clear hg hw hp_;have p6:0≤(x5_1:Int):=of_decide_eq_true (z0_);have q6:(x5_1:Int)<((x0_1.length:Int):Int):=of_decide_eq_true (z0_);obtain ⟨ce6,hcl6,hM6,hcc6,hfr6⟩:=Kd.R_elem HO_0.out z77 (x5_1:Int) p6 q6;obtain rfl:=k77_openM hM6;have hx6_0:w9.cell? ⟨go5,(x5_1:Int).toNat*2,none⟩=some (.int .i64 ((rd_T77 y266 x5_1).f0)):=hcc6 0 _ rfl;have hx6_1:w9.cell? ⟨go5,(x5_1:Int).toNat*2+1,none⟩=some (.int .i64 ((rd_T77 y266 x5_1).f1)):=hcc6 1 _ rfl;have hf6_0:w9.frozen? ⟨go5,(x5_1:Int).toNat*2,none⟩=false:=hfr6 0;have hf6_1:w9.frozen? ⟨go5,(x5_1:Int).toNat*2+1,none⟩=false:=hfr6 1;clear hcl6 hcc6 hfr6 hM6;replace p6:=eq_true p6;replace q6:=eq_true q6;have HX10:=Aside0.mk (show Kd.R k77 77 w9 w0.heap.size (fun k_=>(P0_ k_∨w.heap.size≤k_)) (.slice (some ⟨go5,0,none⟩) x0_1.length co7) y266 from (z2_ HO_0.out));obtain ⟨ce10,hcl10,hM10,hcc10,hfr10⟩:=Kd.R_elem HX10.out z77 (x5_1:Int) (of_decide_eq_true (z0_)) (z31_ HO_0.out);obtain rfl:=k77_openM hM10;have HP10:=Kd.R_seg HX10.out (x5_1:Int) (of_decide_eq_true (z0_)) (z31_ HO_0.out) (seg:=[.int .i64 (wrap64 (x1_1+1))]) (j:=1) hcl10 hcc10 (show 2≤2 from by decide) (x':=(⟨(rd_T77 y266 x5_1).f0,wrap64 (x1_1+1)⟩:S77)) (k77_mkM _ _ _ (⟨(rd_T77 y266 x5_1).f0,wrap64 (x1_1+1)⟩:S77) ) (fun _ hk=>hk);have hx10_1:=hcc10 1 _ rfl;(try simp only [show (k77).sz=2 from rfl,Nat.mul_one,Nat.add_zero] at hx10_1);have hf10_1:=hfr10 1;(try simp only [show (k77).sz=2 from rfl,Nat.mul_one,Nat.add_zero] at hf10_1);clear hcl10 hcc10 hfr10 hM10) | ((with_reducible refine gate_store (t:=2) (p:=23) rfl ?_);refine store_event (t:=2) (p:=23) (v:=?vo_w11) (w1:=(w9.setCell ⟨go5,(x5_1:Int).toNat*2+1,none⟩ (.int .i64 (wrap64 (x1_1+1))))) ?hg ?ho ?hn ?hr ?_;(case ho=>rfl);(case hg=>rfl);(case hn=>rfl);(case hr=>first | (go_simp;done) | (go_simp;rfl));intro w11 hw;have hg:w9.grownBy w11 (some go5):=(by rw [hw];exact HP10.2);have hp_:Kd.R k77 77 w11 w0.heap.size (fun k_=>(P0_ k_∨w.heap.size≤k_)) (.slice (some ⟨go5,0,none⟩) x0_1.length co7) y267:=(by rw [hw,Ny267.out];exact HP10.1);clear HP10;refine as3_ (hp_) ((by rw [hw];exact below_set (HB.out) GB5.out:Below w0.heap.size w0 w11)) (Kept.of_grown (S:=(fun k_=>P0_ k_)) hg (z5_ HK.out) (fun k_ e_=>(HO_0.out.1 k_ e_))) ?_;clear HO_0 HB HK;intro HO_0 HB HK;clear hg hw hp_))
     go_roundg k1
     case measure=>have:=HK1.out;omega
     case rel=>exact ⟨(y267),(wrap64 ((wrap64 (x1_1+1))+1)),(wrap64 (x5_1+1)),(z1_),(z1_),H',⟨by have:=HK1.out;omega⟩,⟨z2_ HO_0.out⟩,⟨z5_ HK.out⟩,⟨z3_ HB.out⟩⟩
    ·rw [if_neg c4] at H
     exact absurd H (by simp)
   ·rw [if_neg c3] at H
    have c3b0:decide (x5_1<(x0_1.length:Int))=false:=decide_eq_false c3
    clear c3
    simp only [Option.some.injEq,Prod.mk.injEq] at H
    obtain ⟨rfl,rfl⟩:=H
    obtain ⟨Ao12,co12,eo12⟩:=Kd.R_slice HO_0.out
    subst eo12
    go_wp2
    go_ret
    exact ⟨z7_,z2_ HO_0.out,z3_ HB.out,z5_ HK.out⟩


/-! ### Y39: function 27 -/
def Y39.f (k:Nat) (a0_0:Int) (l0_1:List (S77)) (a1:Int):Option (Int × (List (S77))):=(Y16.f k l0_1 a1).bind fun bt269=>(some (bt269.1,bt269.2))
theorem Y39.mono:∀ a0 a1 a2 k,LeO (Y39.f k a0 a1 a2) (Y39.f (k+1) a0 a1 a2):=by
 intro a0 a1 a2 k
 unfold Y39.f
 repeat' first
   | (with_reducible exact Y16.mono _ _ _)
   | (with_reducible exact LeO.refl _)
   | (with_reducible exact LeO.none _)
   | (with_reducible refine LeO.ite ?_ ?_)
   | (with_reducible refine LeO.bind ?_ (fun _=>?_))
   | exact Y16.mono _ _ _
   | exact LeO.none _
   | refine LeO.ite ?_ ?_
   | refine LeO.bind ?_ (fun _=>?_)
set_option maxHeartbeats 8000000 in
set_option maxRecDepth 100000 in
theorem Y39.calls (k:Nat) (a0_0:Int) (P0_1_:Nat→Prop) (u9000_:Value) (l0_1:List (S77)) (a1:Int) (r1:Int) (r2:List (S77)) (w0 w:World) (hB:Below w0.heap.size w0 w) (ho0_1:Kd.R k77 77 w w0.heap.size P0_1_ u9000_ l0_1) (h:Y39.f k a0_0 l0_1 a1=some (r1,r2)) :
  Calls Tryd.prog 27 #[.agg #[.int .i64 a0_0,u9000_],.int .i64 a1] w fun e w'=>e = .returned (.int .i64 r1)∧Kd.R k77 77 w' w0.heap.size (fun k_=>(P0_1_ k_∨w.heap.size≤k_)) u9000_ r2∧Below w0.heap.size w0 w'∧Kept w w' (fun k_=>P0_1_ k_):=by
 have hu24:=Tryd.underlying24
 have HO0_1:=Aside0.mk (show Kd.R k77 77 w w0.heap.size (fun k_=>(P0_1_ k_∨w.heap.size≤k_)) u9000_ l0_1 from Kd.R_mono ho0_1 (fun k_ hk=>(.inl hk)))
 have HK:=Aside0.mk (Kept.refl w (fun k_=>P0_1_ k_))
 have HW0:=Aside0.mk hB.size
 have HB:=Aside0.mk hB
 clear hB
 have H:((Y16.f k l0_1 a1).bind fun bt269=>(some (bt269.1,bt269.2)))=some (r1,r2):=h
 clear h
 replace H:=Option.bind_eq_some_iff.mp H
 obtain ⟨⟨t269,t270⟩,A30,H⟩:=H
 replace H:(some (t269,t270))=some (r1,r2):=H
 have A3:=Aside0.mk A30
 clear A30
 simp only [Option.some.injEq,Prod.mk.injEq] at H
 obtain ⟨rfl,rfl⟩:=H
 obtain ⟨Ao4,co4,eo4⟩:=Kd.R_slice HO0_1.out
 subst eo4
 go_enter Tryd.func27,Tryd.ntmps27
 go_wp2_with (first | ((with_reducible refine gd_ 2 ?_);refine be_ 2 #[.int .i64 a0_0,.slice Ao4 l0_1.length co4] 24 ?_;intro gb268 hg w5 hbox hb;refine as6_ (Kd.R_below (z2_ HO0_1.out) hb) (Kept.below (S:=(fun k_=>P0_1_ k_)) (z5_ HK.out) hb) (below_step (z3_ HB.out) hb) (hbox) ((by rw [hg];exact (by first | exact HK.out.1 | exact (show Kept w _ (fun k_=>P0_1_ k_) from by repeat (first | (with_reducible first | exact HK.out | apply Kept.alloc | apply Kept.drewN | apply Kept.drew) | exact HK.out)).1):w.heap.size≤gb268)) ((z10_ HB.out:w0.heap.size≤gb268)) ?_;clear HO0_1 HK HB;intro HO0_1 HK HB BK268 GW268 GE268;clear hb hbox hg;have ⟨hcz6_0,hcz6_1,hfz6_0,hfz6_1⟩:=cz2_ BK268.out) | ((with_reducible refine gc_ 60 ?_);refine gl_ (some 8) Tryd.func60 #[.slice Ao4 l0_1.length co4,.int .i64 a1] ?_;(with_reducible refine (Y16.calls k (fun k_=>some k_=(.slice Ao4 l0_1.length co4:Value).ownBlock) (.slice Ao4 l0_1.length co4) l0_1 a1 t269 t270 w0 _ ?s1 ?s2 A3.out).mono ?_);(case s1=>repeat (first | (with_reducible first | exact HB.out | apply below_alloc | apply pw_below_drewN | apply below_drew1 | refine below_set ?_ GE268.out) | exact HB.out));(case s2=>exact Kd.R_tight rfl HO0_1.out);rintro e w7 ⟨rfl,hy0,hb,hkp⟩;refine ⟨_,rfl,?_⟩;refine as4_ (Kd.R_reok rfl hy0 (fun k_ e_=>HO0_1.out.1 k_ e_)) (blk_kept (z4_ BK268.out) hkp (fun hs_=>(fun e_=>(Kd.R_ne HO0_1.out BK268.out (by decide)) e_) hs_)) (Kept.then_ (S:=(fun k_=>P0_1_ k_)) (z32_ HK.out GW268.out) hkp (fun k_ hs_=>(fun e_=>(HO0_1.out.1 k_ e_.symm)) hs_)) (hb) ?_;clear HO0_1 BK268 HK HB;intro HO0_1 BK268 HK HB;(try clear hb);(try clear hkp);(try clear hy0)))
 go_ret
 exact ⟨z7_,z2_ HO0_1.out,z11_ HB.out GE268.out,z32_ HK.out GW268.out⟩


/-! ### Y31: function 11 -/
def Y31.f (k:Nat) (a0_0:Int) (l0_1:List (S77)) (a0_2:Int) (a1:Int):Option (Int × (List (S77))):=(Y39.f k a0_0 l0_1 a1).bind fun bt272=>(some (bt272.1,bt272.2))
theorem Y31.mono:∀ a0 a1 a2 a3 k,LeO (Y31.f k a0 a1 a2 a3) (Y31.f (k+1) a0 a1 a2 a3):=by
 intro a0 a1 a2 a3 k
 unfold Y31.f
 repeat' first
   | (with_reducible exact Y39.mono _ _ _ _)
   | (with_reducible exact LeO.refl _)
   | (with_reducible exact LeO.none _)
   | (with_reducible refine LeO.ite ?_ ?_)
   | (with_reducible refine LeO.bind ?_ (fun _=>?_))
   | exact Y39.mono _ _ _ _
   | exact LeO.none _
   | refine LeO.ite ?_ ?_
   | refine LeO.bind ?_ (fun _=>?_)
set_option maxHeartbeats 8000000 in
set_option maxRecDepth 100000 in
theorem Y31.calls (k:Nat) (a0_0:Int) (P0_1_:Nat→Prop) (u9000_:Value) (l0_1:List (S77)) (a0_2:Int) (a1:Int) (r1:Int) (r2:List (S77)) (w0 w:World) (hB:Below w0.heap.size w0 w) (ho0_1:Kd.R k77 77 w w0.heap.size P0_1_ u9000_ l0_1) (h:Y31.f k a0_0 l0_1 a0_2 a1=some (r1,r2)) :
  Calls Tryd.prog 11 #[.agg #[.int .i64 a0_0,u9000_,.int .i64 a0_2],.int .i64 a1] w fun e w'=>e = .returned (.int .i64 r1)∧Kd.R k77 77 w' w0.heap.size (fun k_=>(P0_1_ k_∨w.heap.size≤k_)) u9000_ r2∧Below w0.heap.size w0 w'∧Kept w w' (fun k_=>P0_1_ k_):=by
 have hu26:=Tryd.underlying26
 have hu24:=Tryd.underlying24
 have HO0_1:=Aside0.mk (show Kd.R k77 77 w w0.heap.size (fun k_=>(P0_1_ k_∨w.heap.size≤k_)) u9000_ l0_1 from Kd.R_mono ho0_1 (fun k_ hk=>(.inl hk)))
 have HK:=Aside0.mk (Kept.refl w (fun k_=>P0_1_ k_))
 have HW0:=Aside0.mk hB.size
 have HB:=Aside0.mk hB
 clear hB
 have H:((Y39.f k a0_0 l0_1 a1).bind fun bt272=>(some (bt272.1,bt272.2)))=some (r1,r2):=h
 clear h
 replace H:=Option.bind_eq_some_iff.mp H
 obtain ⟨⟨t272,t273⟩,A30,H⟩:=H
 replace H:(some (t272,t273))=some (r1,r2):=H
 have A3:=Aside0.mk A30
 clear A30
 simp only [Option.some.injEq,Prod.mk.injEq] at H
 obtain ⟨rfl,rfl⟩:=H
 obtain ⟨Ao4,co4,eo4⟩:=Kd.R_slice HO0_1.out
 subst eo4
 go_enter Tryd.func11,Tryd.ntmps11
 go_wp2_with (first | ((with_reducible refine gd_ 2 ?_);refine be_ 2 #[.int .i64 a0_0,.slice Ao4 l0_1.length co4,.int .i64 a0_2] 26 ?_;intro gb271 hg w5 hbox hb;refine as6_ (Kd.R_below (z2_ HO0_1.out) hb) (Kept.below (S:=(fun k_=>P0_1_ k_)) (z5_ HK.out) hb) (below_step (z3_ HB.out) hb) (hbox) ((by rw [hg];exact (by first | exact HK.out.1 | exact (show Kept w _ (fun k_=>P0_1_ k_) from by repeat (first | (with_reducible first | exact HK.out | apply Kept.alloc | apply Kept.drewN | apply Kept.drew) | exact HK.out)).1):w.heap.size≤gb271)) ((z10_ HB.out:w0.heap.size≤gb271)) ?_;clear HO0_1 HK HB;intro HO0_1 HK HB BK271 GW271 GE271;clear hb hbox hg;have ⟨hcz6_0,hcz6_1,hcz6_2,hfz6_0,hfz6_1,hfz6_2⟩:=cz3_ BK271.out) | ((with_reducible refine gc_ 27 ?_);refine gl_ (some 8) Tryd.func27 #[.agg #[.int .i64 a0_0,.slice Ao4 l0_1.length co4],.int .i64 a1] ?_;(with_reducible refine (Y39.calls k a0_0 (fun k_=>some k_=(.slice Ao4 l0_1.length co4:Value).ownBlock) (.slice Ao4 l0_1.length co4) l0_1 a1 t272 t273 w0 _ ?s1 ?s2 A3.out).mono ?_);(case s1=>repeat (first | (with_reducible first | exact HB.out | apply below_alloc | apply pw_below_drewN | apply below_drew1 | refine below_set ?_ GE271.out) | exact HB.out));(case s2=>exact Kd.R_tight rfl HO0_1.out);rintro e w7 ⟨rfl,hy0,hb,hkp⟩;refine ⟨_,rfl,?_⟩;refine as4_ (Kd.R_reok rfl hy0 (fun k_ e_=>HO0_1.out.1 k_ e_)) (blk_kept (z4_ BK271.out) hkp (fun hs_=>(fun e_=>(Kd.R_ne HO0_1.out BK271.out (by decide)) e_) hs_)) (Kept.then_ (S:=(fun k_=>P0_1_ k_)) (z32_ HK.out GW271.out) hkp (fun k_ hs_=>(fun e_=>(HO0_1.out.1 k_ e_.symm)) hs_)) (hb) ?_;clear HO0_1 BK271 HK HB;intro HO0_1 BK271 HK HB;(try clear hb);(try clear hkp);(try clear hy0)))
 go_ret
 exact ⟨z7_,z2_ HO0_1.out,z11_ HB.out GE271.out,z32_ HK.out GW271.out⟩


/-! ### Y19: function 81 -/
def Y19.l0:Nat→List (S77)→Int→Int→Option (Int)
 | 0,_,_,_=>none
 | k+1,x0,x1,x5=>if x5<(x0.length:Int) then (if 0≤x5 then (if ((rd_T77 x0 x5).f0)=x1 then (if ((rd_T77 x0 x5).f1)=(wrap64 (x1+1)) then (Y19.l0 k x0 (wrap64 ((wrap64 (x1+1))+1)) (wrap64 (x5+1))) else (none)) else (none)) else (none)) else (some x1)
def Y19.f (k:Nat) (l0:List (S77)) (a1:Int):Option (Int):=Y19.l0 k l0 a1 0
theorem Y19.mono_l:∀ k,(∀ y0 y1 y2,LeO (Y19.l0 k y0 y1 y2) (Y19.l0 (k+1) y0 y1 y2))
 | 0=>fun _ _ _ r h=>by simp [Y19.l0] at h
 | k+1=>by
  have ih0:=Y19.mono_l k
  ·intro y0 y1 y2
   unfold Y19.l0
   repeat' first
   | (with_reducible exact ih0 _ _ _)
   | (with_reducible exact LeO.refl _)
   | (with_reducible exact LeO.none _)
   | (with_reducible refine LeO.ite ?_ ?_)
   | (with_reducible refine LeO.bind ?_ (fun _=>?_))
   | exact ih0 _ _ _
   | exact LeO.none _
   | refine LeO.ite ?_ ?_
   | refine LeO.bind ?_ (fun _=>?_)
theorem Y19.mono:∀ a0 a1 k,LeO (Y19.f k a0 a1) (Y19.f (k+1) a0 a1):=by
 intro a0 a1 k
 have ih0:=Y19.mono_l k
 unfold Y19.f
 repeat' first
   | (with_reducible exact ih0 _ _ _)
   | (with_reducible exact LeO.refl _)
   | (with_reducible exact LeO.none _)
   | (with_reducible refine LeO.ite ?_ ?_)
   | (with_reducible refine LeO.bind ?_ (fun _=>?_))
   | exact ih0 _ _ _
   | exact LeO.none _
   | refine LeO.ite ?_ ?_
   | refine LeO.bind ?_ (fun _=>?_)
set_option maxHeartbeats 8000000 in
set_option maxRecDepth 100000 in
theorem Y19.calls (k:Nat) (A0:Option Addr) (c0:Nat) (l0:List (S77)) (a1:Int) (r:Int) (w:World) (hr0:Kd.C k77 w A0 l0.length l0) (hc0:l0.length≤c0) (h:Y19.f k l0 a1=some r) :
  Calls Tryd.prog 81 #[.slice A0 l0.length c0,.int .i64 a1] w fun e w'=>e = .returned (.int .i64 r)∧Drawn0 w w':=by
 have HR0:=Aside0.mk hr0
 have HC0:=Aside0.mk hc0
 clear hr0 hc0
 have H:(Y19.l0 k l0 a1 0)=some r:=h
 clear h
 have H':=Aside0.mk H
 clear H
 go_enter Tryd.func81,Tryd.ntmps81
 go_wp2
 go_loopg [1,5] k (fun kq v1 v5 w'=>∃ (x1_1:Int) (x5_1:Int),v1 = .int .i64 x1_1∧v5 = .int .i64 x5_1∧Aside0 (Y19.l0 kq l0 x1_1 x5_1=some r)∧Aside0 (kq≤k)∧Drawn0 w w')
 case atStart=>exact ⟨(a1),(0),(z1_),(z1_),H',⟨Nat.le_refl _⟩,z6_⟩
 case round =>
  clear H'
  try clear p2
  obtain ⟨x1_1,x5_1,rfl,rfl,HA,HK1,⟨m1,rfl⟩⟩:=hrel
  cases gk with
  | zero=>exact absurd HA.out (by simp [Y19.l0])
  | succ k1 =>
   have H:=HA.out
   clear HA
   simp only [Y19.l0] at H
   by_cases c3:x5_1<(l0.length:Int)
   ·rw [if_pos c3] at H
    have c3b0:decide (x5_1<(l0.length:Int))=true:=decide_eq_true c3
    clear c3
    by_cases c4:0≤x5_1
    ·rw [if_pos c4] at H
     have c4b0:decide (0≤x5_1)=true:=decide_eq_true c4
     clear c4
     by_cases c5:((rd_T77 l0 x5_1).f0)=x1_1
     ·rw [if_pos c5] at H
      have c5b0:(((rd_T77 l0 x5_1).f0) == x1_1)=true:=beq_iff_eq.mpr c5
      have c5b1:(((rd_T77 l0 x5_1).f0) != x1_1)=false:=bne_eq_false_iff_eq.mpr c5
      clear c5
      by_cases c6:((rd_T77 l0 x5_1).f1)=(wrap64 (x1_1+1))
      ·rw [if_pos c6] at H
       have c6b0:(((rd_T77 l0 x5_1).f1) == (wrap64 (x1_1+1)))=true:=beq_iff_eq.mpr c6
       have c6b1:(((rd_T77 l0 x5_1).f1) != (wrap64 (x1_1+1)))=false:=bne_eq_false_iff_eq.mpr c6
       clear c6
       have H':=Aside0.mk H
       clear H
       have p274:0≤(x5_1:Int):=of_decide_eq_true (z0_)
       have q274:x5_1<(l0.length:Int):=of_decide_eq_true (z0_)
       obtain ⟨ad274,e274,hx274_0,hx274_1⟩:=at_T77 HR0.out x5_1 p274 q274
       cases e274
       replace p274:=eq_true p274
       replace q274:=eq_true q274
       have p275:0≤(x5_1:Int):=of_decide_eq_true (z0_)
       have q275:x5_1<(l0.length:Int):=of_decide_eq_true (z0_)
       obtain ⟨ad275,e275,hx275_0,hx275_1⟩:=at_T77 HR0.out x5_1 p275 q275
       obtain rfl:ad274=ad275:=(by injection e275)
       replace p275:=eq_true p275
       replace q275:=eq_true q275
       go_wp2
       go_roundg k1
       case measure=>have:=HK1.out;omega
       case rel=>exact ⟨(wrap64 ((wrap64 (x1_1+1))+1)),(wrap64 (x5_1+1)),(z1_),(z1_),H',⟨by have:=HK1.out;omega⟩,z6_⟩
      ·rw [if_neg c6] at H
       exact absurd H (by simp)
     ·rw [if_neg c5] at H
      exact absurd H (by simp)
    ·rw [if_neg c4] at H
     exact absurd H (by simp)
   ·rw [if_neg c3] at H
    have c3b0:decide (x5_1<(l0.length:Int))=false:=decide_eq_false c3
    clear c3
    obtain rfl:=Option.some.inj H
    go_wp2
    go_ret
    exact ⟨z1_,z6_⟩


/-! ### Y40: function 44 -/
def Y40.f (k:Nat) (a0_0:Int) (l0_1:List (S77)) (a1:Int):Option (Int):=(Y19.f k l0_1 a1).bind fun t277=>(if t277<0 then (none) else (some t277))
theorem Y40.mono:∀ a0 a1 a2 k,LeO (Y40.f k a0 a1 a2) (Y40.f (k+1) a0 a1 a2):=by
 intro a0 a1 a2 k
 unfold Y40.f
 repeat' first
   | (with_reducible exact Y19.mono _ _ _)
   | (with_reducible exact LeO.refl _)
   | (with_reducible exact LeO.none _)
   | (with_reducible refine LeO.ite ?_ ?_)
   | (with_reducible refine LeO.bind ?_ (fun _=>?_))
   | exact Y19.mono _ _ _
   | exact LeO.none _
   | refine LeO.ite ?_ ?_
   | refine LeO.bind ?_ (fun _=>?_)
set_option maxHeartbeats 8000000 in
set_option maxRecDepth 100000 in
theorem Y40.calls (k:Nat) (a0_0:Int) (A0_1:Option Addr) (c0_1:Nat) (l0_1:List (S77)) (a1:Int) (r:Int) (w:World) (hr0_1:Kd.C k77 w A0_1 l0_1.length l0_1) (hc0_1:l0_1.length≤c0_1) (h:Y40.f k a0_0 l0_1 a1=some r) :
  Calls Tryd.prog 44 #[.agg #[.int .i64 a0_0,.slice A0_1 l0_1.length c0_1],.int .i64 a1] w fun e w'=>e = .returned (.int .i64 r)∧Below w.heap.size w w':=by
 have hu24:=Tryd.underlying24
 have HR0_1:=Aside0.mk hr0_1
 have HC0_1:=Aside0.mk hc0_1
 clear hr0_1 hc0_1
 have HB:=Aside0.mk (Below.refl w.heap.size w)
 have H:((Y19.f k l0_1 a1).bind fun t277=>(if t277<0 then (none) else (some t277)))=some r:=h
 clear h
 replace H:=Option.bind_eq_some_iff.mp H
 obtain ⟨t277,A30,H⟩:=H
 replace H:(if t277<0 then (none) else (some t277))=some r:=H
 have A3:=Aside0.mk A30
 clear A30
 by_cases c4:t277<0
 ·rw [if_pos c4] at H
  exact absurd H (by simp)
 ·rw [if_neg c4] at H
  have c4b0:decide (t277<0)=false:=decide_eq_false c4
  clear c4
  obtain rfl:=Option.some.inj H
  go_enter Tryd.func44,Tryd.ntmps44
  go_wp2_with (first | ((with_reducible refine gd_ 2 ?_);refine be_ 2 #[.int .i64 a0_0,.slice A0_1 l0_1.length c0_1] 24 ?_;intro gb276 hg w5 hbox hb;refine as4_ (below_step (z3_ HB.out) hb) (hbox) ((z10_ HB.out:w.heap.size≤gb276)) ((z10_ HB.out:w.heap.size≤gb276)) ?_;clear HB;intro HB BK276 GW276 GE276;clear hb hbox hg;have ⟨hcz6_0,hcz6_1,hfz6_0,hfz6_1⟩:=cz2_ BK276.out) | ((with_reducible refine gc_ 81 ?_);refine gl_ (some 8) Tryd.func81 #[.slice A0_1 l0_1.length c0_1,.int .i64 a1] ?_;(with_reducible refine (Y19.calls k _ _ l0_1 a1 t277 _ ?s1 ?s2 A3.out).mono ?_);(case s1=>repeat (first | exact (Kd.C_below HR0_1.out HB.out) | (with_reducible refine Kd.C_alloc ?_ _) | (with_reducible refine Kd.C_drewN ?_ _) | (with_reducible refine Kd.C_drew ?_)));(case s2=>exact HC0_1.out);rintro e w' ⟨rfl,⟨nd,rfl⟩⟩;refine ⟨_,rfl,?_⟩))
  go_ret
  exact ⟨z7_,z11_ HB.out GE276.out⟩


/-! ### Y15: function 12 -/
def Y15.f (k:Nat) (a0_0:Int) (l0_1:List (S77)) (a0_2:Int) (a1:Int):Option (Int):=(Y40.f k a0_0 l0_1 a1).bind fun t279=>(if t279<0 then (none) else (some t279))
theorem Y15.mono:∀ a0 a1 a2 a3 k,LeO (Y15.f k a0 a1 a2 a3) (Y15.f (k+1) a0 a1 a2 a3):=by
 intro a0 a1 a2 a3 k
 unfold Y15.f
 repeat' first
   | (with_reducible exact Y40.mono _ _ _ _)
   | (with_reducible exact LeO.refl _)
   | (with_reducible exact LeO.none _)
   | (with_reducible refine LeO.ite ?_ ?_)
   | (with_reducible refine LeO.bind ?_ (fun _=>?_))
   | exact Y40.mono _ _ _ _
   | exact LeO.none _
   | refine LeO.ite ?_ ?_
   | refine LeO.bind ?_ (fun _=>?_)
set_option maxHeartbeats 8000000 in
set_option maxRecDepth 100000 in
theorem Y15.calls (k:Nat) (a0_0:Int) (A0_1:Option Addr) (c0_1:Nat) (l0_1:List (S77)) (a0_2:Int) (a1:Int) (r:Int) (w:World) (hr0_1:Kd.C k77 w A0_1 l0_1.length l0_1) (hc0_1:l0_1.length≤c0_1) (h:Y15.f k a0_0 l0_1 a0_2 a1=some r) :
  Calls Tryd.prog 12 #[.agg #[.int .i64 a0_0,.slice A0_1 l0_1.length c0_1,.int .i64 a0_2],.int .i64 a1] w fun e w'=>e = .returned (.int .i64 r)∧Below w.heap.size w w':=by
 have hu26:=Tryd.underlying26
 have hu24:=Tryd.underlying24
 have HR0_1:=Aside0.mk hr0_1
 have HC0_1:=Aside0.mk hc0_1
 clear hr0_1 hc0_1
 have HB:=Aside0.mk (Below.refl w.heap.size w)
 have H:((Y40.f k a0_0 l0_1 a1).bind fun t279=>(if t279<0 then (none) else (some t279)))=some r:=h
 clear h
 replace H:=Option.bind_eq_some_iff.mp H
 obtain ⟨t279,A30,H⟩:=H
 replace H:(if t279<0 then (none) else (some t279))=some r:=H
 have A3:=Aside0.mk A30
 clear A30
 by_cases c4:t279<0
 ·rw [if_pos c4] at H
  exact absurd H (by simp)
 ·rw [if_neg c4] at H
  have c4b0:decide (t279<0)=false:=decide_eq_false c4
  clear c4
  obtain rfl:=Option.some.inj H
  go_enter Tryd.func12,Tryd.ntmps12
  go_wp2_with (first | ((with_reducible refine gd_ 2 ?_);refine be_ 2 #[.int .i64 a0_0,.slice A0_1 l0_1.length c0_1,.int .i64 a0_2] 26 ?_;intro gb278 hg w5 hbox hb;refine as4_ (below_step (z3_ HB.out) hb) (hbox) ((z10_ HB.out:w.heap.size≤gb278)) ((z10_ HB.out:w.heap.size≤gb278)) ?_;clear HB;intro HB BK278 GW278 GE278;clear hb hbox hg;have ⟨hcz6_0,hcz6_1,hcz6_2,hfz6_0,hfz6_1,hfz6_2⟩:=cz3_ BK278.out) | ((with_reducible refine gc_ 44 ?_);refine gl_ (some 8) Tryd.func44 #[.agg #[.int .i64 a0_0,.slice A0_1 l0_1.length c0_1],.int .i64 a1] ?_;(with_reducible refine (Y40.calls k a0_0 _ _ l0_1 a1 t279 _ ?s1 ?s2 A3.out).mono ?_);(case s1=>repeat (first | exact (Kd.C_below HR0_1.out HB.out) | (with_reducible refine Kd.C_alloc ?_ _) | (with_reducible refine Kd.C_drewN ?_ _) | (with_reducible refine Kd.C_drew ?_)));(case s2=>exact HC0_1.out);rintro e w7 ⟨rfl,hb⟩;refine ⟨_,rfl,?_⟩;refine as2_ (blkB_ BK278.out hb) (below_step (z11_ HB.out GE278.out) hb) ?_;clear BK278 HB;intro BK278 HB;(try clear hb)))
  go_ret
  exact ⟨z7_,z11_ HB.out GE278.out⟩


/-! ### Y34: function 3 -/
def Y34.f (k:Nat) (a0:Int) (a1:Int):Option (Bool):=(Y20.f k a0 a1).bind fun bt280=>((Y13.f k a0 a1).bind fun bt286=>((Y27.f k bt286.1 bt286.2.1 bt286.2.2 bt280.1 bt280.2.1 bt280.2.2).bind fun t292=>(if t292=true then ((Y31.f k bt286.1 bt286.2.1 bt286.2.2 1).bind fun bt293=>((Y15.f k bt286.1 bt293.2 bt286.2.2 1).bind fun t295=>(if t295<0 then (none) else (if t295=bt293.1 then ((Y13.f k a0 a1).bind fun bt296=>((Y27.f k bt296.1 bt296.2.1 bt296.2.2 bt280.1 bt280.2.1 bt280.2.2).bind fun t302=>(if t302=true then ((Y15.f k bt286.1 bt293.2 bt286.2.2 1).bind fun t303=>(if t303<0 then (none) else (if t303=bt293.1 then (some true) else (none)))) else (none)))) else (none))))) else (none))))
theorem Y34.mono:∀ a0 a1 k,LeO (Y34.f k a0 a1) (Y34.f (k+1) a0 a1):=by
 intro a0 a1 k
 unfold Y34.f
 repeat' first
   | (with_reducible exact Y13.mono _ _ _)
   | (with_reducible exact Y27.mono _ _ _ _ _ _ _)
   | (with_reducible exact Y15.mono _ _ _ _ _)
   | (with_reducible exact Y31.mono _ _ _ _ _)
   | (with_reducible exact Y20.mono _ _ _)
   | (with_reducible exact LeO.refl _)
   | (with_reducible exact LeO.none _)
   | (with_reducible refine LeO.ite ?_ ?_)
   | (with_reducible refine LeO.bind ?_ (fun _=>?_))
   | exact Y13.mono _ _ _
   | exact Y27.mono _ _ _ _ _ _ _
   | exact Y15.mono _ _ _ _ _
   | exact Y31.mono _ _ _ _ _
   | exact Y20.mono _ _ _
   | exact LeO.none _
   | refine LeO.ite ?_ ?_
   | refine LeO.bind ?_ (fun _=>?_)
set_option maxHeartbeats 8000000 in
set_option maxRecDepth 100000 in
theorem Y34.calls (k:Nat) (a0:Int) (a1:Int) (r:Bool) (w:World) (h:Y34.f k a0 a1=some r) :
  Calls Tryd.prog 3 #[.int .i64 a0,.int .i64 a1] w fun e w'=>e = .returned (.bool r)∧Below w.heap.size w w':=by
 have hu26:=Tryd.underlying26
 have HB:=Aside0.mk (Below.refl w.heap.size w)
 have H:((Y20.f k a0 a1).bind fun bt280=>((Y13.f k a0 a1).bind fun bt286=>((Y27.f k bt286.1 bt286.2.1 bt286.2.2 bt280.1 bt280.2.1 bt280.2.2).bind fun t292=>(if t292=true then ((Y31.f k bt286.1 bt286.2.1 bt286.2.2 1).bind fun bt293=>((Y15.f k bt286.1 bt293.2 bt286.2.2 1).bind fun t295=>(if t295<0 then (none) else (if t295=bt293.1 then ((Y13.f k a0 a1).bind fun bt296=>((Y27.f k bt296.1 bt296.2.1 bt296.2.2 bt280.1 bt280.2.1 bt280.2.2).bind fun t302=>(if t302=true then ((Y15.f k bt286.1 bt293.2 bt286.2.2 1).bind fun t303=>(if t303<0 then (none) else (if t303=bt293.1 then (some true) else (none)))) else (none)))) else (none))))) else (none)))))=some r:=h
 clear h
 replace H:=Option.bind_eq_some_iff.mp H
 obtain ⟨⟨t280,t281,t284⟩,A30,H⟩:=H
 replace H:((Y13.f k a0 a1).bind fun bt286=>((Y27.f k bt286.1 bt286.2.1 bt286.2.2 t280 t281 t284).bind fun t292=>(if t292=true then ((Y31.f k bt286.1 bt286.2.1 bt286.2.2 1).bind fun bt293=>((Y15.f k bt286.1 bt293.2 bt286.2.2 1).bind fun t295=>(if t295<0 then (none) else (if t295=bt293.1 then ((Y13.f k a0 a1).bind fun bt296=>((Y27.f k bt296.1 bt296.2.1 bt296.2.2 t280 t281 t284).bind fun t302=>(if t302=true then ((Y15.f k bt286.1 bt293.2 bt286.2.2 1).bind fun t303=>(if t303<0 then (none) else (if t303=bt293.1 then (some true) else (none)))) else (none)))) else (none))))) else (none))))=some r:=H
 have A3:=Aside0.mk A30
 clear A30
 replace H:=Option.bind_eq_some_iff.mp H
 obtain ⟨⟨t286,t287,t290⟩,A40,H⟩:=H
 replace H:((Y27.f k t286 t287 t290 t280 t281 t284).bind fun t292=>(if t292=true then ((Y31.f k t286 t287 t290 1).bind fun bt293=>((Y15.f k t286 bt293.2 t290 1).bind fun t295=>(if t295<0 then (none) else (if t295=bt293.1 then ((Y13.f k a0 a1).bind fun bt296=>((Y27.f k bt296.1 bt296.2.1 bt296.2.2 t280 t281 t284).bind fun t302=>(if t302=true then ((Y15.f k t286 bt293.2 t290 1).bind fun t303=>(if t303<0 then (none) else (if t303=bt293.1 then (some true) else (none)))) else (none)))) else (none))))) else (none)))=some r:=H
 have A4:=Aside0.mk A40
 clear A40
 replace H:=Option.bind_eq_some_iff.mp H
 obtain ⟨t292,A50,H⟩:=H
 replace H:(if t292=true then ((Y31.f k t286 t287 t290 1).bind fun bt293=>((Y15.f k t286 bt293.2 t290 1).bind fun t295=>(if t295<0 then (none) else (if t295=bt293.1 then ((Y13.f k a0 a1).bind fun bt296=>((Y27.f k bt296.1 bt296.2.1 bt296.2.2 t280 t281 t284).bind fun t302=>(if t302=true then ((Y15.f k t286 bt293.2 t290 1).bind fun t303=>(if t303<0 then (none) else (if t303=bt293.1 then (some true) else (none)))) else (none)))) else (none))))) else (none))=some r:=H
 have A5:=Aside0.mk A50
 clear A50
 by_cases c6:t292=true
 ·subst c6
  have H1:((Y31.f k t286 t287 t290 1).bind fun bt293=>((Y15.f k t286 bt293.2 t290 1).bind fun t295=>(if t295<0 then (none) else (if t295=bt293.1 then ((Y13.f k a0 a1).bind fun bt296=>((Y27.f k bt296.1 bt296.2.1 bt296.2.2 t280 t281 t284).bind fun t302=>(if t302=true then ((Y15.f k t286 bt293.2 t290 1).bind fun t303=>(if t303<0 then (none) else (if t303=bt293.1 then (some true) else (none)))) else (none)))) else (none)))))=some r:=by rw [if_pos rfl] at H;exact H
  clear H
  have H:=H1
  clear H1
  replace H:=Option.bind_eq_some_iff.mp H
  obtain ⟨⟨t293,t294⟩,A70,H⟩:=H
  replace H:((Y15.f k t286 t294 t290 1).bind fun t295=>(if t295<0 then (none) else (if t295=t293 then ((Y13.f k a0 a1).bind fun bt296=>((Y27.f k bt296.1 bt296.2.1 bt296.2.2 t280 t281 t284).bind fun t302=>(if t302=true then ((Y15.f k t286 t294 t290 1).bind fun t303=>(if t303<0 then (none) else (if t303=t293 then (some true) else (none)))) else (none)))) else (none))))=some r:=H
  have A7:=Aside0.mk A70
  clear A70
  replace H:=Option.bind_eq_some_iff.mp H
  obtain ⟨t295,A80,H⟩:=H
  replace H:(if t295<0 then (none) else (if t295=t293 then ((Y13.f k a0 a1).bind fun bt296=>((Y27.f k bt296.1 bt296.2.1 bt296.2.2 t280 t281 t284).bind fun t302=>(if t302=true then ((Y15.f k t286 t294 t290 1).bind fun t303=>(if t303<0 then (none) else (if t303=t293 then (some true) else (none)))) else (none)))) else (none)))=some r:=H
  have A8:=Aside0.mk A80
  clear A80
  by_cases c9:t295<0
  ·rw [if_pos c9] at H
   exact absurd H (by simp)
  ·rw [if_neg c9] at H
   have c9b0:decide (t295<0)=false:=decide_eq_false c9
   clear c9
   by_cases c10:t295=t293
   ·rw [if_pos c10] at H
    have c10b0:(t295 == t293)=true:=beq_iff_eq.mpr c10
    have c10b1:(t295 != t293)=false:=bne_eq_false_iff_eq.mpr c10
    clear c10
    replace H:=Option.bind_eq_some_iff.mp H
    obtain ⟨⟨t296,t297,t300⟩,A110,H⟩:=H
    replace H:((Y27.f k t296 t297 t300 t280 t281 t284).bind fun t302=>(if t302=true then ((Y15.f k t286 t294 t290 1).bind fun t303=>(if t303<0 then (none) else (if t303=t293 then (some true) else (none)))) else (none)))=some r:=H
    have A11:=Aside0.mk A110
    clear A110
    replace H:=Option.bind_eq_some_iff.mp H
    obtain ⟨t302,A120,H⟩:=H
    replace H:(if t302=true then ((Y15.f k t286 t294 t290 1).bind fun t303=>(if t303<0 then (none) else (if t303=t293 then (some true) else (none)))) else (none))=some r:=H
    have A12:=Aside0.mk A120
    clear A120
    by_cases c13:t302=true
    ·subst c13
     have H1:((Y15.f k t286 t294 t290 1).bind fun t303=>(if t303<0 then (none) else (if t303=t293 then (some true) else (none))))=some r:=by rw [if_pos rfl] at H;exact H
     clear H
     have H:=H1
     clear H1
     replace H:=Option.bind_eq_some_iff.mp H
     obtain ⟨t303,A140,H⟩:=H
     replace H:(if t303<0 then (none) else (if t303=t293 then (some true) else (none)))=some r:=H
     have A14:=Aside0.mk A140
     clear A140
     by_cases c15:t303<0
     ·rw [if_pos c15] at H
      exact absurd H (by simp)
     ·rw [if_neg c15] at H
      have c15b0:decide (t303<0)=false:=decide_eq_false c15
      clear c15
      by_cases c16:t303=t293
      ·rw [if_pos c16] at H
       have c16b0:(t303 == t293)=true:=beq_iff_eq.mpr c16
       have c16b1:(t303 != t293)=false:=bne_eq_false_iff_eq.mpr c16
       clear c16
       obtain rfl:=Option.some.inj H
       go_enter Tryd.func3,Tryd.ntmps3
       go_wp2_with (first | ((with_reducible refine gc_ 8 ?_);refine gl_ (some 12) Tryd.func8 #[.int .i64 a0,.int .i64 a1] ?_;(with_reducible refine (Y20.calls k a0 a1 t280 t281 t284 _ A3.out).mono ?_);rintro e w17 ⟨v282,rfl,ho0,hb⟩;refine ⟨_,rfl,?_⟩;refine as2_ (Kd.R_lower ho0 (below_size (z3_ HB.out))) (below_step (z3_ HB.out) hb) ?_;clear HB;intro HO283 HB;(try clear hb);(try clear ho0)) | ((with_reducible refine gd_ 5 ?_);refine be_ 5 #[.int .i64 0,.slice none 0 0,.int .i64 0] 26 ?_;intro gb285 hg w18 hbox hb;refine as5_ (Kd.R_below (z2_ HO283.out) hb) (below_step (z3_ HB.out) hb) (hbox) ((z10_ HB.out:w.heap.size≤gb285)) ((z10_ HB.out:w.heap.size≤gb285)) ?_;clear HO283 HB;intro HO283 HB BK285 GW285 GE285;clear hb hbox hg;have ⟨hcz19_0,hcz19_1,hcz19_2,hfz19_0,hfz19_1,hfz19_2⟩:=cz3_ BK285.out;obtain ⟨Ao20,co20,eo20⟩:=Kd.R_slice HO283.out;subst eo20) | ((with_reducible refine gc_ 9 ?_);refine gl_ (some 15) Tryd.func9 #[.int .i64 a0,.int .i64 a1] ?_;(with_reducible refine (Y13.calls k a0 a1 t286 t287 t290 _ A4.out).mono ?_);rintro e w21 ⟨v288,rfl,ho0,hb⟩;refine ⟨_,rfl,?_⟩;refine as4_ (Kd.R_elder' (z15_ HO283.out BK285.out) (Kd.R_base ho0) hb) (Kd.R_lower (Kd.R_new' ho0 (Kd.R_lt (z15_ HO283.out BK285.out))) (below_size (z11_ HB.out GE285.out))) (blk_below (g:=gb285) (o:=.cells #[.int .i64 t280,.slice Ao20 t281.length co20,.int .i64 t284] 26 (0,0)) (z21_ BK285.out) hb) (below_step (z11_ HB.out GE285.out) hb) ?_;clear HO283 BK285 HB;intro HO283 HO289 BK285 HB;(try clear hb);(try clear hk);(try clear ho0)) | ((with_reducible refine gd_ 6 ?_);refine be_ 6 #[.int .i64 0,.slice none 0 0,.int .i64 0] 26 ?_;intro gb291 hg w22 hbox hb;refine as9_ (Kd.R_below (z2_ HO283.out) hb) (Kd.R_below (z2_ HO289.out) hb) (blkB_ BK285.out hb) (below_step (z11_ HB.out GE285.out) hb) (hbox) ((z12_ HB.out GE285.out:w.heap.size≤gb291)) ((z12_ HB.out GE285.out:w.heap.size≤gb291)) (neL_ BK285.out hg) (neG_ BK285.out hg) ?_;clear HO283 HO289 BK285 HB;intro HO283 HO289 BK285 HB BK291 GW291 GE291 NB285_291 NB291_285;clear hb hbox hg;have hnb23:=NB291_285.out;have hnc23:=NB285_291.out;have ⟨hcz24_0,hcz24_1,hcz24_2,hfz24_0,hfz24_1,hfz24_2⟩:=cz3_ BK291.out;obtain ⟨Ao25,co25,eo25⟩:=Kd.R_slice HO289.out;subst eo25;have ⟨hcz26_0,hcz26_1,hcz26_2,hfz26_0,hfz26_1,hfz26_2⟩:=cz3_ BK285.out) | ((with_reducible refine gc_ 10 ?_);refine gl_ (some 18) Tryd.func10 #[.agg #[.int .i64 t286,.slice Ao25 t287.length co25,.int .i64 t290],.agg #[.int .i64 t280,.slice Ao20 t281.length co20,.int .i64 t284]] ?_;(with_reducible refine (Y27.calls k t286 _ _ t287 t290 t280 _ _ t281 t284 true _ ?s1 ?s2 ?s3 ?s4 A5.out).mono ?_);(case s1=>refine (Kd.R_reads' (e:=77) (base:=w.heap.size) (ok:=fun k_=>(True∧some k_≠(.slice Ao20 t281.length co20:Value).ownBlock)) (n:=t287.length) (c:=co25) ?_).2.2;exact (z15_ HO289.out BK291.out));(case s2=>exact (Kd.R_reads' HO289.out).2.1);(case s3=>refine (Kd.R_reads' (e:=77) (base:=w.heap.size) (ok:=fun k_=>(True∧some k_≠(.slice Ao25 t287.length co25:Value).ownBlock)) (n:=t281.length) (c:=co20) ?_).2.2;exact (z15_ HO283.out BK291.out));(case s4=>exact (Kd.R_reads' HO283.out).2.1);rintro e w27 ⟨rfl,hb⟩;refine ⟨_,rfl,?_⟩;refine as5_ (Kd.R_below (z15_ HO283.out BK291.out) hb) (Kd.R_below (z15_ HO289.out BK291.out) hb) (blk_below (g:=gb285) (o:=.cells #[.int .i64 t280,.slice Ao20 t281.length co20,.int .i64 t284] 26 (0,0)) (z34_ NB285_291.out BK285.out) hb) (blk_below (g:=gb291) (o:=.cells #[.int .i64 t286,.slice Ao25 t287.length co25,.int .i64 t290] 26 (0,0)) (z21_ BK291.out) hb) (below_step (z9_ HB.out GE285.out GE291.out) hb) ?_;clear HO283 HO289 BK285 BK291 HB;intro HO283 HO289 BK285 BK291 HB;(try clear hb);(try clear hk);have ⟨hcz28_0,hcz28_1,hcz28_2,hfz28_0,hfz28_1,hfz28_2⟩:=cz3_ BK291.out) | ((with_reducible refine gc_ 11 ?_);refine gl_ (some 22) Tryd.func11 #[.agg #[.int .i64 t286,.slice Ao25 t287.length co25,.int .i64 t290],.int .i64 1] ?_;(with_reducible refine (Y31.calls k t286 (fun k_=>some k_=(.slice Ao25 t287.length co25:Value).ownBlock) (.slice Ao25 t287.length co25) t287 t290 1 t293 t294 w _ ?s1 ?s2 A7.out).mono ?_);(case s1=>repeat (first | (with_reducible first | exact HB.out | apply below_alloc | apply pw_below_drewN | apply below_drew1 | refine below_set ?_ GE285.out | refine below_set ?_ GE291.out) | exact HB.out));(case s2=>exact Kd.R_tight rfl HO289.out);rintro e w29 ⟨rfl,hy0,hb,hkp⟩;refine ⟨_,rfl,?_⟩;refine as5_ (Kd.R_mono (ok':=fun k_=>some k_≠(.slice Ao25 t287.length co25:Value).ownBlock) (Kd.R_keptB (HO283.out) hkp (fun k_ hk_ hs_=>(hk_.2) hs_)) (fun k_ hk_=>hk_.1.2)) (blk_kept (z4_ BK285.out) hkp (fun hs_=>(fun e_=>(Kd.R_ne HO289.out BK285.out (by decide)) e_) hs_)) (Kd.R_reok rfl hy0 (fun k_ e_=>HO289.out.1 k_ e_)) (blk_kept (z4_ BK291.out) hkp (fun hs_=>(fun e_=>(Kd.R_ne HO289.out BK291.out (by decide)) e_) hs_)) (hb) ?_;clear HO283 BK285 HO289 BK291 HB;intro HO283 BK285 HO289 BK291 HB;(try clear hb);(try clear hkp);(try clear hy0);have ⟨hcz30_0,hcz30_1,hcz30_2,hfz30_0,hfz30_1,hfz30_2⟩:=cz3_ BK291.out) | ((with_reducible refine gc_ 12 ?_);refine goesL_ (some 25) rfl rfl Tryd.func12 (by kernel_rfl) rfl #[.agg #[.int .i64 t286,.slice Ao25 t294.length co25,.int .i64 t290],.int .i64 1] rfl (by (try simp only [List.map_toArray,List.map_cons,List.map_nil]);first | done | (rw [show t294.length=t287.length from (Kd.R_reads' HO289.out).1.symm] <;> rfl) | rfl | (simp only [List.length_drop,List.length_take];rfl)) ?_;(with_reducible refine (Y15.calls k t286 _ _ t294 t290 1 t295 _ ?s1 ?s2 A8.out).mono ?_);(case s1=>repeat (first | exact (Kd.R_reads' HO289.out).2.2 | (with_reducible refine Kd.C_alloc ?_ _) | (with_reducible refine Kd.C_drewN ?_ _) | (with_reducible refine Kd.C_drew ?_)));(case s2=>rw [show t294.length=t287.length from (Kd.R_reads' HO289.out).1.symm];exact (Kd.R_reads' HO289.out).2.1);rintro e w31 ⟨rfl,hb⟩;refine ⟨_,rfl,?_⟩;refine as5_ (Kd.R_below (z2_ HO283.out) hb) (Kd.R_below (z2_ HO289.out) hb) (blkB_ BK285.out hb) (blkB_ BK291.out hb) (below_step (z9_ HB.out GE285.out GE291.out) hb) ?_;clear HO283 HO289 BK285 BK291 HB;intro HO283 HO289 BK285 BK291 HB;(try clear hb)) | ((with_reducible refine gc_ 9 ?_);refine gl_ (some 33) Tryd.func9 #[.int .i64 a0,.int .i64 a1] ?_;(with_reducible refine (Y13.calls k a0 a1 t296 t297 t300 _ A11.out).mono ?_);rintro e w32 ⟨v298,rfl,ho0,hb⟩;refine ⟨_,rfl,?_⟩;refine as6_ (Kd.R_elder' (z2_ HO283.out) (Kd.R_base ho0) hb) (Kd.R_elder' (z2_ HO289.out) (Kd.R_base ho0) hb) (Kd.R_lower (Kd.R_new' (Kd.R_new' ho0 (Kd.R_lt (z2_ HO283.out))) (Kd.R_lt (z2_ HO289.out))) (below_size (z9_ HB.out GE285.out GE291.out))) (blkB_ BK285.out hb) (blkB_ BK291.out hb) (below_step (z9_ HB.out GE285.out GE291.out) hb) ?_;clear HO283 HO289 BK285 BK291 HB;intro HO283 HO289 HO299 BK285 BK291 HB;(try clear hb);(try clear ho0)) | ((with_reducible refine gd_ 9 ?_);refine be_ 9 #[.int .i64 0,.slice none 0 0,.int .i64 0] 26 ?_;intro gb301 hg w33 hbox hb;refine as13_ (Kd.R_below (z2_ HO283.out) hb) (Kd.R_below (z2_ HO289.out) hb) (Kd.R_below (z2_ HO299.out) hb) (blkB_ BK285.out hb) (blkB_ BK291.out hb) (below_step (z9_ HB.out GE285.out GE291.out) hb) (hbox) ((z19_ HB.out GE285.out GE291.out:w.heap.size≤gb301)) ((z19_ HB.out GE285.out GE291.out:w.heap.size≤gb301)) (neL_ BK285.out hg) (neG_ BK285.out hg) (neL_ BK291.out hg) (neG_ BK291.out hg) ?_;clear HO283 HO289 HO299 BK285 BK291 HB;intro HO283 HO289 HO299 BK285 BK291 HB BK301 GW301 GE301 NB285_301 NB301_285 NB291_301 NB301_291;clear hb hbox hg;have hnb34:=NB301_285.out;have hnc34:=NB285_301.out;have hnb35:=NB301_291.out;have hnc35:=NB291_301.out;have ⟨hcz36_0,hcz36_1,hcz36_2,hfz36_0,hfz36_1,hfz36_2⟩:=cz3_ BK301.out;obtain ⟨Ao37,co37,eo37⟩:=Kd.R_slice HO299.out;subst eo37;have ⟨hcz38_0,hcz38_1,hcz38_2,hfz38_0,hfz38_1,hfz38_2⟩:=cz3_ BK285.out) | ((with_reducible refine gc_ 10 ?_);refine gl_ (some 36) Tryd.func10 #[.agg #[.int .i64 t296,.slice Ao37 t297.length co37,.int .i64 t300],.agg #[.int .i64 t280,.slice Ao20 t281.length co20,.int .i64 t284]] ?_;(with_reducible refine (Y27.calls k t296 _ _ t297 t300 t280 _ _ t281 t284 true _ ?s1 ?s2 ?s3 ?s4 A12.out).mono ?_);(case s1=>refine (Kd.R_reads' (e:=77) (base:=w.heap.size) (ok:=fun k_=>((True∧some k_≠(.slice Ao20 t281.length co20:Value).ownBlock)∧some k_≠(.slice Ao25 t287.length co25:Value).ownBlock)) (n:=t297.length) (c:=co37) ?_).2.2;exact (z15_ HO299.out BK301.out));(case s2=>exact (Kd.R_reads' HO299.out).2.1);(case s3=>refine (Kd.R_reads' (e:=77) (base:=w.heap.size) (ok:=fun k_=>(some k_≠(.slice Ao25 t287.length co25:Value).ownBlock∧some k_≠(.slice Ao37 t297.length co37:Value).ownBlock)) (n:=t281.length) (c:=co20) ?_).2.2;exact (z15_ HO283.out BK301.out));(case s4=>exact (Kd.R_reads' HO283.out).2.1);rintro e w39 ⟨rfl,hb⟩;refine ⟨_,rfl,?_⟩;refine as7_ (Kd.R_below (z15_ HO283.out BK301.out) hb) (Kd.R_below (z15_ HO289.out BK301.out) hb) (Kd.R_below (z15_ HO299.out BK301.out) hb) (blk_below (g:=gb285) (o:=.cells #[.int .i64 t280,.slice Ao20 t281.length co20,.int .i64 t284] 26 (0,0)) (z34_ NB285_301.out BK285.out) hb) (blk_below (g:=gb291) (o:=.cells #[.int .i64 t286,.slice Ao25 t287.length co25,.int .i64 t290] 26 (0,0)) (z34_ NB291_301.out BK291.out) hb) (blk_below (g:=gb301) (o:=.cells #[.int .i64 t296,.slice Ao37 t297.length co37,.int .i64 t300] 26 (0,0)) (z21_ BK301.out) hb) (below_step (z8_ HB.out GE285.out GE291.out GE301.out) hb) ?_;clear HO283 HO289 HO299 BK285 BK291 BK301 HB;intro HO283 HO289 HO299 BK285 BK291 BK301 HB;(try clear hb);(try clear hk);have ⟨hcz40_0,hcz40_1,hcz40_2,hfz40_0,hfz40_1,hfz40_2⟩:=cz3_ BK291.out) | ((with_reducible refine gc_ 12 ?_);refine goesL_ (some 40) rfl rfl Tryd.func12 (by kernel_rfl) rfl #[.agg #[.int .i64 t286,.slice Ao25 t294.length co25,.int .i64 t290],.int .i64 1] rfl (by (try simp only [List.map_toArray,List.map_cons,List.map_nil]);first | done | (rw [show t294.length=t287.length from (Kd.R_reads' HO289.out).1.symm] <;> rfl) | rfl | (simp only [List.length_drop,List.length_take];rfl)) ?_;(with_reducible refine (Y15.calls k t286 _ _ t294 t290 1 t303 _ ?s1 ?s2 A14.out).mono ?_);(case s1=>repeat (first | exact (Kd.R_reads' HO289.out).2.2 | (with_reducible refine Kd.C_alloc ?_ _) | (with_reducible refine Kd.C_drewN ?_ _) | (with_reducible refine Kd.C_drew ?_)));(case s2=>rw [show t294.length=t287.length from (Kd.R_reads' HO289.out).1.symm];exact (Kd.R_reads' HO289.out).2.1);rintro e w41 ⟨rfl,hb⟩;refine ⟨_,rfl,?_⟩;refine as7_ (Kd.R_below (z2_ HO283.out) hb) (Kd.R_below (z2_ HO289.out) hb) (Kd.R_below (z2_ HO299.out) hb) (blkB_ BK285.out hb) (blkB_ BK291.out hb) (blkB_ BK301.out hb) (below_step (z8_ HB.out GE285.out GE291.out GE301.out) hb) ?_;clear HO283 HO289 HO299 BK285 BK291 BK301 HB;intro HO283 HO289 HO299 BK285 BK291 BK301 HB;(try clear hb)))
       go_ret
       exact ⟨z7_,z8_ HB.out GE285.out GE291.out GE301.out⟩
      ·rw [if_neg c16] at H
       exact absurd H (by simp)
    ·replace c13:=Bool.eq_false_iff.mpr c13
     subst c13
     have H1:(none)=some r:=by rw [if_neg (show ¬ (false=true) by decide)] at H;exact H
     clear H
     have H:=H1
     clear H1
     exact absurd H (by simp)
   ·rw [if_neg c10] at H
    exact absurd H (by simp)
 ·replace c6:=Bool.eq_false_iff.mpr c6
  subst c6
  have H1:(none)=some r:=by rw [if_neg (show ¬ (false=true) by decide)] at H;exact H
  clear H
  have H:=H1
  clear H1
  exact absurd H (by simp)

end Go.Proofs.YtelecnmflodkkaaDoor.P

namespace Go.Proofs.YtelecnmflodkkaaDoor.P
open Go.RowKit
def Y34.Pure:Prop:=∀ (x0:Int) (x1:Int),(Lit.int .i64 x0).wf=true→(Lit.int .i64 x1).wf=true→∃ k,Y34.f k x0 x1=some true
end Go.Proofs.YtelecnmflodkkaaDoor.P

namespace Go.Proofs.YtelecnmflodkkaaDoor.Q
open Go.RowKit Go.Proofs.YtelecnmflodkkaaDoorW.PrintWords Go.Proofs.YtelecnmflodkkaaDoorW.PrintMore

theorem w64 {x:Int} (h0 : -9223372036854775808≤x) (h1:x≤9223372036854775807):wrap64 x=x:=by unfold wrap64;omega
theorem evPos {α:Type} {c:Prop} [Decidable c] {f g:Nat→Option α} {r:α} (hc:c) (h:Ev f r):Ev (fun k=>if c then f k else g k) r:=by
  simp only [if_pos hc];exact h
theorem evNeg {α:Type} {c:Prop} [Decidable c] {f g:Nat→Option α} {r:α} (hc:¬ c) (h:Ev g r):Ev (fun k=>if c then f k else g k) r:=by
  simp only [if_neg hc];exact h
theorem evBind1 {α β:Type} {g:Option α} {f:Nat→α→Option β} {a:α} {r:β} (h:g=some a) (k:Ev (fun n=>f n a) r):Ev (fun n=>g.bind (f n)) r:=by
  subst h;exact k
theorem dropCons {α:Type} {l:List α} {i:Nat} {a:α} {s:List α} (h:l.drop i=a :: s) (d:α):i<l.length∧l.getD i d=a∧l.drop (i+1)=s:=by
  have hl:i<l.length:=by
    have:=congrArg List.length h
    simp at this;omega
  rw [List.drop_eq_getElem_cons hl] at h
  injection h with h1 h2
  exact ⟨hl,by rw [List.getD_eq_getElem?_getD,List.getElem?_eq_getElem hl];exact h1,h2⟩
theorem dropNil {α:Type} {l:List α} {i:Nat} (h:l.drop i=[]):l.length≤i:=by
  have:=congrArg List.length h
  simp at this;omega
theorem dropNil' {α:Type} {l:List α} {i:Nat} (h:l.drop i=[]) (hi:i≤l.length):l.length=i:=by
  have:=dropNil h;omega
theorem getD_mid {α:Type} (pre:List α) (m:α) (s:List α) (d:α):(pre ++ m :: s).getD pre.length d=m:=by
  rw [List.getD_eq_getElem?_getD,List.getElem?_append_right (Nat.le_refl _),Nat.sub_self];rfl
theorem set_mid {α:Type} (pre:List α) (m x:α) (s:List α):(pre ++ m :: s).set pre.length x=pre ++ x :: s:=by
  rw [List.set_append_right _ _ (Nat.le_refl _),Nat.sub_self];rfl
end Go.Proofs.YtelecnmflodkkaaDoor.Q

namespace Go.Proofs.YtelecnmflodkkaaDoor.Q
open Go.RowKit Go.Proofs.YtelecnmflodkkaaDoor.P Go.Proofs.YtelecnmflodkkaaDoorW.PrintWords Go.Proofs.YtelecnmflodkkaaDoorW.PrintMore

def isWithin (n low high:Int):Bool:=decide (low≤n) && decide (n≤high)
def isNode (n:Int):Bool:=isWithin n 1 5
theorem l02Is_is (n a b:Int):Y43.f n a b=some (isWithin n a b):=by
  unfold Y43.f isWithin
  split
  · rename_i h;simp [show a≤n from h]
  · rename_i h;simp [show ¬ a≤n from h]
theorem l02Node_is (n:Int):Y44.f n=some (isNode n):=by simp [Y44.f,l02Is_is,isNode]
theorem within_is (n a b:Int):Y41.f n a b=some (isWithin n a b):=by
  unfold Y41.f isWithin
  split
  · rename_i h;simp [show a≤n from h]
  · rename_i h;simp [show ¬ a≤n from h]
theorem isNode_is (n:Int):Y45.f n=some (isNode n):=by simp [Y45.f,within_is,isNode]
theorem isNode_iff (n:Int):isNode n=true ↔ 1≤n∧n≤5:=by simp [isNode,isWithin]
end Go.Proofs.YtelecnmflodkkaaDoor.Q

namespace Go.Proofs.YtelecnmflodkkaaDoor.P
open Go.RowKit Go.Proofs.YtelecnmflodkkaaDoorW.PrintWords Go.Proofs.YtelecnmflodkkaaDoorW.PrintLast Go.Proofs.YtelecnmflodkkaaDoorW.PrintMore
attribute [local go_sem] max2_int min2_int max_two min_two max_three min_three max_four min_four   -- for this text's walks alone
set_option linter.unusedVariables false
set_option linter.unusedSimpArgs false

/-! ### Y52: function 57 -/
def Y52.f (l0:List (S116)) (a1:Int):Option (Int):=if (wrap64 (a1-(l0.length:Int)))<0 then (some (-1)) else (some (wrap64 (a1-(l0.length:Int))))

/-! ### Y53: function 94 -/
def Y53.f (a0_0:Int) (a0_1:Int):Option (Int × Int):=some (a0_0,a0_1)

/-! ### Y35: function 58 -/
def Y35.l0:Nat→List (S116)→List (S77)→Int→Option ((List (S77)))
 | 0,_,_,_=>none
 | k+1,x0,x3,x4=>if x4<(x0.length:Int) then (if 0≤x4 then ((Y53.f ((rd_T116 x0 x4).f0) ((rd_T116 x0 x4).f1)).bind fun bt624=>(if x4<(x3.length:Int) then (Y35.l0 k x0 (x3.set (x4:Int).toNat (⟨bt624.1,bt624.2⟩:S77)) (wrap64 (x4+1))) else (none))) else (none)) else (some x3)
def Y35.f (k:Nat) (l0:List (S116)):Option ((List (S77))):=if 0≤(l0.length:Int) then (if ((l0.length:Int):Int).toNat≤17592186044416 then (Y35.l0 k l0 (List.replicate ((l0.length:Int):Int).toNat z77) 0) else (none)) else (none)
theorem Y35.mono_l:∀ k,(∀ y0 y1 y2,LeO (Y35.l0 k y0 y1 y2) (Y35.l0 (k+1) y0 y1 y2))
 | 0=>fun _ _ _ r h=>by simp [Y35.l0] at h
 | k+1=>by
  have ih0:=Y35.mono_l k
  ·intro y0 y1 y2
   unfold Y35.l0
   repeat' first
   | (with_reducible exact ih0 _ _ _)
   | (with_reducible exact LeO.refl _)
   | (with_reducible exact LeO.none _)
   | (with_reducible refine LeO.ite ?_ ?_)
   | (with_reducible refine LeO.bind ?_ (fun _=>?_))
   | exact ih0 _ _ _
   | exact LeO.none _
   | refine LeO.ite ?_ ?_
   | refine LeO.bind ?_ (fun _=>?_)
theorem Y35.mono:∀ a0 k,LeO (Y35.f k a0) (Y35.f (k+1) a0):=by
 intro a0 k
 have ih0:=Y35.mono_l k
 unfold Y35.f
 repeat' first
   | (with_reducible exact ih0 _ _ _)
   | (with_reducible exact LeO.refl _)
   | (with_reducible exact LeO.none _)
   | (with_reducible refine LeO.ite ?_ ?_)
   | (with_reducible refine LeO.bind ?_ (fun _=>?_))
   | exact ih0 _ _ _
   | exact LeO.none _
   | refine LeO.ite ?_ ?_
   | refine LeO.bind ?_ (fun _=>?_)

/-! ### Y54: function 23 -/
def Y54.f (a0_0:Int) (l0_1:List (S116)) (a1:Int):Option (Int):=(Y52.f l0_1 a1).bind fun t616=>(if t616<0 then (some (-1)) else (some t616))

/-! ### Y51: function 24 -/
def Y51.f (k:Nat) (a0_0:Int) (l0_1:List (S116)):Option (Int × (List (S77))):=(Y35.f k l0_1).bind fun t630=>(some (a0_0,t630))
theorem Y51.mono:∀ a0 a1 k,LeO (Y51.f k a0 a1) (Y51.f (k+1) a0 a1):=by
 intro a0 a1 k
 unfold Y51.f
 repeat' first
   | (with_reducible exact Y35.mono _ _)
   | (with_reducible exact LeO.refl _)
   | (with_reducible exact LeO.none _)
   | (with_reducible refine LeO.ite ?_ ?_)
   | (with_reducible refine LeO.bind ?_ (fun _=>?_))
   | exact Y35.mono _ _
   | exact LeO.none _
   | refine LeO.ite ?_ ?_
   | refine LeO.bind ?_ (fun _=>?_)
end Go.Proofs.YtelecnmflodkkaaDoor.P

namespace Go.Proofs.YtelecnmflodkkaaDoor.Q
open Go.RowKit Go.Proofs.YtelecnmflodkkaaDoor.P Go.Proofs.YtelecnmflodkkaaDoorW.PrintWords Go.Proofs.YtelecnmflodkkaaDoorW.PrintMore

abbrev Tok:=S77
theorem eqToken_refl (a b:Int):Y47.f a b a b=some true:=by simp [Y47.f]
theorem eqTokenS_l0 (l:List Tok) (hl:l.length≤4611686018427387904):∀ (s:List Tok) (i:Nat),l.drop i=s→i≤l.length →
    Ev (fun k=>Y14.l0 k l l (i:Int)) true
  | [],i,h,hi=>by
    have:=dropNil' h hi
    refine Ev.step (f:=fun _=>some true) (fun k=>?_) (Ev.now _)
    simp only [Y14.l0]
    rw [if_neg (by omega)]
  | m :: s,i,h,hi=>by
    obtain ⟨h1,h2,h3⟩:=dropCons h z77
    refine Ev.step (fun k=>?_) (eqTokenS_l0 l hl s (i+1) h3 (by omega))
    simp only [Y14.l0,eqToken_refl,Option.bind_some]
    rw [if_pos (by omega),if_pos (by omega),if_pos (by omega),if_pos trivial,w64 (by omega) (by omega)]
    rfl
theorem eqTokenS_ev (l:List Tok) (hl:l.length≤4611686018427387904):Ev (fun k=>Y14.f k l l) true:=by
  unfold Y14.f
  exact evPos rfl (eqTokenS_l0 l hl l 0 rfl (by omega))
def tokL:Int→List Tok→List Tok
  | _,[]=>[]
  | n,_ :: r=>⟨n,n+1⟩ :: tokL (n+2) r
theorem markTokenS_l0 (N:Int) (hN:N≤1152921504606846976):∀ (s pre:List Tok) (n:Int),0≤n→n+2*(s.length:Int)≤N→(pre.length:Int)+s.length≤N →
    Ev (fun k=>Y16.l0 k (pre ++ s) n (pre.length:Int)) (n+2*(s.length:Int),pre ++ tokL n s)
  | [],pre,n,h0,h1,h2=>by
    refine Ev.step (f:=fun _=>some (n,pre)) (fun k=>?_) (by simp [tokL];exact Ev.now _)
    simp only [Y16.l0,List.append_nil]
    rw [if_neg (by omega)]
  | m :: s,pre,n,h0,h1,h2=>by
    simp only [List.length_cons] at h1 h2
    have ih:=markTokenS_l0 N hN s (pre ++ [⟨n,n+1⟩]) (n+2) (by omega) (by omega) (by simp;omega)
    simp only [List.length_append,List.length_cons,List.length_nil,List.append_assoc,List.cons_append,List.nil_append] at ih
    refine Ev.step (fun k=>?_) (show Ev _ (n+2*((m :: s).length:Int),pre ++ tokL n (m :: s)) from by
      simp only [tokL,List.length_cons]
      rw [show n+2*((s.length+1:Nat):Int)=n+2+2*(s.length:Int) from by omega]
      exact ih)
    simp only [Y16.l0,Option.bind_some,Int.toNat_natCast,rd_T77,set_mid,getD_mid]
    rw [if_pos (by simp;omega),if_pos (by omega),w64 (x:=n+1) (by omega) (by omega),w64 (x:=n+1+1) (by omega) (by omega),w64 (x:=(pre.length:Int)+1) (by omega) (by omega),show n+1+1=n+2 from by omega]
    rfl
theorem markTokenS_ev (s:List Tok) (n:Int) (h0:0≤n) (h1:n+2*(s.length:Int)≤1152921504606846976):Ev (fun k=>Y16.f k s n) (n+2*(s.length:Int),tokL n s) :=
  markTokenS_l0 1152921504606846976 (Int.le_refl _) s [] n h0 h1 (by simp;omega)
theorem heldTokenS_l0 (N:Int) (hN:N≤1152921504606846976):∀ (s pre:List Tok) (n:Int),0≤n→n+2*(s.length:Int)≤N→(pre.length:Int)+s.length≤N →
    Ev (fun k=>Y19.l0 k (pre ++ tokL n s) n (pre.length:Int)) (n+2*(s.length:Int))
  | [],pre,n,h0,h1,h2=>by
    refine Ev.step (f:=fun _=>some n) (fun k=>?_) (by simp;exact Ev.now _)
    simp only [Y19.l0,tokL,List.append_nil]
    rw [if_neg (by omega)]
  | m :: s,pre,n,h0,h1,h2=>by
    simp only [List.length_cons] at h1 h2
    have ih:=heldTokenS_l0 N hN s (pre ++ [⟨n,n+1⟩]) (n+2) (by omega) (by omega) (by simp;omega)
    simp only [List.length_append,List.length_cons,List.length_nil,List.append_assoc,List.cons_append,List.nil_append] at ih
    refine Ev.step (fun k=>?_) (show Ev _ (n+2*((m :: s).length:Int)) from by
      simp only [List.length_cons]
      rw [show n+2*((s.length+1:Nat):Int)=n+2+2*(s.length:Int) from by omega]
      exact ih)
    have hr:rd_T77 (pre ++ tokL n (m :: s)) (pre.length:Int)=⟨n,n+1⟩:=by simp only [rd_T77,Int.toNat_natCast,tokL,getD_mid]
    simp only [Y19.l0,hr]
    rw [if_pos (by simp [tokL];omega),if_pos (by omega),w64 (x:=n+1) (by omega) (by omega),if_pos trivial,if_pos rfl,w64 (x:=n+1+1) (by omega) (by omega),w64 (x:=(pre.length:Int)+1) (by omega) (by omega),show n+1+1=n+2 from by omega]
    rfl
theorem heldTokenS_ev (s:List Tok) (n:Int) (h0:0≤n) (h1:n+2*(s.length:Int)≤1152921504606846976):Ev (fun k=>Y19.f k (tokL n s) n) (n+2*(s.length:Int)) :=
  heldTokenS_l0 1152921504606846976 (Int.le_refl _) s [] n h0 h1 (by simp;omega)
theorem eqRing_ev (n:Int) (l:List Tok) (hl:l.length≤4611686018427387904):Ev (fun k=>Y42.f k n l n l) true :=
  evPos rfl (Ev.bind (eqTokenS_ev l hl) (evPos rfl (Ev.now _)))
theorem eqRingOut_ev (n:Int) (l:List Tok) (c:Int) (hl:l.length≤4611686018427387904):Ev (fun k=>Y27.f k n l c n l c) true :=
  Ev.bind (eqRing_ev n l hl) (evPos rfl (evPos rfl (Ev.now _)))
theorem markRing_ev (N:Int) (l:List Tok) (n:Int) (h0:0≤n) (h1:n+2*(l.length:Int)≤1152921504606846976):Ev (fun k=>Y39.f k N l n) (n+2*(l.length:Int),tokL n l) :=
  Ev.bind (markTokenS_ev l n h0 h1) (Ev.now _)
theorem markRingOut_ev (N:Int) (l:List Tok) (c n:Int) (h0:0≤n) (h1:n+2*(l.length:Int)≤1152921504606846976):Ev (fun k=>Y31.f k N l c n) (n+2*(l.length:Int),tokL n l) :=
  Ev.bind (markRing_ev N l n h0 h1) (Ev.now _)
theorem heldRing_ev (N:Int) (l:List Tok) (n:Int) (h0:0≤n) (h1:n+2*(l.length:Int)≤1152921504606846976):Ev (fun k=>Y40.f k N (tokL n l) n) (n+2*(l.length:Int)) :=
  Ev.bind (heldTokenS_ev l n h0 h1) (evNeg (by omega) (Ev.now _))
theorem heldRingOut_ev (N:Int) (l:List Tok) (c n:Int) (h0:0≤n) (h1:n+2*(l.length:Int)≤1152921504606846976):Ev (fun k=>Y15.f k N (tokL n l) c n) (n+2*(l.length:Int)) :=
  Ev.bind (heldRing_ev N l n h0 h1) (evNeg (by omega) (Ev.now _))
end Go.Proofs.YtelecnmflodkkaaDoor.Q

namespace Go.Proofs.YtelecnmflodkkaaDoor.P
open Go.RowKit Go.Proofs.YtelecnmflodkkaaDoorW.PrintWords Go.Proofs.YtelecnmflodkkaaDoorW.PrintLast Go.Proofs.YtelecnmflodkkaaDoorW.PrintMore
attribute [local go_sem] max2_int min2_int max_two min_two max_three min_three max_four min_four   -- for this text's walks alone
set_option linter.unusedVariables false
set_option linter.unusedSimpArgs false

theorem eqA77 (d:Nat) (w:World) (x0 y0:Int) (x1 y1:Int) :
  (Op.equalIn (d+2) 77 (.agg #[.int .i64 x0,.int .i64 x1]) (.agg #[.int .i64 y0,.int .i64 y1])).run Tryd.prog w = .ok (x0 == y0 && (x1 == y1)) w:=by
 refine eqA_of Tryd.underlying77 (by kernel_rfl) ?_
 refine eqf_cons (by rfl) (by go_simp;rfl) (by go_simp;rfl) (by go_simp) ?_
 exact eqf_last (by rfl) (by go_simp;rfl) (by go_simp;rfl) (by go_simp)

attribute [local go_sem high] eqA77
/-! ### Y22: function 51 -/
mutual
def Y22.j0:Nat→Bool→Int→List (S77)→Option (Bool)
 | 0,_,_,_=>none
 | k+1,x32,x373000,x373001=>if x32=true then (some false) else (if x373000=0 then (none) else ((Y8.f k x373000 (wrap64 ((x373001.length:Int) / x373000))).bind fun bt374=>(Y22.l0 k 0 x373000 x373001 bt374.1 bt374.2)))
def Y22.l0:Nat→Int→Int→List (S77)→Int→List (S77)→Option (Bool)
 | 0,_,_,_,_,_=>none
 | k+1,x4,x373000,x373001,x379000,x379001=>if x4<(x373001.length:Int) then (if 0≤x4 then (if x4<(x379001.length:Int) then (if (!(((rd_T77 x373001 x4).f0) == ((rd_T77 x379001 x4).f0)) || (!(((rd_T77 x373001 x4).f1) == ((rd_T77 x379001 x4).f1))))=true then (some false) else (Y22.l0 k (wrap64 (x4+1)) x373000 x373001 x379000 x379001)) else (none)) else (none)) else (some true)
end
def Y22.f (k:Nat) (a0_0:Int) (l0_1:List (S77)):Option (Bool):=(Y44.f a0_0).bind fun t373=>(if t373=true then (if (l0_1.length:Int)<1 then (Y22.j0 k true a0_0 l0_1) else (if (l0_1.length:Int)>(wrap64 (8*a0_0)) then (Y22.j0 k true a0_0 l0_1) else (if a0_0=0 then (none) else (Y22.j0 k (((l0_1.length:Int) % a0_0) != 0) a0_0 l0_1)))) else (Y22.j0 k true a0_0 l0_1))
theorem Y22.mono_l:∀ k,(∀ y0 y1 y2,LeO (Y22.j0 k y0 y1 y2) (Y22.j0 (k+1) y0 y1 y2))∧(∀ y0 y1 y2 y3 y4,LeO (Y22.l0 k y0 y1 y2 y3 y4) (Y22.l0 (k+1) y0 y1 y2 y3 y4))
 | 0=>⟨fun _ _ _ r h=>by simp [Y22.j0] at h,fun _ _ _ _ _ r h=>by simp [Y22.l0] at h⟩
 | k+1=>by
  obtain ⟨ih0,ih1⟩:=Y22.mono_l k
  refine ⟨?_,?_⟩
  ·intro y0 y1 y2
   unfold Y22.j0
   repeat' first
   | (with_reducible exact ih0 _ _ _)
   | (with_reducible exact ih1 _ _ _ _ _)
   | (with_reducible exact Y8.mono _ _ _)
   | (with_reducible exact LeO.refl _)
   | (with_reducible exact LeO.none _)
   | (with_reducible refine LeO.ite ?_ ?_)
   | (with_reducible refine LeO.bind ?_ (fun _=>?_))
   | exact ih0 _ _ _
   | exact ih1 _ _ _ _ _
   | exact Y8.mono _ _ _
   | exact LeO.none _
   | refine LeO.ite ?_ ?_
   | refine LeO.bind ?_ (fun _=>?_)
  ·intro y0 y1 y2 y3 y4
   unfold Y22.l0
   repeat' first
   | (with_reducible exact ih0 _ _ _)
   | (with_reducible exact ih1 _ _ _ _ _)
   | (with_reducible exact Y8.mono _ _ _)
   | (with_reducible exact LeO.refl _)
   | (with_reducible exact LeO.none _)
   | (with_reducible refine LeO.ite ?_ ?_)
   | (with_reducible refine LeO.bind ?_ (fun _=>?_))
   | exact ih0 _ _ _
   | exact ih1 _ _ _ _ _
   | exact Y8.mono _ _ _
   | exact LeO.none _
   | refine LeO.ite ?_ ?_
   | refine LeO.bind ?_ (fun _=>?_)
theorem Y22.mono:∀ a0 a1 k,LeO (Y22.f k a0 a1) (Y22.f (k+1) a0 a1):=by
 intro a0 a1 k
 obtain ⟨ih0,ih1⟩:=Y22.mono_l k
 unfold Y22.f
 repeat' first
   | (with_reducible exact ih0 _ _ _)
   | (with_reducible exact ih1 _ _ _ _ _)
   | (with_reducible exact Y8.mono _ _ _)
   | (with_reducible exact LeO.refl _)
   | (with_reducible exact LeO.none _)
   | (with_reducible refine LeO.ite ?_ ?_)
   | (with_reducible refine LeO.bind ?_ (fun _=>?_))
   | exact ih0 _ _ _
   | exact ih1 _ _ _ _ _
   | exact Y8.mono _ _ _
   | exact LeO.none _
   | refine LeO.ite ?_ ?_
   | refine LeO.bind ?_ (fun _=>?_)

attribute [local go_sem high] eqA77
/-! ### Y11: function 82 -/
def Y11.l0:Nat→List (S77)→List (S77)→Int→Int→Option (Bool)
 | 0,_,_,_,_=>none
 | k+1,x0,x1,x12,x13=>if x13<x12 then (if 0≤x13 then (if x13<(x0.length:Int) then (if x13<(x1.length:Int) then (if (!(((rd_T77 x0 x13).f0) == ((rd_T77 x1 x13).f0)) || (!(((rd_T77 x0 x13).f1) == ((rd_T77 x1 x13).f1))))=true then (some false) else (Y11.l0 k x0 x1 x12 (wrap64 (x13+1)))) else (none)) else (none)) else (none)) else (some true)
def Y11.f (k:Nat) (l0:List (S77)) (l1:List (S77)):Option (Bool):=if (l0.length:Int)=(l1.length:Int) then (Y11.l0 k l0 l1 (l0.length:Int) 0) else (some false)
theorem Y11.mono_l:∀ k,(∀ y0 y1 y2 y3,LeO (Y11.l0 k y0 y1 y2 y3) (Y11.l0 (k+1) y0 y1 y2 y3))
 | 0=>fun _ _ _ _ r h=>by simp [Y11.l0] at h
 | k+1=>by
  have ih0:=Y11.mono_l k
  ·intro y0 y1 y2 y3
   unfold Y11.l0
   repeat' first
   | (with_reducible exact ih0 _ _ _ _)
   | (with_reducible exact LeO.refl _)
   | (with_reducible exact LeO.none _)
   | (with_reducible refine LeO.ite ?_ ?_)
   | (with_reducible refine LeO.bind ?_ (fun _=>?_))
   | exact ih0 _ _ _ _
   | exact LeO.none _
   | refine LeO.ite ?_ ?_
   | refine LeO.bind ?_ (fun _=>?_)
theorem Y11.mono:∀ a0 a1 k,LeO (Y11.f k a0 a1) (Y11.f (k+1) a0 a1):=by
 intro a0 a1 k
 have ih0:=Y11.mono_l k
 unfold Y11.f
 repeat' first
   | (with_reducible exact ih0 _ _ _ _)
   | (with_reducible exact LeO.refl _)
   | (with_reducible exact LeO.none _)
   | (with_reducible refine LeO.ite ?_ ?_)
   | (with_reducible refine LeO.bind ?_ (fun _=>?_))
   | exact ih0 _ _ _ _
   | exact LeO.none _
   | refine LeO.ite ?_ ?_
   | refine LeO.bind ?_ (fun _=>?_)

/-! ### Y37: function 47 -/
def Y37.f (k:Nat) (a0_0:Int) (l0_1:List (S77)):Option (Bool):=(Y45.f a0_0).bind fun t358=>(if t358=true then (if a0_0=0 then (none) else ((Y41.f (wrap64 ((l0_1.length:Int) / a0_0)) 1 8).bind fun t359=>(if t359=true then ((Y10.f k a0_0 (wrap64 ((l0_1.length:Int) / a0_0))).bind fun bt360=>((Y11.f k l0_1 bt360.2).bind fun t364=>(some t364))) else (some false)))) else (some false))
theorem Y37.mono:∀ a0 a1 k,LeO (Y37.f k a0 a1) (Y37.f (k+1) a0 a1):=by
 intro a0 a1 k
 unfold Y37.f
 repeat' first
   | (with_reducible exact Y10.mono _ _ _)
   | (with_reducible exact Y11.mono _ _ _)
   | (with_reducible exact LeO.refl _)
   | (with_reducible exact LeO.none _)
   | (with_reducible refine LeO.ite ?_ ?_)
   | (with_reducible refine LeO.bind ?_ (fun _=>?_))
   | exact Y10.mono _ _ _
   | exact Y11.mono _ _ _
   | exact LeO.none _
   | refine LeO.ite ?_ ?_
   | refine LeO.bind ?_ (fun _=>?_)
abbrev Y37.q0:Array Bool:=#[O,O,O,O,O,O,O,O,O,O,O,O,O]
abbrev Y37.q1:Array Bool:=#[I,O,O,O,O,O,O,O,O,O,O,O,O]
abbrev Y37.q2:Array Bool:=#[I,I,O,O,O,O,O,O,O,O,O,O,O]
abbrev Y37.q4:Array Bool:=#[I,I,I,I,O,O,O,O,O,O,O,O,O]
abbrev Y37.q5:Array Bool:=#[I,I,I,I,I,I,I,I,O,O,O,O,O]
abbrev Y37.q6:Array Bool:=#[I,I,I,I,I,I,I,I,I,O,O,O,O]
abbrev Y37.q10:Array Bool:=#[I,I,I,I,I,I,I,I,I,I,I,I,I]

/-! ### Y49: function 14 -/
def Y49.f (k:Nat) (a0_0:Int) (l0_1:List (S77)):Option (Int × (List (S77)) × Int):=(Y37.f k a0_0 l0_1).bind fun t367=>(if t367=true then (if a0_0=5 then (some (0,([]:List (S77)),9)) else (if a0_0=0 then (none) else ((Y10.f k (wrap64 (a0_0+1)) (wrap64 ((l0_1.length:Int) / a0_0))).bind fun bt368=>(some (bt368.1,bt368.2,0))))) else (some (0,([]:List (S77)),1)))
theorem Y49.mono:∀ a0 a1 k,LeO (Y49.f k a0 a1) (Y49.f (k+1) a0 a1):=by
 intro a0 a1 k
 unfold Y49.f
 repeat' first
   | (with_reducible exact Y37.mono _ _ _)
   | (with_reducible exact Y10.mono _ _ _)
   | (with_reducible exact LeO.refl _)
   | (with_reducible exact LeO.none _)
   | (with_reducible refine LeO.ite ?_ ?_)
   | (with_reducible refine LeO.bind ?_ (fun _=>?_))
   | exact Y37.mono _ _ _
   | exact Y10.mono _ _ _
   | exact LeO.none _
   | refine LeO.ite ?_ ?_
   | refine LeO.bind ?_ (fun _=>?_)

/-! ### Y50: function 17 -/
def Y50.f (k:Nat) (a0_0:Int) (l0_1:List (S77)):Option (Int × (List (S77)) × Int):=(Y22.f k a0_0 l0_1).bind fun t383=>(if t383=true then (if a0_0≥5 then (some (0,([]:List (S77)),9)) else (if a0_0=0 then (none) else ((Y8.f k (wrap64 (a0_0+1)) (wrap64 ((l0_1.length:Int) / a0_0))).bind fun bt384=>(some (bt384.1,bt384.2,0))))) else (some (0,([]:List (S77)),1)))
theorem Y50.mono:∀ a0 a1 k,LeO (Y50.f k a0 a1) (Y50.f (k+1) a0 a1):=by
 intro a0 a1 k
 unfold Y50.f
 repeat' first
   | (with_reducible exact Y22.mono _ _ _)
   | (with_reducible exact Y8.mono _ _ _)
   | (with_reducible exact LeO.refl _)
   | (with_reducible exact LeO.none _)
   | (with_reducible refine LeO.ite ?_ ?_)
   | (with_reducible refine LeO.bind ?_ (fun _=>?_))
   | exact Y22.mono _ _ _
   | exact Y8.mono _ _ _
   | exact LeO.none _
   | refine LeO.ite ?_ ?_
   | refine LeO.bind ?_ (fun _=>?_)
end Go.Proofs.YtelecnmflodkkaaDoor.P

namespace Go.Proofs.YtelecnmflodkkaaDoor.Q
open Go.RowKit Go.Proofs.YtelecnmflodkkaaDoor.P Go.Proofs.YtelecnmflodkkaaDoorW.PrintWords Go.Proofs.YtelecnmflodkkaaDoorW.PrintMore

theorem evMono {α:Type} {g:Nat→Option α} {r:α} (hm:∀ k,LeO (g k) (g (k+1))) (K:Nat) (h:g K=some r):Ev g r:=⟨K,fun k hk=>by
  obtain ⟨d,rfl⟩:=Nat.exists_eq_add_of_le hk
  induction d with
  | zero=>exact h
  | succ d ih=>exact hm _ _ (ih (by omega))⟩
def eqToks:List Tok→List Tok→Bool
  | [],[]=>true
  | x :: a,y :: b=>(x.f0 == y.f0 && x.f1 == y.f1) && eqToks a b
  | _,_=>false
theorem eqToks_eq:∀ a b:List Tok,eqToks a b=true→a=b
  | [],[],_=>rfl
  | x :: a,y :: b,h=>by
    simp only [eqToks,Bool.and_eq_true,beq_iff_eq] at h
    obtain ⟨⟨h1,h2⟩,h3⟩:=h
    obtain ⟨x0,x1⟩:=x
    obtain ⟨y0,y1⟩:=y
    simp only at h1 h2
    rw [h1,h2,eqToks_eq a b h3]
  | [],_ :: _,h=>by simp [eqToks] at h
  | _ :: _,[],h=>by simp [eqToks] at h
def ringRounds:Nat:=3000
def ringT (n e:Int):List Tok:=match Y8.f ringRounds n e with
  | some x=>x.2
  | none=>[]
def ringTest (n e:Nat):Bool:=match Y10.f ringRounds (n:Int) (e:Int),Y8.f ringRounds (n:Int) (e:Int) with
  | some x,some y=>x.1 == (n:Int) && (y.1 == (n:Int) && (eqToks x.2 y.2 && y.2.length == n*e))
  | _,_=>false
set_option maxRecDepth 1000000 in
theorem ring_all:(List.range 40).all (fun j=>ringTest (j / 8+1) (j % 8+1))=true:=by kernel_rfl
theorem ring_is {n e:Int} (hn:isNode n=true) (he:isWithin e 1 8=true) :
    Ev (fun k=>Y10.f k n e) (n,ringT n e)∧Ev (fun k=>Y8.f k n e) (n,ringT n e)∧((ringT n e).length:Int)=n*e:=by
  rw [isNode_iff] at hn
  simp only [isWithin,Bool.and_eq_true,decide_eq_true_eq] at he
  obtain ⟨n,rfl⟩:=Int.eq_ofNat_of_zero_le (show 0≤n by omega)
  obtain ⟨e,rfl⟩:=Int.eq_ofNat_of_zero_le (show 0≤e by omega)
  have h:=List.all_eq_true.1 ring_all ((n-1)*8+(e-1)) (List.mem_range.2 (by omega))
  rw [show ((n-1)*8+(e-1)) / 8+1=n by omega,show ((n-1)*8+(e-1)) % 8+1=e by omega] at h
  unfold ringTest at h
  split at h
  · rename_i x y hx hy
    simp only [Bool.and_eq_true,beq_iff_eq] at h
    obtain ⟨h1,h2,h3,h4⟩:=h
    have h5:=eqToks_eq _ _ h3
    have ht:ringT (n:Int) (e:Int)=y.2:=by unfold ringT;rw [hy]
    obtain ⟨x1,x2⟩:=x
    obtain ⟨y1,y2⟩:=y
    simp only at h1 h2 h4 h5 ht
    clear h3
    subst h1
    subst h2
    subst h5
    rw [ht]
    refine ⟨evMono (fun k=>Y10.mono _ _ k) ringRounds hx,evMono (fun k=>Y8.mono _ _ k) ringRounds hy,?_⟩
    rw [h4]
    simp
  · cases h
theorem ringT_length {n e:Int} (hn:isNode n=true) (he:isWithin e 1 8=true):(ringT n e).length≤40:=by
  have h:=(ring_is hn he).2.2
  rw [isNode_iff] at hn
  simp only [isWithin,Bool.and_eq_true,decide_eq_true_eq] at he
  have h1:n*e≤5*8:=by
    have a:=Int.mul_le_mul_of_nonneg_right (show n≤5 by omega) (show 0≤e by omega)
    have b:=Int.mul_le_mul_of_nonneg_left (show e≤8 by omega) (show (0:Int)≤5 by omega)
    omega
  omega
def ringNew (n e:Int):Int × List Tok × Int:=if (isNode n && isWithin e 1 8)=true then (n,ringT n e,0) else (0,[],1)
theorem ringNew_length (n e:Int):(ringNew n e).2.1.length≤40:=by
  unfold ringNew
  split
  · rename_i h
    simp only [Bool.and_eq_true] at h
    exact ringT_length h.1 h.2
  · simp
theorem impl_RingNew_ev (n e:Int):Ev (fun k=>Y13.f k n e) (ringNew n e):=by
  unfold Y13.f ringNew
  have jT:Ev (fun k=>Y13.j0 k n e true) (0,[],1):=Ev.step (f:=fun _=>some (0,[],1)) (fun k=>by simp [Y13.j0]) (Ev.now _)
  refine evBind1 (isNode_is _) ?_
  cases hn:isNode n with
  | false=>exact evNeg (by simp) jT
  | true =>
    refine evPos rfl (evBind1 (within_is _ _ _) ?_)
    cases he:isWithin e 1 8 with
    | false=>exact jT
    | true=>exact Ev.step (fun k=>by simp only [Y13.j0];rw [if_neg (by simp)]) (Ev.bind (ring_is hn he).1 (Ev.now _))
theorem spec_RingNew_ev (n e:Int):Ev (fun k=>Y20.f k n e) (ringNew n e):=by
  unfold Y20.f ringNew
  have jT:Ev (fun k=>Y20.j0 k n e true) (0,[],1):=Ev.step (f:=fun _=>some (0,[],1)) (fun k=>by simp [Y20.j0]) (Ev.now _)
  refine evBind1 (l02Node_is _) ?_
  cases hn:isNode n with
  | false=>exact evNeg (by simp) jT
  | true =>
    refine evPos rfl (evBind1 (l02Is_is _ _ _) ?_)
    cases he:isWithin e 1 8 with
    | false=>exact jT
    | true=>exact Ev.step (fun k=>by simp only [Y20.j0];rw [if_neg (by simp)]) (Ev.bind (ring_is hn he).2.1 (Ev.now _))
end Go.Proofs.YtelecnmflodkkaaDoor.Q

namespace Go.Proofs.YtelecnmflodkkaaDoor.Pure
open Go.RowKit Go.Proofs.YtelecnmflodkkaaDoor.P Go.Proofs.YtelecnmflodkkaaDoor.Q Go.Proofs.YtelecnmflodkkaaDoorW.PrintWords Go.Proofs.YtelecnmflodkkaaDoorW.PrintMore
theorem FnExactRingNew:Y34.Pure:=by
  intro n e _ _
  refine Ev.rounds ?_
  unfold Y34.f
  have s1:=spec_RingNew_ev n e
  have s2:=impl_RingNew_ev n e
  have hj:=ringNew_length n e
  generalize ringNew n e=r at s1 s2 hj
  obtain ⟨N,l,c⟩:=r
  simp only at hj s1 s2
  have eo:=eqRingOut_ev N l c (by omega)
  have ho:=heldRingOut_ev N l c 1 (by omega) (by omega)
  refine Ev.bind s1 (Ev.bind s2 (Ev.bind eo (evPos rfl (Ev.bind (markRingOut_ev N l c 1 (by omega) (by omega)) (Ev.bind ho (evNeg (by omega) (evPos rfl ?_)))))))
  exact Ev.bind s2 (Ev.bind eo (evPos rfl (Ev.bind ho (evNeg (by omega) (evPos rfl (Ev.now _))))))
end Go.Proofs.YtelecnmflodkkaaDoor.Pure

namespace Go.Proofs.YtelecnmflodkkaaDoor.fnExactRingNew
open Go.ChangeShapes Go.WideShapes Go.ChangeAt Go.RowKit Go.Proofs.YtelecnmflodkkaaDoor.P Go.Proofs.YtelecnmflodkkaaDoorW.PrintWords
open Go.ChangeMaps (open_string shut_string)
set_option linter.unusedVariables false
theorem own:ownKnob Tryd.prog.godebug=none:=by kernel_rfl
theorem laidOut:laidOutB Tryd.prog=true:=by kernel_rfl
set_option maxRecDepth 100000 in
theorem lifted (os:Os) (started:os.Started) (H:Type) (enc:TypeId × Value→H) :
    ReturnsInHanded {} Tryd.checked os 3 .any (fun w args=>(Rows.fnExactRingNewSpec.pre enc Tryd.prog Tryd.f3 Rows.fnExactRingNewRow.domain false w args∧laidMetH Tryd.prog Rows.fnExactRingNewRow.laid w)∧sizedMet enc Tryd.prog Tryd.f3 (OpenSpec.ofChange Rows.fnExactRingNewSpec) false w args) (Rows.fnExactRingNewSpec.post enc Tryd.prog Tryd.f3 false true false false):=by
  refine returnsInHanded_of_change_and (C:=Tryd.checked) (X:=fun w _=>laidMetH Tryd.prog Rows.fnExactRingNewRow.laid w) (fun _ _ _ hh h=>h.of_heap hh) own started (by kernel_rfl) Tryd.func3
    (ChangeSpec.witness_shaped (enc:=enc) (C:=Tryd.checked) (X:=fun w _=>laidMetH Tryd.prog Rows.fnExactRingNewRow.laid w) false (World.laidAll Tryd.prog os Rows.fnExactRingNewRow.laid) #[.int .i64 0,.int .i64 0] 8 (World.laidAll_os _ _ _) (World.shaped_of_ZipB (by kernel_rfl) (by kernel_rfl)) (by kernel_rfl) (by kernel_rfl) (by kernel_rfl)
      (by rw [MakeChecks.laidMetH_plain _ _ _ (by kernel_rfl)];exact laidMet_laidAll _ (by kernel_rfl) (by kernel_rfl))) ?_
  intro W base args ds gs before hval0 hW hcnd hsz0 hL_ _
  have hsz:(DataW.weightsEach Tryd.prog (Tryd.f3.params.toList ++ Rows.fnExactRingNewSpec.plain.varTypes Tryd.prog) (ds ++ gs)).all (· ≤ reachBytes)=true:=hsz0
  have hval:∀ (j:Nat) t v,Tryd.f3.params[j]? = some t→args[j]? = some v→Value.okWide Tryd.prog W .any base t v:=hval0
  have hW':=hW
  obtain ⟨p,q,hA0,hV,rfl,hfz,hnd⟩:=hW
  have hA:DataW.TrodAll enc Tryd.prog W 0 (fun _=>true) true Tryd.f3.params.toList args.toList ds p:=hA0
  rw [Tryd.params3] at hA hval hsz
  obtain ⟨v0,vs0,d0,ds0,p0,q0,hargs,rfl,rfl,h0,r0⟩:=trodAll_cons hA
  obtain ⟨v1,vs1,d1,ds1,p1,q1,rfl,rfl,rfl,h1,r1⟩:=trodAll_cons r0
  obtain ⟨rfl,rfl,rfl⟩:=trodAll_nil r1
  obtain rfl:args=#[v0,v1]:=by cases args;simp_all
  obtain ⟨rfl,rfl⟩:=trodVars_none hV
  obtain ⟨x0,rfl,rfl,rfl,w0⟩:=open_int Tryd.underlying2 (hval 0 2 v0 rfl rfl) h0
  obtain ⟨x1,rfl,rfl,rfl,w1⟩:=open_int Tryd.underlying2 (hval 1 2 v1 rfl rfl) h1
  clear hA0 hval0 hsz0 hsz
  obtain ⟨k,hp⟩:=Pure.FnExactRingNew x0 x1 w0 w1
  refine (P.Y34.calls k x0 x1 true W  hp).mono fun e W' ⟨he,bel0⟩=>?_
  have bel:Below W.heap.size W W':=bel0
  subst he
  exact ⟨_,rfl,_,_,_,[],_,[],hW',trodAll_mk1 (shut_bool Tryd.underlying4 _),(trodAll_cons_mk (shut_int Tryd.underlying2 w0) (trodAll_cons_mk (shut_int Tryd.underlying2 w1) trodAll_mk0)),rfl,bel.frame _,fun h=>by cases h⟩
theorem over:Rows.fnExactRingNewRow.holds Tryd.pinned (OpenSpec.ofChange Rows.fnExactRingNewSpec) :=
  OpenClaim.holds_of_wide 3 Tryd.f3 rfl rfl rfl rfl rfl rfl rfl ⟨rfl,rfl,rfl,rfl,rfl⟩ rfl rfl rfl rfl rfl (by kernel_rfl) Tryd.func3 (by kernel_rfl)
    (of_decide_eq_true (by kernel_rfl)) (by unfold Func.isWrapper;first | (rw [if_pos (by decide +kernel)];kernel_rfl) | (rw [if_neg (by decide +kernel)];exact ⟨rfl,rfl⟩))
    (fun os started H enc _=>lifted os started H enc)
theorem proved:Rows.FnExactRingNewSaid:=over
theorem card:Rows.FnExactRingNewCardSaid :=
  Claim7.holds_tied_plain_at .later [] [.data,.data,.data] true (true, "04c657a4273198521dd21b683870fc34c9a056806fe1bb8915cf020c2ff00ca4") false proved (fun _ h=>by cases h) (by kernel_rfl) (fun _ h=>by cases h) fnExactRingNew_row_tie rfl ⟨rfl,rfl⟩ (by kernel_rfl) rfl
    (fun f fn hf hfn=>by
      obtain rfl:f=3:=Option.some.inj ((show Tryd.prog.funcNamed Rows.fnExactRingNewRow.func=some 3 by kernel_rfl).symm.trans hf) |>.symm
      obtain rfl:fn=Tryd.f3:=(Option.some.inj (Tryd.func3.symm.trans hfn)).symm
      exact ⟨by kernel_rfl,fun j t ht=>by
        rw [Tryd.params3] at ht
        have h_:t ∈ [2,2]:=by have:=Array.mem_of_getElem? ht;simpa using this
        have hs_:∀ x ∈ [2,2],Tryd.prog.wantsStandIn x=false:=by
          intro x hx
          simp only [List.mem_cons,List.not_mem_nil,or_false] at hx
          rcases hx with rfl | rfl <;> kernel_rfl
        exact hs_ t h_⟩)
    (by kernel_rfl)
#print axioms card
#print axioms proved
end Go.Proofs.YtelecnmflodkkaaDoor.fnExactRingNew
namespace Go.Proofs.YtelecnmflodkkaaDoor
/-- The row, under a short name, for the claim. -/
theorem fnExactRingNew_holds:Rows.FnExactRingNewCardSaid:=fnExactRingNew.card
end Go.Proofs.YtelecnmflodkkaaDoor
