/- For all texts the program's SetRead and the reference's return the same, of its own memory. No condition. (Part 5 of 5: written by programs of this workplace and by hand, merged.) -/
import Derived.Test.YtconpopbpphpgaaMFnExactSetReada
import Derived.Test.YtconpopbpphpgaaMFnExactSetReadd
import Derived.Test.YtconpopbpphpgaaMFnExactSetReadb
import Derived.Test.YtconpopbpphpgaaMFnExactSetReadWWords
import Derived.Test.YtconpopbpphpgaaMFnExactSetReadWMore
import Derived.Laws.BitsLemmas
import Derived.Test.YtconpopbpphpgaaMFnExactSetReadc
import Derived.Test.YtconpopbpphpgaaRows
import Derived.WalkKit
import Derived.ProofKit
import Derived.OpenShut
import Derived.ShutString
import Derived.ChangeOld
import Derived.Below
import Derived.SizedLaws
set_option linter.unusedVariables false
set_option linter.unusedSimpArgs false

namespace Go.Proofs.Ytconpopbpphpgaa.P
open Go.RowKit Go.Proofs.YtconpopbpphpgaaW.PrintWords Go.Proofs.YtconpopbpphpgaaW.PrintLast Go.Proofs.YtconpopbpphpgaaW.PrintMore
attribute [local go_sem] max2_int min2_int max_two min_two max_three min_three max_four min_four   -- for this text's walks alone
set_option linter.unusedVariables false
set_option linter.unusedSimpArgs false

/-! ### laws_heldSibS: function 184 -/
def laws_heldSibS.l0 : Nat → List (S158) → Int → Int → Option (Int)
 | 0, _, _, _ => none
 | k + 1, x0, x1, x5 => if x5 < (x0.length : Int) then (if 0 ≤ x5 then (if ((rd_T158 x0 x5).f0.f0) = x1 then (if ((rd_T158 x0 x5).f0.f1) = (wrap64 (x1 + 1)) then (if (((rd_T158 x0 x5).f1) != ((Int.tmod (wrap64 ((wrap64 (x1 + 1)) + 1)) 3) == 0)) = true then (none) else ((laws_markText.f k (wrap64 ((wrap64 ((wrap64 (x1 + 1)) + 1)) + 1))).bind fun t848 => (if ((rd_T158 x0 x5).f2).toList = t848.toList then (laws_heldSibS.l0 k x0 (wrap64 ((wrap64 ((wrap64 ((wrap64 (x1 + 1)) + 1)) + 1)) + 1)) (wrap64 (x5 + 1))) else (none)))) else (none)) else (none)) else (none)) else (some x1)
def laws_heldSibS.f (k : Nat) (l0 : List (S158)) (a1 : Int) : Option (Int) := laws_heldSibS.l0 k l0 a1 0
theorem laws_heldSibS.mono_l : ∀ k, (∀ y0 y1 y2, LeO (laws_heldSibS.l0 k y0 y1 y2) (laws_heldSibS.l0 (k + 1) y0 y1 y2))
 | 0 => fun _ _ _ r h => by simp [laws_heldSibS.l0] at h
 | k + 1 => by
  have ih0 := laws_heldSibS.mono_l k
  ·intro y0 y1 y2
   unfold laws_heldSibS.l0
   repeat' first
   | (with_reducible exact ih0 _ _ _)
   | (with_reducible exact laws_markText.mono _ _)
   | (with_reducible exact LeO.refl _)
   | (with_reducible exact LeO.none _)
   | (with_reducible refine LeO.ite ?_ ?_)
   | (with_reducible refine LeO.bind ?_ (fun _ => ?_))
   | exact ih0 _ _ _
   | exact laws_markText.mono _ _
   | exact LeO.none _
   | refine LeO.ite ?_ ?_
   | refine LeO.bind ?_ (fun _ => ?_)
theorem laws_heldSibS.mono : ∀ a0 a1 k, LeO (laws_heldSibS.f k a0 a1) (laws_heldSibS.f (k + 1) a0 a1) := by
 intro a0 a1 k
 have ih0 := laws_heldSibS.mono_l k
 unfold laws_heldSibS.f
 repeat' first
   | (with_reducible exact ih0 _ _ _)
   | (with_reducible exact laws_markText.mono _ _)
   | (with_reducible exact LeO.refl _)
   | (with_reducible exact LeO.none _)
   | (with_reducible refine LeO.ite ?_ ?_)
   | (with_reducible refine LeO.bind ?_ (fun _ => ?_))
   | exact ih0 _ _ _
   | exact laws_markText.mono _ _
   | exact LeO.none _
   | refine LeO.ite ?_ ?_
   | refine LeO.bind ?_ (fun _ => ?_)
def laws_heldSibS.T13 : Bool × List (List Nat × List Nat) := (true, [([], []), ([], []), ([0, 1], [0, 1]), ([2], [2]), ([3], [3]), ([], []), ([5], [5]), ([4, 6], [4, 6])])
def laws_heldSibS.B13 : List Nat := [0, 0, 3, 7, 15, 0, 32, 127]
theorem laws_heldSibS.tab13 : rtab .any (opsOf Try.f184 13) = laws_heldSibS.T13 := by kernel_rfl
theorem laws_heldSibS.bits13 : waitsOk laws_heldSibS.T13.2 laws_heldSibS.B13 = true := by kernel_rfl
set_option maxHeartbeats 8000000 in
set_option maxRecDepth 100000 in
theorem laws_heldSibS.calls (k : Nat) (A0 : Option Addr) (c0 : Nat) (l0 : List (S158)) (a1 : Int) (r : Int) (w : World) (hr0 : Kd.C k158 w A0 l0.length l0) (hc0 : l0.length ≤ c0) (h : laws_heldSibS.f k l0 a1 = some r) :
  Calls Try.prog 184 #[.slice A0 l0.length c0, .int .i64 a1] w fun e w' => e = .returned (.int .i64 r) ∧ Below w.heap.size w w' := by
 have HR0 := Aside0.mk hr0
 have HC0 := Aside0.mk hc0
 clear hr0 hc0
 have HB := Aside0.mk (Below.refl w.heap.size w)
 have H : (laws_heldSibS.l0 k l0 a1 0) = some r := h
 clear h
 have H' := Aside0.mk H
 clear H
 go_enter Try.func184, Try.ntmps184
 go_wp2
 go_loopg [1, 5] k (fun kq v1 v5 w' => ∃ (x1_1 : Int) (x5_1 : Int), v1 = .int .i64 x1_1 ∧ v5 = .int .i64 x5_1 ∧ Aside0 (laws_heldSibS.l0 kq l0 x1_1 x5_1 = some r) ∧ Aside0 (kq ≤ k) ∧ Aside0 (Below w.heap.size w w'))
 case atStart => exact ⟨(a1), (0), (z2_), (z2_), H', ⟨Nat.le_refl _⟩, ⟨z5_ HB.out⟩⟩
 case round =>
  clear H'
  try clear c1
  try clear p2
  obtain ⟨x1_1, x5_1, rfl, rfl, HA, HK1, HB⟩ := hrel
  cases gk with
  | zero => exact absurd HA.out (by simp [laws_heldSibS.l0])
  | succ k1 =>
   have H := HA.out
   clear HA
   simp only [laws_heldSibS.l0] at H
   by_cases c3 : x5_1 < (l0.length : Int)
   ·rw [if_pos c3] at H
    have c3b0 : decide (x5_1 < (l0.length : Int)) = true := decide_eq_true c3
    clear c3
    by_cases c4 : 0 ≤ x5_1
    ·rw [if_pos c4] at H
     have c4b0 : decide (0 ≤ x5_1) = true := decide_eq_true c4
     clear c4
     by_cases c5 : ((rd_T158 l0 x5_1).f0.f0) = x1_1
     ·rw [if_pos c5] at H
      have c5b0 : (((rd_T158 l0 x5_1).f0.f0) == x1_1) = true := beq_iff_eq.mpr c5
      have c5b1 : (((rd_T158 l0 x5_1).f0.f0) != x1_1) = false := bne_eq_false_iff_eq.mpr c5
      clear c5
      by_cases c6 : ((rd_T158 l0 x5_1).f0.f1) = (wrap64 (x1_1 + 1))
      ·rw [if_pos c6] at H
       have c6b0 : (((rd_T158 l0 x5_1).f0.f1) == (wrap64 (x1_1 + 1))) = true := beq_iff_eq.mpr c6
       have c6b1 : (((rd_T158 l0 x5_1).f0.f1) != (wrap64 (x1_1 + 1))) = false := bne_eq_false_iff_eq.mpr c6
       clear c6
       by_cases c7 : (((rd_T158 l0 x5_1).f1) != ((Int.tmod (wrap64 ((wrap64 (x1_1 + 1)) + 1)) 3) == 0)) = true
       ·rw [if_pos c7] at H
        exact absurd H (by simp)
       ·rw [if_neg c7] at H
        have c7b0 : (((rd_T158 l0 x5_1).f1) != ((Int.tmod (wrap64 ((wrap64 (x1_1 + 1)) + 1)) 3) == 0)) = false := by simpa using c7
        (try (have c7b1 : decide (((rd_T158 l0 x5_1).f1) = ((Int.tmod (wrap64 ((wrap64 (x1_1 + 1)) + 1)) 3) == 0)) = true := by simpa using c7))
        (try (have c7b2 : (((rd_T158 l0 x5_1).f1) == ((Int.tmod (wrap64 ((wrap64 (x1_1 + 1)) + 1)) 3) == 0)) = true := by simpa using c7))
        clear c7
        replace H := Option.bind_eq_some_iff.mp H
        obtain ⟨t848, A80, H⟩ := H
        replace H : (if ((rd_T158 l0 x5_1).f2).toList = t848.toList then (laws_heldSibS.l0 k1 l0 (wrap64 ((wrap64 ((wrap64 ((wrap64 (x1_1 + 1)) + 1)) + 1)) + 1)) (wrap64 (x5_1 + 1))) else (none)) = some r := H
        have A8 := Aside0.mk A80
        clear A80
        by_cases c9 : ((rd_T158 l0 x5_1).f2).toList = t848.toList
        ·rw [if_pos c9] at H
         have c9b0 : (((rd_T158 l0 x5_1).f2).toList == t848.toList) = true := beq_iff_eq.mpr c9
         have c9b1 : (((rd_T158 l0 x5_1).f2).toList != t848.toList) = false := bne_eq_false_iff_eq.mpr c9
         clear c9
         have H' := Aside0.mk H
         clear H
         have p844 : 0 ≤ (x5_1 : Int) := of_decide_eq_true (z3_)
         have q844 : x5_1 < (l0.length : Int) := of_decide_eq_true (z3_)
         obtain ⟨ad844, e844, hx844_0, hx844_1, hx844_2, hx844_3⟩ := at_T158 HR0.out x5_1 p844 q844
         cases e844
         replace hx844_0 := (HB.out.cell (World.block_lt_of_cell? w _ hx844_0)).trans hx844_0
         replace hx844_1 := (HB.out.cell (World.block_lt_of_cell? w _ hx844_1)).trans hx844_1
         replace hx844_2 := (HB.out.cell (World.block_lt_of_cell? w _ hx844_2)).trans hx844_2
         replace hx844_3 := (HB.out.cell (World.block_lt_of_cell? w _ hx844_3)).trans hx844_3
         replace p844 := eq_true p844
         replace q844 := eq_true q844
         have p845 : 0 ≤ (x5_1 : Int) := of_decide_eq_true (z3_)
         have q845 : x5_1 < (l0.length : Int) := of_decide_eq_true (z3_)
         obtain ⟨ad845, e845, hx845_0, hx845_1, hx845_2, hx845_3⟩ := at_T158 HR0.out x5_1 p845 q845
         obtain rfl : ad844 = ad845 := (by injection e845)
         replace hx845_0 := (HB.out.cell (World.block_lt_of_cell? w _ hx845_0)).trans hx845_0
         replace hx845_1 := (HB.out.cell (World.block_lt_of_cell? w _ hx845_1)).trans hx845_1
         replace hx845_2 := (HB.out.cell (World.block_lt_of_cell? w _ hx845_2)).trans hx845_2
         replace hx845_3 := (HB.out.cell (World.block_lt_of_cell? w _ hx845_3)).trans hx845_3
         replace p845 := eq_true p845
         replace q845 := eq_true q845
         have p846 : 0 ≤ (x5_1 : Int) := of_decide_eq_true (z3_)
         have q846 : x5_1 < (l0.length : Int) := of_decide_eq_true (z3_)
         obtain ⟨ad846, e846, hx846_0, hx846_1, hx846_2, hx846_3⟩ := at_T158 HR0.out x5_1 p846 q846
         obtain rfl : ad844 = ad846 := (by injection e846)
         replace hx846_0 := (HB.out.cell (World.block_lt_of_cell? w _ hx846_0)).trans hx846_0
         replace hx846_1 := (HB.out.cell (World.block_lt_of_cell? w _ hx846_1)).trans hx846_1
         replace hx846_2 := (HB.out.cell (World.block_lt_of_cell? w _ hx846_2)).trans hx846_2
         replace hx846_3 := (HB.out.cell (World.block_lt_of_cell? w _ hx846_3)).trans hx846_3
         replace p846 := eq_true p846
         replace q846 := eq_true q846
         try go_wp2
         have n0_ := Aside0.mk (below_drew1 HB.out)
         clear HB
         have HB := n0_
         clear n0_
         have p847 : 0 ≤ (x5_1 : Int) := of_decide_eq_true (z3_)
         have q847 : x5_1 < (l0.length : Int) := of_decide_eq_true (z3_)
         obtain ⟨ad847, e847, hx847_0, hx847_1, hx847_2, hx847_3⟩ := at_T158 HR0.out x5_1 p847 q847
         have hw847_3 := hx847_3
         have hw847_2 := hx847_2
         have hw847_1 := hx847_1
         have hw847_0 := hx847_0
         obtain rfl : ad844 = ad847 := (by injection e847)
         replace hx847_0 := (HB.out.cell (World.block_lt_of_cell? w _ hx847_0)).trans hx847_0
         replace hx847_1 := (HB.out.cell (World.block_lt_of_cell? w _ hx847_1)).trans hx847_1
         replace hx847_2 := (HB.out.cell (World.block_lt_of_cell? w _ hx847_2)).trans hx847_2
         replace hx847_3 := (HB.out.cell (World.block_lt_of_cell? w _ hx847_3)).trans hx847_3
         replace p847 := eq_true p847
         replace q847 := eq_true q847
         refine start_ (n := 8) (S := fun w' => w'.cell? (ad844.add ((x5_1).toNat * 4)) = some (.int .i64 ((rd_T158 l0 x5_1).f0.f0)) ∧ w'.cell? ⟨(ad844.add ((x5_1).toNat * 4)).block, (ad844.add ((x5_1).toNat * 4)).off + 1, none⟩ = some (.int .i64 ((rd_T158 l0 x5_1).f0.f1)) ∧ w'.cell? ⟨(ad844.add ((x5_1).toNat * 4)).block, (ad844.add ((x5_1).toNat * 4)).off + 2, none⟩ = some (.bool ((rd_T158 l0 x5_1).f1)) ∧ w'.cell? ⟨(ad844.add ((x5_1).toNat * 4)).block, (ad844.add ((x5_1).toNat * 4)).off + 3, none⟩ = some (.string ((rd_T158 l0 x5_1).f2))) (ds := []) #[false, false, false, false, false, false, false, false] (by kernel_rfl) rfl rfl ⟨((HB.out.cell (World.block_lt_of_cell? w _ hw847_0)).trans hw847_0), ((HB.out.cell (World.block_lt_of_cell? w _ hw847_1)).trans hw847_1), ((HB.out.cell (World.block_lt_of_cell? w _ hw847_2)).trans hw847_2), ((HB.out.cell (World.block_lt_of_cell? w _ hw847_3)).trans hw847_3)⟩ (fun hHeld => ?_); refine with_tabW laws_heldSibS.tab13 laws_heldSibS.bits13 (fun HT_ HW_ => ?_)
         generalize wr.drew = w10 at HB hx847_0 hx847_1 hx847_2 hx847_3 hHeld ⊢
         refine pu_ 0 43 #[true, false, false, false, false, false, false, false] HT_.out ?_
         refine pu_ 1 44 #[true, true, false, false, false, false, false, false] HT_.out ?_
         refine pu_ 2 45 #[true, true, true, false, false, false, false, false] HT_.out ?_
         refine pu_ 3 46 #[true, true, true, true, false, false, false, false] HT_.out ?_
         refine pu_ 5 48 #[true, true, true, true, false, true, false, false] HT_.out ?_
         refine tk4_ 4 47 #[true, true, true, true, true, true, false, false] HT_.out HW_.out hHeld ?_
         refine one_ (i := 6) (N := some 49) #[true, true, true, true, true, true, true, false] rfl rfl (one_of HT_.out (by kernel_rfl)) (by decide) (fun K hK => ?_)
         refine goes_ Try.func82 (by kernel_rfl) rfl #[.int .i64 (wrap64 ((wrap64 ((wrap64 (x1_1 + 1)) + 1)) + 1))] (by rfl) rfl rfl (z0_) ?_
         with_reducible refine (laws_markText.calls k1 (wrap64 ((wrap64 ((wrap64 (x1_1 + 1)) + 1)) + 1)) t848 _ A8.out).mono ?_
         rintro e w11 ⟨rfl, hb⟩
         refine ⟨_, rfl, ?_⟩
         have n0_ := Aside0.mk (below_step (z5_ HB.out) hb)
         clear HB
         have HB := n0_
         clear n0_
         (try clear hb)
         (try clear hb2)
         (try clear hk)
         (try clear hi)
         refine hK.out _ _ ⟨((HB.out.cell (World.block_lt_of_cell? w _ hw847_0)).trans hw847_0), ((HB.out.cell (World.block_lt_of_cell? w _ hw847_1)).trans hw847_1), ((HB.out.cell (World.block_lt_of_cell? w _ hw847_2)).trans hw847_2), ((HB.out.cell (World.block_lt_of_cell? w _ hw847_3)).trans hw847_3)⟩ (fun hHeld => ?_)
         clear hK K
         refine norm_ (a' := ?_) ?_ ?_
         rotate_left
         ·show Act.put _ (some 49) _ = _
          simp only [Act.put, sa_, s0_, ss_, i64_w, i32_w]
          rfl
         refine pu_ 7 50 #[true, true, true, true, true, true, true, true] HT_.out ?_
         refine done_ (done_of HT_.out (by kernel_rfl)) ?_
         try go_wp2
         go_roundg k1
         case measure => have := HK1.out; omega
         case rel => exact ⟨(wrap64 ((wrap64 ((wrap64 ((wrap64 (x1_1 + 1)) + 1)) + 1)) + 1)), (wrap64 (x5_1 + 1)), (z2_), (z2_), H', ⟨by have := HK1.out; omega⟩, ⟨z5_ HB.out⟩⟩
        ·rw [if_neg c9] at H
         exact absurd H (by simp)
      ·rw [if_neg c6] at H
       exact absurd H (by simp)
     ·rw [if_neg c5] at H
      exact absurd H (by simp)
    ·rw [if_neg c4] at H
     exact absurd H (by simp)
   ·rw [if_neg c3] at H
    have c3b0 : decide (x5_1 < (l0.length : Int)) = false := decide_eq_false c3
    clear c3
    obtain rfl := Option.some.inj H
    go_wp2
    go_ret
    exact ⟨z8_, z5_ HB.out⟩


/-! ### laws_heldSet: function 137 -/
def laws_heldSet.f (k : Nat) (l0_0 : List (S33)) (l0_1 : List (S158)) (a1 : Int) : Option (Int) := (laws_heldMarkS.f k l0_0 a1).bind fun t850 => (if t850 < 0 then (none) else ((laws_heldSibS.f k l0_1 t850).bind fun t851 => (if t851 < 0 then (none) else (some t851))))
theorem laws_heldSet.mono : ∀ a0 a1 a2 k, LeO (laws_heldSet.f k a0 a1 a2) (laws_heldSet.f (k + 1) a0 a1 a2) := by
 intro a0 a1 a2 k
 unfold laws_heldSet.f
 repeat' first
   | (with_reducible exact laws_heldMarkS.mono _ _ _)
   | (with_reducible exact laws_heldSibS.mono _ _ _)
   | (with_reducible exact LeO.refl _)
   | (with_reducible exact LeO.none _)
   | (with_reducible refine LeO.ite ?_ ?_)
   | (with_reducible refine LeO.bind ?_ (fun _ => ?_))
   | exact laws_heldMarkS.mono _ _ _
   | exact laws_heldSibS.mono _ _ _
   | exact LeO.none _
   | refine LeO.ite ?_ ?_
   | refine LeO.bind ?_ (fun _ => ?_)
set_option maxHeartbeats 8000000 in
set_option maxRecDepth 100000 in
theorem laws_heldSet.calls (k : Nat) (A0_0 : Option Addr) (c0_0 : Nat) (l0_0 : List (S33)) (A0_1 : Option Addr) (c0_1 : Nat) (l0_1 : List (S158)) (a1 : Int) (r : Int) (w : World) (hr0_0 : Kd.C k33 w A0_0 l0_0.length l0_0) (hc0_0 : l0_0.length ≤ c0_0) (hr0_1 : Kd.C k158 w A0_1 l0_1.length l0_1) (hc0_1 : l0_1.length ≤ c0_1) (h : laws_heldSet.f k l0_0 l0_1 a1 = some r) :
  Calls Try.prog 137 #[.agg #[.slice A0_0 l0_0.length c0_0, .slice A0_1 l0_1.length c0_1], .int .i64 a1] w fun e w' => e = .returned (.int .i64 r) ∧ Below w.heap.size w w' := by
 have hu60 := Try.underlying60
 have HR0_0 := Aside0.mk hr0_0
 have HC0_0 := Aside0.mk hc0_0
 clear hr0_0 hc0_0
 have HR0_1 := Aside0.mk hr0_1
 have HC0_1 := Aside0.mk hc0_1
 clear hr0_1 hc0_1
 have HB := Aside0.mk (Below.refl w.heap.size w)
 have H : ((laws_heldMarkS.f k l0_0 a1).bind fun t850 => (if t850 < 0 then (none) else ((laws_heldSibS.f k l0_1 t850).bind fun t851 => (if t851 < 0 then (none) else (some t851))))) = some r := h
 clear h
 replace H := Option.bind_eq_some_iff.mp H
 obtain ⟨t850, A30, H⟩ := H
 replace H : (if t850 < 0 then (none) else ((laws_heldSibS.f k l0_1 t850).bind fun t851 => (if t851 < 0 then (none) else (some t851)))) = some r := H
 have A3 := Aside0.mk A30
 clear A30
 by_cases c4 : t850 < 0
 ·rw [if_pos c4] at H
  exact absurd H (by simp)
 ·rw [if_neg c4] at H
  have c4b0 : decide (t850 < 0) = false := decide_eq_false c4
  clear c4
  replace H := Option.bind_eq_some_iff.mp H
  obtain ⟨t851, A50, H⟩ := H
  replace H : (if t851 < 0 then (none) else (some t851)) = some r := H
  have A5 := Aside0.mk A50
  clear A50
  by_cases c6 : t851 < 0
  ·rw [if_pos c6] at H
   exact absurd H (by simp)
  ·rw [if_neg c6] at H
   have c6b0 : decide (t851 < 0) = false := decide_eq_false c6
   clear c6
   obtain rfl := Option.some.inj H
   go_enter Try.func137, Try.ntmps137
   go_wp2_with (first | ((with_reducible refine gate_dst (N := 2) rfl ?_); refine box_event ?hg (N := 2) ?hd (cs := #[.slice A0_0 l0_0.length c0_0, .slice A0_1 l0_1.length c0_1]) (t := 60) ?hr ?_; (case hd => rfl); (case hg => rfl); (case hr => first | (go_simp; done) | (go_simp; rfl)); intro gb849 hg w7 hbox hb; have n_ := as4_ (below_step (z5_ HB.out) hb) (hbox) ((z7_ HB.out : w.heap.size ≤ gb849)) ((z7_ HB.out : w.heap.size ≤ gb849)); clear HB; have ⟨HB, BK849, GW849, GE849⟩ := n_; clear n_; clear hb hbox hg; have hcz8_0 : w7.cell? ⟨gb849, 0, none⟩ = some (.slice A0_0 l0_0.length c0_0) := (blk_cell BK849.out 0).trans rfl; have hcz8_1 : w7.cell? ⟨gb849, 1, none⟩ = some (.slice A0_1 l0_1.length c0_1) := (blk_cell BK849.out 1).trans rfl; have hfz8_0 := blk_frozen BK849.out 0; have hfz8_1 := blk_frozen BK849.out 1) | ((with_reducible refine gate_callee (f := 130) rfl ?_); refine goesL_ (some 8) rfl rfl Try.func130 (by kernel_rfl) rfl #[.slice A0_0 l0_0.length c0_0, .int .i64 a1] rfl (z0_) ?_; (with_reducible refine (laws_heldMarkS.calls k _ _ l0_0 a1 t850 _ ?side1 ?side2 A3.out).mono ?_); (case side1 => exact z12_ HR0_0.out HB.out); (case side2 => exact HC0_0.out); rintro e w' ⟨rfl, ⟨nd, rfl⟩⟩; refine ⟨_, rfl, ?_⟩) | ((with_reducible refine gate_callee (f := 184) rfl ?_); refine goesL_ (some 14) rfl rfl Try.func184 (by kernel_rfl) rfl #[.slice A0_1 l0_1.length c0_1, .int .i64 t850] rfl (z0_) ?_; (with_reducible refine (laws_heldSibS.calls k _ _ l0_1 t850 t851 _ ?side1 ?side2 A5.out).mono ?_); (case side1 => repeat (first | exact (Kd.C_below HR0_1.out (by repeat (first | (with_reducible first | exact HB.out | apply below_alloc | apply pw_below_drewN | apply below_drew1 | refine below_set ?_ GE849.out) | exact HB.out))) | (with_reducible refine Kd.C_alloc ?_ _) | (with_reducible refine Kd.C_drewN ?_ _) | (with_reducible refine Kd.C_drew ?_))); (case side2 => exact HC0_1.out); rintro e w9 ⟨rfl, hb⟩; refine ⟨_, rfl, ?_⟩; have n_ := as2_ (blkB_ BK849.out hb) (below_step (z1_ HB.out GE849.out) hb); clear BK849 HB; have ⟨BK849, HB⟩ := n_; clear n_; (try clear hb); (try clear hb2); (try clear hk); (try clear hi)))
   go_ret
   exact ⟨z8_, z1_ HB.out GE849.out⟩


/-! ### laws_heldSetOut: function 67 -/
def laws_heldSetOut.f (k : Nat) (l0_0 : List (S33)) (l0_1 : List (S158)) (a0_2 : Int) (a0_3 : Int) (a0_4 : Int) (a1 : Int) : Option (Int) := (laws_heldSet.f k l0_0 l0_1 a1).bind fun t1144 => (if t1144 < 0 then (none) else (some t1144))
theorem laws_heldSetOut.mono : ∀ a0 a1 a2 a3 a4 a5 k, LeO (laws_heldSetOut.f k a0 a1 a2 a3 a4 a5) (laws_heldSetOut.f (k + 1) a0 a1 a2 a3 a4 a5) := by
 intro a0 a1 a2 a3 a4 a5 k
 unfold laws_heldSetOut.f
 repeat' first
   | (with_reducible exact laws_heldSet.mono _ _ _ _)
   | (with_reducible exact LeO.refl _)
   | (with_reducible exact LeO.none _)
   | (with_reducible refine LeO.ite ?_ ?_)
   | (with_reducible refine LeO.bind ?_ (fun _ => ?_))
   | exact laws_heldSet.mono _ _ _ _
   | exact LeO.none _
   | refine LeO.ite ?_ ?_
   | refine LeO.bind ?_ (fun _ => ?_)
set_option maxHeartbeats 8000000 in
set_option maxRecDepth 100000 in
theorem laws_heldSetOut.calls (k : Nat) (A0_0 : Option Addr) (c0_0 : Nat) (l0_0 : List (S33)) (A0_1 : Option Addr) (c0_1 : Nat) (l0_1 : List (S158)) (a0_2 : Int) (a0_3 : Int) (a0_4 : Int) (a1 : Int) (r : Int) (w : World) (hr0_0 : Kd.C k33 w A0_0 l0_0.length l0_0) (hc0_0 : l0_0.length ≤ c0_0) (hr0_1 : Kd.C k158 w A0_1 l0_1.length l0_1) (hc0_1 : l0_1.length ≤ c0_1) (h : laws_heldSetOut.f k l0_0 l0_1 a0_2 a0_3 a0_4 a1 = some r) :
  Calls Try.prog 67 #[.agg #[.slice A0_0 l0_0.length c0_0, .slice A0_1 l0_1.length c0_1, .int .i64 a0_2, .int .i64 a0_3, .int .i64 a0_4], .int .i64 a1] w fun e w' => e = .returned (.int .i64 r) ∧ Below w.heap.size w w' := by
 have hu87 := Try.underlying87
 have hu60 := Try.underlying60
 have HR0_0 := Aside0.mk hr0_0
 have HC0_0 := Aside0.mk hc0_0
 clear hr0_0 hc0_0
 have HR0_1 := Aside0.mk hr0_1
 have HC0_1 := Aside0.mk hc0_1
 clear hr0_1 hc0_1
 have HB := Aside0.mk (Below.refl w.heap.size w)
 have H : ((laws_heldSet.f k l0_0 l0_1 a1).bind fun t1144 => (if t1144 < 0 then (none) else (some t1144))) = some r := h
 clear h
 replace H := Option.bind_eq_some_iff.mp H
 obtain ⟨t1144, A30, H⟩ := H
 replace H : (if t1144 < 0 then (none) else (some t1144)) = some r := H
 have A3 := Aside0.mk A30
 clear A30
 by_cases c4 : t1144 < 0
 ·rw [if_pos c4] at H
  exact absurd H (by simp)
 ·rw [if_neg c4] at H
  have c4b0 : decide (t1144 < 0) = false := decide_eq_false c4
  clear c4
  obtain rfl := Option.some.inj H
  go_enter Try.func67, Try.ntmps67
  go_wp2_with (first | ((with_reducible refine gate_dst (N := 2) rfl ?_); refine box_event ?hg (N := 2) ?hd (cs := #[.slice A0_0 l0_0.length c0_0, .slice A0_1 l0_1.length c0_1, .int .i64 a0_2, .int .i64 a0_3, .int .i64 a0_4]) (t := 87) ?hr ?_; (case hd => rfl); (case hg => rfl); (case hr => first | (go_simp; done) | (go_simp; rfl)); intro gb1143 hg w5 hbox hb; have n_ := as4_ (below_step (z5_ HB.out) hb) (hbox) ((z7_ HB.out : w.heap.size ≤ gb1143)) ((z7_ HB.out : w.heap.size ≤ gb1143)); clear HB; have ⟨HB, BK1143, GW1143, GE1143⟩ := n_; clear n_; clear hb hbox hg; have hcz6_0 : w5.cell? ⟨gb1143, 0, none⟩ = some (.slice A0_0 l0_0.length c0_0) := (blk_cell BK1143.out 0).trans rfl; have hcz6_1 : w5.cell? ⟨gb1143, 1, none⟩ = some (.slice A0_1 l0_1.length c0_1) := (blk_cell BK1143.out 1).trans rfl; have hcz6_2 : w5.cell? ⟨gb1143, 2, none⟩ = some (.int .i64 a0_2) := (blk_cell BK1143.out 2).trans rfl; have hcz6_3 : w5.cell? ⟨gb1143, 3, none⟩ = some (.int .i64 a0_3) := (blk_cell BK1143.out 3).trans rfl; have hcz6_4 : w5.cell? ⟨gb1143, 4, none⟩ = some (.int .i64 a0_4) := (blk_cell BK1143.out 4).trans rfl; have hfz6_0 := blk_frozen BK1143.out 0; have hfz6_1 := blk_frozen BK1143.out 1; have hfz6_2 := blk_frozen BK1143.out 2; have hfz6_3 := blk_frozen BK1143.out 3; have hfz6_4 := blk_frozen BK1143.out 4) | ((with_reducible refine gate_callee (f := 137) rfl ?_); refine goesL_ (some 8) rfl rfl Try.func137 (by kernel_rfl) rfl #[.agg #[.slice A0_0 l0_0.length c0_0, .slice A0_1 l0_1.length c0_1], .int .i64 a1] rfl (z0_) ?_; (with_reducible refine (laws_heldSet.calls k _ _ l0_0 _ _ l0_1 a1 t1144 _ ?side1 ?side2 ?side3 ?side4 A3.out).mono ?_); (case side1 => exact z12_ HR0_0.out HB.out); (case side2 => exact HC0_0.out); (case side3 => exact z12_ HR0_1.out HB.out); (case side4 => exact HC0_1.out); rintro e w7 ⟨rfl, hb⟩; refine ⟨_, rfl, ?_⟩; have n_ := as2_ (blkB_ BK1143.out hb) (below_step (z1_ HB.out GE1143.out) hb); clear BK1143 HB; have ⟨BK1143, HB⟩ := n_; clear n_; (try clear hb); (try clear hb2); (try clear hk); (try clear hi)))
  go_ret
  exact ⟨z8_, z1_ HB.out GE1143.out⟩


/-! ### laws_FnExactSetRead: function 7 -/
def laws_FnExactSetRead.f (k : Nat) (a0 : ByteArray) : Option (Bool) := if (a0.size : Int) > 1048576 then (some true) else ((spec_SetRead.f k a0).bind fun bt1145 => ((impl_SetRead.f k a0).bind fun bt1155 => ((laws_eqSetOut.f k bt1155.1 bt1155.2.1 bt1155.2.2.1 bt1155.2.2.2.1 bt1155.2.2.2.2 bt1145.1 bt1145.2.1 bt1145.2.2.1 bt1145.2.2.2.1 bt1145.2.2.2.2).bind fun t1165 => (if t1165 = true then ((laws_markSetOut.f k bt1155.1 bt1155.2.1 bt1155.2.2.1 bt1155.2.2.2.1 bt1155.2.2.2.2 1).bind fun bt1166 => ((laws_heldSetOut.f k bt1166.2.1 bt1166.2.2 bt1155.2.2.1 bt1155.2.2.2.1 bt1155.2.2.2.2 1).bind fun t1169 => (if t1169 < 0 then (none) else (if t1169 = bt1166.1 then ((impl_SetRead.f k a0).bind fun bt1170 => ((laws_eqSetOut.f k bt1170.1 bt1170.2.1 bt1170.2.2.1 bt1170.2.2.2.1 bt1170.2.2.2.2 bt1145.1 bt1145.2.1 bt1145.2.2.1 bt1145.2.2.2.1 bt1145.2.2.2.2).bind fun t1180 => (if t1180 = true then ((laws_heldSetOut.f k bt1166.2.1 bt1166.2.2 bt1155.2.2.1 bt1155.2.2.2.1 bt1155.2.2.2.2 1).bind fun t1181 => (if t1181 < 0 then (none) else (if t1181 = bt1166.1 then (some true) else (none)))) else (none)))) else (none))))) else (none)))))
theorem laws_FnExactSetRead.mono : ∀ a0 k, LeO (laws_FnExactSetRead.f k a0) (laws_FnExactSetRead.f (k + 1) a0) := by
 intro a0 k
 unfold laws_FnExactSetRead.f
 repeat' first
   | (with_reducible exact impl_SetRead.mono _ _)
   | (with_reducible exact laws_eqSetOut.mono _ _ _ _ _ _ _ _ _ _ _)
   | (with_reducible exact laws_heldSetOut.mono _ _ _ _ _ _ _)
   | (with_reducible exact laws_markSetOut.mono _ _ _ _ _ _ _)
   | (with_reducible exact spec_SetRead.mono _ _)
   | (with_reducible exact LeO.refl _)
   | (with_reducible exact LeO.none _)
   | (with_reducible refine LeO.ite ?_ ?_)
   | (with_reducible refine LeO.bind ?_ (fun _ => ?_))
   | exact impl_SetRead.mono _ _
   | exact laws_eqSetOut.mono _ _ _ _ _ _ _ _ _ _ _
   | exact laws_heldSetOut.mono _ _ _ _ _ _ _
   | exact laws_markSetOut.mono _ _ _ _ _ _ _
   | exact spec_SetRead.mono _ _
   | exact LeO.none _
   | refine LeO.ite ?_ ?_
   | refine LeO.bind ?_ (fun _ => ?_)
set_option maxHeartbeats 8000000 in
set_option maxRecDepth 100000 in
theorem laws_FnExactSetRead.calls (k : Nat) (a0 : ByteArray) (r : Bool) (w : World) (h : laws_FnExactSetRead.f k a0 = some r) :
  Calls Try.prog 7 #[.string a0] w fun e w' => e = .returned (.bool r) ∧ Below w.heap.size w w' := by
 have hu87 := Try.underlying87
 have HB := Aside0.mk (Below.refl w.heap.size w)
 have H : (if (a0.size : Int) > 1048576 then (some true) else ((spec_SetRead.f k a0).bind fun bt1145 => ((impl_SetRead.f k a0).bind fun bt1155 => ((laws_eqSetOut.f k bt1155.1 bt1155.2.1 bt1155.2.2.1 bt1155.2.2.2.1 bt1155.2.2.2.2 bt1145.1 bt1145.2.1 bt1145.2.2.1 bt1145.2.2.2.1 bt1145.2.2.2.2).bind fun t1165 => (if t1165 = true then ((laws_markSetOut.f k bt1155.1 bt1155.2.1 bt1155.2.2.1 bt1155.2.2.2.1 bt1155.2.2.2.2 1).bind fun bt1166 => ((laws_heldSetOut.f k bt1166.2.1 bt1166.2.2 bt1155.2.2.1 bt1155.2.2.2.1 bt1155.2.2.2.2 1).bind fun t1169 => (if t1169 < 0 then (none) else (if t1169 = bt1166.1 then ((impl_SetRead.f k a0).bind fun bt1170 => ((laws_eqSetOut.f k bt1170.1 bt1170.2.1 bt1170.2.2.1 bt1170.2.2.2.1 bt1170.2.2.2.2 bt1145.1 bt1145.2.1 bt1145.2.2.1 bt1145.2.2.2.1 bt1145.2.2.2.2).bind fun t1180 => (if t1180 = true then ((laws_heldSetOut.f k bt1166.2.1 bt1166.2.2 bt1155.2.2.1 bt1155.2.2.2.1 bt1155.2.2.2.2 1).bind fun t1181 => (if t1181 < 0 then (none) else (if t1181 = bt1166.1 then (some true) else (none)))) else (none)))) else (none))))) else (none)))))) = some r := h
 clear h
 by_cases c2 : (a0.size : Int) > 1048576
 ·rw [if_pos c2] at H
  have c2b0 : decide (1048576 < (a0.size : Int)) = true := decide_eq_true c2
  have c2b1 : decide (1048576 < a0.size) = true := decide_eq_true (by omega)
  clear c2
  obtain rfl := Option.some.inj H
  go_enter Try.func7, Try.ntmps7
  go_wp2
  go_ret
  exact ⟨z8_, z5_ HB.out⟩
 ·rw [if_neg c2] at H
  have c2b0 : decide (1048576 < (a0.size : Int)) = false := decide_eq_false c2
  have c2b1 : decide (1048576 < a0.size) = false := decide_eq_false (by omega)
  clear c2
  replace H := Option.bind_eq_some_iff.mp H
  obtain ⟨⟨t1145, t1148, t1151, t1152, t1153⟩, A30, H⟩ := H
  replace H : ((impl_SetRead.f k a0).bind fun bt1155 => ((laws_eqSetOut.f k bt1155.1 bt1155.2.1 bt1155.2.2.1 bt1155.2.2.2.1 bt1155.2.2.2.2 t1145 t1148 t1151 t1152 t1153).bind fun t1165 => (if t1165 = true then ((laws_markSetOut.f k bt1155.1 bt1155.2.1 bt1155.2.2.1 bt1155.2.2.2.1 bt1155.2.2.2.2 1).bind fun bt1166 => ((laws_heldSetOut.f k bt1166.2.1 bt1166.2.2 bt1155.2.2.1 bt1155.2.2.2.1 bt1155.2.2.2.2 1).bind fun t1169 => (if t1169 < 0 then (none) else (if t1169 = bt1166.1 then ((impl_SetRead.f k a0).bind fun bt1170 => ((laws_eqSetOut.f k bt1170.1 bt1170.2.1 bt1170.2.2.1 bt1170.2.2.2.1 bt1170.2.2.2.2 t1145 t1148 t1151 t1152 t1153).bind fun t1180 => (if t1180 = true then ((laws_heldSetOut.f k bt1166.2.1 bt1166.2.2 bt1155.2.2.1 bt1155.2.2.2.1 bt1155.2.2.2.2 1).bind fun t1181 => (if t1181 < 0 then (none) else (if t1181 = bt1166.1 then (some true) else (none)))) else (none)))) else (none))))) else (none)))) = some r := H
  have A3 := Aside0.mk A30
  clear A30
  replace H := Option.bind_eq_some_iff.mp H
  obtain ⟨⟨t1155, t1158, t1161, t1162, t1163⟩, A40, H⟩ := H
  replace H : ((laws_eqSetOut.f k t1155 t1158 t1161 t1162 t1163 t1145 t1148 t1151 t1152 t1153).bind fun t1165 => (if t1165 = true then ((laws_markSetOut.f k t1155 t1158 t1161 t1162 t1163 1).bind fun bt1166 => ((laws_heldSetOut.f k bt1166.2.1 bt1166.2.2 t1161 t1162 t1163 1).bind fun t1169 => (if t1169 < 0 then (none) else (if t1169 = bt1166.1 then ((impl_SetRead.f k a0).bind fun bt1170 => ((laws_eqSetOut.f k bt1170.1 bt1170.2.1 bt1170.2.2.1 bt1170.2.2.2.1 bt1170.2.2.2.2 t1145 t1148 t1151 t1152 t1153).bind fun t1180 => (if t1180 = true then ((laws_heldSetOut.f k bt1166.2.1 bt1166.2.2 t1161 t1162 t1163 1).bind fun t1181 => (if t1181 < 0 then (none) else (if t1181 = bt1166.1 then (some true) else (none)))) else (none)))) else (none))))) else (none))) = some r := H
  have A4 := Aside0.mk A40
  clear A40
  replace H := Option.bind_eq_some_iff.mp H
  obtain ⟨t1165, A50, H⟩ := H
  replace H : (if t1165 = true then ((laws_markSetOut.f k t1155 t1158 t1161 t1162 t1163 1).bind fun bt1166 => ((laws_heldSetOut.f k bt1166.2.1 bt1166.2.2 t1161 t1162 t1163 1).bind fun t1169 => (if t1169 < 0 then (none) else (if t1169 = bt1166.1 then ((impl_SetRead.f k a0).bind fun bt1170 => ((laws_eqSetOut.f k bt1170.1 bt1170.2.1 bt1170.2.2.1 bt1170.2.2.2.1 bt1170.2.2.2.2 t1145 t1148 t1151 t1152 t1153).bind fun t1180 => (if t1180 = true then ((laws_heldSetOut.f k bt1166.2.1 bt1166.2.2 t1161 t1162 t1163 1).bind fun t1181 => (if t1181 < 0 then (none) else (if t1181 = bt1166.1 then (some true) else (none)))) else (none)))) else (none))))) else (none)) = some r := H
  have A5 := Aside0.mk A50
  clear A50
  by_cases c6 : t1165 = true
  ·subst c6
   have H1 : ((laws_markSetOut.f k t1155 t1158 t1161 t1162 t1163 1).bind fun bt1166 => ((laws_heldSetOut.f k bt1166.2.1 bt1166.2.2 t1161 t1162 t1163 1).bind fun t1169 => (if t1169 < 0 then (none) else (if t1169 = bt1166.1 then ((impl_SetRead.f k a0).bind fun bt1170 => ((laws_eqSetOut.f k bt1170.1 bt1170.2.1 bt1170.2.2.1 bt1170.2.2.2.1 bt1170.2.2.2.2 t1145 t1148 t1151 t1152 t1153).bind fun t1180 => (if t1180 = true then ((laws_heldSetOut.f k bt1166.2.1 bt1166.2.2 t1161 t1162 t1163 1).bind fun t1181 => (if t1181 < 0 then (none) else (if t1181 = bt1166.1 then (some true) else (none)))) else (none)))) else (none))))) = some r := by rw [if_pos rfl] at H; exact H
   clear H
   have H := H1
   clear H1
   replace H := Option.bind_eq_some_iff.mp H
   obtain ⟨⟨t1166, t1167, t1168⟩, A70, H⟩ := H
   replace H : ((laws_heldSetOut.f k t1167 t1168 t1161 t1162 t1163 1).bind fun t1169 => (if t1169 < 0 then (none) else (if t1169 = t1166 then ((impl_SetRead.f k a0).bind fun bt1170 => ((laws_eqSetOut.f k bt1170.1 bt1170.2.1 bt1170.2.2.1 bt1170.2.2.2.1 bt1170.2.2.2.2 t1145 t1148 t1151 t1152 t1153).bind fun t1180 => (if t1180 = true then ((laws_heldSetOut.f k t1167 t1168 t1161 t1162 t1163 1).bind fun t1181 => (if t1181 < 0 then (none) else (if t1181 = t1166 then (some true) else (none)))) else (none)))) else (none)))) = some r := H
   have A7 := Aside0.mk A70
   clear A70
   replace H := Option.bind_eq_some_iff.mp H
   obtain ⟨t1169, A80, H⟩ := H
   replace H : (if t1169 < 0 then (none) else (if t1169 = t1166 then ((impl_SetRead.f k a0).bind fun bt1170 => ((laws_eqSetOut.f k bt1170.1 bt1170.2.1 bt1170.2.2.1 bt1170.2.2.2.1 bt1170.2.2.2.2 t1145 t1148 t1151 t1152 t1153).bind fun t1180 => (if t1180 = true then ((laws_heldSetOut.f k t1167 t1168 t1161 t1162 t1163 1).bind fun t1181 => (if t1181 < 0 then (none) else (if t1181 = t1166 then (some true) else (none)))) else (none)))) else (none))) = some r := H
   have A8 := Aside0.mk A80
   clear A80
   by_cases c9 : t1169 < 0
   ·rw [if_pos c9] at H
    exact absurd H (by simp)
   ·rw [if_neg c9] at H
    have c9b0 : decide (t1169 < 0) = false := decide_eq_false c9
    clear c9
    by_cases c10 : t1169 = t1166
    ·rw [if_pos c10] at H
     have c10b0 : (t1169 == t1166) = true := beq_iff_eq.mpr c10
     have c10b1 : (t1169 != t1166) = false := bne_eq_false_iff_eq.mpr c10
     clear c10
     replace H := Option.bind_eq_some_iff.mp H
     obtain ⟨⟨t1170, t1173, t1176, t1177, t1178⟩, A110, H⟩ := H
     replace H : ((laws_eqSetOut.f k t1170 t1173 t1176 t1177 t1178 t1145 t1148 t1151 t1152 t1153).bind fun t1180 => (if t1180 = true then ((laws_heldSetOut.f k t1167 t1168 t1161 t1162 t1163 1).bind fun t1181 => (if t1181 < 0 then (none) else (if t1181 = t1166 then (some true) else (none)))) else (none))) = some r := H
     have A11 := Aside0.mk A110
     clear A110
     replace H := Option.bind_eq_some_iff.mp H
     obtain ⟨t1180, A120, H⟩ := H
     replace H : (if t1180 = true then ((laws_heldSetOut.f k t1167 t1168 t1161 t1162 t1163 1).bind fun t1181 => (if t1181 < 0 then (none) else (if t1181 = t1166 then (some true) else (none)))) else (none)) = some r := H
     have A12 := Aside0.mk A120
     clear A120
     by_cases c13 : t1180 = true
     ·subst c13
      have H1 : ((laws_heldSetOut.f k t1167 t1168 t1161 t1162 t1163 1).bind fun t1181 => (if t1181 < 0 then (none) else (if t1181 = t1166 then (some true) else (none)))) = some r := by rw [if_pos rfl] at H; exact H
      clear H
      have H := H1
      clear H1
      replace H := Option.bind_eq_some_iff.mp H
      obtain ⟨t1181, A140, H⟩ := H
      replace H : (if t1181 < 0 then (none) else (if t1181 = t1166 then (some true) else (none))) = some r := H
      have A14 := Aside0.mk A140
      clear A140
      by_cases c15 : t1181 < 0
      ·rw [if_pos c15] at H
       exact absurd H (by simp)
      ·rw [if_neg c15] at H
       have c15b0 : decide (t1181 < 0) = false := decide_eq_false c15
       clear c15
       by_cases c16 : t1181 = t1166
       ·rw [if_pos c16] at H
        have c16b0 : (t1181 == t1166) = true := beq_iff_eq.mpr c16
        have c16b1 : (t1181 != t1166) = false := bne_eq_false_iff_eq.mpr c16
        clear c16
        obtain rfl := Option.some.inj H
        go_enter Try.func7, Try.ntmps7
        go_wp2_with (first | ((with_reducible refine gate_callee (f := 63) rfl ?_); refine goesL_ (some 12) rfl rfl Try.func63 (by kernel_rfl) rfl #[.string a0] rfl (z0_) ?_; (with_reducible refine (spec_SetRead.calls k a0 t1145 t1148 t1151 t1152 t1153 _ A3.out).mono ?_); rintro e w17 ⟨v1146, v1149, rfl, ho0, ho1, hb⟩; refine ⟨_, rfl, ?_⟩; have n_ := as3_ (Kd.R_lower ho0 (below_size (z5_ HB.out))) (Kd.R_lower ho1 (below_size (z5_ HB.out))) (below_step (z5_ HB.out) hb); clear HB; have ⟨HO1147, HO1150, HB⟩ := n_; clear n_; (try clear hb); (try clear hb2); (try clear hk); (try clear hi); (try clear ho0); (try clear ho1)) | ((with_reducible refine gate_dst (N := 3) rfl ?_); refine box_event ?hg (N := 3) ?hd (cs := #[.slice none 0 0, .slice none 0 0, .int .i64 0, .int .i64 0, .int .i64 0]) (t := 87) ?hr ?_; (case hd => rfl); (case hg => rfl); (case hr => first | (go_simp; done) | (go_simp; rfl)); intro gb1154 hg w18 hbox hb; have n_ := as6_ (Kd.R_below (z4_ HO1147.out) hb) (Kd.R_below (z4_ HO1150.out) hb) (below_step (z5_ HB.out) hb) (hbox) ((z7_ HB.out : w.heap.size ≤ gb1154)) ((z7_ HB.out : w.heap.size ≤ gb1154)); clear HO1147 HO1150 HB; have ⟨HO1147, HO1150, HB, BK1154, GW1154, GE1154⟩ := n_; clear n_; clear hb hbox hg; obtain ⟨Ao19, co19, eo19⟩ := Kd.R_slice HO1147.out; subst eo19; have ⟨hcz20_0, hcz20_1, hcz20_2, hcz20_3, hcz20_4, hfz20_0, hfz20_1, hfz20_2, hfz20_3, hfz20_4⟩ := cz5_ BK1154.out; obtain ⟨Ao21, co21, eo21⟩ := Kd.R_slice HO1150.out; subst eo21) | ((with_reducible refine gate_callee (f := 64) rfl ?_); refine goesL_ (some 14) rfl rfl Try.func64 (by kernel_rfl) rfl #[.string a0] rfl (z0_) ?_; (with_reducible refine (impl_SetRead.calls k a0 t1155 t1158 t1161 t1162 t1163 _ A4.out).mono ?_); rintro e w22 ⟨v1156, v1159, rfl, ho0, ho1, hb⟩; refine ⟨_, rfl, ?_⟩; have n_ := as6_ (Kd.R_elder' (z31_ HO1147.out BK1154.out) (Kd.R_base ho0) hb) (Kd.R_elder' (z31_ HO1150.out BK1154.out) (Kd.R_base ho1) hb) (Kd.R_lower (Kd.R_new' ho0 (Kd.R_lt (z31_ HO1147.out BK1154.out))) (below_size (z1_ HB.out GE1154.out))) (Kd.R_lower (Kd.R_new' ho1 (Kd.R_lt (z31_ HO1150.out BK1154.out))) (below_size (z1_ HB.out GE1154.out))) (blk_below (g := gb1154) (o := .cells #[.slice Ao19 t1145.length co19, .slice Ao21 t1148.length co21, .int .i64 t1151, .int .i64 t1152, .int .i64 t1153] 87 (0, 0)) (z39_ BK1154.out) hb) (below_step (z1_ HB.out GE1154.out) hb); clear HO1147 HO1150 BK1154 HB; have ⟨HO1147, HO1150, HO1157, HO1160, BK1154, HB⟩ := n_; clear n_; (try clear hb); (try clear hb2); (try clear hk); (try clear hi); (try clear ho0); (try clear ho1)) | ((with_reducible refine gate_dst (N := 4) rfl ?_); refine box_event ?hg (N := 4) ?hd (cs := #[.slice none 0 0, .slice none 0 0, .int .i64 0, .int .i64 0, .int .i64 0]) (t := 87) ?hr ?_; (case hd => rfl); (case hg => rfl); (case hr => first | (go_simp; done) | (go_simp; rfl)); intro gb1164 hg w23 hbox hb; have n_ := as11_ (Kd.R_below (z4_ HO1147.out) hb) (Kd.R_below (z4_ HO1150.out) hb) (Kd.R_below (z4_ HO1157.out) hb) (Kd.R_below (z4_ HO1160.out) hb) (blkB_ BK1154.out hb) (below_step (z1_ HB.out GE1154.out) hb) (hbox) ((z10_ HB.out GE1154.out : w.heap.size ≤ gb1164)) ((z10_ HB.out GE1154.out : w.heap.size ≤ gb1164)) (neL_ BK1154.out hg) (neG_ BK1154.out hg); clear HO1147 HO1150 HO1157 HO1160 BK1154 HB; have ⟨HO1147, HO1150, HO1157, HO1160, BK1154, HB, BK1164, GW1164, GE1164, NB1154_1164, NB1164_1154⟩ := n_; clear n_; clear hb hbox hg; obtain ⟨Ao24, co24, eo24⟩ := Kd.R_slice HO1157.out; subst eo24; have hnb25 := NB1164_1154.out; have hnc25 := NB1154_1164.out; have ⟨hcz26_0, hcz26_1, hcz26_2, hcz26_3, hcz26_4, hfz26_0, hfz26_1, hfz26_2, hfz26_3, hfz26_4⟩ := cz5_ BK1164.out; obtain ⟨Ao27, co27, eo27⟩ := Kd.R_slice HO1160.out; subst eo27; have hcz28_0 : w23.cell? ⟨gb1154, 0, none⟩ = some (.slice Ao19 t1145.length co19) := (blk_cell BK1154.out 0).trans rfl; have hcz28_1 : w23.cell? ⟨gb1154, 1, none⟩ = some (.slice Ao21 t1148.length co21) := (blk_cell BK1154.out 1).trans rfl; have hcz28_2 : w23.cell? ⟨gb1154, 2, none⟩ = some (.int .i64 t1151) := (blk_cell BK1154.out 2).trans rfl; have hcz28_3 : w23.cell? ⟨gb1154, 3, none⟩ = some (.int .i64 t1152) := (blk_cell BK1154.out 3).trans rfl; have hcz28_4 : w23.cell? ⟨gb1154, 4, none⟩ = some (.int .i64 t1153) := (blk_cell BK1154.out 4).trans rfl; have hfz28_0 := blk_frozen BK1154.out 0; have hfz28_1 := blk_frozen BK1154.out 1; have hfz28_2 := blk_frozen BK1154.out 2; have hfz28_3 := blk_frozen BK1154.out 3; have hfz28_4 := blk_frozen BK1154.out 4) | ((with_reducible refine gate_callee (f := 65) rfl ?_); refine goesL_ (some 17) rfl rfl Try.func65 (by kernel_rfl) rfl #[.agg #[.slice Ao24 t1155.length co24, .slice Ao27 t1158.length co27, .int .i64 t1161, .int .i64 t1162, .int .i64 t1163], .agg #[.slice Ao19 t1145.length co19, .slice Ao21 t1148.length co21, .int .i64 t1151, .int .i64 t1152, .int .i64 t1153]] rfl (z0_) ?_; (with_reducible refine (laws_eqSetOut.calls k _ _ t1155 _ _ t1158 t1161 t1162 t1163 _ _ t1145 _ _ t1148 t1151 t1152 t1153 true _ ?side1 ?side2 ?side3 ?side4 ?side5 ?side6 ?side7 ?side8 A5.out).mono ?_); (case side1 => refine (Kd.R_reads' (e := 33) (base := w.heap.size) (ok := fun k_ => (True ∧ some k_ ≠ (.slice Ao19 t1145.length co19 : Value).ownBlock)) (n := t1155.length) (c := co24) ?_).2.2; exact (by (with_reducible repeat (first | apply Kd.R_alloc | apply Kd.R_drewN | apply Kd.R_drew)); exact (Kd.R_mono (rf5_ (Kd.R_types HO1157.out BK1164.out (by decide)) (fun _ hk => hk.2)) (fun _ h_ => h_.1)))); (case side2 => exact (Kd.R_reads' HO1157.out).2.1); (case side3 => refine (Kd.R_reads' (e := 158) (base := w.heap.size) (ok := fun k_ => (True ∧ some k_ ≠ (.slice Ao21 t1148.length co21 : Value).ownBlock)) (n := t1158.length) (c := co27) ?_).2.2; exact (by (with_reducible repeat (first | apply Kd.R_alloc | apply Kd.R_drewN | apply Kd.R_drew)); exact (Kd.R_mono (rf5_ (Kd.R_types HO1160.out BK1164.out (by decide)) (fun _ hk => hk.2)) (fun _ h_ => h_.1)))); (case side4 => exact (Kd.R_reads' HO1160.out).2.1); (case side5 => refine (Kd.R_reads' (e := 33) (base := w.heap.size) (ok := fun k_ => (True ∧ some k_ ≠ (.slice Ao24 t1155.length co24 : Value).ownBlock)) (n := t1145.length) (c := co19) ?_).2.2; exact (by (with_reducible repeat (first | apply Kd.R_alloc | apply Kd.R_drewN | apply Kd.R_drew)); exact (Kd.R_mono (rf5_ (Kd.R_types HO1147.out BK1164.out (by decide)) (fun _ hk => hk.2)) (fun _ h_ => h_.1)))); (case side6 => exact (Kd.R_reads' HO1147.out).2.1); (case side7 => refine (Kd.R_reads' (e := 158) (base := w.heap.size) (ok := fun k_ => (True ∧ some k_ ≠ (.slice Ao27 t1158.length co27 : Value).ownBlock)) (n := t1148.length) (c := co21) ?_).2.2; exact (by (with_reducible repeat (first | apply Kd.R_alloc | apply Kd.R_drewN | apply Kd.R_drew)); exact (Kd.R_mono (rf5_ (Kd.R_types HO1150.out BK1164.out (by decide)) (fun _ hk => hk.2)) (fun _ h_ => h_.1)))); (case side8 => exact (Kd.R_reads' HO1150.out).2.1); rintro e w29 ⟨rfl, hb⟩; refine ⟨_, rfl, ?_⟩; have n_ := as7_ (Kd.R_below (z31_ HO1147.out BK1164.out) hb) (Kd.R_below (z31_ HO1150.out BK1164.out) hb) (Kd.R_below (z31_ HO1157.out BK1164.out) hb) (Kd.R_below (z31_ HO1160.out BK1164.out) hb) (blk_below (g := gb1154) (o := .cells #[.slice Ao19 t1145.length co19, .slice Ao21 t1148.length co21, .int .i64 t1151, .int .i64 t1152, .int .i64 t1153] 87 (0, 0)) (z69_ NB1154_1164.out BK1154.out) hb) (blk_below (g := gb1164) (o := .cells #[.slice Ao24 t1155.length co24, .slice Ao27 t1158.length co27, .int .i64 t1161, .int .i64 t1162, .int .i64 t1163] 87 (0, 0)) (z39_ BK1164.out) hb) (below_step (z6_ HB.out GE1154.out GE1164.out) hb); clear HO1147 HO1150 HO1157 HO1160 BK1154 BK1164 HB; have ⟨HO1147, HO1150, HO1157, HO1160, BK1154, BK1164, HB⟩ := n_; clear n_; (try clear hb); (try clear hb2); (try clear hk); (try clear hi); have hcz30_0 : w29.cell? ⟨gb1164, 0, none⟩ = some (.slice Ao24 t1155.length co24) := (blk_cell BK1164.out 0).trans rfl; have hcz30_1 : w29.cell? ⟨gb1164, 1, none⟩ = some (.slice Ao27 t1158.length co27) := (blk_cell BK1164.out 1).trans rfl; have hcz30_2 : w29.cell? ⟨gb1164, 2, none⟩ = some (.int .i64 t1161) := (blk_cell BK1164.out 2).trans rfl; have hcz30_3 : w29.cell? ⟨gb1164, 3, none⟩ = some (.int .i64 t1162) := (blk_cell BK1164.out 3).trans rfl; have hcz30_4 : w29.cell? ⟨gb1164, 4, none⟩ = some (.int .i64 t1163) := (blk_cell BK1164.out 4).trans rfl; have hfz30_0 := blk_frozen BK1164.out 0; have hfz30_1 := blk_frozen BK1164.out 1; have hfz30_2 := blk_frozen BK1164.out 2; have hfz30_3 := blk_frozen BK1164.out 3; have hfz30_4 := blk_frozen BK1164.out 4) | ((with_reducible refine gate_callee (f := 66) rfl ?_); refine goesL_ (some 21) rfl rfl Try.func66 (by kernel_rfl) rfl #[.agg #[.slice Ao24 t1155.length co24, .slice Ao27 t1158.length co27, .int .i64 t1161, .int .i64 t1162, .int .i64 t1163], .int .i64 1] rfl (z0_) ?_; (with_reducible refine (laws_markSetOut.calls k (fun k_ => some k_ = (.slice Ao24 t1155.length co24 : Value).ownBlock) (.slice Ao24 t1155.length co24) t1155 (fun k_ => some k_ = (.slice Ao27 t1158.length co27 : Value).ownBlock) (.slice Ao27 t1158.length co27) t1158 t1161 t1162 t1163 1 t1166 t1167 t1168 w _ ?side1 ?side2 ?side3 A7.out).mono ?_); (case side1 => exact z6_ HB.out GE1154.out GE1164.out); (case side2 => exact Kd.R_tight rfl HO1157.out); (case side3 => exact Kd.R_tight rfl HO1160.out); rintro e w31 ⟨rfl, hy0, hy1, hb, hkp⟩; refine ⟨_, rfl, ?_⟩; have n_ := as7_ (Kd.R_mono (ok' := fun k_ => some k_ ≠ (.slice Ao24 t1155.length co24 : Value).ownBlock) (Kd.R_keptB ((Kd.R_apart' HO1147.out (Kd.R_typed HO1160.out) (by decide))) hkp (fun k_ hk_ hs_ => Or.elim hs_ (fun e_ => (hk_.1.2) e_) (fun e_ => (hk_.2) e_))) (fun k_ hk_ => hk_.1.1.2)) (Kd.R_mono (ok' := fun k_ => some k_ ≠ (.slice Ao27 t1158.length co27 : Value).ownBlock) (Kd.R_keptB ((Kd.R_apart' HO1150.out (Kd.R_typed HO1157.out) (by decide))) hkp (fun k_ hk_ hs_ => Or.elim hs_ (fun e_ => (hk_.2) e_) (fun e_ => (hk_.1.2) e_))) (fun k_ hk_ => hk_.1.1.2)) (blk_kept (z9_ BK1154.out) hkp (fun hs_ => Or.elim hs_ (fun e_ => (fun e_ => (Kd.R_ne HO1157.out BK1154.out (by decide)) e_) e_) (fun e_ => (fun e_ => (Kd.R_ne HO1160.out BK1154.out (by decide)) e_) e_))) (Kd.R_reok rfl hy0 (fun k_ e_ => HO1157.out.1 k_ e_)) (Kd.R_reok rfl hy1 (fun k_ e_ => HO1160.out.1 k_ e_)) (blk_kept (z9_ BK1164.out) hkp (fun hs_ => Or.elim hs_ (fun e_ => (fun e_ => (Kd.R_ne HO1157.out BK1164.out (by decide)) e_) e_) (fun e_ => (fun e_ => (Kd.R_ne HO1160.out BK1164.out (by decide)) e_) e_))) (hb); clear HO1147 HO1150 BK1154 HO1157 HO1160 BK1164 HB; have ⟨HO1147, HO1150, BK1154, HO1157, HO1160, BK1164, HB⟩ := n_; clear n_; (try clear hb); (try clear hkp); (try clear hy0); (try clear hy1); have hcz32_0 : w31.cell? ⟨gb1164, 0, none⟩ = some (.slice Ao24 t1155.length co24) := (blk_cell BK1164.out 0).trans rfl; have hcz32_1 : w31.cell? ⟨gb1164, 1, none⟩ = some (.slice Ao27 t1158.length co27) := (blk_cell BK1164.out 1).trans rfl; have hcz32_2 : w31.cell? ⟨gb1164, 2, none⟩ = some (.int .i64 t1161) := (blk_cell BK1164.out 2).trans rfl; have hcz32_3 : w31.cell? ⟨gb1164, 3, none⟩ = some (.int .i64 t1162) := (blk_cell BK1164.out 3).trans rfl; have hcz32_4 : w31.cell? ⟨gb1164, 4, none⟩ = some (.int .i64 t1163) := (blk_cell BK1164.out 4).trans rfl; have hfz32_0 := blk_frozen BK1164.out 0; have hfz32_1 := blk_frozen BK1164.out 1; have hfz32_2 := blk_frozen BK1164.out 2; have hfz32_3 := blk_frozen BK1164.out 3; have hfz32_4 := blk_frozen BK1164.out 4) | ((with_reducible refine gate_callee (f := 67) rfl ?_); refine goesL_ (some 24) rfl rfl Try.func67 (by kernel_rfl) rfl #[.agg #[.slice Ao24 t1167.length co24, .slice Ao27 t1168.length co27, .int .i64 t1161, .int .i64 t1162, .int .i64 t1163], .int .i64 1] rfl (by (try simp only [List.map_toArray, List.map_cons, List.map_nil]); first | done | (rw [show t1167.length = t1155.length from (Kd.R_reads' HO1157.out).1.symm, show t1168.length = t1158.length from (Kd.R_reads' HO1160.out).1.symm] <;> rfl) | rfl | (simp only [List.length_drop, List.length_take]; rfl)) ?_; (with_reducible refine (laws_heldSetOut.calls k _ _ t1167 _ _ t1168 t1161 t1162 t1163 1 t1169 _ ?side1 ?side2 ?side3 ?side4 A8.out).mono ?_); (case side1 => exact z27_ HO1157.out); (case side2 => rw [show t1167.length = t1155.length from (Kd.R_reads' HO1157.out).1.symm]; exact (Kd.R_reads' HO1157.out).2.1); (case side3 => exact z27_ HO1160.out); (case side4 => rw [show t1168.length = t1158.length from (Kd.R_reads' HO1160.out).1.symm]; exact (Kd.R_reads' HO1160.out).2.1); rintro e w33 ⟨rfl, hb⟩; refine ⟨_, rfl, ?_⟩; have n_ := as7_ (Kd.R_below (z4_ HO1147.out) hb) (Kd.R_below (z4_ HO1150.out) hb) (Kd.R_below (z4_ HO1157.out) hb) (Kd.R_below (z4_ HO1160.out) hb) (blkB_ BK1154.out hb) (blkB_ BK1164.out hb) (below_step (z6_ HB.out GE1154.out GE1164.out) hb); clear HO1147 HO1150 HO1157 HO1160 BK1154 BK1164 HB; have ⟨HO1147, HO1150, HO1157, HO1160, BK1154, BK1164, HB⟩ := n_; clear n_; (try clear hb); (try clear hb2); (try clear hk); (try clear hi)) | ((with_reducible refine gate_callee (f := 64) rfl ?_); refine goesL_ (some 31) rfl rfl Try.func64 (by kernel_rfl) rfl #[.string a0] rfl (z0_) ?_; (with_reducible refine (impl_SetRead.calls k a0 t1170 t1173 t1176 t1177 t1178 _ A11.out).mono ?_); rintro e w34 ⟨v1171, v1174, rfl, ho0, ho1, hb⟩; refine ⟨_, rfl, ?_⟩; have n_ := as9_ (Kd.R_elder' (z4_ HO1147.out) (Kd.R_base ho0) hb) (Kd.R_elder' (z4_ HO1150.out) (Kd.R_base ho1) hb) (Kd.R_elder' (z4_ HO1157.out) (Kd.R_base ho0) hb) (Kd.R_elder' (z4_ HO1160.out) (Kd.R_base ho1) hb) (Kd.R_lower (Kd.R_new' (Kd.R_new' ho0 (Kd.R_lt (z4_ HO1147.out))) (Kd.R_lt (z4_ HO1157.out))) (below_size (z6_ HB.out GE1154.out GE1164.out))) (Kd.R_lower (Kd.R_new' (Kd.R_new' ho1 (Kd.R_lt (z4_ HO1150.out))) (Kd.R_lt (z4_ HO1160.out))) (below_size (z6_ HB.out GE1154.out GE1164.out))) (blkB_ BK1154.out hb) (blkB_ BK1164.out hb) (below_step (z6_ HB.out GE1154.out GE1164.out) hb); clear HO1147 HO1150 HO1157 HO1160 BK1154 BK1164 HB; have ⟨HO1147, HO1150, HO1157, HO1160, HO1172, HO1175, BK1154, BK1164, HB⟩ := n_; clear n_; (try clear hb); (try clear hb2); (try clear hk); (try clear hi); (try clear ho0); (try clear ho1)) | ((with_reducible refine gate_dst (N := 7) rfl ?_); refine box_event ?hg (N := 7) ?hd (cs := #[.slice none 0 0, .slice none 0 0, .int .i64 0, .int .i64 0, .int .i64 0]) (t := 87) ?hr ?_; (case hd => rfl); (case hg => rfl); (case hr => first | (go_simp; done) | (go_simp; rfl)); intro gb1179 hg w35 hbox hb; have n_ := as16_ (Kd.R_below (z4_ HO1147.out) hb) (Kd.R_below (z4_ HO1150.out) hb) (Kd.R_below (z4_ HO1157.out) hb) (Kd.R_below (z4_ HO1160.out) hb) (Kd.R_below (z4_ HO1172.out) hb) (Kd.R_below (z4_ HO1175.out) hb) (blkB_ BK1154.out hb) (blkB_ BK1164.out hb) (below_step (z6_ HB.out GE1154.out GE1164.out) hb) (hbox) ((by rw [hg]; exact (below_size (by repeat (first | (with_reducible first | exact HB.out | apply below_alloc | apply pw_below_drewN | apply below_drew1 | refine below_set ?_ GE1154.out | refine below_set ?_ GE1164.out) | exact HB.out))) : w.heap.size ≤ gb1179)) ((by rw [hg]; exact (below_size (by repeat (first | (with_reducible first | exact HB.out | apply below_alloc | apply pw_below_drewN | apply below_drew1 | refine below_set ?_ GE1154.out | refine below_set ?_ GE1164.out) | exact HB.out))) : w.heap.size ≤ gb1179)) (neL_ BK1154.out hg) (neG_ BK1154.out hg) (neL_ BK1164.out hg) (neG_ BK1164.out hg); clear HO1147 HO1150 HO1157 HO1160 HO1172 HO1175 BK1154 BK1164 HB; have ⟨HO1147, HO1150, HO1157, HO1160, HO1172, HO1175, BK1154, BK1164, HB, BK1179, GW1179, GE1179, NB1154_1179, NB1179_1154, NB1164_1179, NB1179_1164⟩ := n_; clear n_; clear hb hbox hg; obtain ⟨Ao36, co36, eo36⟩ := Kd.R_slice HO1172.out; subst eo36; have hnb37 := NB1179_1154.out; have hnc37 := NB1154_1179.out; have hnb38 := NB1179_1164.out; have hnc38 := NB1164_1179.out; have ⟨hcz39_0, hcz39_1, hcz39_2, hcz39_3, hcz39_4, hfz39_0, hfz39_1, hfz39_2, hfz39_3, hfz39_4⟩ := cz5_ BK1179.out; obtain ⟨Ao40, co40, eo40⟩ := Kd.R_slice HO1175.out; subst eo40; have hcz41_0 : w35.cell? ⟨gb1154, 0, none⟩ = some (.slice Ao19 t1145.length co19) := (blk_cell BK1154.out 0).trans rfl; have hcz41_1 : w35.cell? ⟨gb1154, 1, none⟩ = some (.slice Ao21 t1148.length co21) := (blk_cell BK1154.out 1).trans rfl; have hcz41_2 : w35.cell? ⟨gb1154, 2, none⟩ = some (.int .i64 t1151) := (blk_cell BK1154.out 2).trans rfl; have hcz41_3 : w35.cell? ⟨gb1154, 3, none⟩ = some (.int .i64 t1152) := (blk_cell BK1154.out 3).trans rfl; have hcz41_4 : w35.cell? ⟨gb1154, 4, none⟩ = some (.int .i64 t1153) := (blk_cell BK1154.out 4).trans rfl; have hfz41_0 := blk_frozen BK1154.out 0; have hfz41_1 := blk_frozen BK1154.out 1; have hfz41_2 := blk_frozen BK1154.out 2; have hfz41_3 := blk_frozen BK1154.out 3; have hfz41_4 := blk_frozen BK1154.out 4) | ((with_reducible refine gate_callee (f := 65) rfl ?_); refine goesL_ (some 34) rfl rfl Try.func65 (by kernel_rfl) rfl #[.agg #[.slice Ao36 t1170.length co36, .slice Ao40 t1173.length co40, .int .i64 t1176, .int .i64 t1177, .int .i64 t1178], .agg #[.slice Ao19 t1145.length co19, .slice Ao21 t1148.length co21, .int .i64 t1151, .int .i64 t1152, .int .i64 t1153]] rfl (z0_) ?_; (with_reducible refine (laws_eqSetOut.calls k _ _ t1170 _ _ t1173 t1176 t1177 t1178 _ _ t1145 _ _ t1148 t1151 t1152 t1153 true _ ?side1 ?side2 ?side3 ?side4 ?side5 ?side6 ?side7 ?side8 A12.out).mono ?_); (case side1 => refine (Kd.R_reads' (e := 33) (base := w.heap.size) (ok := fun k_ => ((True ∧ some k_ ≠ (.slice Ao19 t1145.length co19 : Value).ownBlock) ∧ some k_ ≠ (.slice Ao24 t1155.length co24 : Value).ownBlock)) (n := t1170.length) (c := co36) ?_).2.2; exact (by (with_reducible repeat (first | apply Kd.R_alloc | apply Kd.R_drewN | apply Kd.R_drew)); exact (Kd.R_mono (rf5_ (Kd.R_types HO1172.out BK1179.out (by decide)) (fun _ hk => hk.2)) (fun _ h_ => h_.1)))); (case side2 => exact (Kd.R_reads' HO1172.out).2.1); (case side3 => refine (Kd.R_reads' (e := 158) (base := w.heap.size) (ok := fun k_ => ((True ∧ some k_ ≠ (.slice Ao21 t1148.length co21 : Value).ownBlock) ∧ some k_ ≠ (.slice Ao27 t1158.length co27 : Value).ownBlock)) (n := t1173.length) (c := co40) ?_).2.2; exact (by (with_reducible repeat (first | apply Kd.R_alloc | apply Kd.R_drewN | apply Kd.R_drew)); exact (Kd.R_mono (rf5_ (Kd.R_types HO1175.out BK1179.out (by decide)) (fun _ hk => hk.2)) (fun _ h_ => h_.1)))); (case side4 => exact (Kd.R_reads' HO1175.out).2.1); (case side5 => refine (Kd.R_reads' (e := 33) (base := w.heap.size) (ok := fun k_ => (some k_ ≠ (.slice Ao24 t1155.length co24 : Value).ownBlock ∧ some k_ ≠ (.slice Ao36 t1170.length co36 : Value).ownBlock)) (n := t1145.length) (c := co19) ?_).2.2; exact (by (with_reducible repeat (first | apply Kd.R_alloc | apply Kd.R_drewN | apply Kd.R_drew)); exact (Kd.R_mono (rf5_ (Kd.R_types HO1147.out BK1179.out (by decide)) (fun _ hk => hk.2)) (fun _ h_ => h_.1)))); (case side6 => exact (Kd.R_reads' HO1147.out).2.1); (case side7 => refine (Kd.R_reads' (e := 158) (base := w.heap.size) (ok := fun k_ => (some k_ ≠ (.slice Ao27 t1158.length co27 : Value).ownBlock ∧ some k_ ≠ (.slice Ao40 t1173.length co40 : Value).ownBlock)) (n := t1148.length) (c := co21) ?_).2.2; exact (by (with_reducible repeat (first | apply Kd.R_alloc | apply Kd.R_drewN | apply Kd.R_drew)); exact (Kd.R_mono (rf5_ (Kd.R_types HO1150.out BK1179.out (by decide)) (fun _ hk => hk.2)) (fun _ h_ => h_.1)))); (case side8 => exact (Kd.R_reads' HO1150.out).2.1); rintro e w42 ⟨rfl, hb⟩; refine ⟨_, rfl, ?_⟩; have n_ := as10_ (Kd.R_below (z31_ HO1147.out BK1179.out) hb) (Kd.R_below (z31_ HO1150.out BK1179.out) hb) (Kd.R_below (z31_ HO1157.out BK1179.out) hb) (Kd.R_below (z31_ HO1160.out BK1179.out) hb) (Kd.R_below (z31_ HO1172.out BK1179.out) hb) (Kd.R_below (z31_ HO1175.out BK1179.out) hb) (blk_below (g := gb1154) (o := .cells #[.slice Ao19 t1145.length co19, .slice Ao21 t1148.length co21, .int .i64 t1151, .int .i64 t1152, .int .i64 t1153] 87 (0, 0)) (z69_ NB1154_1179.out BK1154.out) hb) (blk_below (g := gb1164) (o := .cells #[.slice Ao24 t1155.length co24, .slice Ao27 t1158.length co27, .int .i64 t1161, .int .i64 t1162, .int .i64 t1163] 87 (0, 0)) (z69_ NB1164_1179.out BK1164.out) hb) (blk_below (g := gb1179) (o := .cells #[.slice Ao36 t1170.length co36, .slice Ao40 t1173.length co40, .int .i64 t1176, .int .i64 t1177, .int .i64 t1178] 87 (0, 0)) (z39_ BK1179.out) hb) (below_step (z70_ HB.out GE1154.out GE1164.out GE1179.out) hb); clear HO1147 HO1150 HO1157 HO1160 HO1172 HO1175 BK1154 BK1164 BK1179 HB; have ⟨HO1147, HO1150, HO1157, HO1160, HO1172, HO1175, BK1154, BK1164, BK1179, HB⟩ := n_; clear n_; (try clear hb); (try clear hb2); (try clear hk); (try clear hi); have hcz43_0 : w42.cell? ⟨gb1164, 0, none⟩ = some (.slice Ao24 t1155.length co24) := (blk_cell BK1164.out 0).trans rfl; have hcz43_1 : w42.cell? ⟨gb1164, 1, none⟩ = some (.slice Ao27 t1158.length co27) := (blk_cell BK1164.out 1).trans rfl; have hcz43_2 : w42.cell? ⟨gb1164, 2, none⟩ = some (.int .i64 t1161) := (blk_cell BK1164.out 2).trans rfl; have hcz43_3 : w42.cell? ⟨gb1164, 3, none⟩ = some (.int .i64 t1162) := (blk_cell BK1164.out 3).trans rfl; have hcz43_4 : w42.cell? ⟨gb1164, 4, none⟩ = some (.int .i64 t1163) := (blk_cell BK1164.out 4).trans rfl; have hfz43_0 := blk_frozen BK1164.out 0; have hfz43_1 := blk_frozen BK1164.out 1; have hfz43_2 := blk_frozen BK1164.out 2; have hfz43_3 := blk_frozen BK1164.out 3; have hfz43_4 := blk_frozen BK1164.out 4) | ((with_reducible refine gate_callee (f := 67) rfl ?_); refine goesL_ (some 38) rfl rfl Try.func67 (by kernel_rfl) rfl #[.agg #[.slice Ao24 t1167.length co24, .slice Ao27 t1168.length co27, .int .i64 t1161, .int .i64 t1162, .int .i64 t1163], .int .i64 1] rfl (by (try simp only [List.map_toArray, List.map_cons, List.map_nil]); first | done | (rw [show t1167.length = t1155.length from (Kd.R_reads' HO1157.out).1.symm, show t1168.length = t1158.length from (Kd.R_reads' HO1160.out).1.symm] <;> rfl) | rfl | (simp only [List.length_drop, List.length_take]; rfl)) ?_; (with_reducible refine (laws_heldSetOut.calls k _ _ t1167 _ _ t1168 t1161 t1162 t1163 1 t1181 _ ?side1 ?side2 ?side3 ?side4 A14.out).mono ?_); (case side1 => exact z27_ HO1157.out); (case side2 => rw [show t1167.length = t1155.length from (Kd.R_reads' HO1157.out).1.symm]; exact (Kd.R_reads' HO1157.out).2.1); (case side3 => exact z27_ HO1160.out); (case side4 => rw [show t1168.length = t1158.length from (Kd.R_reads' HO1160.out).1.symm]; exact (Kd.R_reads' HO1160.out).2.1); rintro e w44 ⟨rfl, hb⟩; refine ⟨_, rfl, ?_⟩; have n_ := as10_ (Kd.R_below (z4_ HO1147.out) hb) (Kd.R_below (z4_ HO1150.out) hb) (Kd.R_below (z4_ HO1157.out) hb) (Kd.R_below (z4_ HO1160.out) hb) (Kd.R_below (z4_ HO1172.out) hb) (Kd.R_below (z4_ HO1175.out) hb) (blkB_ BK1154.out hb) (blkB_ BK1164.out hb) (blkB_ BK1179.out hb) (below_step (z70_ HB.out GE1154.out GE1164.out GE1179.out) hb); clear HO1147 HO1150 HO1157 HO1160 HO1172 HO1175 BK1154 BK1164 BK1179 HB; have ⟨HO1147, HO1150, HO1157, HO1160, HO1172, HO1175, BK1154, BK1164, BK1179, HB⟩ := n_; clear n_; (try clear hb); (try clear hb2); (try clear hk); (try clear hi)))
        go_ret
        exact ⟨z8_, z70_ HB.out GE1154.out GE1164.out GE1179.out⟩
       ·rw [if_neg c16] at H
        exact absurd H (by simp)
     ·replace c13 := Bool.eq_false_iff.mpr c13
      subst c13
      have H1 : (none) = some r := by rw [if_neg (show ¬ (false = true) by decide)] at H; exact H
      clear H
      have H := H1
      clear H1
      exact absurd H (by simp)
    ·rw [if_neg c10] at H
     exact absurd H (by simp)
  ·replace c6 := Bool.eq_false_iff.mpr c6
   subst c6
   have H1 : (none) = some r := by rw [if_neg (show ¬ (false = true) by decide)] at H; exact H
   clear H
   have H := H1
   clear H1
   exact absurd H (by simp)

/-- THE ONE PURE STATEMENT of laws_FnExactSetRead: yours. -/
def laws_FnExactSetRead.Pure : Prop := ∀ (a0 : ByteArray), a0.size ≤ 140737488351232 → ∃ k, laws_FnExactSetRead.f k a0 = some true
theorem laws_FnExactSetRead.walk (P : laws_FnExactSetRead.Pure) (a0 : ByteArray) (w : World) (w0 : a0.size ≤ 140737488351232) :
  Calls Try.prog 7 #[.string a0] w fun e w' => e = .returned (.bool true) ∧ Below w.heap.size w w' := by
 obtain ⟨k, h⟩ := P a0 w0
 refine (laws_FnExactSetRead.calls k a0 true w h).mono ?_
 rintro e w' ⟨rfl, hd⟩
 exact ⟨rfl, hd⟩

end Go.Proofs.Ytconpopbpphpgaa.P

namespace Go.Proofs.Ytconpopbpphpgaa.Q
open Go.RowKit Go.Proofs.YtconpopbpphpgaaW.PrintWords Go.Proofs.YtconpopbpphpgaaW.PrintMore

theorem w64 {x : Int} (h0 : -9223372036854775808 ≤ x) (h1 : x ≤ 9223372036854775807) : wrap64 x = x := by unfold wrap64; omega
theorem u64w (n : Int) : IntKind.u64.wrap n = n % 18446744073709551616 := by simp [IntKind.wrap, IntKind.bits, IntKind.signed]
theorem evIte {α : Type} {c : Prop} [Decidable c] {f g : Nat → Option α} {r : α} (h : c → Ev f r) (h' : ¬ c → Ev g r) : Ev (fun k => if c then f k else g k) r := by
  by_cases hc : c
  · simp only [if_pos hc]; exact h hc
  · simp only [if_neg hc]; exact h' hc
theorem evPos {α : Type} {c : Prop} [Decidable c] {f g : Nat → Option α} {r : α} (hc : c) (h : Ev f r) : Ev (fun k => if c then f k else g k) r := by
  simp only [if_pos hc]; exact h
theorem evNeg {α : Type} {c : Prop} [Decidable c] {f g : Nat → Option α} {r : α} (hc : ¬ c) (h : Ev g r) : Ev (fun k => if c then f k else g k) r := by
  simp only [if_neg hc]; exact h
theorem evOf {α : Type} {g : Option α} {r : α} (h : g = some r) : Ev (fun _ => g) r := ⟨0, fun _ _ => h⟩
theorem evBind1 {α β : Type} {g : Option α} {f : Nat → α → Option β} {a : α} {r : β} (h : g = some a) (k : Ev (fun n => f n a) r) : Ev (fun n => g.bind (f n)) r := by
  subst h; exact k
theorem dropCons {α : Type} {l : List α} {i : Nat} {a : α} {s : List α} (h : l.drop i = a :: s) (d : α) : i < l.length ∧ l.getD i d = a ∧ l.drop (i + 1) = s := by
  have hl : i < l.length := by
    have := congrArg List.length h
    simp at this; omega
  rw [List.drop_eq_getElem_cons hl] at h
  injection h with h1 h2
  exact ⟨hl, by rw [List.getD_eq_getElem?_getD, List.getElem?_eq_getElem hl]; exact h1, h2⟩
theorem dropNil {α : Type} {l : List α} {i : Nat} (h : l.drop i = []) : l.length ≤ i := by
  have := congrArg List.length h
  simp at this; omega
theorem dropNil' {α : Type} {l : List α} {i : Nat} (h : l.drop i = []) (hi : i ≤ l.length) : l.length = i := by
  have := dropNil h; omega
theorem wraps_u64 (n : Int) (h₀ : 0 ≤ n) (h₁ : n < 2 ^ 64) : IntKind.u64.wrap n = n := by rw [u64w]; omega
theorem wraps_i64 (n : Int) (h₀ : 0 ≤ n) (h₁ : n < 2 ^ 63) : IntKind.i64.wrap n = n := by rw [IntKind.wrap_i64]; omega
end Go.Proofs.Ytconpopbpphpgaa.Q

namespace Go.Proofs.Ytconpopbpphpgaa.P
open Go.RowKit Go.Proofs.YtconpopbpphpgaaW.PrintWords Go.Proofs.YtconpopbpphpgaaW.PrintLast Go.Proofs.YtconpopbpphpgaaW.PrintMore
attribute [local go_sem] max2_int min2_int max_two min_two max_three min_three max_four min_four   -- for this text's walks alone
set_option linter.unusedVariables false
set_option linter.unusedSimpArgs false

/-! ### impl_isMany_impl_Mark: function 86 -/
def impl_isMany_impl_Mark.f (l0 : List (S33)) : Option (Bool) := some (decide ((l0.length : Int) > 400))

/-! ### impl_SeenRight: function 37 -/
def impl_SeenRight.f (k : Nat) (l0 : List (S33)) : Option (Bool) := (impl_isMany_impl_Mark.f l0).bind fun t220 => (if t220 = true then (some false) else ((impl_seenRight.f k l0).bind fun t221 => (some t221)))
theorem impl_SeenRight.mono : ∀ a0 k, LeO (impl_SeenRight.f k a0) (impl_SeenRight.f (k + 1) a0) := by
 intro a0 k
 unfold impl_SeenRight.f
 repeat' first
   | (with_reducible exact impl_seenRight.mono _ _)
   | (with_reducible exact LeO.refl _)
   | (with_reducible exact LeO.none _)
   | (with_reducible refine LeO.ite ?_ ?_)
   | (with_reducible refine LeO.bind ?_ (fun _ => ?_))
   | exact impl_seenRight.mono _ _
   | exact LeO.none _
   | refine LeO.ite ?_ ?_
   | refine LeO.bind ?_ (fun _ => ?_)
end Go.Proofs.Ytconpopbpphpgaa.P

namespace Go.Proofs.Ytconpopbpphpgaa.Q
open Go.RowKit Go.Proofs.Ytconpopbpphpgaa.P Go.Proofs.YtconpopbpphpgaaW.PrintWords Go.Proofs.YtconpopbpphpgaaW.PrintMore

abbrev Mark := S33
def isWithin (n low high : Int) : Bool := decide (low ≤ n) && decide (n ≤ high)
def isNode (n : Int) : Bool := isWithin n 1 5
def isDot (a b : Int) : Bool := isNode a && isWithin b 1 1000000
theorem l02Is_is (n a b : Int) : spec_l02Is.f n a b = some (isWithin n a b) := by
  unfold spec_l02Is.f isWithin
  split
  · rename_i h; simp [show a ≤ n from h]
  · rename_i h; simp [show ¬ a ≤ n from h]
theorem l02Node_is (n : Int) : spec_l02Node.f n = some (isNode n) := by simp [spec_l02Node.f, l02Is_is, isNode]
theorem l02Dot_is (a b : Int) : spec_l02Dot.f a b = some (isDot a b) := by
  simp only [spec_l02Dot.f, l02Node_is, l02Is_is, isDot, Option.bind_some]
  cases isNode a <;> simp
theorem within_is (n a b : Int) : impl_within.f n a b = some (isWithin n a b) := by
  unfold impl_within.f isWithin
  split
  · rename_i h; simp [show a ≤ n from h]
  · rename_i h; simp [show ¬ a ≤ n from h]
theorem isNode_is (n : Int) : impl_isNode.f n = some (isNode n) := by simp [impl_isNode.f, within_is, isNode]
theorem isDot_is (a b : Int) : impl_isDot.f a b = some (isDot a b) := by
  simp only [impl_isDot.f, isNode_is, within_is, isDot, Option.bind_some]
  cases isNode a <;> simp
/-- Dots whose nodes rise from above p. -/
def okFrom : Int → List Mark → Bool
  | _, [] => true
  | p, m :: r => isDot m.f0 m.f1 && (decide (p < m.f0) && okFrom m.f0 r)
def seenOk (v : List Mark) : Bool := okFrom 0 v
theorem isDot_iff (a b : Int) : isDot a b = true ↔ (1 ≤ a ∧ a ≤ 5) ∧ 1 ≤ b ∧ b ≤ 1000000 := by simp [isDot, isNode, isWithin]
/-- The node ahead of place i. -/
def prevAt (l : List Mark) (i : Nat) : Int := if i = 0 then 0 else (l.getD (i - 1) z33).f0
theorem prevAt_succ {l : List Mark} {i : Nat} {m : Mark} (h : l.getD i z33 = m) : prevAt l (i + 1) = m.f0 := by
  simp only [prevAt, Nat.add_sub_cancel, h]
  simp
theorem impl_seenRight_l0 (l : List Mark) (hl : l.length ≤ 4611686018427387904) : ∀ (s : List Mark) (i : Nat), l.drop i = s → i ≤ l.length → 0 ≤ prevAt l i →
    Ev (fun k => impl_seenRight.l0 k l l (l.length : Int) (i : Int)) (okFrom (prevAt l i) s)
  | [], i, h, hi, hp => by
    have := dropNil' h hi
    refine Ev.step (f := fun _ => some true) (fun k => ?_) (Ev.now _)
    simp only [impl_seenRight.l0]
    rw [if_neg (by omega)]
  | m :: s, i, h, hi, hp => by
    obtain ⟨h1, h2, h3⟩ := dropCons h z33
    have hr : rd_T33 l (i : Int) = m := by simpa [rd_T33] using h2
    have ih := fun hq => impl_seenRight_l0 l hl s (i + 1) h3 (by omega) hq
    rw [prevAt_succ h2] at ih
    by_cases hd : isDot m.f0 m.f1 = true
    · have hd' := (isDot_iff _ _).1 hd
      by_cases hlt : prevAt l i < m.f0
      · have ih := ih (by omega)
        refine Ev.step (fun k => ?_) (show Ev _ (okFrom (prevAt l i) (m :: s)) from by simp only [okFrom, hd, hlt, decide_true, Bool.true_and]; exact ih)
        simp only [impl_seenRight.l0, hr, isDot_is, Option.bind_some]
        rw [if_pos (by omega), if_pos (by omega), if_pos (by omega), if_pos hd, w64 (x := (i : Int) + 1) (by omega) (by omega)]
        by_cases hi0 : i = 0
        · subst hi0
          rw [if_neg (by omega)]; rfl
        · have hq : rd_T33 l ((i : Int) - 1) = l.getD (i - 1) z33 := by
            simp only [rd_T33]; congr 1; omega
          rw [w64 (x := (i : Int) - 1) (by omega) (by omega), if_pos (by omega), if_pos (by omega), if_pos (by omega), hq, if_neg (by simp only [prevAt, if_neg hi0] at hlt; omega)]
          rfl
      · refine Ev.step (f := fun _ => some false) (fun k => ?_) (show Ev _ (okFrom (prevAt l i) (m :: s)) from by simp only [okFrom, hd, hlt, decide_false, Bool.false_and, Bool.and_false]; exact Ev.now _)
        have hi0 : i ≠ 0 := by
          intro e; subst e
          simp [prevAt] at hlt; omega
        have hq : rd_T33 l ((i : Int) - 1) = l.getD (i - 1) z33 := by
          simp only [rd_T33]; congr 1; omega
        simp only [impl_seenRight.l0, hr, isDot_is, Option.bind_some]
        rw [if_pos (by omega), if_pos (by omega), if_pos (by omega), if_pos hd, w64 (x := (i : Int) - 1) (by omega) (by omega), if_pos (by omega), if_pos (by omega), if_pos (by omega), hq,
          if_pos (by simp only [prevAt, if_neg hi0] at hlt; omega)]
    · refine Ev.step (f := fun _ => some false) (fun k => ?_) (show Ev _ (okFrom (prevAt l i) (m :: s)) from by simp only [okFrom, Bool.eq_false_iff.mpr hd, Bool.false_and]; exact Ev.now _)
      simp only [impl_seenRight.l0, hr, isDot_is, Option.bind_some]
      rw [if_pos (by omega), if_pos (by omega), if_pos (by omega), if_neg hd]
theorem impl_seenRight_ev (l : List Mark) (hl : l.length ≤ 4611686018427387904) : Ev (fun k => impl_seenRight.f k l) (seenOk l) :=
  impl_seenRight_l0 l hl l 0 rfl (by omega) (by simp [prevAt])
theorem spec_SeenRight_l0 (l : List Mark) (hl : l.length ≤ 4611686018427387904) : ∀ (s : List Mark) (i : Nat), l.drop i = s → i ≤ l.length → (i : Int) ≤ prevAt l i → prevAt l i ≤ 5 →
    Ev (fun k => spec_SeenRight.l0 k l (i : Int)) (okFrom (prevAt l i) s)
  | [], i, h, hi, hp, hp5 => by
    have := dropNil' h hi
    refine Ev.step (f := fun k => spec_SeenRight.j1 k l (i : Int) false) (fun k => ?_) (Ev.step (f := fun _ => some true) (fun k => ?_) (Ev.now _))
    · simp only [spec_SeenRight.l0]
      rw [if_neg (by omega)]
    · simp only [spec_SeenRight.j1]
      rw [if_neg (by simp)]
      congr 1
      simp; omega
  | m :: s, i, h, hi, hp, hp5 => by
    obtain ⟨h1, h2, h3⟩ := dropCons h z33
    have hr : rd_T33 l (i : Int) = m := by simpa [rd_T33] using h2
    have ih := fun hq => spec_SeenRight_l0 l hl s (i + 1) h3 (by omega) hq
    rw [prevAt_succ h2] at ih
    have hj : decide ((i : Int) ≤ 5) = true := by simp; omega
    have hl0 : ∀ k, spec_SeenRight.l0 (k + 1) l (i : Int) = spec_SeenRight.j1 k l (i : Int) true := fun k => by
      simp only [spec_SeenRight.l0]
      rw [if_pos (by omega), hj]
    by_cases hd : isDot m.f0 m.f1 = true
    · have hd' := (isDot_iff _ _).1 hd
      by_cases hlt : prevAt l i < m.f0
      · have ih := ih (by omega) (by omega)
        refine Ev.step hl0 (Ev.step (fun k => ?_) (show Ev _ (okFrom (prevAt l i) (m :: s)) from by simp only [okFrom, hd, hlt, decide_true, Bool.true_and]; exact ih))
        simp only [spec_SeenRight.j1, hr, l02Dot_is, Option.bind_some]
        rw [if_pos trivial, if_pos (by omega), if_pos (by omega), if_pos hd, w64 (x := (i : Int) + 1) (by omega) (by omega)]
        by_cases hi0 : i = 0
        · subst hi0
          rw [if_neg (by omega)]; rfl
        · have hq : rd_T33 l ((i : Int) - 1) = l.getD (i - 1) z33 := by
            simp only [rd_T33]; congr 1; omega
          rw [w64 (x := (i : Int) - 1) (by omega) (by omega), if_pos (by omega), if_pos (by omega), if_pos (by omega), hq, if_neg (by simp only [prevAt, if_neg hi0] at hlt; omega)]
          rfl
      · refine Ev.step hl0 (Ev.step (f := fun _ => some false) (fun k => ?_) (show Ev _ (okFrom (prevAt l i) (m :: s)) from by simp only [okFrom, hd, hlt, decide_false, Bool.false_and, Bool.and_false]; exact Ev.now _))
        have hi0 : i ≠ 0 := by
          intro e; subst e
          simp [prevAt] at hlt; omega
        have hq : rd_T33 l ((i : Int) - 1) = l.getD (i - 1) z33 := by
          simp only [rd_T33]; congr 1; omega
        simp only [spec_SeenRight.j1, hr, l02Dot_is, Option.bind_some]
        rw [if_pos trivial, if_pos (by omega), if_pos (by omega), if_pos hd, w64 (x := (i : Int) - 1) (by omega) (by omega), if_pos (by omega), if_pos (by omega), if_pos (by omega), hq,
          if_pos (by simp only [prevAt, if_neg hi0] at hlt; omega)]
    · refine Ev.step hl0 (Ev.step (f := fun _ => some false) (fun k => ?_) (show Ev _ (okFrom (prevAt l i) (m :: s)) from by simp only [okFrom, Bool.eq_false_iff.mpr hd, Bool.false_and]; exact Ev.now _))
      simp only [spec_SeenRight.j1, hr, l02Dot_is, Option.bind_some]
      rw [if_pos trivial, if_pos (by omega), if_pos (by omega), if_neg hd]
theorem spec_SeenRight_ev (l : List Mark) (hl : l.length ≤ 4611686018427387904) : Ev (fun k => spec_SeenRight.f k l) (seenOk l) :=
  spec_SeenRight_l0 l hl l 0 rfl (by omega) (by simp [prevAt]) (by simp [prevAt])
end Go.Proofs.Ytconpopbpphpgaa.Q

namespace Go.Proofs.Ytconpopbpphpgaa.P
open Go.RowKit Go.Proofs.YtconpopbpphpgaaW.PrintWords Go.Proofs.YtconpopbpphpgaaW.PrintLast Go.Proofs.YtconpopbpphpgaaW.PrintMore
attribute [local go_sem] max2_int min2_int max_two min_two max_three min_three max_four min_four   -- for this text's walks alone
set_option linter.unusedVariables false
set_option linter.unusedSimpArgs false

/-! ### laws_szMarkS: function 53 -/
def laws_szMarkS.f (l0 : List (S139)) (a1 : Int) : Option (Int) := if (wrap64 (a1 - (l0.length : Int))) < 0 then (some (-1)) else (some (wrap64 (a1 - (l0.length : Int))))

/-! ### laws_toMark: function 120 -/
def laws_toMark.f (a0_0 : Int) (a0_1 : Int) : Option (Int × Int) := some (a0_0, a0_1)

/-! ### laws_toMarkS: function 56 -/
def laws_toMarkS.l0 : Nat → List (S139) → List (S33) → Int → Option ((List (S33)))
 | 0, _, _, _ => none
 | k + 1, x0, x3, x4 => if x4 < (x0.length : Int) then (if 0 ≤ x4 then ((laws_toMark.f ((rd_T139 x0 x4).f0) ((rd_T139 x0 x4).f1)).bind fun bt685 => (if x4 < (x3.length : Int) then (laws_toMarkS.l0 k x0 (x3.set (x4 : Int).toNat (⟨bt685.1, bt685.2⟩ : S33)) (wrap64 (x4 + 1))) else (none))) else (none)) else (some x3)
def laws_toMarkS.f (k : Nat) (l0 : List (S139)) : Option ((List (S33))) := if 0 ≤ (l0.length : Int) then (if ((l0.length : Int) : Int).toNat ≤ 17592186044416 then (laws_toMarkS.l0 k l0 (List.replicate ((l0.length : Int) : Int).toNat z33) 0) else (none)) else (none)
theorem laws_toMarkS.mono_l : ∀ k, (∀ y0 y1 y2, LeO (laws_toMarkS.l0 k y0 y1 y2) (laws_toMarkS.l0 (k + 1) y0 y1 y2))
 | 0 => fun _ _ _ r h => by simp [laws_toMarkS.l0] at h
 | k + 1 => by
  have ih0 := laws_toMarkS.mono_l k
  ·intro y0 y1 y2
   unfold laws_toMarkS.l0
   repeat' first
   | (with_reducible exact ih0 _ _ _)
   | (with_reducible exact LeO.refl _)
   | (with_reducible exact LeO.none _)
   | (with_reducible refine LeO.ite ?_ ?_)
   | (with_reducible refine LeO.bind ?_ (fun _ => ?_))
   | exact ih0 _ _ _
   | exact LeO.none _
   | refine LeO.ite ?_ ?_
   | refine LeO.bind ?_ (fun _ => ?_)
theorem laws_toMarkS.mono : ∀ a0 k, LeO (laws_toMarkS.f k a0) (laws_toMarkS.f (k + 1) a0) := by
 intro a0 k
 have ih0 := laws_toMarkS.mono_l k
 unfold laws_toMarkS.f
 repeat' first
   | (with_reducible exact ih0 _ _ _)
   | (with_reducible exact LeO.refl _)
   | (with_reducible exact LeO.none _)
   | (with_reducible refine LeO.ite ?_ ?_)
   | (with_reducible refine LeO.bind ?_ (fun _ => ?_))
   | exact ih0 _ _ _
   | exact LeO.none _
   | refine LeO.ite ?_ ?_
   | refine LeO.bind ?_ (fun _ => ?_)
end Go.Proofs.Ytconpopbpphpgaa.P

namespace Go.Proofs.Ytconpopbpphpgaa.Q
open Go.RowKit Go.Proofs.Ytconpopbpphpgaa.P Go.Proofs.YtconpopbpphpgaaW.PrintWords Go.Proofs.YtconpopbpphpgaaW.PrintMore

theorem eqMark_refl (a b : Int) : laws_eqMark.f a b a b = some true := by simp [laws_eqMark.f]
theorem eqMarkS_l0 (l : List Mark) (hl : l.length ≤ 4611686018427387904) : ∀ (s : List Mark) (i : Nat), l.drop i = s → i ≤ l.length →
    Ev (fun k => laws_eqMarkS.l0 k l l (i : Int)) true
  | [], i, h, hi => by
    have := dropNil' h hi
    refine Ev.step (f := fun _ => some true) (fun k => ?_) (Ev.now _)
    simp only [laws_eqMarkS.l0]
    rw [if_neg (by omega)]
  | m :: s, i, h, hi => by
    obtain ⟨h1, h2, h3⟩ := dropCons h z33
    refine Ev.step (fun k => ?_) (eqMarkS_l0 l hl s (i + 1) h3 (by omega))
    simp only [laws_eqMarkS.l0, eqMark_refl, Option.bind_some]
    rw [if_pos (by omega), if_pos (by omega), if_pos (by omega), if_pos trivial, w64 (by omega) (by omega)]
    rfl
theorem eqMarkS_ev (l : List Mark) (hl : l.length ≤ 4611686018427387904) : Ev (fun k => laws_eqMarkS.f k l l) true := by
  unfold laws_eqMarkS.f
  exact evPos rfl (eqMarkS_l0 l hl l 0 rfl (by omega))
end Go.Proofs.Ytconpopbpphpgaa.Q

namespace Go.Proofs.Ytconpopbpphpgaa.Q
open Go.RowKit Go.Proofs.Ytconpopbpphpgaa.P Go.Proofs.YtconpopbpphpgaaW.PrintWords Go.Proofs.YtconpopbpphpgaaW.PrintMore

theorem getD_mid {α : Type} (pre : List α) (m : α) (s : List α) (d : α) : (pre ++ m :: s).getD pre.length d = m := by
  rw [List.getD_eq_getElem?_getD, List.getElem?_append_right (Nat.le_refl _), Nat.sub_self]; rfl
theorem set_mid {α : Type} (pre : List α) (m x : α) (s : List α) : (pre ++ m :: s).set pre.length x = pre ++ x :: s := by
  rw [List.set_append_right _ _ (Nat.le_refl _), Nat.sub_self]; rfl
def markL : Int → List Mark → List Mark
  | _, [] => []
  | n, _ :: r => ⟨n, n + 1⟩ :: markL (n + 2) r
theorem markMarkS_l0 (N : Int) (hN : N ≤ 1152921504606846976) : ∀ (s pre : List Mark) (n : Int), 0 ≤ n → n + 2 * (s.length : Int) ≤ N → (pre.length : Int) + s.length ≤ N →
    Ev (fun k => laws_markMarkS.l0 k (pre ++ s) n (pre.length : Int)) (n + 2 * (s.length : Int), pre ++ markL n s)
  | [], pre, n, h0, h1, h2 => by
    refine Ev.step (f := fun _ => some (n, pre)) (fun k => ?_) (by simp [markL]; exact Ev.now _)
    simp only [laws_markMarkS.l0, List.append_nil]
    rw [if_neg (by omega)]
  | m :: s, pre, n, h0, h1, h2 => by
    simp only [List.length_cons] at h1 h2
    have ih := markMarkS_l0 N hN s (pre ++ [⟨n, n + 1⟩]) (n + 2) (by omega) (by omega) (by simp; omega)
    simp only [List.length_append, List.length_cons, List.length_nil, List.append_assoc, List.cons_append, List.nil_append] at ih
    refine Ev.step (fun k => ?_) (show Ev _ (n + 2 * ((m :: s).length : Int), pre ++ markL n (m :: s)) from by
      simp only [markL, List.length_cons]
      rw [show n + 2 * ((s.length + 1 : Nat) : Int) = n + 2 + 2 * (s.length : Int) from by omega]
      exact ih)
    simp only [laws_markMarkS.l0, Option.bind_some, Int.toNat_natCast, rd_T33, set_mid, getD_mid]
    rw [if_pos (by simp; omega), if_pos (by omega), w64 (x := n + 1) (by omega) (by omega), w64 (x := n + 1 + 1) (by omega) (by omega), w64 (x := (pre.length : Int) + 1) (by omega) (by omega), show n + 1 + 1 = n + 2 from by omega]
    rfl
theorem markMarkS_ev (s : List Mark) (n : Int) (h0 : 0 ≤ n) (h1 : n + 2 * (s.length : Int) ≤ 1152921504606846976) : Ev (fun k => laws_markMarkS.f k s n) (n + 2 * (s.length : Int), markL n s) :=
  markMarkS_l0 1152921504606846976 (Int.le_refl _) s [] n h0 h1 (by simp; omega)
theorem heldMarkS_l0 (N : Int) (hN : N ≤ 1152921504606846976) : ∀ (s pre : List Mark) (n : Int), 0 ≤ n → n + 2 * (s.length : Int) ≤ N → (pre.length : Int) + s.length ≤ N →
    Ev (fun k => laws_heldMarkS.l0 k (pre ++ markL n s) n (pre.length : Int)) (n + 2 * (s.length : Int))
  | [], pre, n, h0, h1, h2 => by
    refine Ev.step (f := fun _ => some n) (fun k => ?_) (by simp; exact Ev.now _)
    simp only [laws_heldMarkS.l0, markL, List.append_nil]
    rw [if_neg (by omega)]
  | m :: s, pre, n, h0, h1, h2 => by
    simp only [List.length_cons] at h1 h2
    have ih := heldMarkS_l0 N hN s (pre ++ [⟨n, n + 1⟩]) (n + 2) (by omega) (by omega) (by simp; omega)
    simp only [List.length_append, List.length_cons, List.length_nil, List.append_assoc, List.cons_append, List.nil_append] at ih
    refine Ev.step (fun k => ?_) (show Ev _ (n + 2 * ((m :: s).length : Int)) from by
      simp only [List.length_cons]
      rw [show n + 2 * ((s.length + 1 : Nat) : Int) = n + 2 + 2 * (s.length : Int) from by omega]
      exact ih)
    have hr : rd_T33 (pre ++ markL n (m :: s)) (pre.length : Int) = ⟨n, n + 1⟩ := by simp only [rd_T33, Int.toNat_natCast, markL, getD_mid]
    simp only [laws_heldMarkS.l0, hr]
    rw [if_pos (by simp [markL]; omega), if_pos (by omega), w64 (x := n + 1) (by omega) (by omega), if_pos trivial, if_pos rfl, w64 (x := n + 1 + 1) (by omega) (by omega), w64 (x := (pre.length : Int) + 1) (by omega) (by omega), show n + 1 + 1 = n + 2 from by omega]
    rfl
theorem heldMarkS_ev (s : List Mark) (n : Int) (h0 : 0 ≤ n) (h1 : n + 2 * (s.length : Int) ≤ 1152921504606846976) : Ev (fun k => laws_heldMarkS.f k (markL n s) n) (n + 2 * (s.length : Int)) :=
  heldMarkS_l0 1152921504606846976 (Int.le_refl _) s [] n h0 h1 (by simp; omega)
end Go.Proofs.Ytconpopbpphpgaa.Q

namespace Go.Proofs.Ytconpopbpphpgaa.P
open Go.RowKit Go.Proofs.YtconpopbpphpgaaW.PrintWords Go.Proofs.YtconpopbpphpgaaW.PrintLast Go.Proofs.YtconpopbpphpgaaW.PrintMore
attribute [local go_sem] max2_int min2_int max_two min_two max_three min_three max_four min_four   -- for this text's walks alone
set_option linter.unusedVariables false
set_option linter.unusedSimpArgs false

/-! ### impl_PutNum: function 157 -/
def impl_PutNum.l0 : Nat → Int → List Int → Option (ByteArray)
 | 0, _, _ => none
 | k + 1, x3, x4 => if x3 ≥ 128 then (if x4.length < 140737488355328 then (impl_PutNum.l0 k (x3 / 128) (x4 ++ [Go.bits .or .u8 ((Go.bits .and .u64 x3 127) % 256) 128])) else (none)) else (if x4.length < 140737488355328 then (some (strOfNums (x4 ++ [(x3) % 256]))) else (none))
def impl_PutNum.f (k : Nat) (a0 : Int) : Option (ByteArray) := impl_PutNum.l0 k (Go.bits .xor .u64 (IntKind.u64.wrap ((IntKind.u64.wrap (a0)) * 2)) (IntKind.u64.wrap (a0 / 9223372036854775808))) ([] : List Int)
theorem impl_PutNum.mono_l : ∀ k, (∀ y0 y1, LeO (impl_PutNum.l0 k y0 y1) (impl_PutNum.l0 (k + 1) y0 y1))
 | 0 => fun _ _ r h => by simp [impl_PutNum.l0] at h
 | k + 1 => by
  have ih0 := impl_PutNum.mono_l k
  ·intro y0 y1
   unfold impl_PutNum.l0
   repeat' first
   | (with_reducible exact ih0 _ _)
   | (with_reducible exact LeO.refl _)
   | (with_reducible exact LeO.none _)
   | (with_reducible refine LeO.ite ?_ ?_)
   | (with_reducible refine LeO.bind ?_ (fun _ => ?_))
   | exact ih0 _ _
   | exact LeO.none _
   | refine LeO.ite ?_ ?_
   | refine LeO.bind ?_ (fun _ => ?_)
theorem impl_PutNum.mono : ∀ a0 k, LeO (impl_PutNum.f k a0) (impl_PutNum.f (k + 1) a0) := by
 intro a0 k
 have ih0 := impl_PutNum.mono_l k
 unfold impl_PutNum.f
 repeat' first
   | (with_reducible exact ih0 _ _)
   | (with_reducible exact LeO.refl _)
   | (with_reducible exact LeO.none _)
   | (with_reducible refine LeO.ite ?_ ?_)
   | (with_reducible refine LeO.bind ?_ (fun _ => ?_))
   | exact ih0 _ _
   | exact LeO.none _
   | refine LeO.ite ?_ ?_
   | refine LeO.bind ?_ (fun _ => ?_)
end Go.Proofs.Ytconpopbpphpgaa.P

namespace Go.Proofs.Ytconpopbpphpgaa.Q
open Go.RowKit Go.Proofs.Ytconpopbpphpgaa.P Go.Proofs.YtconpopbpphpgaaW.PrintWords Go.Proofs.YtconpopbpphpgaaW.PrintMore

/-- The number that stands for n: an even one for n ≥ 0. -/
def zig (n : Int) : Int := if n < 0 then -2 * n - 1 else 2 * n
theorem zig_range {n : Int} (h0 : -9223372036854775808 ≤ n) (h1 : n ≤ 9223372036854775807) : 0 ≤ zig n ∧ zig n < 18446744073709551616 := by
  unfold zig; split <;> omega
/-- Seven bits a byte, the lowest first; f + 1 bytes at the most. -/
def vbytes : Nat → Int → List Int
  | 0, u => [u % 256]
  | f + 1, u => if u ≥ 128 then (u % 128 + 128) :: vbytes f (u / 128) else [u % 256]
def putNum (n : Int) : ByteArray := strOfNums (vbytes 9 (zig n))
theorem fold_is {n : Int} (h0 : -9223372036854775808 ≤ n) (h1 : n ≤ 9223372036854775807) : spec_l01Fold.f n = some (zig n) := by
  unfold spec_l01Fold.f zig
  split
  · rw [w64 (x := n + 1) (by omega) (by omega), w64 (by omega) (by omega)]
    simp only [u64w]
    congr 1
    omega
  · simp only [u64w]
    congr 1
    omega
theorem vbytes_length : ∀ f u, (vbytes f u).length ≤ f + 1
  | 0, u => by simp [vbytes]
  | f + 1, u => by
    unfold vbytes
    split
    · have := vbytes_length f (u / 128)
      simp; omega
    · simp
theorem spec_PutNum_l0 : ∀ (f : Nat) (u : Int) (acc : List Int), 0 ≤ u → u < 128 ^ (f + 1) → u < 18446744073709551616 → acc.length + f + 1 < 140737488355328 →
    Ev (fun k => spec_PutNum.l0 k u acc) (strOfNums (acc ++ vbytes f u))
  | 0, u, acc, h0, h1, h2, h3 => by
    refine Ev.step (f := fun _ => some (strOfNums (acc ++ vbytes 0 u))) (fun k => ?_) (Ev.now _)
    simp only [spec_PutNum.l0]
    rw [if_neg (by omega), if_pos (by omega)]
    rfl
  | f + 1, u, acc, h0, h1, h2, h3 => by
    by_cases h : u ≥ 128
    · have ih := spec_PutNum_l0 f (u / 128) (acc ++ [u % 128 + 128]) (by omega) (by rw [Int.pow_succ] at h1; omega) (by omega) (by simp; omega)
      have hv : vbytes (f + 1) u = [u % 128 + 128] ++ vbytes f (u / 128) := by simp [vbytes, h]
      rw [hv, ← List.append_assoc]
      refine Ev.step (fun k => ?_) ih
      simp only [spec_PutNum.l0]
      rw [if_pos h, if_pos (by omega), Int.tdiv_eq_ediv_of_nonneg h0, Int.tmod_eq_emod_of_nonneg h0, u64w, u64w, show (u / 128) % 18446744073709551616 = u / 128 from by omega,
        show (u % 128 + 128) % 18446744073709551616 % 256 = u % 128 + 128 from by omega]
    · refine Ev.step (f := fun _ => some (strOfNums (acc ++ vbytes (f + 1) u))) (fun k => ?_) (Ev.now _)
      simp only [spec_PutNum.l0]
      rw [if_neg h, if_pos (by omega)]
      simp [vbytes, h]
theorem spec_PutNum_ev {n : Int} (h0 : -9223372036854775808 ≤ n) (h1 : n ≤ 9223372036854775807) : Ev (fun k => spec_PutNum.f k n) (putNum n) := by
  have hz := zig_range h0 h1
  unfold spec_PutNum.f
  rw [fold_is h0 h1]
  simp only [Option.bind_some]
  have := spec_PutNum_l0 9 (zig n) [] hz.1 (by omega) hz.2 (by simp)
  simpa [putNum] using this
end Go.Proofs.Ytconpopbpphpgaa.Q

namespace Go.Proofs.Ytconpopbpphpgaa.Q
open Go.RowKit Go.Proofs.Ytconpopbpphpgaa.P Go.Proofs.YtconpopbpphpgaaW.PrintWords Go.Proofs.YtconpopbpphpgaaW.PrintMore

def firstLong : List ByteArray → Int → Int
  | [], _ => -1
  | a :: s, i => if 8000 < a.size then i else firstLong s (i + 1)
theorem firstLong_any : ∀ (s : List ByteArray) (i : Int), 0 ≤ i → decide (firstLong s i ≥ 0) = s.any fun a => decide (8000 < a.size)
  | [], i, h => by simp [firstLong]
  | a :: s, i, h => by
    have ih := firstLong_any s (i + 1) (by omega)
    by_cases ha : 8000 < a.size
    · simp [firstLong, ha, h]
    · rw [firstLong, if_neg ha, ih, List.any_cons]
      simp [ha]
theorem isLong_l0 (l : List ByteArray) (hl : l.length ≤ 4611686018427387904) : ∀ (s : List ByteArray) (i : Nat), l.drop i = s → i ≤ l.length →
    Ev (fun k => slices_IndexFunc_string_string_impl_isLong_1.l0 k l (l.length : Int) (i : Int)) (firstLong s i)
  | [], i, h, hi => by
    have := dropNil' h hi
    refine Ev.step (f := fun _ => some (-1)) (fun k => ?_) (Ev.now _)
    simp only [slices_IndexFunc_string_string_impl_isLong_1.l0]
    rw [if_neg (by omega)]
  | a :: s, i, h, hi => by
    obtain ⟨h1, h2, h3⟩ := dropCons h ByteArray.empty
    have ih := isLong_l0 l hl s (i + 1) h3 (by omega)
    by_cases ha : 8000 < a.size
    · refine Ev.step (f := fun _ => some (firstLong (a :: s) i)) (fun k => ?_) (Ev.now _)
      simp only [slices_IndexFunc_string_string_impl_isLong_1.l0, impl_isLong_1.f, rdOf, Int.toNat_natCast, h2]
      rw [if_pos (by omega), if_pos (by omega), if_pos (by omega)]
      simp [firstLong, ha]
      omega
    · refine Ev.step (fun k => ?_) (show Ev _ (firstLong (a :: s) i) from by simp only [firstLong, if_neg ha]; exact ih)
      simp only [slices_IndexFunc_string_string_impl_isLong_1.l0, impl_isLong_1.f, rdOf, Int.toNat_natCast, h2]
      rw [if_pos (by omega), if_pos (by omega), if_pos (by omega), w64 (by omega) (by omega)]
      have : ¬ ((a.size : Int) > 8000) := by omega
      simp [this]
theorem isLong_ev (l : List ByteArray) (hl : l.length ≤ 4611686018427387904) : Ev (fun k => impl_isLong.f k l) (l.any fun a => decide (8000 < a.size)) := by
  unfold impl_isLong.f slices_ContainsFunc_string_string_impl_isLong_1.f slices_IndexFunc_string_string_impl_isLong_1.f
  have h := isLong_l0 l hl l 0 rfl (by omega)
  refine Ev.bind (Ev.bind h (Ev.now _)) ?_
  have e := firstLong_any l 0 (by omega)
  rw [show ((0 : Nat) : Int) = 0 from rfl, e]
  exact Ev.now _
theorem isLong1_ev (a : ByteArray) : Ev (fun k => impl_isLong.f k ([a] : List ByteArray)) (decide (8000 < a.size)) := by
  have := isLong_ev [a] (by simp)
  simpa using this
theorem putNum_size (n : Int) : (putNum n).size ≤ 10 := by
  have h := vbytes_length 9 (zig n)
  unfold putNum
  rw [← data_length]
  simp only [strOfNums]
  simpa using h
def putText (t : ByteArray) : ByteArray := if 8000 < t.size then ⟨#[]⟩ else putNum (t.size : Int) ++ t
theorem spec_PutText_ev (t : ByteArray) : Ev (fun k => spec_PutText.f k t) (putText t) := by
  unfold spec_PutText.f putText
  by_cases h : 8000 < t.size
  · rw [if_pos h]; exact evPos (by omega) (Ev.now _)
  · rw [if_neg h]
    refine evNeg (by omega) (Ev.bind (spec_PutNum_ev (by omega) (by omega)) ?_)
    have := putNum_size (t.size : Int)
    exact evPos (by omega) (Ev.now _)
end Go.Proofs.Ytconpopbpphpgaa.Q

namespace Go.Proofs.Ytconpopbpphpgaa.P
open Go.RowKit Go.Proofs.YtconpopbpphpgaaW.PrintWords Go.Proofs.YtconpopbpphpgaaW.PrintLast Go.Proofs.YtconpopbpphpgaaW.PrintMore
attribute [local go_sem] max2_int min2_int max_two min_two max_three min_three max_four min_four   -- for this text's walks alone
set_option linter.unusedVariables false
set_option linter.unusedSimpArgs false

/-! ### spec_SeenOf: function 32 -/
def spec_SeenOf.f (k : Nat) (l0 : List (S33)) (a1 : Int) : Option (Int) := (spec_SeenRight.f k l0).bind fun t458 => (if t458 = true then ((spec_l02Of.f k l0 a1).bind fun t459 => (some t459)) else (some 0))
theorem spec_SeenOf.mono : ∀ a0 a1 k, LeO (spec_SeenOf.f k a0 a1) (spec_SeenOf.f (k + 1) a0 a1) := by
 intro a0 a1 k
 unfold spec_SeenOf.f
 repeat' first
   | (with_reducible exact spec_SeenRight.mono _ _)
   | (with_reducible exact spec_l02Of.mono _ _ _)
   | (with_reducible exact LeO.refl _)
   | (with_reducible exact LeO.none _)
   | (with_reducible refine LeO.ite ?_ ?_)
   | (with_reducible refine LeO.bind ?_ (fun _ => ?_))
   | exact spec_SeenRight.mono _ _
   | exact spec_l02Of.mono _ _ _
   | exact LeO.none _
   | refine LeO.ite ?_ ?_
   | refine LeO.bind ?_ (fun _ => ?_)

/-! ### impl_SeenOf: function 31 -/
def impl_SeenOf.f (k : Nat) (l0 : List (S33)) (a1 : Int) : Option (Int) := (impl_SeenRight.f k l0).bind fun t456 => (if t456 = true then ((impl_seenOf.f k l0 a1).bind fun t457 => (some t457)) else (some 0))
theorem impl_SeenOf.mono : ∀ a0 a1 k, LeO (impl_SeenOf.f k a0 a1) (impl_SeenOf.f (k + 1) a0 a1) := by
 intro a0 a1 k
 unfold impl_SeenOf.f
 repeat' first
   | (with_reducible exact impl_SeenRight.mono _ _)
   | (with_reducible exact impl_seenOf.mono _ _ _)
   | (with_reducible exact LeO.refl _)
   | (with_reducible exact LeO.none _)
   | (with_reducible refine LeO.ite ?_ ?_)
   | (with_reducible refine LeO.bind ?_ (fun _ => ?_))
   | exact impl_SeenRight.mono _ _
   | exact impl_seenOf.mono _ _ _
   | exact LeO.none _
   | refine LeO.ite ?_ ?_
   | refine LeO.bind ?_ (fun _ => ?_)

/-! ### impl_SeenHas: function 33 -/
def impl_SeenHas.f (k : Nat) (l0 : List (S33)) (a1_0 : Int) (a1_1 : Int) : Option (Bool) := (impl_SeenRight.f k l0).bind fun t461 => (if t461 = true then ((impl_isDot.f a1_0 a1_1).bind fun t462 => (if t462 = true then ((impl_seenHas.f k l0 a1_0 a1_1).bind fun t463 => (some t463)) else (some false))) else (some false))
theorem impl_SeenHas.mono : ∀ a0 a1 a2 k, LeO (impl_SeenHas.f k a0 a1 a2) (impl_SeenHas.f (k + 1) a0 a1 a2) := by
 intro a0 a1 a2 k
 unfold impl_SeenHas.f
 repeat' first
   | (with_reducible exact impl_SeenRight.mono _ _)
   | (with_reducible exact impl_seenHas.mono _ _ _ _)
   | (with_reducible exact LeO.refl _)
   | (with_reducible exact LeO.none _)
   | (with_reducible refine LeO.ite ?_ ?_)
   | (with_reducible refine LeO.bind ?_ (fun _ => ?_))
   | exact impl_SeenRight.mono _ _
   | exact impl_seenHas.mono _ _ _ _
   | exact LeO.none _
   | refine LeO.ite ?_ ?_
   | refine LeO.bind ?_ (fun _ => ?_)

/-! ### spec_l01Max: function 163 -/
def spec_l01Max.f (a0 : Int) (a1 : Int) : Option (Int) := if a0 > a1 then (some a0) else (some a1)

/-! ### spec_l02Join: function 96 -/
def spec_l02Join.l0 : Nat → List (S33) → List (S33) → List (S33) → Int → Option ((List (S33)))
 | 0, _, _, _, _ => none
 | k + 1, x0, x1, x5, x6 => if x6 ≤ 5 then ((spec_l02Of.f k x0 x6).bind fun t116 => ((spec_l02Of.f k x1 x6).bind fun t117 => ((spec_l01Max.f t116 t117).bind fun t118 => (if t118 > 0 then (if x5.length < 8796093022208 then (spec_l02Join.l0 k x0 x1 (x5 ++ [(⟨x6, t118⟩ : S33)]) (wrap64 (x6 + 1))) else (none)) else (spec_l02Join.l0 k x0 x1 x5 (wrap64 (x6 + 1))))))) else (some x5)
def spec_l02Join.f (k : Nat) (l0 : List (S33)) (l1 : List (S33)) : Option ((List (S33))) := spec_l02Join.l0 k l0 l1 (([] : List (S33))) 1
theorem spec_l02Join.mono_l : ∀ k, (∀ y0 y1 y2 y3, LeO (spec_l02Join.l0 k y0 y1 y2 y3) (spec_l02Join.l0 (k + 1) y0 y1 y2 y3))
 | 0 => fun _ _ _ _ r h => by simp [spec_l02Join.l0] at h
 | k + 1 => by
  have ih0 := spec_l02Join.mono_l k
  ·intro y0 y1 y2 y3
   unfold spec_l02Join.l0
   repeat' first
   | (with_reducible exact ih0 _ _ _ _)
   | (with_reducible exact spec_l02Of.mono _ _ _)
   | (with_reducible exact LeO.refl _)
   | (with_reducible exact LeO.none _)
   | (with_reducible refine LeO.ite ?_ ?_)
   | (with_reducible refine LeO.bind ?_ (fun _ => ?_))
   | exact ih0 _ _ _ _
   | exact spec_l02Of.mono _ _ _
   | exact LeO.none _
   | refine LeO.ite ?_ ?_
   | refine LeO.bind ?_ (fun _ => ?_)
theorem spec_l02Join.mono : ∀ a0 a1 k, LeO (spec_l02Join.f k a0 a1) (spec_l02Join.f (k + 1) a0 a1) := by
 intro a0 a1 k
 have ih0 := spec_l02Join.mono_l k
 unfold spec_l02Join.f
 repeat' first
   | (with_reducible exact ih0 _ _ _ _)
   | (with_reducible exact spec_l02Of.mono _ _ _)
   | (with_reducible exact LeO.refl _)
   | (with_reducible exact LeO.none _)
   | (with_reducible refine LeO.ite ?_ ?_)
   | (with_reducible refine LeO.bind ?_ (fun _ => ?_))
   | exact ih0 _ _ _ _
   | exact spec_l02Of.mono _ _ _
   | exact LeO.none _
   | refine LeO.ite ?_ ?_
   | refine LeO.bind ?_ (fun _ => ?_)

/-! ### impl_seenJoin: function 85 -/
def impl_seenJoin.l0 : Nat → List (S33) → List (S33) → List (S33) → Int → Option ((List (S33)))
 | 0, _, _, _, _ => none
 | k + 1, x0, x1, x5, x6 => if x6 ≤ 5 then ((impl_seenOf.f k x0 x6).bind fun t224 => ((impl_seenOf.f k x1 x6).bind fun t225 => (if (mx t224 t225) > 0 then (if x5.length < 8796093022208 then (impl_seenJoin.l0 k x0 x1 (x5 ++ [(⟨x6, mx t224 t225⟩ : S33)]) (wrap64 (x6 + 1))) else (none)) else (impl_seenJoin.l0 k x0 x1 x5 (wrap64 (x6 + 1)))))) else (some x5)
def impl_seenJoin.f (k : Nat) (l0 : List (S33)) (l1 : List (S33)) : Option ((List (S33))) := impl_seenJoin.l0 k l0 l1 ([] : List (S33)) 1
theorem impl_seenJoin.mono_l : ∀ k, (∀ y0 y1 y2 y3, LeO (impl_seenJoin.l0 k y0 y1 y2 y3) (impl_seenJoin.l0 (k + 1) y0 y1 y2 y3))
 | 0 => fun _ _ _ _ r h => by simp [impl_seenJoin.l0] at h
 | k + 1 => by
  have ih0 := impl_seenJoin.mono_l k
  ·intro y0 y1 y2 y3
   unfold impl_seenJoin.l0
   repeat' first
   | (with_reducible exact ih0 _ _ _ _)
   | (with_reducible exact impl_seenOf.mono _ _ _)
   | (with_reducible exact LeO.refl _)
   | (with_reducible exact LeO.none _)
   | (with_reducible refine LeO.ite ?_ ?_)
   | (with_reducible refine LeO.bind ?_ (fun _ => ?_))
   | exact ih0 _ _ _ _
   | exact impl_seenOf.mono _ _ _
   | exact LeO.none _
   | refine LeO.ite ?_ ?_
   | refine LeO.bind ?_ (fun _ => ?_)
theorem impl_seenJoin.mono : ∀ a0 a1 k, LeO (impl_seenJoin.f k a0 a1) (impl_seenJoin.f (k + 1) a0 a1) := by
 intro a0 a1 k
 have ih0 := impl_seenJoin.mono_l k
 unfold impl_seenJoin.f
 repeat' first
   | (with_reducible exact ih0 _ _ _ _)
   | (with_reducible exact impl_seenOf.mono _ _ _)
   | (with_reducible exact LeO.refl _)
   | (with_reducible exact LeO.none _)
   | (with_reducible refine LeO.ite ?_ ?_)
   | (with_reducible refine LeO.bind ?_ (fun _ => ?_))
   | exact ih0 _ _ _ _
   | exact impl_seenOf.mono _ _ _
   | exact LeO.none _
   | refine LeO.ite ?_ ?_
   | refine LeO.bind ?_ (fun _ => ?_)

/-! ### spec_SeenJoin: function 27 -/
def spec_SeenJoin.f (k : Nat) (l0 : List (S33)) (l1 : List (S33)) : Option ((List (S33))) := (spec_SeenRight.f k l0).bind fun t428 => (if t428 = true then ((spec_SeenRight.f k l1).bind fun t429 => (if t429 = true then ((spec_l02Join.f k l0 l1).bind fun t430 => (some t430)) else (some (([] : List (S33)))))) else (some (([] : List (S33)))))
theorem spec_SeenJoin.mono : ∀ a0 a1 k, LeO (spec_SeenJoin.f k a0 a1) (spec_SeenJoin.f (k + 1) a0 a1) := by
 intro a0 a1 k
 unfold spec_SeenJoin.f
 repeat' first
   | (with_reducible exact spec_SeenRight.mono _ _)
   | (with_reducible exact spec_l02Join.mono _ _ _)
   | (with_reducible exact LeO.refl _)
   | (with_reducible exact LeO.none _)
   | (with_reducible refine LeO.ite ?_ ?_)
   | (with_reducible refine LeO.bind ?_ (fun _ => ?_))
   | exact spec_SeenRight.mono _ _
   | exact spec_l02Join.mono _ _ _
   | exact LeO.none _
   | refine LeO.ite ?_ ?_
   | refine LeO.bind ?_ (fun _ => ?_)

/-! ### impl_SeenJoin: function 16 -/
def impl_SeenJoin.f (k : Nat) (l0 : List (S33)) (l1 : List (S33)) : Option ((List (S33))) := (impl_SeenRight.f k l0).bind fun t229 => (if t229 = true then ((impl_SeenRight.f k l1).bind fun t230 => (if t230 = true then ((impl_seenJoin.f k l0 l1).bind fun t231 => (some t231)) else (some ([] : List (S33))))) else (some ([] : List (S33))))
theorem impl_SeenJoin.mono : ∀ a0 a1 k, LeO (impl_SeenJoin.f k a0 a1) (impl_SeenJoin.f (k + 1) a0 a1) := by
 intro a0 a1 k
 unfold impl_SeenJoin.f
 repeat' first
   | (with_reducible exact impl_SeenRight.mono _ _)
   | (with_reducible exact impl_seenJoin.mono _ _ _)
   | (with_reducible exact LeO.refl _)
   | (with_reducible exact LeO.none _)
   | (with_reducible refine LeO.ite ?_ ?_)
   | (with_reducible refine LeO.bind ?_ (fun _ => ?_))
   | exact impl_SeenRight.mono _ _
   | exact impl_seenJoin.mono _ _ _
   | exact LeO.none _
   | refine LeO.ite ?_ ?_
   | refine LeO.bind ?_ (fun _ => ?_)

/-! ### impl_seenBytes: function 91 -/
def impl_seenBytes.l0 : Nat → ByteArray → List (S33) → Int → Int → Option (ByteArray)
 | 0, _, _, _, _ => none
 | k + 1, x3, x9, x10, x11 => if x11 < x10 then (if 0 ≤ x11 then (if x11 < (x9.length : Int) then ((impl_PutNum.f k ((rd_T33 x9 x11).f0)).bind fun t309 => ((impl_PutNum.f k ((rd_T33 x9 x11).f1)).bind fun t310 => (if t309.size + t310.size ≤ 9223372036854775807 then (if x3.size + (t309.size + t310.size) ≤ 9223372036854775807 then (impl_seenBytes.l0 k (x3 ++ (t309 ++ t310)) x9 x10 (wrap64 (x11 + 1))) else (none)) else (none)))) else (none)) else (none)) else (some x3)
def impl_seenBytes.f (k : Nat) (l0 : List (S33)) : Option (ByteArray) := (impl_PutNum.f k (l0.length : Int)).bind fun t306 => (impl_seenBytes.l0 k t306 l0 (l0.length : Int) 0)
theorem impl_seenBytes.mono_l : ∀ k, (∀ y0 y1 y2 y3, LeO (impl_seenBytes.l0 k y0 y1 y2 y3) (impl_seenBytes.l0 (k + 1) y0 y1 y2 y3))
 | 0 => fun _ _ _ _ r h => by simp [impl_seenBytes.l0] at h
 | k + 1 => by
  have ih0 := impl_seenBytes.mono_l k
  ·intro y0 y1 y2 y3
   unfold impl_seenBytes.l0
   repeat' first
   | (with_reducible exact ih0 _ _ _ _)
   | (with_reducible exact impl_PutNum.mono _ _)
   | (with_reducible exact LeO.refl _)
   | (with_reducible exact LeO.none _)
   | (with_reducible refine LeO.ite ?_ ?_)
   | (with_reducible refine LeO.bind ?_ (fun _ => ?_))
   | exact ih0 _ _ _ _
   | exact impl_PutNum.mono _ _
   | exact LeO.none _
   | refine LeO.ite ?_ ?_
   | refine LeO.bind ?_ (fun _ => ?_)
theorem impl_seenBytes.mono : ∀ a0 k, LeO (impl_seenBytes.f k a0) (impl_seenBytes.f (k + 1) a0) := by
 intro a0 k
 have ih0 := impl_seenBytes.mono_l k
 unfold impl_seenBytes.f
 repeat' first
   | (with_reducible exact ih0 _ _ _ _)
   | (with_reducible exact impl_PutNum.mono _ _)
   | (with_reducible exact LeO.refl _)
   | (with_reducible exact LeO.none _)
   | (with_reducible refine LeO.ite ?_ ?_)
   | (with_reducible refine LeO.bind ?_ (fun _ => ?_))
   | exact ih0 _ _ _ _
   | exact impl_PutNum.mono _ _
   | exact LeO.none _
   | refine LeO.ite ?_ ?_
   | refine LeO.bind ?_ (fun _ => ?_)

/-! ### spec_SeenBytes: function 35 -/
def spec_SeenBytes.f (k : Nat) (l0 : List (S33)) : Option (ByteArray) := (spec_SeenRight.f k l0).bind fun t328 => (if t328 = true then ((spec_l02Bytes.f k l0).bind fun t329 => (some t329)) else (some (⟨#[]⟩ : ByteArray)))
theorem spec_SeenBytes.mono : ∀ a0 k, LeO (spec_SeenBytes.f k a0) (spec_SeenBytes.f (k + 1) a0) := by
 intro a0 k
 unfold spec_SeenBytes.f
 repeat' first
   | (with_reducible exact spec_SeenRight.mono _ _)
   | (with_reducible exact spec_l02Bytes.mono _ _)
   | (with_reducible exact LeO.refl _)
   | (with_reducible exact LeO.none _)
   | (with_reducible refine LeO.ite ?_ ?_)
   | (with_reducible refine LeO.bind ?_ (fun _ => ?_))
   | exact spec_SeenRight.mono _ _
   | exact spec_l02Bytes.mono _ _
   | exact LeO.none _
   | refine LeO.ite ?_ ?_
   | refine LeO.bind ?_ (fun _ => ?_)

/-! ### impl_SeenBytes: function 23 -/
def impl_SeenBytes.f (k : Nat) (l0 : List (S33)) : Option (ByteArray) := (impl_SeenRight.f k l0).bind fun t311 => (if t311 = true then ((impl_seenBytes.f k l0).bind fun t312 => (some t312)) else (some (⟨#[]⟩ : ByteArray)))
theorem impl_SeenBytes.mono : ∀ a0 k, LeO (impl_SeenBytes.f k a0) (impl_SeenBytes.f (k + 1) a0) := by
 intro a0 k
 unfold impl_SeenBytes.f
 repeat' first
   | (with_reducible exact impl_SeenRight.mono _ _)
   | (with_reducible exact impl_seenBytes.mono _ _)
   | (with_reducible exact LeO.refl _)
   | (with_reducible exact LeO.none _)
   | (with_reducible refine LeO.ite ?_ ?_)
   | (with_reducible refine LeO.bind ?_ (fun _ => ?_))
   | exact impl_SeenRight.mono _ _
   | exact impl_seenBytes.mono _ _
   | exact LeO.none _
   | refine LeO.ite ?_ ?_
   | refine LeO.bind ?_ (fun _ => ?_)
end Go.Proofs.Ytconpopbpphpgaa.P

namespace Go.Proofs.Ytconpopbpphpgaa.Q
open Go.RowKit Go.Proofs.Ytconpopbpphpgaa.P Go.Proofs.YtconpopbpphpgaaW.PrintWords Go.Proofs.YtconpopbpphpgaaW.PrintMore

def seenOf : List Mark → Int → Int
  | [], _ => 0
  | m :: r, n => if m.f0 = n then m.f1 else seenOf r n
theorem l02Of_l0 (l : List Mark) (n : Int) (hl : l.length ≤ 4611686018427387904) : ∀ (s : List Mark) (i : Nat), l.drop i = s → i ≤ l.length → Ev (fun k => spec_l02Of.l0 k l n (i : Int)) (seenOf s n)
  | [], i, h, hi => by
    have := dropNil' h hi
    refine Ev.step (f := fun _ => some 0) (fun k => ?_) (Ev.now _)
    simp only [spec_l02Of.l0]
    rw [if_neg (by omega)]
  | m :: s, i, h, hi => by
    obtain ⟨h1, h2, h3⟩ := dropCons h z33
    have hr : rd_T33 l (i : Int) = m := by simpa [rd_T33] using h2
    refine Ev.step (f := fun k => if m.f0 = n then some m.f1 else spec_l02Of.l0 k l n ((i + 1 : Nat) : Int)) (fun k => ?_) ?_
    · simp only [spec_l02Of.l0, hr]
      rw [if_pos (by omega), if_pos (by omega), w64 (by omega) (by omega)]
      rfl
    · simp only [seenOf]
      refine evIte (fun h => ?_) (fun h => ?_)
      · rw [if_pos h]; exact Ev.now _
      · rw [if_neg h]; exact l02Of_l0 l n hl s (i + 1) h3 (by omega)
theorem l02Of_ev (l : List Mark) (n : Int) (hl : l.length ≤ 4611686018427387904) : Ev (fun k => spec_l02Of.f k l n) (seenOf l n) := l02Of_l0 l n hl l 0 rfl (by omega)
theorem seenOf_l0 (l : List Mark) (n : Int) (hl : l.length ≤ 4611686018427387904) : ∀ (s : List Mark) (i : Nat), l.drop i = s → i ≤ l.length → Ev (fun k => impl_seenOf.l0 k n l (l.length : Int) (i : Int)) (seenOf s n)
  | [], i, h, hi => by
    have := dropNil' h hi
    refine Ev.step (f := fun _ => some 0) (fun k => ?_) (Ev.now _)
    simp only [impl_seenOf.l0]
    rw [if_neg (by omega)]
  | m :: s, i, h, hi => by
    obtain ⟨h1, h2, h3⟩ := dropCons h z33
    have hr : rd_T33 l (i : Int) = m := by simpa [rd_T33] using h2
    refine Ev.step (f := fun k => if m.f0 = n then some m.f1 else impl_seenOf.l0 k n l (l.length : Int) ((i + 1 : Nat) : Int)) (fun k => ?_) ?_
    · simp only [impl_seenOf.l0, hr]
      rw [if_pos (by omega), if_pos (by omega), if_pos (by omega), w64 (by omega) (by omega)]
      rfl
    · simp only [seenOf]
      refine evIte (fun h => ?_) (fun h => ?_)
      · rw [if_pos h]; exact Ev.now _
      · rw [if_neg h]; exact seenOf_l0 l n hl s (i + 1) h3 (by omega)
theorem seenOf_ev (l : List Mark) (n : Int) (hl : l.length ≤ 4611686018427387904) : Ev (fun k => impl_seenOf.f k l n) (seenOf l n) := seenOf_l0 l n hl l 0 rfl (by omega)
def seenHas (l : List Mark) (a b : Int) : Bool := decide (b ≤ seenOf l a)
def seenHasOut (l : List Mark) (a b : Int) : Bool := seenOk l && (isDot a b && seenHas l a b)
theorem seenHas_ev (l : List Mark) (a b : Int) (hl : l.length ≤ 4611686018427387904) : Ev (fun k => impl_seenHas.f k l a b) (seenHas l a b) := Ev.bind (seenOf_ev l a hl) (Ev.now _)
theorem spec_SeenHas_ev (l : List Mark) (a b : Int) (hl : l.length ≤ 4611686018427387904) : Ev (fun k => spec_SeenHas.f k l a b) (seenHasOut l a b) := by
  unfold spec_SeenHas.f seenHasOut
  refine Ev.bind (spec_SeenRight_ev l hl) ?_
  cases seenOk l with
  | false => exact evNeg (by simp) (Ev.now _)
  | true =>
    refine evPos rfl (evBind1 (l02Dot_is a b) ?_)
    cases isDot a b with
    | false => exact evNeg (by simp) (Ev.now _)
    | true => exact evPos rfl (Ev.bind (l02Of_ev l a hl) (Ev.now _))
theorem okFrom_mem : ∀ (s : List Mark) (p : Int), okFrom p s = true → ∀ m ∈ s, isDot m.f0 m.f1 = true ∧ p < m.f0
  | [], _, _, m, hm => by simp at hm
  | x :: r, p, h, m, hm => by
    simp only [okFrom, Bool.and_eq_true, decide_eq_true_eq] at h
    rcases List.mem_cons.1 hm with rfl | hm
    · exact ⟨h.1, h.2.1⟩
    · have := okFrom_mem r x.f0 h.2.2 m hm
      exact ⟨this.1, by omega⟩
/-- Marks whose numbers are small. -/
def Small (v : List Mark) : Prop := ∀ m ∈ v, (0 ≤ m.f0 ∧ m.f0 ≤ 4294967295) ∧ 0 ≤ m.f1 ∧ m.f1 ≤ 4294967295
theorem seenOk_small {v : List Mark} (h : seenOk v = true) : Small v := fun m hm => by
  have := (isDot_iff _ _).1 (okFrom_mem v 0 h m hm).1
  omega
def markBytes (m : Mark) : ByteArray := putNum m.f0 ++ putNum m.f1
def seenBytes (v : List Mark) : ByteArray := v.foldl (fun t m => t ++ markBytes m) (putNum (v.length : Int))
theorem l02Bytes_l0 (l : List Mark) (hl : l.length ≤ 1048576) (hsm : Small l) : ∀ (s : List Mark) (i : Nat), l.drop i = s → i ≤ l.length → ∀ t : ByteArray, t.size ≤ 10 + 20 * i → Ev (fun k => spec_l02Bytes.l0 k l t (i : Int)) (s.foldl (fun t m => t ++ markBytes m) t)
  | [], i, h, hi, t, ht => by
    have := dropNil' h hi
    refine Ev.step (f := fun _ => some t) (fun k => ?_) (Ev.now _)
    simp only [spec_l02Bytes.l0]
    rw [if_neg (by omega)]
  | m :: s, i, h, hi, t, ht => by
    obtain ⟨h1, h2, h3⟩ := dropCons h z33
    have hr : rd_T33 l (i : Int) = m := by simpa [rd_T33] using h2
    have hm : m ∈ l := List.mem_of_mem_drop (by rw [h]; exact List.mem_cons_self)
    have hb := hsm m hm
    have p0 := putNum_size m.f0
    have p1 := putNum_size m.f1
    refine Ev.step (fun k => by simp only [spec_l02Bytes.l0, hr]; rw [if_pos (show (i : Int) < l.length by omega), if_pos (show (0 : Int) ≤ i by omega), w64 (x := (i : Int) + 1) (by omega) (by omega)]) ?_
    refine Ev.bind (spec_PutNum_ev (by omega) (by omega)) (evPos (by omega) (Ev.bind (spec_PutNum_ev (by omega) (by omega)) (evPos (by omega) ?_)))
    rw [ByteArray.append_assoc]
    exact l02Bytes_l0 l hl hsm s (i + 1) h3 (by omega) _ (by simp only [ByteArray.size_append]; omega)
theorem l02Bytes_ev (l : List Mark) (hl : l.length ≤ 1048576) (hsm : Small l) : Ev (fun k => spec_l02Bytes.f k l) (seenBytes l) := by
  unfold spec_l02Bytes.f
  exact Ev.bind (spec_PutNum_ev (by omega) (by omega)) (l02Bytes_l0 l hl hsm l 0 rfl (by omega) _ (by have := putNum_size (l.length : Int); omega))
end Go.Proofs.Ytconpopbpphpgaa.Q

namespace Go.Proofs.Ytconpopbpphpgaa.Q
open Go.RowKit Go.Proofs.Ytconpopbpphpgaa.P Go.Proofs.YtconpopbpphpgaaW.PrintWords Go.Proofs.YtconpopbpphpgaaW.PrintMore

abbrev Sib := S158
def dotLess (a b c d : Int) : Bool := decide (a < c) || (decide (a = c) && decide (b < d))
def dataOk (t : ByteArray) (gone : Bool) : Bool := decide (t.size ≤ 16) && (!gone || decide (t.toList = []))
def sibOk (v : List Mark) (x : Sib) : Bool := isDot x.f0.f0 x.f0.f1 && (seenHas v x.f0.f0 x.f0.f1 && dataOk x.f2 x.f1)
def sibsFrom (v : List Mark) : Option Sib → List Sib → Bool
  | _, [] => true
  | none, x :: r => sibOk v x && sibsFrom v (some x) r
  | some y, x :: r => sibOk v x && (dotLess y.f0.f0 y.f0.f1 x.f0.f0 x.f0.f1 && sibsFrom v (some x) r)
def setOk (v : List Mark) (s : List Sib) : Bool := seenOk v && (decide (s.length ≤ 8) && sibsFrom v none s)
/-- The sibling ahead of place i. -/
def prevSib (l : List Sib) (i : Nat) : Option Sib := if i = 0 then none else some (l.getD (i - 1) z158)
theorem prevSib_succ {l : List Sib} {i : Nat} {x : Sib} (h : l.getD i z158 = x) : prevSib l (i + 1) = some x := by
  simp only [prevSib, Nat.add_sub_cancel, h]
  simp
theorem l03Less_is (a b c d : Int) : spec_l03Less.f a b c d = some (dotLess a b c d) := by
  unfold spec_l03Less.f dotLess
  by_cases h : a < c
  · rw [if_pos h]; simp [h]
  · rw [if_neg h]
    by_cases h2 : a = c
    · rw [if_pos h2]; simp [h2]
    · rw [if_neg h2]; simp [h, h2]
def cmpI (a b : Int) : Int := if a < b then -1 else if a > b then 1 else 0
theorem Compare_is (a b : Int) : cmp_Compare_int64.f a b = some (cmpI a b) := by
  simp only [cmp_Compare_int64.f, cmp_isNaN_int64.f, cmpI]
  by_cases h : a < b
  · simp [h]
  · by_cases h2 : a > b
    · simp [h, h2]
    · simp [h, h2]
theorem Or_ev (x y : Int) : Ev (fun k => cmp_Or_int.f k [x, y]) (if x = 0 then y else x) := by
  unfold cmp_Or_int.f
  have hx : rd [x, y] 0 = x := rfl
  have hy : rd [x, y] 1 = y := rfl
  have hl : (([x, y] : List Int).length : Int) = 2 := rfl
  rw [hl]
  refine Ev.step (f := fun k => if x = 0 then cmp_Or_int.l0 k 0 [x, y] 2 1 else some x) (fun k => ?_) ?_
  · simp only [cmp_Or_int.l0, hx, hl]
    rw [if_pos (by omega), if_pos (by omega), if_pos (by omega), w64 (by omega) (by omega)]
    rfl
  · refine evIte (fun h => ?_) (fun h => ?_)
    · rw [if_pos h]
      refine Ev.step (f := fun k => if y = 0 then cmp_Or_int.l0 k 0 [x, y] 2 2 else some y) (fun k => ?_) ?_
      · simp only [cmp_Or_int.l0, hy, hl]
        rw [if_pos (by omega), if_pos (by omega), if_pos (by omega), w64 (by omega) (by omega)]
        rfl
      · refine evIte (fun h => ?_) (fun h => Ev.now _)
        refine Ev.step (f := fun _ => some y) (fun k => ?_) (Ev.now _)
        simp only [cmp_Or_int.l0]
        rw [if_neg (by omega), h]
    · rw [if_neg h]; exact Ev.now _
def cmpDots (a b c d : Int) : Int := if cmpI a c = 0 then cmpI b d else cmpI a c
theorem compareDots_ev (a b c d : Int) : Ev (fun k => impl_compareDots.f k a b c d) (cmpDots a b c d) := by
  unfold impl_compareDots.f
  exact evBind1 (Compare_is a c) (evBind1 (Compare_is b d) (Ev.bind (Or_ev _ _) (Ev.now _)))
theorem cmpDots_ge (a b c d : Int) : decide (cmpDots a b c d ≥ 0) = !dotLess a b c d := by
  unfold cmpDots cmpI dotLess
  by_cases h1 : a < c
  · simp [h1]
  · by_cases h2 : a > c
    · have : ¬ a = c := by omega
      simp [h1, h2, this]
    · have : a = c := by omega
      subst this
      by_cases h3 : b < d
      · simp [h3]
      · by_cases h4 : b > d
        · simp [h3, h4]
        · simp [h3, h4]
theorem isData_is (t : ByteArray) (g : Bool) : impl_isData.f t g = some (dataOk t g) := by
  unfold impl_isData.f dataOk
  by_cases h : (t.size : Int) ≤ 16
  · have h' : t.size ≤ 16 := by omega
    rw [if_pos h]
    cases g with
    | true =>
      by_cases e : t.toList = []
      · simp [h', e]
      · simp [h', e]
    | false => simp [h']
  · have h' : ¬ t.size ≤ 16 := by omega
    rw [if_neg h]; simp [h']
theorem impl_SetRight_l0 (v : List Mark) (hv : v.length ≤ 4611686018427387904) (l : List Sib) (hl : l.length ≤ 1048576) : ∀ (s : List Sib) (i : Nat), l.drop i = s → i ≤ l.length →
    Ev (fun k => impl_SetRight.l0 k l (l.length : Int) (i : Int) v l) (sibsFrom v (prevSib l i) s)
  | [], i, h, hi => by
    have := dropNil' h hi
    refine Ev.step (f := fun _ => some true) (fun k => ?_) (by simp only [sibsFrom]; exact Ev.now _)
    simp only [impl_SetRight.l0]
    rw [if_neg (by omega)]
  | x :: s, i, h, hi => by
    obtain ⟨h1, h2, h3⟩ := dropCons h z158
    have hr : rd_T158 l (i : Int) = x := by simpa [rd_T158] using h2
    have ih := impl_SetRight_l0 v hv l hl s (i + 1) h3 (by omega)
    rw [prevSib_succ h2] at ih
    have hj : ∀ b : Bool, Ev (fun k => impl_SetRight.j2 k l (l.length : Int) (i : Int) b v l) (!b && sibsFrom v (some x) s) := fun b => by
      cases b with
      | true => exact Ev.step (f := fun _ => some false) (fun k => by simp [impl_SetRight.j2]) (Ev.now _)
      | false => exact Ev.step (fun k => by simp only [impl_SetRight.j2]; rw [if_neg (by simp), w64 (x := (i : Int) + 1) (by omega) (by omega)]) (by simpa using ih)
    have main : ∀ (p : Bool) (g : Nat → Option Bool), Ev g (p && sibsFrom v (some x) s) → Ev (fun k => (impl_isDot.f x.f0.f0 x.f0.f1).bind fun t => if t = true then ((impl_seenHas.f k v x.f0.f0 x.f0.f1).bind fun t => if t = true then ((impl_isData.f x.f2 x.f1).bind fun t => if t = true then g k else impl_SetRight.j2 k l (l.length : Int) (i : Int) true v l) else impl_SetRight.j2 k l (l.length : Int) (i : Int) true v l) else impl_SetRight.j2 k l (l.length : Int) (i : Int) true v l) (sibOk v x && (p && sibsFrom v (some x) s)) := by
      intro p g hg
      unfold sibOk
      refine evBind1 (isDot_is _ _) ?_
      cases isDot x.f0.f0 x.f0.f1 with
      | false => exact evNeg (by simp) (by simpa using hj true)
      | true =>
        refine evPos rfl (Ev.bind (seenHas_ev v _ _ hv) ?_)
        cases seenHas v x.f0.f0 x.f0.f1 with
        | false => exact evNeg (by simp) (by simpa using hj true)
        | true =>
          refine evPos rfl (evBind1 (isData_is _ _) ?_)
          cases dataOk x.f2 x.f1 with
          | false => exact evNeg (by simp) (by simpa using hj true)
          | true => exact evPos rfl (by simpa using hg)
    by_cases hi0 : i = 0
    · have hp : prevSib l i = none := by simp [prevSib, hi0]
      rw [hp]
      have h0 : ¬ ((i : Int) > 0) := by omega
      refine Ev.step (fun k => ?_) (show Ev _ (sibsFrom v none (x :: s)) from by
        have := main true _ (by simpa using hj false)
        simpa [sibsFrom] using this)
      simp only [impl_SetRight.l0, hr, if_neg h0]
      rw [if_pos (by omega), if_pos (by omega), if_pos (by omega)]
    · have hp : prevSib l i = some (l.getD (i - 1) z158) := by simp [prevSib, hi0]
      rw [hp]
      generalize hy : l.getD (i - 1) z158 = y
      have hq : rd_T158 l ((i : Int) - 1) = y := by
        rw [← hy]; simp only [rd_T158]; congr 1; omega
      have h0 : (i : Int) > 0 := by omega
      have hw : wrap64 ((i : Int) - 1) = (i : Int) - 1 := w64 (by omega) (by omega)
      have hA : (0 : Int) ≤ (i : Int) - 1 := by omega
      have hB : (i : Int) - 1 < (l.length : Int) := by omega
      refine Ev.step (fun k => ?_) (show Ev _ (sibsFrom v (some y) (x :: s)) from by
        have := main (dotLess y.f0.f0 y.f0.f1 x.f0.f0 x.f0.f1) (fun k => (impl_compareDots.f k y.f0.f0 y.f0.f1 x.f0.f0 x.f0.f1).bind fun t => impl_SetRight.j2 k l (l.length : Int) (i : Int) (decide (t ≥ 0)) v l)
          (Ev.bind (compareDots_ev _ _ _ _) (by
            have := hj (decide (cmpDots y.f0.f0 y.f0.f1 x.f0.f0 x.f0.f1 ≥ 0))
            rw [cmpDots_ge] at this ⊢
            simpa using this))
        simpa [sibsFrom] using this)
      simp only [impl_SetRight.l0, hr, if_pos h0, hw, if_pos hA, if_pos hB, hq]
      rw [if_pos (by omega), if_pos (by omega), if_pos (by omega)]
theorem impl_SetRight_ev (v : List Mark) (l : List Sib) (hv : v.length ≤ 4611686018427387904) (hl : l.length ≤ 1048576) : Ev (fun k => impl_SetRight.f k v l) (setOk v l) := by
  unfold impl_SetRight.f setOk
  refine Ev.bind (impl_seenRight_ev v hv) ?_
  cases seenOk v with
  | false => exact evNeg (by simp) (Ev.step (f := fun _ => some false) (fun k => by simp [impl_SetRight.j0]) (Ev.now _))
  | true =>
    refine evPos rfl ?_
    by_cases h : l.length ≤ 8
    · have hd : decide ((l.length : Int) > 8) = false := by simp; omega
      rw [hd]
      refine Ev.step (fun k => by simp only [impl_SetRight.j0]; rw [if_neg (by simp)]) ?_
      simpa [h, prevSib] using impl_SetRight_l0 v hv l hl l 0 rfl (by omega)
    · have hd : decide ((l.length : Int) > 8) = true := by simp; omega
      rw [hd]
      exact Ev.step (f := fun _ => some false) (fun k => by simp [impl_SetRight.j0]) (by simp [h]; exact Ev.now _)
theorem spec_SetRight_l0 (v : List Mark) (hv : v.length ≤ 4611686018427387904) (hk : seenOk v = true) (l : List Sib) (hl : l.length ≤ 1048576) : ∀ (s : List Sib) (i : Nat), l.drop i = s → i ≤ l.length →
    Ev (fun k => spec_SetRight.l0 k (i : Int) v l) (sibsFrom v (prevSib l i) s)
  | [], i, h, hi => by
    have := dropNil' h hi
    refine Ev.step (f := fun _ => some true) (fun k => ?_) (by simp only [sibsFrom]; exact Ev.now _)
    simp only [spec_SetRight.l0]
    rw [if_neg (by omega)]
  | x :: s, i, h, hi => by
    obtain ⟨h1, h2, h3⟩ := dropCons h z158
    have hr : rd_T158 l (i : Int) = x := by simpa [rd_T158] using h2
    have ih := spec_SetRight_l0 v hv hk l hl s (i + 1) h3 (by omega)
    rw [prevSib_succ h2] at ih
    have hj : ∀ b : Bool, Ev (fun k => if b = true then spec_SetRight.l0 k ((i : Int) + 1) v l else some false) (b && sibsFrom v (some x) s) := fun b => by
      cases b with
      | false => exact evNeg (by simp) (Ev.now _)
      | true => exact evPos rfl (by simpa using ih)
    have hi1 : wrap64 ((i : Int) + 1) = (i : Int) + 1 := w64 (by omega) (by omega)
    have main : ∀ (p : Bool) (g : Nat → Option Bool), Ev g (p && sibsFrom v (some x) s) → Ev (fun k => (spec_SeenHas.f k v x.f0.f0 x.f0.f1).bind fun t => if t = true then (if (x.f2.size : Int) > 16 then some false else (if x.f1 = true then (if x.f2.toList = ([] : List UInt8) then g k else some false) else g k)) else some false) (sibOk v x && (p && sibsFrom v (some x) s)) := by
      intro p g hg
      have e : seenHasOut v x.f0.f0 x.f0.f1 = (isDot x.f0.f0 x.f0.f1 && seenHas v x.f0.f0 x.f0.f1) := by simp [seenHasOut, hk]
      unfold sibOk
      rw [← Bool.and_assoc (isDot _ _), ← e]
      refine Ev.bind (spec_SeenHas_ev v _ _ hv) ?_
      cases seenHasOut v x.f0.f0 x.f0.f1 with
      | false => exact evNeg (by simp) (Ev.now _)
      | true =>
        refine evPos rfl ?_
        unfold dataOk
        by_cases hs : (x.f2.size : Int) > 16
        · have hs' : ¬ x.f2.size ≤ 16 := by omega
          exact evPos hs (by simpa [hs'] using Ev.now false)
        · have hs' : x.f2.size ≤ 16 := by omega
          refine evNeg hs ?_
          cases hg1 : x.f1 with
          | false => exact evNeg (by simp) (by simpa [hs'] using hg)
          | true =>
            refine evPos rfl ?_
            by_cases he : x.f2.toList = []
            · exact evPos he (by simpa [hs', he] using hg)
            · exact evNeg he (by simpa [hs', he] using Ev.now false)
    by_cases hi0 : i = 0
    · have hp : prevSib l i = none := by simp [prevSib, hi0]
      rw [hp]
      have h0 : ¬ ((i : Int) > 0) := by omega
      refine Ev.step (fun k => ?_) (show Ev _ (sibsFrom v none (x :: s)) from by
        have := main true (fun k => spec_SetRight.l0 k ((i : Int) + 1) v l) (by simpa using ih)
        simpa [sibsFrom] using this)
      simp only [spec_SetRight.l0, hr, if_neg h0, hi1]
      rw [if_pos (by omega), if_pos (by omega)]
    · have hp : prevSib l i = some (l.getD (i - 1) z158) := by simp [prevSib, hi0]
      rw [hp]
      generalize hy : l.getD (i - 1) z158 = y
      have hq : rd_T158 l ((i : Int) - 1) = y := by
        rw [← hy]; simp only [rd_T158]; congr 1; omega
      have h0 : (i : Int) > 0 := by omega
      have hw : wrap64 ((i : Int) - 1) = (i : Int) - 1 := w64 (by omega) (by omega)
      have hA : (0 : Int) ≤ (i : Int) - 1 := by omega
      have hB : (i : Int) - 1 < (l.length : Int) := by omega
      refine Ev.step (fun k => ?_) (show Ev _ (sibsFrom v (some y) (x :: s)) from by
        have := main (dotLess y.f0.f0 y.f0.f1 x.f0.f0 x.f0.f1) (fun k => (spec_l03Less.f y.f0.f0 y.f0.f1 x.f0.f0 x.f0.f1).bind fun t => if t = true then spec_SetRight.l0 k ((i : Int) + 1) v l else some false)
          (evBind1 (l03Less_is _ _ _ _) (hj (dotLess y.f0.f0 y.f0.f1 x.f0.f0 x.f0.f1)))
        simpa [sibsFrom] using this)
      simp only [spec_SetRight.l0, hr, hi1, if_pos h0, hw, if_pos hA, if_pos hB, hq]
      rw [if_pos (by omega), if_pos (by omega)]
theorem spec_SetRight_ev (v : List Mark) (l : List Sib) (hv : v.length ≤ 4611686018427387904) (hl : l.length ≤ 1048576) : Ev (fun k => spec_SetRight.f k v l) (setOk v l) := by
  unfold spec_SetRight.f setOk
  refine Ev.bind (spec_SeenRight_ev v hv) ?_
  cases hk : seenOk v with
  | false => exact evNeg (by simp) (Ev.step (f := fun _ => some false) (fun k => by simp [spec_SetRight.j0]) (Ev.now _))
  | true =>
    refine evPos rfl ?_
    by_cases h : l.length ≤ 8
    · have hd : decide ((l.length : Int) > 8) = false := by simp; omega
      rw [hd]
      refine Ev.step (fun k => by simp only [spec_SetRight.j0]; rw [if_neg (by simp)]) ?_
      simpa [h, prevSib] using spec_SetRight_l0 v hv hk l hl l 0 rfl (by omega)
    · have hd : decide ((l.length : Int) > 8) = true := by simp; omega
      rw [hd]
      exact Ev.step (f := fun _ => some false) (fun k => by simp [spec_SetRight.j0]) (by simp [h]; exact Ev.now _)
end Go.Proofs.Ytconpopbpphpgaa.Q

namespace Go.Proofs.Ytconpopbpphpgaa.P
open Go.RowKit Go.Proofs.YtconpopbpphpgaaW.PrintWords Go.Proofs.YtconpopbpphpgaaW.PrintLast Go.Proofs.YtconpopbpphpgaaW.PrintMore
attribute [local go_sem] max2_int min2_int max_two min_two max_three min_three max_four min_four   -- for this text's walks alone
set_option linter.unusedVariables false
set_option linter.unusedSimpArgs false

/-! ### laws_szSib: function 169 -/
def laws_szSib.f (a0_0 : Int) (a0_1 : Int) (a0_2 : Bool) (a0_3 : ByteArray) (a1 : Int) : Option (Int) := if (wrap64 (a1 - (a0_3.size : Int))) < 0 then (some (-1)) else (some (wrap64 (a1 - (a0_3.size : Int))))

/-! ### laws_szSibS: function 104 -/
def laws_szSibS.l0 : Nat → List (S189) → Int → Int → Option (Int)
 | 0, _, _, _ => none
 | k + 1, x0, x1, x5 => if x5 < (x0.length : Int) then (if 0 ≤ x5 then ((laws_szSib.f ((rd_T189 x0 x5).f0.f0) ((rd_T189 x0 x5).f0.f1) ((rd_T189 x0 x5).f1) ((rd_T189 x0 x5).f2) x1).bind fun t610 => (if t610 < 0 then (some (-1)) else (laws_szSibS.l0 k x0 t610 (wrap64 (x5 + 1))))) else (none)) else (some x1)
def laws_szSibS.f (k : Nat) (l0 : List (S189)) (a1 : Int) : Option (Int) := if (wrap64 (a1 - (l0.length : Int))) < 0 then (some (-1)) else (laws_szSibS.l0 k l0 (wrap64 (a1 - (l0.length : Int))) 0)
theorem laws_szSibS.mono_l : ∀ k, (∀ y0 y1 y2, LeO (laws_szSibS.l0 k y0 y1 y2) (laws_szSibS.l0 (k + 1) y0 y1 y2))
 | 0 => fun _ _ _ r h => by simp [laws_szSibS.l0] at h
 | k + 1 => by
  have ih0 := laws_szSibS.mono_l k
  ·intro y0 y1 y2
   unfold laws_szSibS.l0
   repeat' first
   | (with_reducible exact ih0 _ _ _)
   | (with_reducible exact LeO.refl _)
   | (with_reducible exact LeO.none _)
   | (with_reducible refine LeO.ite ?_ ?_)
   | (with_reducible refine LeO.bind ?_ (fun _ => ?_))
   | exact ih0 _ _ _
   | exact LeO.none _
   | refine LeO.ite ?_ ?_
   | refine LeO.bind ?_ (fun _ => ?_)
theorem laws_szSibS.mono : ∀ a0 a1 k, LeO (laws_szSibS.f k a0 a1) (laws_szSibS.f (k + 1) a0 a1) := by
 intro a0 a1 k
 have ih0 := laws_szSibS.mono_l k
 unfold laws_szSibS.f
 repeat' first
   | (with_reducible exact ih0 _ _ _)
   | (with_reducible exact LeO.refl _)
   | (with_reducible exact LeO.none _)
   | (with_reducible refine LeO.ite ?_ ?_)
   | (with_reducible refine LeO.bind ?_ (fun _ => ?_))
   | exact ih0 _ _ _
   | exact LeO.none _
   | refine LeO.ite ?_ ?_
   | refine LeO.bind ?_ (fun _ => ?_)

/-! ### laws_szSet: function 40 -/
def laws_szSet.f (k : Nat) (l0_0 : List (S139)) (l0_1 : List (S189)) (a1 : Int) : Option (Int) := (laws_szMarkS.f l0_0 a1).bind fun t612 => (if t612 < 0 then (some (-1)) else ((laws_szSibS.f k l0_1 t612).bind fun t613 => (if t613 < 0 then (some (-1)) else (some t613))))
theorem laws_szSet.mono : ∀ a0 a1 a2 k, LeO (laws_szSet.f k a0 a1 a2) (laws_szSet.f (k + 1) a0 a1 a2) := by
 intro a0 a1 a2 k
 unfold laws_szSet.f
 repeat' first
   | (with_reducible exact laws_szSibS.mono _ _ _)
   | (with_reducible exact LeO.refl _)
   | (with_reducible exact LeO.none _)
   | (with_reducible refine LeO.ite ?_ ?_)
   | (with_reducible refine LeO.bind ?_ (fun _ => ?_))
   | exact laws_szSibS.mono _ _ _
   | exact LeO.none _
   | refine LeO.ite ?_ ?_
   | refine LeO.bind ?_ (fun _ => ?_)

/-! ### laws_toSib: function 172 -/
def laws_toSib.f (a0_0 : Int) (a0_1 : Int) (a0_2 : Bool) (a0_3 : ByteArray) : Option (Int × Int × Bool × ByteArray) := (laws_toMark.f a0_0 a0_1).bind fun bt691 => (some (bt691.1, bt691.2, a0_2, a0_3))

/-! ### laws_toSibS: function 108 -/
def laws_toSibS.l0 : Nat → List (S189) → List (S158) → Int → Option ((List (S158)))
 | 0, _, _, _ => none
 | k + 1, x0, x3, x4 => if x4 < (x0.length : Int) then (if 0 ≤ x4 then ((laws_toSib.f ((rd_T189 x0 x4).f0.f0) ((rd_T189 x0 x4).f0.f1) ((rd_T189 x0 x4).f1) ((rd_T189 x0 x4).f2)).bind fun bt697 => (if x4 < (x3.length : Int) then (laws_toSibS.l0 k x0 (x3.set (x4 : Int).toNat (⟨(⟨bt697.1, bt697.2.1⟩ : S33), bt697.2.2.1, bt697.2.2.2⟩ : S158)) (wrap64 (x4 + 1))) else (none))) else (none)) else (some x3)
def laws_toSibS.f (k : Nat) (l0 : List (S189)) : Option ((List (S158))) := if 0 ≤ (l0.length : Int) then (if ((l0.length : Int) : Int).toNat ≤ 7036874417766 then (laws_toSibS.l0 k l0 (List.replicate ((l0.length : Int) : Int).toNat z158) 0) else (none)) else (none)
theorem laws_toSibS.mono_l : ∀ k, (∀ y0 y1 y2, LeO (laws_toSibS.l0 k y0 y1 y2) (laws_toSibS.l0 (k + 1) y0 y1 y2))
 | 0 => fun _ _ _ r h => by simp [laws_toSibS.l0] at h
 | k + 1 => by
  have ih0 := laws_toSibS.mono_l k
  ·intro y0 y1 y2
   unfold laws_toSibS.l0
   repeat' first
   | (with_reducible exact ih0 _ _ _)
   | (with_reducible exact LeO.refl _)
   | (with_reducible exact LeO.none _)
   | (with_reducible refine LeO.ite ?_ ?_)
   | (with_reducible refine LeO.bind ?_ (fun _ => ?_))
   | exact ih0 _ _ _
   | exact LeO.none _
   | refine LeO.ite ?_ ?_
   | refine LeO.bind ?_ (fun _ => ?_)
theorem laws_toSibS.mono : ∀ a0 k, LeO (laws_toSibS.f k a0) (laws_toSibS.f (k + 1) a0) := by
 intro a0 k
 have ih0 := laws_toSibS.mono_l k
 unfold laws_toSibS.f
 repeat' first
   | (with_reducible exact ih0 _ _ _)
   | (with_reducible exact LeO.refl _)
   | (with_reducible exact LeO.none _)
   | (with_reducible refine LeO.ite ?_ ?_)
   | (with_reducible refine LeO.bind ?_ (fun _ => ?_))
   | exact ih0 _ _ _
   | exact LeO.none _
   | refine LeO.ite ?_ ?_
   | refine LeO.bind ?_ (fun _ => ?_)

/-! ### laws_toSet: function 43 -/
def laws_toSet.f (k : Nat) (l0_0 : List (S139)) (l0_1 : List (S189)) : Option ((List (S33)) × (List (S158))) := (laws_toMarkS.f k l0_0).bind fun t705 => ((laws_toSibS.f k l0_1).bind fun t708 => (some (t705, t708)))
theorem laws_toSet.mono : ∀ a0 a1 k, LeO (laws_toSet.f k a0 a1) (laws_toSet.f (k + 1) a0 a1) := by
 intro a0 a1 k
 unfold laws_toSet.f
 repeat' first
   | (with_reducible exact laws_toMarkS.mono _ _)
   | (with_reducible exact laws_toSibS.mono _ _)
   | (with_reducible exact LeO.refl _)
   | (with_reducible exact LeO.none _)
   | (with_reducible refine LeO.ite ?_ ?_)
   | (with_reducible refine LeO.bind ?_ (fun _ => ?_))
   | exact laws_toMarkS.mono _ _
   | exact laws_toSibS.mono _ _
   | exact LeO.none _
   | refine LeO.ite ?_ ?_
   | refine LeO.bind ?_ (fun _ => ?_)
end Go.Proofs.Ytconpopbpphpgaa.P

namespace Go.Proofs.Ytconpopbpphpgaa.Q
open Go.RowKit Go.Proofs.Ytconpopbpphpgaa.P Go.Proofs.YtconpopbpphpgaaW.PrintWords Go.Proofs.YtconpopbpphpgaaW.PrintMore

theorem eqSib_refl (a b : Int) (c : Bool) (t : ByteArray) : laws_eqSib.f a b c t a b c t = some true := by simp [laws_eqSib.f, eqMark_refl]
theorem eqSibS_l0 (l : List Sib) (hl : l.length ≤ 4611686018427387904) : ∀ (s : List Sib) (i : Nat), l.drop i = s → i ≤ l.length →
    Ev (fun k => laws_eqSibS.l0 k l l (i : Int)) true
  | [], i, h, hi => by
    have := dropNil' h hi
    refine Ev.step (f := fun _ => some true) (fun k => ?_) (Ev.now _)
    simp only [laws_eqSibS.l0]
    rw [if_neg (by omega)]
  | m :: s, i, h, hi => by
    obtain ⟨h1, h2, h3⟩ := dropCons h z158
    refine Ev.step (fun k => ?_) (eqSibS_l0 l hl s (i + 1) h3 (by omega))
    simp only [laws_eqSibS.l0, eqSib_refl, Option.bind_some]
    rw [if_pos (by omega), if_pos (by omega), if_pos (by omega), if_pos trivial, w64 (by omega) (by omega)]
    rfl
theorem eqSibS_ev (l : List Sib) (hl : l.length ≤ 4611686018427387904) : Ev (fun k => laws_eqSibS.f k l l) true := by
  unfold laws_eqSibS.f
  exact evPos rfl (eqSibS_l0 l hl l 0 rfl (by omega))
theorem eqSet_ev (v : List Mark) (l : List Sib) (hv : v.length ≤ 4611686018427387904) (hl : l.length ≤ 4611686018427387904) : Ev (fun k => laws_eqSet.f k v l v l) true :=
  Ev.bind (eqMarkS_ev v hv) (evPos rfl (Ev.bind (eqSibS_ev l hl) (evPos rfl (Ev.now _))))
end Go.Proofs.Ytconpopbpphpgaa.Q

namespace Go.Proofs.Ytconpopbpphpgaa.P
open Go.RowKit Go.Proofs.YtconpopbpphpgaaW.PrintWords Go.Proofs.YtconpopbpphpgaaW.PrintLast Go.Proofs.YtconpopbpphpgaaW.PrintMore
attribute [local go_sem] max2_int min2_int max_two min_two max_three min_three max_four min_four   -- for this text's walks alone
set_option linter.unusedVariables false
set_option linter.unusedSimpArgs false

/-! ### laws_eqStringS: function 12 -/
def laws_eqStringS.l0 : Nat → List ByteArray → List ByteArray → Int → Option (Bool)
 | 0, _, _, _ => none
 | k + 1, x0, x1, x5 => if x5 < (x0.length : Int) then (if 0 ≤ x5 then (if x5 < (x1.length : Int) then (if (rdOf ByteArray.empty x0 x5).toList = (rdOf ByteArray.empty x1 x5).toList then (laws_eqStringS.l0 k x0 x1 (wrap64 (x5 + 1))) else (none)) else (none)) else (none)) else (some true)
def laws_eqStringS.f (k : Nat) (l0 : List ByteArray) (l1 : List ByteArray) : Option (Bool) := if (l0.length : Int) = (l1.length : Int) then (laws_eqStringS.l0 k l0 l1 0) else (none)
theorem laws_eqStringS.mono_l : ∀ k, (∀ y0 y1 y2, LeO (laws_eqStringS.l0 k y0 y1 y2) (laws_eqStringS.l0 (k + 1) y0 y1 y2))
 | 0 => fun _ _ _ r h => by simp [laws_eqStringS.l0] at h
 | k + 1 => by
  have ih0 := laws_eqStringS.mono_l k
  ·intro y0 y1 y2
   unfold laws_eqStringS.l0
   repeat' first
   | (with_reducible exact ih0 _ _ _)
   | (with_reducible exact LeO.refl _)
   | (with_reducible exact LeO.none _)
   | (with_reducible refine LeO.ite ?_ ?_)
   | (with_reducible refine LeO.bind ?_ (fun _ => ?_))
   | exact ih0 _ _ _
   | exact LeO.none _
   | refine LeO.ite ?_ ?_
   | refine LeO.bind ?_ (fun _ => ?_)
theorem laws_eqStringS.mono : ∀ a0 a1 k, LeO (laws_eqStringS.f k a0 a1) (laws_eqStringS.f (k + 1) a0 a1) := by
 intro a0 a1 k
 have ih0 := laws_eqStringS.mono_l k
 unfold laws_eqStringS.f
 repeat' first
   | (with_reducible exact ih0 _ _ _)
   | (with_reducible exact LeO.refl _)
   | (with_reducible exact LeO.none _)
   | (with_reducible refine LeO.ite ?_ ?_)
   | (with_reducible refine LeO.bind ?_ (fun _ => ?_))
   | exact ih0 _ _ _
   | exact LeO.none _
   | refine LeO.ite ?_ ?_
   | refine LeO.bind ?_ (fun _ => ?_)

/-! ### laws_markStringS: function 13 -/
def laws_markStringS.l0 : Nat → List ByteArray → Int → Int → Option (Int × List ByteArray)
 | 0, _, _, _ => none
 | k + 1, x0, x1, x5 => if x5 < (x0.length : Int) then ((laws_markText.f k x1).bind fun t247 => (if 0 ≤ x5 then (laws_markStringS.l0 k (x0.set (x5 : Int).toNat t247) (wrap64 (x1 + 1)) (wrap64 (x5 + 1))) else (none))) else (some (x1, x0))
def laws_markStringS.f (k : Nat) (l0 : List ByteArray) (a1 : Int) : Option (Int × List ByteArray) := laws_markStringS.l0 k l0 a1 0
theorem laws_markStringS.mono_l : ∀ k, (∀ y0 y1 y2, LeO (laws_markStringS.l0 k y0 y1 y2) (laws_markStringS.l0 (k + 1) y0 y1 y2))
 | 0 => fun _ _ _ r h => by simp [laws_markStringS.l0] at h
 | k + 1 => by
  have ih0 := laws_markStringS.mono_l k
  ·intro y0 y1 y2
   unfold laws_markStringS.l0
   repeat' first
   | (with_reducible exact ih0 _ _ _)
   | (with_reducible exact laws_markText.mono _ _)
   | (with_reducible exact LeO.refl _)
   | (with_reducible exact LeO.none _)
   | (with_reducible refine LeO.ite ?_ ?_)
   | (with_reducible refine LeO.bind ?_ (fun _ => ?_))
   | exact ih0 _ _ _
   | exact laws_markText.mono _ _
   | exact LeO.none _
   | refine LeO.ite ?_ ?_
   | refine LeO.bind ?_ (fun _ => ?_)
theorem laws_markStringS.mono : ∀ a0 a1 k, LeO (laws_markStringS.f k a0 a1) (laws_markStringS.f (k + 1) a0 a1) := by
 intro a0 a1 k
 have ih0 := laws_markStringS.mono_l k
 unfold laws_markStringS.f
 repeat' first
   | (with_reducible exact ih0 _ _ _)
   | (with_reducible exact laws_markText.mono _ _)
   | (with_reducible exact LeO.refl _)
   | (with_reducible exact LeO.none _)
   | (with_reducible refine LeO.ite ?_ ?_)
   | (with_reducible refine LeO.bind ?_ (fun _ => ?_))
   | exact ih0 _ _ _
   | exact laws_markText.mono _ _
   | exact LeO.none _
   | refine LeO.ite ?_ ?_
   | refine LeO.bind ?_ (fun _ => ?_)

/-! ### laws_heldStringS: function 14 -/
def laws_heldStringS.l0 : Nat → List ByteArray → Int → Int → Option (Int)
 | 0, _, _, _ => none
 | k + 1, x0, x1, x5 => if x5 < (x0.length : Int) then (if 0 ≤ x5 then ((laws_markText.f k x1).bind fun t250 => (if (rdOf ByteArray.empty x0 x5).toList = t250.toList then (laws_heldStringS.l0 k x0 (wrap64 (x1 + 1)) (wrap64 (x5 + 1))) else (none))) else (none)) else (some x1)
def laws_heldStringS.f (k : Nat) (l0 : List ByteArray) (a1 : Int) : Option (Int) := laws_heldStringS.l0 k l0 a1 0
theorem laws_heldStringS.mono_l : ∀ k, (∀ y0 y1 y2, LeO (laws_heldStringS.l0 k y0 y1 y2) (laws_heldStringS.l0 (k + 1) y0 y1 y2))
 | 0 => fun _ _ _ r h => by simp [laws_heldStringS.l0] at h
 | k + 1 => by
  have ih0 := laws_heldStringS.mono_l k
  ·intro y0 y1 y2
   unfold laws_heldStringS.l0
   repeat' first
   | (with_reducible exact ih0 _ _ _)
   | (with_reducible exact laws_markText.mono _ _)
   | (with_reducible exact LeO.refl _)
   | (with_reducible exact LeO.none _)
   | (with_reducible refine LeO.ite ?_ ?_)
   | (with_reducible refine LeO.bind ?_ (fun _ => ?_))
   | exact ih0 _ _ _
   | exact laws_markText.mono _ _
   | exact LeO.none _
   | refine LeO.ite ?_ ?_
   | refine LeO.bind ?_ (fun _ => ?_)
theorem laws_heldStringS.mono : ∀ a0 a1 k, LeO (laws_heldStringS.f k a0 a1) (laws_heldStringS.f (k + 1) a0 a1) := by
 intro a0 a1 k
 have ih0 := laws_heldStringS.mono_l k
 unfold laws_heldStringS.f
 repeat' first
   | (with_reducible exact ih0 _ _ _)
   | (with_reducible exact laws_markText.mono _ _)
   | (with_reducible exact LeO.refl _)
   | (with_reducible exact LeO.none _)
   | (with_reducible refine LeO.ite ?_ ?_)
   | (with_reducible refine LeO.bind ?_ (fun _ => ?_))
   | exact ih0 _ _ _
   | exact laws_markText.mono _ _
   | exact LeO.none _
   | refine LeO.ite ?_ ?_
   | refine LeO.bind ?_ (fun _ => ?_)
end Go.Proofs.Ytconpopbpphpgaa.P

namespace Go.Proofs.Ytconpopbpphpgaa.Q
open Go.RowKit Go.Proofs.Ytconpopbpphpgaa.P Go.Proofs.YtconpopbpphpgaaW.PrintWords Go.Proofs.YtconpopbpphpgaaW.PrintMore

theorem markText_l0 : ∀ (m : Nat) (n : Int), n.toNat ≤ m → 0 ≤ n → ∀ t : ByteArray, (t.size : Int) + n + 1 ≤ 9223372036854775807 → ∃ r, Ev (fun k => laws_markText.l0 k n t) r
  | 0, n, hm, h0, t, ht => by
    refine ⟨(⟨#[109]⟩ : ByteArray) ++ t, Ev.step (f := fun _ => some ((⟨#[109]⟩ : ByteArray) ++ t)) (fun k => ?_) (Ev.now _)⟩
    simp only [laws_markText.l0]
    rw [if_neg (by omega), if_pos (by omega)]
  | m + 1, n, hm, h0, t, ht => by
    by_cases hn : n > 0
    · have hs : (strOfNums [(wrap64 (48 + (Int.tmod n 10))) % 256]).size = 1 := rfl
      have e : Int.tdiv n 10 = n / 10 := Int.tdiv_eq_ediv_of_nonneg h0
      obtain ⟨r, hr⟩ := markText_l0 m (n / 10) (by omega) (by omega) (strOfNums [(wrap64 (48 + (Int.tmod n 10))) % 256] ++ t) (by rw [ByteArray.size_append, hs]; omega)
      refine ⟨r, Ev.step (fun k => ?_) hr⟩
      simp only [laws_markText.l0, Option.bind_some]
      rw [if_pos hn, if_pos (by rw [hs]; omega), e, w64 (x := n / 10) (by omega) (by omega)]
    · refine ⟨(⟨#[109]⟩ : ByteArray) ++ t, Ev.step (f := fun _ => some ((⟨#[109]⟩ : ByteArray) ++ t)) (fun k => ?_) (Ev.now _)⟩
      simp only [laws_markText.l0]
      rw [if_neg hn, if_pos (by omega)]
theorem markText_is (n : Int) (h1 : n ≤ 1152921504606846976) : ∃ r, Ev (fun k => laws_markText.f k n) r := by
  unfold laws_markText.f
  by_cases h : n ≤ 0
  · exact ⟨_, evPos h (Ev.now _)⟩
  · obtain ⟨r, hr⟩ := markText_l0 n.toNat n (by omega) (by omega) ⟨#[]⟩ (by show (0 : Int) + n + 1 ≤ _; omega)
    exact ⟨r, evNeg h hr⟩
open Classical in
noncomputable def markT (n : Int) : ByteArray := if h : ∃ r, Ev (fun k => laws_markText.f k n) r then h.choose else ⟨#[]⟩
theorem markT_ev (n : Int) (h1 : n ≤ 1152921504606846976) : Ev (fun k => laws_markText.f k n) (markT n) := by
  have h := markText_is n h1
  unfold markT
  rw [dif_pos h]
  exact h.choose_spec
noncomputable def markSL : Int → List Sib → List Sib
  | _, [] => []
  | n, _ :: r => ⟨⟨n, n + 1⟩, (Int.tmod (n + 2) 3) == 0, markT (n + 3)⟩ :: markSL (n + 4) r
theorem markSibS_l0 (N : Int) (hN : N ≤ 1152921504606846976) : ∀ (s pre : List Sib) (n : Int), 0 ≤ n → n + 4 * (s.length : Int) ≤ N → (pre.length : Int) + s.length ≤ N →
    Ev (fun k => laws_markSibS.l0 k (pre ++ s) n (pre.length : Int)) (n + 4 * (s.length : Int), pre ++ markSL n s)
  | [], pre, n, h0, h1, h2 => by
    refine Ev.step (f := fun _ => some (n, pre)) (fun k => ?_) (by simp [markSL]; exact Ev.now _)
    simp only [laws_markSibS.l0, List.append_nil]
    rw [if_neg (by omega)]
  | x :: s, pre, n, h0, h1, h2 => by
    simp only [List.length_cons] at h1 h2
    have ih := markSibS_l0 N hN s (pre ++ [⟨⟨n, n + 1⟩, (Int.tmod (n + 2) 3) == 0, markT (n + 3)⟩]) (n + 4) (by omega) (by omega) (by simp; omega)
    simp only [List.length_append, List.length_cons, List.length_nil, List.append_assoc, List.cons_append, List.nil_append] at ih
    have w1 : wrap64 (n + 1) = n + 1 := w64 (by omega) (by omega)
    have w2 : wrap64 (n + 1 + 1) = n + 2 := by rw [w64 (by omega) (by omega)]; omega
    have w3 : wrap64 (n + 2 + 1) = n + 3 := by rw [w64 (by omega) (by omega)]; omega
    have w4 : wrap64 (n + 3 + 1) = n + 4 := by rw [w64 (by omega) (by omega)]; omega
    refine Ev.step (f := fun k => (laws_markText.f k (n + 3)).bind fun t => laws_markSibS.l0 k (pre ++ ⟨⟨n, n + 1⟩, (Int.tmod (n + 2) 3) == 0, t⟩ :: s) (n + 4) ((pre.length + (0 + 1) : Nat) : Int)) (fun k => ?_) (show Ev _ (n + 4 * ((x :: s).length : Int), pre ++ markSL n (x :: s)) from by
      simp only [markSL, List.length_cons]
      rw [show n + 4 * ((s.length + 1 : Nat) : Int) = n + 4 + 4 * (s.length : Int) from by omega]
      exact Ev.bind (markT_ev (n + 3) (by omega)) ih)
    simp only [laws_markSibS.l0, Option.bind_some, Int.toNat_natCast, rd_T158, set_mid, getD_mid, w1, w2, w3, w4]
    rw [if_pos (by simp; omega), if_pos (by omega), w64 (x := (pre.length : Int) + 1) (by omega) (by omega)]
    rfl
theorem markSibS_ev (s : List Sib) (n : Int) (h0 : 0 ≤ n) (h1 : n + 4 * (s.length : Int) ≤ 1152921504606846976) : Ev (fun k => laws_markSibS.f k s n) (n + 4 * (s.length : Int), markSL n s) :=
  markSibS_l0 1152921504606846976 (Int.le_refl _) s [] n h0 h1 (by simp; omega)
theorem markSet_ev (v : List Mark) (l : List Sib) (n : Int) (h0 : 0 ≤ n) (h1 : n + 2 * (v.length : Int) + 4 * (l.length : Int) ≤ 1152921504606846976) :
    Ev (fun k => laws_markSet.f k v l n) (n + 2 * (v.length : Int) + 4 * (l.length : Int), markL n v, markSL (n + 2 * (v.length : Int)) l) :=
  Ev.bind (markMarkS_ev v n h0 (by omega)) (Ev.bind (markSibS_ev l _ (by omega) h1) (Ev.now _))
end Go.Proofs.Ytconpopbpphpgaa.Q

namespace Go.Proofs.Ytconpopbpphpgaa.Q
open Go.RowKit Go.Proofs.Ytconpopbpphpgaa.P Go.Proofs.YtconpopbpphpgaaW.PrintWords Go.Proofs.YtconpopbpphpgaaW.PrintMore

theorem heldSibS_l0 (N : Int) (hN : N ≤ 1152921504606846976) : ∀ (s pre : List Sib) (n : Int), 0 ≤ n → n + 4 * (s.length : Int) ≤ N → (pre.length : Int) + s.length ≤ N →
    Ev (fun k => laws_heldSibS.l0 k (pre ++ markSL n s) n (pre.length : Int)) (n + 4 * (s.length : Int))
  | [], pre, n, h0, h1, h2 => by
    refine Ev.step (f := fun _ => some n) (fun k => ?_) (by simp; exact Ev.now _)
    simp only [laws_heldSibS.l0, markSL, List.append_nil]
    rw [if_neg (by omega)]
  | x :: s, pre, n, h0, h1, h2 => by
    simp only [List.length_cons] at h1 h2
    have ih := heldSibS_l0 N hN s (pre ++ [⟨⟨n, n + 1⟩, (Int.tmod (n + 2) 3) == 0, markT (n + 3)⟩]) (n + 4) (by omega) (by omega) (by simp; omega)
    simp only [List.length_append, List.length_cons, List.length_nil, List.append_assoc, List.cons_append, List.nil_append] at ih
    have hr : rd_T158 (pre ++ markSL n (x :: s)) (pre.length : Int) = ⟨⟨n, n + 1⟩, (Int.tmod (n + 2) 3) == 0, markT (n + 3)⟩ := by simp only [rd_T158, Int.toNat_natCast, markSL, getD_mid]
    have w1 : wrap64 (n + 1) = n + 1 := w64 (by omega) (by omega)
    have w2 : wrap64 (n + 1 + 1) = n + 2 := by rw [w64 (by omega) (by omega)]; omega
    have w3 : wrap64 (n + 2 + 1) = n + 3 := by rw [w64 (by omega) (by omega)]; omega
    have w4 : wrap64 (n + 3 + 1) = n + 4 := by rw [w64 (by omega) (by omega)]; omega
    refine Ev.step (f := fun k => (laws_markText.f k (n + 3)).bind fun t => if (markT (n + 3)).toList = t.toList then laws_heldSibS.l0 k (pre ++ markSL n (x :: s)) (n + 4) ((pre.length + (0 + 1) : Nat) : Int) else none) (fun k => ?_) (show Ev _ (n + 4 * ((x :: s).length : Int)) from by
      simp only [List.length_cons]
      rw [show n + 4 * ((s.length + 1 : Nat) : Int) = n + 4 + 4 * (s.length : Int) from by omega]
      exact Ev.bind (markT_ev (n + 3) (by omega)) (evPos rfl ih))
    simp only [laws_heldSibS.l0, hr, w1, w2, w3, w4]
    rw [if_pos (by simp [markSL]; omega), if_pos (by omega), if_pos trivial, if_pos trivial, if_neg (by simp), w64 (x := (pre.length : Int) + 1) (by omega) (by omega)]
    rfl
theorem heldSibS_ev (s : List Sib) (n : Int) (h0 : 0 ≤ n) (h1 : n + 4 * (s.length : Int) ≤ 1152921504606846976) : Ev (fun k => laws_heldSibS.f k (markSL n s) n) (n + 4 * (s.length : Int)) :=
  heldSibS_l0 1152921504606846976 (Int.le_refl _) s [] n h0 h1 (by simp; omega)
theorem heldSet_ev (v : List Mark) (l : List Sib) (n : Int) (h0 : 0 ≤ n) (h1 : n + 2 * (v.length : Int) + 4 * (l.length : Int) ≤ 1152921504606846976) :
    Ev (fun k => laws_heldSet.f k (markL n v) (markSL (n + 2 * (v.length : Int)) l) n) (n + 2 * (v.length : Int) + 4 * (l.length : Int)) :=
  Ev.bind (heldMarkS_ev v n h0 (by omega)) (evNeg (by omega) (Ev.bind (heldSibS_ev l _ (by omega) h1) (evNeg (by omega) (Ev.now _))))
theorem eqSetOut_ev (v : List Mark) (l : List Sib) (a b c : Int) (hv : v.length ≤ 4611686018427387904) (hl : l.length ≤ 4611686018427387904) : Ev (fun k => laws_eqSetOut.f k v l a b c v l a b c) true :=
  Ev.bind (eqSet_ev v l hv hl) (evPos rfl (evBind1 (eqMark_refl a b) (evPos rfl (evPos rfl (Ev.now _)))))
theorem markSetOut_ev (v : List Mark) (l : List Sib) (a b c n : Int) (h0 : 0 ≤ n) (h1 : n + 2 * (v.length : Int) + 4 * (l.length : Int) ≤ 1152921504606846976) :
    Ev (fun k => laws_markSetOut.f k v l a b c n) (n + 2 * (v.length : Int) + 4 * (l.length : Int), markL n v, markSL (n + 2 * (v.length : Int)) l) :=
  Ev.bind (markSet_ev v l n h0 h1) (Ev.now _)
theorem heldSetOut_ev (v : List Mark) (l : List Sib) (a b c n : Int) (h0 : 0 ≤ n) (h1 : n + 2 * (v.length : Int) + 4 * (l.length : Int) ≤ 1152921504606846976) :
    Ev (fun k => laws_heldSetOut.f k (markL n v) (markSL (n + 2 * (v.length : Int)) l) a b c n) (n + 2 * (v.length : Int) + 4 * (l.length : Int)) :=
  Ev.bind (heldSet_ev v l n h0 h1) (evNeg (by omega) (Ev.now _))
end Go.Proofs.Ytconpopbpphpgaa.Q

namespace Go.Proofs.Ytconpopbpphpgaa.P
open Go.RowKit Go.Proofs.YtconpopbpphpgaaW.PrintWords Go.Proofs.YtconpopbpphpgaaW.PrintLast Go.Proofs.YtconpopbpphpgaaW.PrintMore
attribute [local go_sem] max2_int min2_int max_two min_two max_three min_three max_four min_four   -- for this text's walks alone
set_option linter.unusedVariables false
set_option linter.unusedSimpArgs false

/-! ### spec_NameRight: function 116 -/
mutual
def spec_NameRight.j0 : Nat → ByteArray → Bool → Option (Bool)
 | 0, _, _ => none
 | k + 1, x0, x12 => if x12 = true then (some false) else (spec_NameRight.l0 k x0 0)
def spec_NameRight.l0 : Nat → ByteArray → Int → Option (Bool)
 | 0, _, _ => none
 | k + 1, x0, x3 => if x3 < (x0.size : Int) then (if 0 ≤ x3 then (if (bt x0 x3) ≥ 97 then (if ((bt x0 x3) ≤ 122) then (spec_NameRight.l0 k x0 (wrap64 (x3 + 1))) else (if x3 = 0 then (some false) else (if (bt x0 x3) ≥ 48 then (if ((bt x0 x3) ≤ 57) then (spec_NameRight.l0 k x0 (wrap64 (x3 + 1))) else (if (bt x0 x3) = 95 then (spec_NameRight.l0 k x0 (wrap64 (x3 + 1))) else (some false))) else (if (bt x0 x3) = 95 then (spec_NameRight.l0 k x0 (wrap64 (x3 + 1))) else (some false))))) else (if x3 = 0 then (some false) else (if (bt x0 x3) ≥ 48 then (if ((bt x0 x3) ≤ 57) then (spec_NameRight.l0 k x0 (wrap64 (x3 + 1))) else (if (bt x0 x3) = 95 then (spec_NameRight.l0 k x0 (wrap64 (x3 + 1))) else (some false))) else (if (bt x0 x3) = 95 then (spec_NameRight.l0 k x0 (wrap64 (x3 + 1))) else (some false))))) else (none)) else (some true)
end
def spec_NameRight.f (k : Nat) (a0 : ByteArray) : Option (Bool) := if (a0.size : Int) < 1 then (spec_NameRight.j0 k a0 true) else (spec_NameRight.j0 k a0 (decide ((a0.size : Int) > 20)))
theorem spec_NameRight.mono_l : ∀ k, (∀ y0 y1, LeO (spec_NameRight.j0 k y0 y1) (spec_NameRight.j0 (k + 1) y0 y1)) ∧ (∀ y0 y1, LeO (spec_NameRight.l0 k y0 y1) (spec_NameRight.l0 (k + 1) y0 y1))
 | 0 => ⟨fun _ _ r h => by simp [spec_NameRight.j0] at h, fun _ _ r h => by simp [spec_NameRight.l0] at h⟩
 | k + 1 => by
  obtain ⟨ih0, ih1⟩ := spec_NameRight.mono_l k
  refine ⟨?_, ?_⟩
  ·intro y0 y1
   unfold spec_NameRight.j0
   repeat' first
   | (with_reducible exact ih0 _ _)
   | (with_reducible exact ih1 _ _)
   | (with_reducible exact LeO.refl _)
   | (with_reducible exact LeO.none _)
   | (with_reducible refine LeO.ite ?_ ?_)
   | (with_reducible refine LeO.bind ?_ (fun _ => ?_))
   | exact ih0 _ _
   | exact ih1 _ _
   | exact LeO.none _
   | refine LeO.ite ?_ ?_
   | refine LeO.bind ?_ (fun _ => ?_)
  ·intro y0 y1
   unfold spec_NameRight.l0
   repeat' first
   | (with_reducible exact ih0 _ _)
   | (with_reducible exact ih1 _ _)
   | (with_reducible exact LeO.refl _)
   | (with_reducible exact LeO.none _)
   | (with_reducible refine LeO.ite ?_ ?_)
   | (with_reducible refine LeO.bind ?_ (fun _ => ?_))
   | exact ih0 _ _
   | exact ih1 _ _
   | exact LeO.none _
   | refine LeO.ite ?_ ?_
   | refine LeO.bind ?_ (fun _ => ?_)
theorem spec_NameRight.mono : ∀ a0 k, LeO (spec_NameRight.f k a0) (spec_NameRight.f (k + 1) a0) := by
 intro a0 k
 obtain ⟨ih0, ih1⟩ := spec_NameRight.mono_l k
 unfold spec_NameRight.f
 repeat' first
   | (with_reducible exact ih0 _ _)
   | (with_reducible exact ih1 _ _)
   | (with_reducible exact LeO.refl _)
   | (with_reducible exact LeO.none _)
   | (with_reducible refine LeO.ite ?_ ?_)
   | (with_reducible refine LeO.bind ?_ (fun _ => ?_))
   | exact ih0 _ _
   | exact ih1 _ _
   | exact LeO.none _
   | refine LeO.ite ?_ ?_
   | refine LeO.bind ?_ (fun _ => ?_)

/-! ### impl_NameRight: function 121 -/
mutual
def impl_NameRight.j0 : Nat → ByteArray → Bool → Option (Bool)
 | 0, _, _ => none
 | k + 1, x0, x18 => if x18 = true then (some false) else (impl_NameRight.l0 k x0 (x0.size : Int) 0)
def impl_NameRight.l0 : Nat → ByteArray → Int → Int → Option (Bool)
 | 0, _, _, _ => none
 | k + 1, x0, x20, x21 => if x21 < x20 then (if 0 ≤ x21 then (if x21 < (x0.size : Int) then (if (bt x0 x21) ≥ 97 then (if (bt x0 x21) ≤ 122 then (impl_NameRight.l0 k x0 x20 (wrap64 (x21 + 1))) else (if (bt x0 x21) ≥ 48 then (if (bt x0 x21) ≤ 57 then (impl_NameRight.l0 k x0 x20 (wrap64 (x21 + 1))) else (if ((bt x0 x21) = 95) then (impl_NameRight.l0 k x0 x20 (wrap64 (x21 + 1))) else (some false))) else (if ((bt x0 x21) = 95) then (impl_NameRight.l0 k x0 x20 (wrap64 (x21 + 1))) else (some false)))) else (if (bt x0 x21) ≥ 48 then (if (bt x0 x21) ≤ 57 then (impl_NameRight.l0 k x0 x20 (wrap64 (x21 + 1))) else (if ((bt x0 x21) = 95) then (impl_NameRight.l0 k x0 x20 (wrap64 (x21 + 1))) else (some false))) else (if ((bt x0 x21) = 95) then (impl_NameRight.l0 k x0 x20 (wrap64 (x21 + 1))) else (some false)))) else (none)) else (none)) else (some true)
end
def impl_NameRight.f (k : Nat) (a0 : ByteArray) : Option (Bool) := (impl_size.f a0).bind fun t769 => ((impl_within.f t769 1 20).bind fun t770 => (if t770 = true then (if 0 < (a0.size : Int) then (if (bt a0 0) < 97 then (impl_NameRight.j0 k a0 true) else (impl_NameRight.j0 k a0 (decide ((bt a0 0) > 122)))) else (none)) else (impl_NameRight.j0 k a0 true)))
theorem impl_NameRight.mono_l : ∀ k, (∀ y0 y1, LeO (impl_NameRight.j0 k y0 y1) (impl_NameRight.j0 (k + 1) y0 y1)) ∧ (∀ y0 y1 y2, LeO (impl_NameRight.l0 k y0 y1 y2) (impl_NameRight.l0 (k + 1) y0 y1 y2))
 | 0 => ⟨fun _ _ r h => by simp [impl_NameRight.j0] at h, fun _ _ _ r h => by simp [impl_NameRight.l0] at h⟩
 | k + 1 => by
  obtain ⟨ih0, ih1⟩ := impl_NameRight.mono_l k
  refine ⟨?_, ?_⟩
  ·intro y0 y1
   unfold impl_NameRight.j0
   repeat' first
   | (with_reducible exact ih0 _ _)
   | (with_reducible exact ih1 _ _ _)
   | (with_reducible exact LeO.refl _)
   | (with_reducible exact LeO.none _)
   | (with_reducible refine LeO.ite ?_ ?_)
   | (with_reducible refine LeO.bind ?_ (fun _ => ?_))
   | exact ih0 _ _
   | exact ih1 _ _ _
   | exact LeO.none _
   | refine LeO.ite ?_ ?_
   | refine LeO.bind ?_ (fun _ => ?_)
  ·intro y0 y1 y2
   unfold impl_NameRight.l0
   repeat' first
   | (with_reducible exact ih0 _ _)
   | (with_reducible exact ih1 _ _ _)
   | (with_reducible exact LeO.refl _)
   | (with_reducible exact LeO.none _)
   | (with_reducible refine LeO.ite ?_ ?_)
   | (with_reducible refine LeO.bind ?_ (fun _ => ?_))
   | exact ih0 _ _
   | exact ih1 _ _ _
   | exact LeO.none _
   | refine LeO.ite ?_ ?_
   | refine LeO.bind ?_ (fun _ => ?_)
theorem impl_NameRight.mono : ∀ a0 k, LeO (impl_NameRight.f k a0) (impl_NameRight.f (k + 1) a0) := by
 intro a0 k
 obtain ⟨ih0, ih1⟩ := impl_NameRight.mono_l k
 unfold impl_NameRight.f
 repeat' first
   | (with_reducible exact ih0 _ _)
   | (with_reducible exact ih1 _ _ _)
   | (with_reducible exact LeO.refl _)
   | (with_reducible exact LeO.none _)
   | (with_reducible refine LeO.ite ?_ ?_)
   | (with_reducible refine LeO.bind ?_ (fun _ => ?_))
   | exact ih0 _ _
   | exact ih1 _ _ _
   | exact LeO.none _
   | refine LeO.ite ?_ ?_
   | refine LeO.bind ?_ (fun _ => ?_)
end Go.Proofs.Ytconpopbpphpgaa.P

namespace Go.Proofs.Ytconpopbpphpgaa.Q
open Go.RowKit Go.Proofs.Ytconpopbpphpgaa.P Go.Proofs.YtconpopbpphpgaaW.PrintWords Go.Proofs.YtconpopbpphpgaaW.PrintMore

theorem bt_of {s : ByteArray} {i : Nat} {c : Int} (h : (bytesOf s).getD i 0 = c) : bt s (i : Int) = c := by
  rw [← rd_bytesOf]; simpa [rd] using h
end Go.Proofs.Ytconpopbpphpgaa.Q

namespace Go.Proofs.Ytconpopbpphpgaa.Q
open Go.RowKit Go.Proofs.Ytconpopbpphpgaa.P Go.Proofs.YtconpopbpphpgaaW.PrintWords Go.Proofs.YtconpopbpphpgaaW.PrintMore

theorem bits_xor_nat (k : IntKind) (j : Nat) (hj : j ≤ k.bits) (hk : ∀ n : Int, 0 ≤ n → n < 2 ^ j → k.wrap n = n) (a b : Nat) (ha : a < 2 ^ j) (hb : b < 2 ^ j) : bits .xor k a b = ((a ^^^ b : Nat) : Int) := by
  have hp : 2 ^ j ≤ 2 ^ k.bits := Nat.pow_le_pow_right (by decide) hj
  have ha' : a % 2 ^ k.bits = a := Nat.mod_eq_of_lt (Nat.lt_of_lt_of_le ha hp)
  have hb' : b % 2 ^ k.bits = b := Nat.mod_eq_of_lt (Nat.lt_of_lt_of_le hb hp)
  simp only [bits, BitVec.ofInt_natCast, BitVec.toNat_xor, BitVec.toNat_ofNat, ha', hb']
  exact hk _ (Int.natCast_nonneg _) (by exact_mod_cast Nat.xor_lt_two_pow ha hb)
end Go.Proofs.Ytconpopbpphpgaa.Q

namespace Go.Proofs.Ytconpopbpphpgaa.Q
open Go.RowKit Go.Proofs.Ytconpopbpphpgaa.P Go.Proofs.YtconpopbpphpgaaW.PrintWords Go.Proofs.YtconpopbpphpgaaW.PrintMore

def unzig (u : Int) : Int := if u % 2 = 1 then -(u / 2) - 1 else u / 2
/-- f more bytes; the bytes left; the number so far; the place; the weight of the next seven bits. -/
def numGo : Nat → List Int → Int → Int → Int → Int × Int × Int
  | 0, _, _, _, _ => (0, 0, 3)
  | _ + 1, [], _, _, _ => (0, 0, 4)
  | f + 1, c :: r, u, p, w =>
    if f = 0 ∧ c > 1 then (0, 0, 3)
    else if c < 128 then (if c = 0 ∧ f < 9 then (0, 0, 3) else (unzig (u + c % 128 * w), p + 1, 0))
    else numGo f r (u + c % 128 * w) (p + 1) (w * 128)
def getNum (s : ByteArray) (at_ : Int) : Int × Int × Int :=
  if 8000 < s.size then (0, 0, 2) else if at_ < 0 then (0, 0, 1) else numGo 10 ((bytesOf s).drop at_.toNat) 0 at_ 1
theorem pow_le_pow_ {b : Int} (hb : 1 ≤ b) {i j : Nat} (h : i ≤ j) : b ^ i ≤ b ^ j := by
  induction h with
  | refl => exact Int.le_refl _
  | step h ih =>
    rw [Int.pow_succ]
    have h0 : 0 ≤ b ^ i := Int.le_of_lt (Int.pow_pos (by omega))
    have h1 := Int.mul_le_mul_of_nonneg_left hb (Int.le_trans h0 ih)
    omega
theorem bits_or_comm (k : IntKind) (a b : Int) : Go.bits .or k a b = Go.bits .or k b a := by
  simp only [bits, BitVec.or_comm]
theorem u64_or_add {i : Nat} (hi : i ≤ 9) {x y : Int} (hx : 0 ≤ x) (hx' : x < 2 ^ (7 * i)) (hy : 0 ≤ y) (hy' : y % 2 ^ (7 * i) = 0) (hy2 : y < 18446744073709551616) : Go.bits .or .u64 x y = x + y := by
  have hp : (2 : Int) ^ (7 * i) ≤ 2 ^ 63 := pow_le_pow_ (by omega) (by omega)
  rw [bits_or_comm, bits_join .u64 64 (by decide) wraps_u64 (7 * i) y x hy hy' (by omega) hx hx' (by omega)]
  omega
theorem xor_i64_zero {x : Int} (h0 : 0 ≤ x) (h1 : x < 9223372036854775808) : Go.bits .xor .i64 x 0 = x := by
  obtain ⟨a, rfl⟩ := Int.eq_ofNat_of_zero_le h0
  have := bits_xor_nat .i64 63 (by decide) wraps_i64 a 0 (by omega) (by omega)
  simpa using this
theorem xor_i64_ones {x : Int} (h0 : 0 ≤ x) (h1 : x < 9223372036854775808) : Go.bits .xor .i64 x (-1) = -x - 1 := by
  obtain ⟨a, rfl⟩ := Int.eq_ofNat_of_zero_le h0
  have ha : a < 2 ^ 64 := by omega
  have hw : IntKind.bits .i64 = 64 := rfl
  simp only [bits]
  rw [BitVec.ofInt_natCast]
  have h2 : (BitVec.ofInt (IntKind.bits .i64) (-1)) = BitVec.allOnes _ := by decide
  rw [h2, BitVec.xor_allOnes, BitVec.toNat_not, BitVec.toNat_ofNat, hw, Nat.mod_eq_of_lt ha, IntKind.wrap_i64]
  omega
theorem u64_and1 {x : Int} (h₀ : 0 ≤ x) (h₁ : x < 18446744073709551616) : Go.bits .and .u64 x 1 = x % 2 := bits_mask .u64 64 (by decide) wraps_u64 1 (by decide) x h₀ h₁
theorem u8_and127 {x : Int} (h₀ : 0 ≤ x) (h₁ : x < 256) : Go.bits .and .u8 x 127 = x % 128 := bits_mask .u8 8 (by decide) wraps_u8 7 (by decide) x h₀ h₁
theorem pow128 (i : Nat) : (2 : Int) ^ (7 * i) = 128 ^ i := by rw [Int.pow_mul]; rfl
theorem pow128_pos (i : Nat) : 0 < (128 : Int) ^ i := Int.pow_pos (by omega)
theorem pow128_le {i j : Nat} (h : i ≤ j) : (128 : Int) ^ i ≤ 128 ^ j := pow_le_pow_ (by omega) h
/-- The number with seven bits more: where the sum lies. -/
theorem sum_range {i : Nat} (hi : i ≤ 9) {u c : Int} (hu0 : 0 ≤ u) (hu : u < 128 ^ i) (hc0 : 0 ≤ c) (hc : c < 256) (h9 : i = 9 → c ≤ 1) :
    0 ≤ c % 128 * 128 ^ i ∧ c % 128 * 128 ^ i < 18446744073709551616 ∧ u + c % 128 * 128 ^ i < 18446744073709551616 ∧ (i < 9 → u + c % 128 * 128 ^ i < 128 ^ (i + 1)) := by
  have hp := pow128_pos i
  have h0 : 0 ≤ c % 128 * 128 ^ i := Int.mul_nonneg (by omega) (by omega)
  rcases Nat.lt_or_ge i 9 with h | h
  · have h1 : c % 128 * 128 ^ i ≤ 127 * 128 ^ i := Int.mul_le_mul_of_nonneg_right (by omega) (by omega)
    have h2 : (128 : Int) ^ i ≤ 128 ^ 8 := pow128_le (by omega)
    have h3 : (128 : Int) ^ (i + 1) = 128 ^ i * 128 := Int.pow_succ _ _
    refine ⟨h0, by omega, by omega, fun _ => by omega⟩
  · obtain rfl : i = 9 := by omega
    have h1 : c % 128 * 128 ^ 9 ≤ 1 * 128 ^ 9 := Int.mul_le_mul_of_nonneg_right (by have := h9 rfl; omega) (by omega)
    refine ⟨h0, by omega, by omega, fun h => by omega⟩
theorem shl_is {i : Nat} (hi : i ≤ 9) {u c : Int} (hu0 : 0 ≤ u) (hu : u < 128 ^ i) (hc0 : 0 ≤ c) (hc : c < 256) (h9 : i = 9 → c ≤ 1) : shl .u64 (c % 128) (7 * (i : Int)) = c % 128 * 128 ^ i := by
  have h := sum_range hi hu0 hu hc0 hc h9
  unfold shl
  rw [show min (7 * (i : Int)).toNat (IntKind.bits .u64) = 7 * i from by simp only [IntKind.bits]; omega, pow128, u64w]
  omega
theorem numGo_place : ∀ (f : Nat) (bs : List Int) (u p w : Int), 0 ≤ p → ∀ n q c, numGo f bs u p w = (n, q, c) → c = 0 → p + 1 ≤ q ∧ q ≤ p + bs.length
  | 0, _, _, _, _, _, _, _, _, h, hc => by simp [numGo] at h; omega
  | _ + 1, [], _, _, _, _, _, _, _, h, hc => by simp [numGo] at h; omega
  | f + 1, c :: r, u, p, w, hp, n, q, d, h, hd => by
    simp only [numGo] at h
    split at h
    · simp at h; omega
    · split at h
      · split at h
        · simp at h; omega
        · simp at h; simp; omega
      · have := numGo_place f r _ (p + 1) _ (by omega) n q d h hd
        simp; omega
theorem drop_bt {s : ByteArray} {j : Nat} {c : Int} {r : List Int} (h : (bytesOf s).drop j = c :: r) : j < s.size ∧ bt s (j : Int) = c ∧ (bytesOf s).drop (j + 1) = r ∧ 0 ≤ c ∧ c < 256 := by
  obtain ⟨g1, g2, g3⟩ := dropCons h 0
  rw [bytesOf_length] at g1
  have hb := bt_of g2
  have hr := bt_range s (j : Int)
  rw [hb] at hr
  exact ⟨g1, hb, g3, hr.1, by omega⟩
theorem drop_nil_size {s : ByteArray} {j : Nat} (h : (bytesOf s).drop j = []) : s.size ≤ j := by
  have := dropNil h
  rwa [bytesOf_length] at this
theorem spec_num_end {k : Nat} {x1 u : Int} {i : Nat} (hu0 : 0 ≤ u) (hu : u < 18446744073709551616) (h1 : 0 ≤ x1 + i) (h2 : x1 + i < 9000) :
    spec_GetNum.j2 (k + 1) x1 u (i : Int) false = some (unzig u, x1 + i + 1, 0) := by
  simp only [spec_GetNum.j2]
  rw [if_neg (by simp)]
  rw [Int.tmod_eq_emod_of_nonneg hu0, Int.tdiv_eq_ediv_of_nonneg hu0, u64w, w64 (x := x1 + i) (by omega) (by omega), w64 (x := x1 + i + 1) (by omega) (by omega), show u / 2 % 18446744073709551616 = u / 2 from by omega,
    w64 (x := u / 2) (by omega) (by omega), w64 (x := -(u / 2)) (by omega) (by omega), w64 (x := -(u / 2) - 1) (by omega) (by omega)]
  unfold unzig
  split <;> rfl
theorem spec_num_go (s : ByteArray) (hs : s.size ≤ 8000) (x1 : Int) (hx : 0 ≤ x1) (hx2 : x1 ≤ 9223372036854775807) : ∀ (f i : Nat), f + i = 10 → ∀ (bs : List Int), (bytesOf s).drop (x1.toNat + i) = bs → ∀ u : Int, 0 ≤ u → u < 128 ^ i →
    Ev (fun k => spec_GetNum.l0 k s x1 u (i : Int)) (numGo f bs u (x1 + i) (128 ^ i))
  | 0, i, hf, bs, hb, u, hu0, hu => by
    refine Ev.step (f := fun _ => some (0, 0, 3)) (fun k => ?_) (by simp only [numGo]; exact Ev.now _)
    simp only [spec_GetNum.l0]
    rw [if_neg (by omega)]
  | f + 1, i, hf, [], hb, u, hu0, hu => by
    have := drop_nil_size hb
    refine Ev.step (f := fun _ => some (0, 0, 4)) (fun k => ?_) (by simp only [numGo]; exact Ev.now _)
    simp only [spec_GetNum.l0]
    rw [if_pos (by omega), w64 (by omega) (by omega), if_pos (by omega)]
  | f + 1, i, hf, c :: r, hb, u, hu0, hu => by
    obtain ⟨g1, g2, g3, g4, g5⟩ := drop_bt hb
    have ex : x1 + i = ((x1.toNat + i : Nat) : Int) := by omega
    have hl0 : ∀ k, spec_GetNum.l0 (k + 1) s x1 u (i : Int) = spec_GetNum.j1 k s x1 u (i : Int) c (decide (i = 9 ∧ c > 1)) := fun k => by
      simp only [spec_GetNum.l0]
      rw [if_pos (by omega), w64 (x := (s.size : Int) - i) (by omega) (by omega), if_neg (by omega), w64 (x := x1 + i) (by omega) (by omega), if_pos (by omega), if_pos (by omega), ex, g2, u64w, show c % 18446744073709551616 = c from by omega]
      by_cases h9 : i = 9
      · subst h9
        rw [if_pos (by omega)]; simp
      · rw [if_neg (by omega)]; simp [h9]
    by_cases hbad : i = 9 ∧ c > 1
    · refine Ev.step hl0 (Ev.step (f := fun _ => some (0, 0, 3)) (fun k => ?_) ?_)
      · simp only [hbad, spec_GetNum.j1]; simp
      · have hf0 : f = 0 := by omega
        simp only [numGo, hf0, hbad.2, and_self, if_true]; exact Ev.now _
    · have h9 : i = 9 → c ≤ 1 := fun e => by omega
      have hsum := sum_range (by omega) hu0 hu g4 g5 h9
      have hsh := shl_is (by omega) hu0 hu g4 g5 h9
      have hj1 : ∀ k, spec_GetNum.j1 (k + 1) s x1 u (i : Int) c (decide (i = 9 ∧ c > 1)) = if c < 128 then spec_GetNum.j2 k x1 (u + c % 128 * 128 ^ i) (i : Int) (decide (c = 0 ∧ (i : Int) > 0)) else spec_GetNum.l0 k s x1 (u + c % 128 * 128 ^ i) ((i + 1 : Nat) : Int) := fun k => by
        simp only [hbad, decide_false, spec_GetNum.j1]
        rw [if_neg (by simp), w64 (x := 7 * (i : Int)) (by omega) (by omega), u64w, show 7 * (i : Int) % 18446744073709551616 = 7 * (i : Int) from by omega, if_pos (by omega), Int.tmod_eq_emod_of_nonneg g4, hsh, u64w,
          show (u + c % 128 * 128 ^ i) % 18446744073709551616 = u + c % 128 * 128 ^ i from by omega, w64 (x := (i : Int) + 1) (by omega) (by omega)]
        by_cases hc : c < 128
        · rw [if_pos hc, if_pos hc]
          by_cases h0 : c = 0
          · rw [if_pos h0]; simp [h0]
          · rw [if_neg h0]; simp [h0]
        · rw [if_neg hc, if_neg hc]; rfl
      refine Ev.step hl0 (Ev.step hj1 ?_)
      have hng : ¬ (f = 0 ∧ c > 1) := fun e => hbad ⟨by omega, e.2⟩
      simp only [numGo, if_neg hng]
      refine evIte (fun hc => ?_) (fun hc => ?_)
      · rw [if_pos hc]
        by_cases h0 : c = 0 ∧ (i : Int) > 0
        · rw [if_pos (by omega)]
          refine Ev.step (f := fun _ => some (0, 0, 3)) (fun k => ?_) (Ev.now _)
          simp only [h0, spec_GetNum.j2]; simp
        · rw [if_neg (by omega)]
          refine Ev.step (f := fun _ => _) (fun k => ?_) (Ev.now _)
          simp only [h0, decide_false]
          exact spec_num_end (by omega) (by omega) (by omega) (by omega)
      · rw [if_neg hc]
        have h8 : i < 9 := by
          rcases Nat.lt_or_ge i 9 with h | h
          · exact h
          · have := h9 (by omega); omega
        have ih := spec_num_go s hs x1 hx hx2 f (i + 1) (by omega) r (by rw [← g3]; congr 1) (u + c % 128 * 128 ^ i) (by omega) (hsum.2.2.2 h8)
        rw [show x1 + ((i + 1 : Nat) : Int) = x1 + i + 1 from by omega, Int.pow_succ] at ih
        exact ih
theorem spec_GetNum_ev (s : ByteArray) (x1 : Int) (h1 : -9223372036854775808 ≤ x1) (h2 : x1 ≤ 9223372036854775807) : Ev (fun k => spec_GetNum.f k s x1) (getNum s x1) := by
  unfold spec_GetNum.f getNum
  by_cases h : 8000 < s.size
  · rw [if_pos h]; exact evPos (by omega) (Ev.now _)
  · rw [if_neg h]
    refine evNeg (by omega) ?_
    by_cases h0 : x1 < 0
    · rw [if_pos h0]; exact evPos h0 (Ev.now _)
    · rw [if_neg h0]
      refine evNeg h0 ?_
      have := spec_num_go s (by omega) x1 (by omega) h2 10 0 rfl _ rfl 0 (by omega) (by simp)
      simpa using this
theorem impl_num_end {x1 u : Int} {i : Nat} (hu0 : 0 ≤ u) (hu : u < 18446744073709551616) (h1 : 0 ≤ x1 + i) (h2 : x1 + i < 9000) :
    (Go.bits .xor .i64 (wrap64 (u / 2)) (wrap64 (-(wrap64 (Go.bits .and .u64 u 1)))), wrap64 ((wrap64 (x1 + i)) + 1), (0 : Int)) = (unzig u, x1 + i + 1, 0) := by
  rw [u64_and1 hu0 hu, w64 (x := x1 + i) (by omega) (by omega), w64 (x := x1 + i + 1) (by omega) (by omega), w64 (x := u / 2) (by omega) (by omega), w64 (x := u % 2) (by omega) (by omega), w64 (x := -(u % 2)) (by omega) (by omega)]
  unfold unzig
  split
  · rename_i h
    rw [h, xor_i64_ones (by omega) (by omega)]
  · rename_i h
    rw [show -(u % 2) = 0 from by omega, xor_i64_zero (by omega) (by omega)]
theorem impl_num_go (s : ByteArray) (hs : s.size ≤ 8000) (x1 : Int) (hx : 0 ≤ x1) (hx2 : x1 ≤ 9223372036854775807) : ∀ (f i : Nat), f + i = 10 → ∀ (bs : List Int), (bytesOf s).drop (x1.toNat + i) = bs → ∀ u : Int, 0 ≤ u → u < 128 ^ i →
    Ev (fun k => impl_GetNum.l0 k s x1 u (i : Int)) (numGo f bs u (x1 + i) (128 ^ i))
  | 0, i, hf, bs, hb, u, hu0, hu => by
    refine Ev.step (f := fun _ => some (0, 0, 3)) (fun k => ?_) (by simp only [numGo]; exact Ev.now _)
    simp only [impl_GetNum.l0]
    rw [if_neg (by omega)]
  | f + 1, i, hf, [], hb, u, hu0, hu => by
    have := drop_nil_size hb
    refine Ev.step (f := fun k => impl_GetNum.j1 k s x1 u (i : Int) (i : Int) true) (fun k => ?_) (Ev.step (f := fun _ => some (0, 0, 4)) (fun k => ?_) (by simp only [numGo]; exact Ev.now _))
    · simp only [impl_GetNum.l0, impl_size.f, Option.bind_some]
      rw [if_pos (by omega)]
      by_cases h : x1 ≥ (s.size : Int)
      · rw [if_pos h]
      · rw [if_neg h, w64 (x := (s.size : Int) - x1) (by omega) (by omega)]
        congr 1
        simp; omega
    · simp [impl_GetNum.j1]
  | f + 1, i, hf, c :: r, hb, u, hu0, hu => by
    obtain ⟨g1, g2, g3, g4, g5⟩ := drop_bt hb
    have ex : x1 + i = ((x1.toNat + i : Nat) : Int) := by omega
    have hl0 : ∀ k, impl_GetNum.l0 (k + 1) s x1 u (i : Int) = impl_GetNum.j1 k s x1 u (i : Int) (i : Int) false := fun k => by
      simp only [impl_GetNum.l0, impl_size.f, Option.bind_some]
      rw [if_pos (by omega), if_neg (by omega), w64 (x := (s.size : Int) - x1) (by omega) (by omega)]
      congr 1
      simp; omega
    have hj1 : ∀ k, impl_GetNum.j1 (k + 1) s x1 u (i : Int) (i : Int) false = impl_GetNum.j2 k s x1 u (i : Int) c (i : Int) (decide (i = 9 ∧ c > 1)) := fun k => by
      simp only [impl_GetNum.j1]
      rw [if_neg (by simp), w64 (x := x1 + i) (by omega) (by omega), if_pos (by omega), if_pos (by omega), ex, g2]
      by_cases h9 : i = 9
      · subst h9
        rw [if_pos (by omega)]; simp
      · rw [if_neg (by omega)]; simp [h9]
    refine Ev.step hl0 (Ev.step hj1 ?_)
    by_cases hbad : i = 9 ∧ c > 1
    · refine Ev.step (f := fun _ => some (0, 0, 3)) (fun k => ?_) ?_
      · simp only [hbad, impl_GetNum.j2]; simp
      · have hf0 : f = 0 := by omega
        simp only [numGo, hf0, hbad.2, and_self, if_true]; exact Ev.now _
    · have h9 : i = 9 → c ≤ 1 := fun e => by omega
      have hsum := sum_range (by omega) hu0 hu g4 g5 h9
      have hsh := shl_is (by omega) hu0 hu g4 g5 h9
      have hmod : c % 128 * 128 ^ i % 2 ^ (7 * i) = 0 := by rw [pow128]; exact Int.mul_emod_left _ _
      have hor := u64_or_add (i := i) (by omega) hu0 (by rw [pow128]; exact hu) hsum.1 hmod hsum.2.1
      have hj2 : ∀ k, impl_GetNum.j2 (k + 1) s x1 u (i : Int) c (i : Int) (decide (i = 9 ∧ c > 1)) = if c < 128 then (if c = 0 ∧ (i : Int) > 0 then some (0, 0, 3) else some (unzig (u + c % 128 * 128 ^ i), x1 + i + 1, 0)) else impl_GetNum.l0 k s x1 (u + c % 128 * 128 ^ i) ((i + 1 : Nat) : Int) := fun k => by
        simp only [hbad, decide_false, impl_GetNum.j2]
        rw [if_neg (by simp), u64w, u64w, show (i : Int) % 18446744073709551616 = i from by omega, show 7 * (i : Int) % 18446744073709551616 = 7 * (i : Int) from by omega, if_pos (by omega), u8_and127 g4 g5, u64w, show c % 128 % 18446744073709551616 = c % 128 from by omega, hsh, hor,
          w64 (x := (i : Int) + 1) (by omega) (by omega), impl_num_end (by omega) (by omega) (by omega) (by omega)]
        by_cases hc : c < 128
        · rw [if_pos hc, if_pos hc]
          by_cases h0 : c = 0
          · rw [if_pos h0]
            by_cases hi : (i : Int) > 0
            · rw [if_pos hi, if_pos ⟨h0, hi⟩]
            · rw [if_neg hi, if_neg (fun e => hi e.2)]
          · rw [if_neg h0, if_neg (fun e => h0 e.1)]
        · rw [if_neg hc, if_neg hc]; rfl
      refine Ev.step hj2 ?_
      have hng : ¬ (f = 0 ∧ c > 1) := fun e => hbad ⟨by omega, e.2⟩
      simp only [numGo, if_neg hng]
      refine evIte (fun hc => ?_) (fun hc => ?_)
      · rw [if_pos hc]
        by_cases h0 : c = 0 ∧ (i : Int) > 0
        · rw [if_pos (show c = 0 ∧ f < 9 by omega)]; simp only [if_pos h0]; exact Ev.now _
        · rw [if_neg (show ¬ (c = 0 ∧ f < 9) by omega)]; simp only [if_neg h0]; exact Ev.now _
      · rw [if_neg hc]
        have h8 : i < 9 := by
          rcases Nat.lt_or_ge i 9 with h | h
          · exact h
          · have := h9 (by omega); omega
        have ih := impl_num_go s hs x1 hx hx2 f (i + 1) (by omega) r (by rw [← g3]; congr 1) (u + c % 128 * 128 ^ i) (by omega) (hsum.2.2.2 h8)
        rw [show x1 + ((i + 1 : Nat) : Int) = x1 + i + 1 from by omega, Int.pow_succ] at ih
        exact ih
theorem impl_GetNum_ev (s : ByteArray) (x1 : Int) (h1 : -9223372036854775808 ≤ x1) (h2 : x1 ≤ 9223372036854775807) : Ev (fun k => impl_GetNum.f k s x1) (getNum s x1) := by
  unfold impl_GetNum.f getNum
  refine Ev.bind (isLong1_ev s) ?_
  by_cases h : 8000 < s.size
  · rw [if_pos h]; exact evPos (by simpa using h) (Ev.now _)
  · rw [if_neg h]
    refine evNeg (by simpa using h) ?_
    by_cases h0 : x1 < 0
    · rw [if_pos h0]; exact evPos h0 (Ev.now _)
    · rw [if_neg h0]
      refine evNeg h0 ?_
      have := impl_num_go s (by omega) x1 (by omega) h2 10 0 rfl _ rfl 0 (by omega) (by simp)
      simpa using this
theorem getNum_place {s : ByteArray} {x1 n p : Int} (h : getNum s x1 = (n, p, 0)) : s.size ≤ 8000 ∧ 0 ≤ x1 ∧ x1 + 1 ≤ p ∧ p ≤ s.size := by
  unfold getNum at h
  split at h
  · simp at h
  · split at h
    · simp at h
    · have := numGo_place 10 _ 0 x1 1 (by omega) n p 0 h rfl
      rw [List.length_drop, bytesOf_length] at this
      omega
def getText (s : ByteArray) (at_ : Int) : ByteArray × Int × Int :=
  if (getNum s at_).2.2 = 0 then
    (if (getNum s at_).1 < 0 ∨ (getNum s at_).1 > 8000 then (⟨#[]⟩, 0, 3)
     else if (getNum s at_).1 > s.size - (getNum s at_).2.1 then (⟨#[]⟩, 0, 4)
     else (s.extract (getNum s at_).2.1.toNat ((getNum s at_).2.1 + (getNum s at_).1).toNat, (getNum s at_).2.1 + (getNum s at_).1, 0))
  else (⟨#[]⟩, 0, (getNum s at_).2.2)
theorem spec_GetText_ev (s : ByteArray) (x1 : Int) (h1 : -9223372036854775808 ≤ x1) (h2 : x1 ≤ 9223372036854775807) : Ev (fun k => spec_GetText.f k s x1) (getText s x1) := by
  unfold spec_GetText.f getText
  refine Ev.bind (spec_GetNum_ev s x1 h1 h2) ?_
  generalize hg : getNum s x1 = g
  obtain ⟨n, p, c⟩ := g
  by_cases hc : c = 0
  · subst hc
    have hp := getNum_place hg
    refine evPos rfl ?_
    simp only [if_true]
    by_cases hn : n < 0
    · refine evPos hn (Ev.step (f := fun _ => some (⟨#[]⟩, 0, 3)) (fun k => by simp [spec_GetText.j0]) ?_)
      rw [if_pos (Or.inl hn)]; exact Ev.now _
    · refine evNeg hn ?_
      by_cases h8 : n > 8000
      · refine Ev.step (f := fun _ => some (⟨#[]⟩, 0, 3)) (fun k => by simp [spec_GetText.j0, h8]) ?_
        rw [if_pos (Or.inr h8)]; exact Ev.now _
      · rw [if_neg (by omega)]
        refine Ev.step (f := fun _ => _) (fun k => ?_) (evOf rfl)
        simp only [h8, decide_false, spec_GetText.j0]
        rw [if_neg (by simp), w64 (x := (s.size : Int) - n) (by omega) (by omega), w64 (x := p + n) (by omega) (by omega)]
        by_cases hl : n > s.size - p
        · rw [if_pos (by omega), if_pos hl]
        · rw [if_neg (by omega), if_neg hl, if_pos (by omega), if_pos (by omega), if_pos (by omega)]
  · exact evNeg hc (by rw [if_neg hc]; exact Ev.now _)
theorem impl_GetText_ev (s : ByteArray) (x1 : Int) (h1 : -9223372036854775808 ≤ x1) (h2 : x1 ≤ 9223372036854775807) : Ev (fun k => impl_GetText.f k s x1) (getText s x1) := by
  unfold impl_GetText.f getText
  refine Ev.bind (impl_GetNum_ev s x1 h1 h2) ?_
  generalize hg : getNum s x1 = g
  obtain ⟨n, p, c⟩ := g
  by_cases hc : c = 0
  · subst hc
    have hp := getNum_place hg
    refine evPos rfl (evBind1 (within_is _ _ _) ?_)
    simp only [if_true]
    by_cases hn : isWithin n 0 8000 = true
    · have hn' : 0 ≤ n ∧ n ≤ 8000 := by simpa [isWithin] using hn
      refine evPos hn (evBind1 rfl ?_)
      rw [if_neg (show ¬ (n < 0 ∨ n > 8000) by omega)]
      simp only [w64 (x := (s.size : Int) - p) (by omega) (by omega), w64 (x := p + n) (by omega) (by omega)]
      by_cases hl : n > s.size - p
      · simp only [if_pos hl]; exact Ev.now _
      · simp only [if_neg hl]; exact (evPos (by omega) (evPos (by omega) (evPos (by omega) (Ev.now _))))
    · have hn' : n < 0 ∨ n > 8000 := by
        simp [isWithin] at hn; omega
      rw [if_pos hn']
      exact evNeg hn (Ev.now _)
  · exact evNeg hc (by rw [if_neg hc]; exact Ev.now _)
end Go.Proofs.Ytconpopbpphpgaa.Q

namespace Go.Proofs.Ytconpopbpphpgaa.Q
open Go.RowKit Go.Proofs.Ytconpopbpphpgaa.P Go.Proofs.YtconpopbpphpgaaW.PrintWords Go.Proofs.YtconpopbpphpgaaW.PrintMore

theorem zig_unzig {u : Int} (h : 0 ≤ u) : zig (unzig u) = u := by
  unfold zig unzig
  split <;> split <;> omega
theorem vbytes_small (f : Nat) {c : Int} (h0 : 0 ≤ c) (h1 : c < 128) : vbytes f c = [c] := by
  cases f with
  | zero => simp only [vbytes]; rw [show c % 256 = c from by omega]
  | succ f => simp only [vbytes]; rw [if_neg (by omega), show c % 256 = c from by omega]
theorem numGo_canon : ∀ (f : Nat), f ≤ 9 → ∀ (bs : List Int) (u p w n q : Int), (∀ c ∈ bs, 0 ≤ c ∧ c < 256) → numGo (f + 1) bs u p w = (n, q, 0) →
    ∃ v r, 0 ≤ v ∧ (f < 9 → 1 ≤ v) ∧ bs = vbytes f v ++ r ∧ q = p + ((vbytes f v).length : Int) ∧ n = unzig (u + v * w) ∧ v < 128 ^ (f + 1)
  | f, _, [], u, p, w, n, q, _, h => by simp [numGo] at h
  | f, hf9, c :: r, u, p, w, n, q, hb, h => by
    have hc := hb c List.mem_cons_self
    simp only [numGo] at h
    split at h
    · simp at h
    · rename_i h1
      split at h
      · rename_i h2
        split at h
        · simp at h
        · rename_i h3
          simp only [Prod.mk.injEq, and_true] at h
          refine ⟨c, r, hc.1, fun hf => by omega, ?_, ?_, ?_, Int.lt_of_lt_of_le h2 (pow128_le (i := 1) (by omega))⟩
          · rw [vbytes_small f hc.1 h2]; rfl
          · rw [vbytes_small f hc.1 h2]; simp; omega
          · rw [← h.1, show c % 128 = c from by omega]
      · rename_i h2
        cases f with
        | zero => omega
        | succ f =>
          obtain ⟨v, r', g0, g1, g2, g3, g4, g5⟩ := numGo_canon f (by omega) r (u + c % 128 * w) (p + 1) (w * 128) n q (fun x hx => hb x (List.mem_cons_of_mem _ hx)) h
          have hv1 : 1 ≤ v := g1 (by omega)
          have e : vbytes (f + 1) (c % 128 + 128 * v) = c :: vbytes f v := by
            simp only [vbytes]
            rw [if_pos (by omega), show (c % 128 + 128 * v) % 128 + 128 = c from by omega, show (c % 128 + 128 * v) / 128 = v from by omega]
          refine ⟨c % 128 + 128 * v, r', by omega, fun _ => by omega, ?_, ?_, ?_, by rw [Int.pow_succ]; omega⟩
          · rw [e, g2]; rfl
          · rw [e]; simp; omega
          · rw [g4, Int.add_mul, show 128 * v * w = v * (w * 128) from by rw [Int.mul_comm 128 v, Int.mul_assoc, Int.mul_comm 128 w], Int.add_assoc]
theorem bytesOf_range (s : ByteArray) : ∀ c ∈ bytesOf s, 0 ≤ c ∧ c < 256 := by
  intro c hc
  simp only [bytesOf, List.mem_map] at hc
  obtain ⟨b, _, rfl⟩ := hc
  have := b.toNat_lt
  omega
/-- What is read lies there as PutNum writes it. -/
theorem getNum_canon {s : ByteArray} {x n p : Int} (h : getNum s x = (n, p, 0)) : ∃ r, (bytesOf s).drop x.toNat = vbytes 9 (zig n) ++ r ∧ p = x + ((vbytes 9 (zig n)).length : Int) ∧ zig n < 128 ^ 10 ∧ 0 ≤ zig n := by
  unfold getNum at h
  split at h
  · simp at h
  · split at h
    · simp at h
    · obtain ⟨v, r, g0, _, g2, g3, g4, g5⟩ := numGo_canon 9 (by omega) _ 0 x 1 n p (fun c hc => bytesOf_range s c (List.mem_of_mem_drop hc)) h
      have e : zig n = v := by rw [g4, show 0 + v * 1 = v from by omega, zig_unzig g0]
      rw [e]
      exact ⟨r, g2, g3, g5, g0⟩
end Go.Proofs.Ytconpopbpphpgaa.Q

namespace Go.Proofs.Ytconpopbpphpgaa.Q
open Go.RowKit Go.Proofs.Ytconpopbpphpgaa.P Go.Proofs.YtconpopbpphpgaaW.PrintWords Go.Proofs.YtconpopbpphpgaaW.PrintMore

theorem toList_loop (b : ByteArray) : ∀ (n i : Nat) (r : List UInt8), b.size - i = n → ByteArray.toList.loop b i r = r.reverse ++ b.data.toList.drop i := by
  intro n
  induction n with
  | zero =>
    intro i r h
    unfold ByteArray.toList.loop
    have hs : b.data.toList.length = b.size := by rw [Array.length_toList]; rfl
    rw [if_neg (by omega), List.drop_of_length_le (by omega), List.append_nil]
  | succ n ih =>
    intro i r h
    unfold ByteArray.toList.loop
    have hs : b.data.toList.length = b.size := by rw [Array.length_toList]; rfl
    rw [if_pos (by omega), ih (i + 1) _ (by omega), List.drop_eq_getElem_cons (i := i) (by omega)]
    have : b.get! i = b.data.toList[i]'(by omega) := by
      have hi : i < b.data.size := by rw [← Array.length_toList]; omega
      show b.data[i]! = _
      rw [getElem!_pos b.data i hi]
      simp
    simp [this]
theorem toList_data (b : ByteArray) : b.toList = b.data.toList := by
  unfold ByteArray.toList
  rw [toList_loop b _ 0 [] rfl]
  simp
theorem toList_inj {a b : ByteArray} (h : a.toList = b.toList) : a = b := by
  rw [toList_data, toList_data] at h
  obtain ⟨a⟩ := a
  obtain ⟨b⟩ := b
  simp only [ByteArray.mk.injEq]
  exact Array.toList_inj.1 h
theorem toList_nil {s : ByteArray} (h : s.toList = []) : s.size = 0 := by
  have h5 : s.data.toList.length = s.size := data_length s
  rw [← toList_data, h] at h5
  simpa using h5.symm
theorem bytesOf_append (a b : ByteArray) : bytesOf (a ++ b) = bytesOf a ++ bytesOf b := by
  simp only [bytesOf]
  rw [show (a ++ b).data = a.data ++ b.data from by simp]
  simp
theorem bytesOf_strOfNums : ∀ (l : List Int), (∀ c ∈ l, 0 ≤ c ∧ c < 256) → bytesOf (strOfNums l) = l := by
  intro l h
  simp only [bytesOf, strOfNums]
  rw [List.map_map]
  conv => rhs; rw [← List.map_id l]
  refine List.map_congr_left (fun c hc => ?_)
  have := h c hc
  simp only [Function.comp, id, UInt8.toNat_ofNat']
  omega
theorem vbytes_range : ∀ (f : Nat) (u : Int), ∀ c ∈ vbytes f u, 0 ≤ c ∧ c < 256
  | 0, u, c, hc => by simp only [vbytes, List.mem_singleton] at hc; omega
  | f + 1, u, c, hc => by
    simp only [vbytes] at hc
    split at hc
    · rcases List.mem_cons.1 hc with rfl | hc
      · omega
      · exact vbytes_range f _ c hc
    · simp only [List.mem_singleton] at hc; omega
theorem bytesOf_putNum (n : Int) : bytesOf (putNum n) = vbytes 9 (zig n) := bytesOf_strOfNums _ (vbytes_range 9 _)
theorem bytesOf_inj {a b : ByteArray} (h : bytesOf a = bytesOf b) : a = b := by
  have key : ∀ (l m : List UInt8), l.map (fun b => (b.toNat : Int)) = m.map (fun b => (b.toNat : Int)) → l = m := by
    intro l
    induction l with
    | nil => intro m hm; cases m with
      | nil => rfl
      | cons x r => simp at hm
    | cons x r ih =>
      intro m hm
      cases m with
      | nil => simp at hm
      | cons y q =>
        simp only [List.map_cons, List.cons.injEq] at hm
        rw [ih q hm.2, UInt8.toNat_inj.1 (Int.ofNat.inj hm.1)]
  have h2 := key _ _ h
  obtain ⟨a⟩ := a
  obtain ⟨b⟩ := b
  simp only [ByteArray.mk.injEq]
  exact Array.toList_inj.1 h2
/-- From p to q the text s has the bytes bs. -/
def Span (s : ByteArray) (p : Int) (bs : List Int) (q : Int) : Prop := 0 ≤ p ∧ q = p + (bs.length : Int) ∧ q ≤ (s.size : Int) ∧ (bytesOf s).drop p.toNat = bs ++ (bytesOf s).drop q.toNat
theorem Span.of {s : ByteArray} {p q : Int} {bs r : List Int} (h0 : 0 ≤ p) (h1 : q = p + (bs.length : Int)) (h2 : q ≤ (s.size : Int)) (h : (bytesOf s).drop p.toNat = bs ++ r) : Span s p bs q := by
  refine ⟨h0, h1, h2, ?_⟩
  rw [h, show q.toNat = p.toNat + bs.length from by omega, ← List.drop_drop, h, List.drop_left]
theorem Span.trans {s : ByteArray} {p q r : Int} {b c : List Int} (h : Span s p b q) (h2 : Span s q c r) : Span s p (b ++ c) r := by
  obtain ⟨a0, a1, a2, a3⟩ := h
  obtain ⟨b0, b1, b2, b3⟩ := h2
  exact ⟨a0, by rw [List.length_append]; omega, b2, by rw [a3, b3, List.append_assoc]⟩
theorem Span.nil {s : ByteArray} {p : Int} (h0 : 0 ≤ p) (h1 : p ≤ (s.size : Int)) : Span s p [] p := ⟨h0, by simp, h1, by simp⟩
theorem Span.whole {s : ByteArray} {q : Int} {bs : List Int} (h : Span s 0 bs q) : q = (s.size : Int) ↔ bytesOf s = bs := by
  obtain ⟨_, a1, a2, a3⟩ := h
  rw [show (0 : Int).toNat = 0 from rfl, List.drop_zero] at a3
  have hl := congrArg List.length a3
  rw [bytesOf_length, List.length_append, List.length_drop, bytesOf_length] at hl
  constructor
  · intro e
    rw [a3, e, List.drop_of_length_le (by rw [bytesOf_length]; omega), List.append_nil]
  · intro e
    have := congrArg List.length e
    rw [bytesOf_length] at this
    omega
def rNum (s : ByteArray) : Option Int → Option Int × Int
  | none => (none, 0)
  | some p => if (getNum s p).2.2 = 0 then (some (getNum s p).2.1, (getNum s p).1) else (none, 0)
theorem rNum_span {s : ByteArray} {p q n : Int} (h : rNum s (some p) = (some q, n)) : Span s p (bytesOf (putNum n)) q ∧ p + 1 ≤ q ∧ zig n < 128 ^ 10 ∧ 0 ≤ zig n := by
  simp only [rNum] at h
  split at h
  · rename_i hc
    simp only [Prod.mk.injEq, Option.some.injEq] at h
    have e : getNum s p = (n, q, 0) := by
      obtain ⟨h1, h2⟩ := h
      rw [← h1, ← h2, ← hc]
    obtain ⟨r, g1, g2, g3, g4⟩ := getNum_canon e
    have hp := getNum_place e
    rw [bytesOf_putNum]
    exact ⟨Span.of hp.2.1 g2 hp.2.2.2 g1, hp.2.2.1, g3, g4⟩
  · simp at h
def rMany (s : ByteArray) (o : Option Int) (most : Int) : Option Int × Int := if isWithin (rNum s o).2 0 most = true then rNum s o else (none, 0)
theorem rMany_le (s : ByteArray) (o : Option Int) (most : Int) (h : 0 ≤ most) : 0 ≤ (rMany s o most).2 ∧ (rMany s o most).2 ≤ most := by
  unfold rMany
  split
  · rename_i hw
    simpa [isWithin] using hw
  · exact ⟨Int.le_refl _, h⟩
/-- Marks, k of them at the most, up to the first thing that is wrong. -/
def rMarks (s : ByteArray) : Nat → Option Int → Option Int × List Mark
  | 0, o => (o, [])
  | _ + 1, none => (none, [])
  | k + 1, some p => ((rMarks s k (rNum s (rNum s (some p)).1).1).1, ⟨(rNum s (some p)).2, (rNum s (rNum s (some p)).1).2⟩ :: (rMarks s k (rNum s (rNum s (some p)).1).1).2)
theorem rMarks_length (s : ByteArray) : ∀ (k : Nat) (o : Option Int), (rMarks s k o).2.length ≤ k
  | 0, _ => by simp [rMarks]
  | _ + 1, none => by simp [rMarks]
  | k + 1, some p => by
    have := rMarks_length s k (rNum s (rNum s (some p)).1).1
    simp only [rMarks, List.length_cons]; omega
theorem rMarks_none (s : ByteArray) : ∀ k, (rMarks s k none).1 = none
  | 0 => rfl
  | _ + 1 => rfl
def marksBytes (l : List Mark) : List Int := l.flatMap fun m => bytesOf (markBytes m)
theorem rMarks_span {s : ByteArray} : ∀ (k : Nat) (p q : Int), 0 ≤ p → p ≤ (s.size : Int) → (rMarks s k (some p)).1 = some q → Span s p (marksBytes (rMarks s k (some p)).2) q ∧ (rMarks s k (some p)).2.length = k
  | 0, p, q, h0, h1, h => by
    simp only [rMarks, Option.some.injEq] at h
    subst h
    exact ⟨Span.nil h0 h1, rfl⟩
  | k + 1, p, q, h0, h1, h => by
    simp only [rMarks] at h ⊢
    cases ha : rNum s (some p) with
    | mk a n =>
      rw [ha] at h
      cases a with
      | none => simp only [rNum, rMarks_none] at h; cases h
      | some a =>
        cases hb : rNum s (some a) with
        | mk b m =>
          simp only [hb] at h ⊢
          cases b with
          | none => rw [rMarks_none] at h; cases h
          | some b =>
            have s1 := (rNum_span ha).1
            have s2 := (rNum_span hb).1
            have ih := rMarks_span k b q (by have := s2.1; have := s2.2.1; omega) s2.2.2.1 h
            refine ⟨?_, by simp only [List.length_cons, ih.2]⟩
            show Span s p (bytesOf (putNum n ++ putNum m) ++ marksBytes (rMarks s k (some b)).2) q
            rw [bytesOf_append]
            exact (s1.trans s2).trans ih.1
theorem bytesOf_foldl (f : Mark → ByteArray) : ∀ (l : List Mark) (t : ByteArray), bytesOf (l.foldl (fun t m => t ++ f m) t) = bytesOf t ++ l.flatMap fun m => bytesOf (f m)
  | [], t => by simp
  | m :: r, t => by
    rw [List.foldl_cons, bytesOf_foldl f r, bytesOf_append, List.flatMap_cons, List.append_assoc]
theorem bytesOf_seenBytes (v : List Mark) : bytesOf (seenBytes v) = bytesOf (putNum (v.length : Int)) ++ marksBytes v := bytesOf_foldl markBytes v _
/-- Marks as they are read: how many, and they. -/
def rSeen (s : ByteArray) (o : Option Int) : Option Int × List Mark := rMarks s (rMany s o 5).2.toNat (rMany s o 5).1
theorem rSeen_length (s : ByteArray) (o : Option Int) : (rSeen s o).2.length ≤ 5 := by
  have h1 := rMarks_length s (rMany s o 5).2.toNat (rMany s o 5).1
  have h2 := rMany_le s o 5 (by omega)
  unfold rSeen; omega
theorem rMany_span {s : ByteArray} {p q n most : Int} (hm : 0 ≤ most) (h : rMany s (some p) most = (some q, n)) : Span s p (bytesOf (putNum n)) q ∧ p + 1 ≤ q ∧ 0 ≤ n ∧ n ≤ most := by
  have hn := rMany_le s (some p) most hm
  rw [h] at hn
  unfold rMany at h
  split at h
  · exact ⟨(rNum_span h).1, (rNum_span h).2.1, hn⟩
  · simp at h
theorem rSeen_span {s : ByteArray} {p q : Int} (h : (rSeen s (some p)).1 = some q) : Span s p (bytesOf (seenBytes (rSeen s (some p)).2)) q ∧ p + 1 ≤ q := by
  unfold rSeen at h ⊢
  cases ha : rMany s (some p) 5 with
  | mk a n =>
    rw [ha] at h
    cases a with
    | none => rw [rMarks_none] at h; cases h
    | some a =>
      have s1 := rMany_span (by omega) ha
      have s2 := rMarks_span n.toNat a q (by have := s1.1.1; omega) s1.1.2.2.1 h
      refine ⟨?_, by have := s2.1.2.1; omega⟩
      rw [bytesOf_seenBytes, s2.2, show ((n.toNat : Nat) : Int) = n from by omega]
      exact s1.1.trans s2.1
end Go.Proofs.Ytconpopbpphpgaa.Q

namespace Go.Proofs.Ytconpopbpphpgaa.P
open Go.RowKit Go.Proofs.YtconpopbpphpgaaW.PrintWords Go.Proofs.YtconpopbpphpgaaW.PrintLast Go.Proofs.YtconpopbpphpgaaW.PrintMore
attribute [local go_sem] max2_int min2_int max_two min_two max_three min_three max_four min_four   -- for this text's walks alone
set_option linter.unusedVariables false
set_option linter.unusedSimpArgs false

/-! ### impl_SeenRead: function 25 -/
def impl_SeenRead.f (k : Nat) (a0 : ByteArray) : Option ((List (S33)) × Int) := (impl_isLong.f k (([a0] : List ByteArray))).bind fun t414 => (if t414 = true then (some (([] : List (S33)), 2)) else ((impl_taker_seen.f k a0 0 false).bind fun bt416 => ((impl_taker_done.f bt416.2.1 bt416.2.2.1 bt416.2.2.2).bind fun bt422 => (if bt422.1 = true then (some (bt416.1, 0)) else (some (([] : List (S33)), 3))))))
theorem impl_SeenRead.mono : ∀ a0 k, LeO (impl_SeenRead.f k a0) (impl_SeenRead.f (k + 1) a0) := by
 intro a0 k
 unfold impl_SeenRead.f
 repeat' first
   | (with_reducible exact impl_isLong.mono _ _)
   | (with_reducible exact impl_taker_seen.mono _ _ _ _)
   | (with_reducible exact LeO.refl _)
   | (with_reducible exact LeO.none _)
   | (with_reducible refine LeO.ite ?_ ?_)
   | (with_reducible refine LeO.bind ?_ (fun _ => ?_))
   | exact impl_isLong.mono _ _
   | exact impl_taker_seen.mono _ _ _ _
   | exact LeO.none _
   | refine LeO.ite ?_ ?_
   | refine LeO.bind ?_ (fun _ => ?_)

/-! ### spec_SeenRead: function 36 -/
def spec_SeenRead.j0 : Nat → List (S33) → Bool → Option ((List (S33)) × Int)
 | 0, _, _ => none
 | k + 1, x4, x27 => if x27 = true then (some (([] : List (S33)), 3)) else (some (x4, 0))
def spec_SeenRead.f (k : Nat) (a0 : ByteArray) : Option ((List (S33)) × Int) := if (a0.size : Int) > 8000 then (some (([] : List (S33)), 2)) else ((spec_l02Reader_seen.f k a0 0 false).bind fun bt499 => (if bt499.2.2.2 = true then (spec_SeenRead.j0 k bt499.1 true) else (if a0.toList = ([] : List UInt8) then (spec_SeenRead.j0 k bt499.1 true) else ((spec_SeenBytes.f k bt499.1).bind fun t505 => (spec_SeenRead.j0 k bt499.1 (t505.toList != a0.toList))))))
theorem spec_SeenRead.mono_l : ∀ k, (∀ y0 y1, LeO (spec_SeenRead.j0 k y0 y1) (spec_SeenRead.j0 (k + 1) y0 y1))
 | 0 => fun _ _ r h => by simp [spec_SeenRead.j0] at h
 | k + 1 => by
  have ih0 := spec_SeenRead.mono_l k
  ·intro y0 y1
   unfold spec_SeenRead.j0
   repeat' first
   | (with_reducible exact ih0 _ _)
   | (with_reducible exact spec_SeenBytes.mono _ _)
   | (with_reducible exact spec_l02Reader_seen.mono _ _ _ _)
   | (with_reducible exact LeO.refl _)
   | (with_reducible exact LeO.none _)
   | (with_reducible refine LeO.ite ?_ ?_)
   | (with_reducible refine LeO.bind ?_ (fun _ => ?_))
   | exact ih0 _ _
   | exact spec_SeenBytes.mono _ _
   | exact spec_l02Reader_seen.mono _ _ _ _
   | exact LeO.none _
   | refine LeO.ite ?_ ?_
   | refine LeO.bind ?_ (fun _ => ?_)
theorem spec_SeenRead.mono : ∀ a0 k, LeO (spec_SeenRead.f k a0) (spec_SeenRead.f (k + 1) a0) := by
 intro a0 k
 have ih0 := spec_SeenRead.mono_l k
 unfold spec_SeenRead.f
 repeat' first
   | (with_reducible exact ih0 _ _)
   | (with_reducible exact spec_SeenBytes.mono _ _)
   | (with_reducible exact spec_l02Reader_seen.mono _ _ _ _)
   | (with_reducible exact LeO.refl _)
   | (with_reducible exact LeO.none _)
   | (with_reducible refine LeO.ite ?_ ?_)
   | (with_reducible refine LeO.bind ?_ (fun _ => ?_))
   | exact ih0 _ _
   | exact spec_SeenBytes.mono _ _
   | exact spec_l02Reader_seen.mono _ _ _ _
   | exact LeO.none _
   | refine LeO.ite ?_ ?_
   | refine LeO.bind ?_ (fun _ => ?_)
end Go.Proofs.Ytconpopbpphpgaa.P

namespace Go.Proofs.Ytconpopbpphpgaa.Q
open Go.RowKit Go.Proofs.Ytconpopbpphpgaa.P Go.Proofs.YtconpopbpphpgaaW.PrintWords Go.Proofs.YtconpopbpphpgaaW.PrintMore

theorem numGo_bad : ∀ (f : Nat) (bs : List Int) (u p w : Int), (numGo f bs u p w).2.2 ≠ 0 → (numGo f bs u p w).1 = 0 ∧ (numGo f bs u p w).2.1 = 0
  | 0, _, _, _, _, _ => by simp [numGo]
  | _ + 1, [], _, _, _, _ => by simp [numGo]
  | f + 1, c :: r, u, p, w, h => by
    simp only [numGo] at h ⊢
    split
    · simp
    · rename_i h1
      rw [if_neg h1] at h
      split
      · rename_i h2
        rw [if_pos h2] at h
        split
        · simp
        · rename_i h3
          rw [if_neg h3] at h
          simp at h
      · rename_i h2
        rw [if_neg h2] at h
        exact numGo_bad f r _ _ _ h
theorem getNum_bad {s : ByteArray} {x : Int} (h : (getNum s x).2.2 ≠ 0) : (getNum s x).1 = 0 ∧ (getNum s x).2.1 = 0 := by
  unfold getNum at h ⊢
  split
  · simp
  · rename_i h1
    rw [if_neg h1] at h
    split
    · simp
    · rename_i h2
      rw [if_neg h2] at h
      exact numGo_bad _ _ _ _ _ h
/-- Where a reader stands: at p, or nowhere any more. -/
def St (s : ByteArray) (o : Option Int) (p : Int) (b : Bool) : Prop := 0 ≤ p ∧ p ≤ (s.size : Int) ∧ o = if b = true then none else some p
theorem St.bad {s : ByteArray} {o : Option Int} {p : Int} (h : St s o p true) : o = none := h.2.2
theorem St.good {s : ByteArray} {o : Option Int} {p : Int} (h : St s o p false) : o = some p := h.2.2
theorem getNum_ok {s : ByteArray} {x : Int} (h : (getNum s x).2.2 = 0) : 0 ≤ (getNum s x).2.1 ∧ (getNum s x).2.1 ≤ (s.size : Int) := by
  have := getNum_place (s := s) (x1 := x) (n := (getNum s x).1) (p := (getNum s x).2.1) (by rw [← h])
  omega
theorem impl_num_ev {s : ByteArray} (hs : s.size ≤ 8000) {o : Option Int} {p : Int} {b : Bool} (h : St s o p b) : ∃ p' b', St s (rNum s o).1 p' b' ∧ Ev (fun k => impl_taker_num.f k s p b) ((rNum s o).2, s, p', b') := by
  obtain ⟨h0, h1, h2⟩ := h
  unfold impl_taker_num.f
  cases b with
  | true =>
    simp only [if_true] at h2
    subst h2
    exact ⟨p, true, ⟨h0, h1, rfl⟩, evPos rfl (Ev.now _)⟩
  | false =>
    simp only [Bool.false_eq_true, if_false] at h2
    subst h2
    have e := impl_GetNum_ev s p (by omega) (by omega)
    by_cases hc : (getNum s p).2.2 = 0
    · have hk := getNum_ok hc
      refine ⟨(getNum s p).2.1, false, ⟨hk.1, hk.2, by simp [rNum, hc]⟩, evNeg (by simp) (Ev.bind e ?_)⟩
      simp only [rNum, if_pos hc, hc]
      exact Ev.now _
    · have hk := getNum_bad hc
      refine ⟨0, true, ⟨Int.le_refl _, by omega, by simp [rNum, hc]⟩, evNeg (by simp) (Ev.bind e ?_)⟩
      simp only [rNum, if_neg hc, hk.1, hk.2]
      have : ((getNum s p).2.2 != 0) = true := by simpa using hc
      rw [this]
      exact Ev.now _
theorem spec_num_ev {s : ByteArray} (hs : s.size ≤ 8000) {o : Option Int} {p : Int} {b : Bool} (h : St s o p b) : ∃ p' b', St s (rNum s o).1 p' b' ∧ Ev (fun k => spec_l02Reader_num.f k s p b) ((rNum s o).2, s, p', b') := by
  obtain ⟨h0, h1, h2⟩ := h
  unfold spec_l02Reader_num.f
  have e := spec_GetNum_ev s p (by omega) (by omega)
  have jT : ∀ b n q c, Ev (fun k => spec_l02Reader_num.j0 k true s p b n q c) (0, s, p, true) := fun b n q c => Ev.step (f := fun _ => some (0, s, p, true)) (fun k => by simp [spec_l02Reader_num.j0]) (Ev.now _)
  cases b with
  | true =>
    simp only [if_true] at h2
    subst h2
    exact ⟨p, true, ⟨h0, h1, rfl⟩, Ev.bind e (evPos rfl (jT _ _ _ _))⟩
  | false =>
    simp only [Bool.false_eq_true, if_false] at h2
    subst h2
    by_cases hc : (getNum s p).2.2 = 0
    · have hk := getNum_ok hc
      have er : rNum s (some p) = (some (getNum s p).2.1, (getNum s p).1) := by simp [rNum, hc]
      rw [er]
      refine ⟨(getNum s p).2.1, false, ⟨hk.1, hk.2, rfl⟩, Ev.bind e (evNeg (by simp) ?_)⟩
      simp only [hc]
      exact Ev.step (f := fun _ => some _) (fun k => by simp only [spec_l02Reader_num.j0]; rw [if_neg (by simp)]) (Ev.now _)
    · refine ⟨p, true, ⟨h0, h1, by simp [rNum, hc]⟩, Ev.bind e (evNeg (by simp) ?_)⟩
      simp only [rNum, if_neg hc]
      have : ((getNum s p).2.2 != 0) = true := by simpa using hc
      rw [this]
      exact jT _ _ _ _
theorem impl_count_ev {s : ByteArray} (hs : s.size ≤ 8000) {o : Option Int} {p : Int} {b : Bool} (h : St s o p b) (most : Int) : ∃ p' b', St s (rMany s o most).1 p' b' ∧ Ev (fun k => impl_taker_count.f k s p b most) ((rMany s o most).2, s, p', b') := by
  obtain ⟨p', b', h1, h2⟩ := impl_num_ev hs h
  unfold impl_taker_count.f rMany
  by_cases hw : isWithin (rNum s o).2 0 most = true
  · rw [if_pos hw]
    exact ⟨p', b', h1, Ev.bind h2 (evBind1 (within_is _ _ _) (evPos hw (Ev.now _)))⟩
  · rw [if_neg hw]
    exact ⟨p', true, ⟨h1.1, h1.2.1, rfl⟩, Ev.bind h2 (evBind1 (within_is _ _ _) (evNeg hw (Ev.now _)))⟩
theorem spec_many_ev {s : ByteArray} (hs : s.size ≤ 8000) {o : Option Int} {p : Int} {b : Bool} (h : St s o p b) (most : Int) : ∃ p' b', St s (rMany s o most).1 p' b' ∧ Ev (fun k => spec_l02Reader_many.f k s p b most) ((rMany s o most).2, s, p', b') := by
  obtain ⟨p', b', h1, h2⟩ := spec_num_ev hs h
  unfold spec_l02Reader_many.f rMany
  by_cases hw : isWithin (rNum s o).2 0 most = true
  · rw [if_pos hw]
    exact ⟨p', b', h1, Ev.bind h2 (evBind1 (l02Is_is _ _ _) (evPos hw (Ev.now _)))⟩
  · rw [if_neg hw]
    exact ⟨p', true, ⟨h1.1, h1.2.1, rfl⟩, Ev.bind h2 (evBind1 (l02Is_is _ _ _) (evNeg hw (Ev.now _)))⟩
theorem spec_seen_l0 {s : ByteArray} (hs : s.size ≤ 8000) : ∀ (n : Nat) (o : Option Int) (p : Int) (b : Bool) (acc : List Mark), n ≤ 5 → acc.length + n ≤ 5 → St s o p b →
    ∃ p' b', St s (rMarks s n o).1 p' b' ∧ Ev (fun k => spec_l02Reader_seen.l0 k acc (n : Int) s p b) (acc ++ (rMarks s n o).2, s, p', b')
  | 0, o, p, b, acc, hn, ha, h => by
    refine ⟨p, b, h, ?_⟩
    simp only [rMarks, List.append_nil]
    refine Ev.step (f := fun k => spec_l02Reader_seen.j1 k acc ((0 : Nat) : Int) false s p b) (fun k => ?_) (Ev.step (f := fun _ => some (acc, s, p, b)) (fun k => by simp [spec_l02Reader_seen.j1]) (Ev.now _))
    simp only [spec_l02Reader_seen.l0]
    rw [if_neg (by omega)]
  | n + 1, o, p, true, acc, hn, ha, h => by
    have ho := h.bad
    subst ho
    refine ⟨p, true, h, ?_⟩
    simp only [rMarks, List.append_nil]
    refine Ev.step (f := fun k => spec_l02Reader_seen.j1 k acc ((n + 1 : Nat) : Int) false s p true) (fun k => ?_) (Ev.step (f := fun _ => some (acc, s, p, true)) (fun k => by simp [spec_l02Reader_seen.j1]) (Ev.now _))
    simp only [spec_l02Reader_seen.l0]
    rw [if_pos (by omega)]
    rfl
  | n + 1, o, p, false, acc, hn, ha, h => by
    have ho := h.good
    subst ho
    obtain ⟨p1, b1, s1, e1⟩ := spec_num_ev hs h
    obtain ⟨p2, b2, s2, e2⟩ := spec_num_ev hs s1
    obtain ⟨p3, b3, s3, e3⟩ := spec_seen_l0 hs n _ p2 b2 (acc ++ [⟨(rNum s (some p)).2, (rNum s (rNum s (some p)).1).2⟩]) (by omega) (by simp; omega) s2
    refine ⟨p3, b3, s3, ?_⟩
    simp only [rMarks]
    rw [List.append_assoc, List.singleton_append] at e3
    refine Ev.step (f := fun k => spec_l02Reader_seen.j1 k acc ((n + 1 : Nat) : Int) true s p false) (fun k => ?_) ?_
    · simp only [spec_l02Reader_seen.l0]
      rw [if_pos (by omega)]
      rfl
    · have hj : ∀ k, spec_l02Reader_seen.j1 (k + 1) acc ((n + 1 : Nat) : Int) true s p false = (spec_l02Reader_num.f k s p false).bind fun a => (spec_l02Reader_num.f k a.2.1 a.2.2.1 a.2.2.2).bind fun c => if acc.length < 8796093022208 then spec_l02Reader_seen.l0 k (acc ++ [⟨a.1, c.1⟩]) (wrap64 (((n + 1 : Nat) : Int) - 1)) c.2.1 c.2.2.1 c.2.2.2 else none := fun k => by simp [spec_l02Reader_seen.j1]
      refine Ev.step hj (Ev.bind e1 (Ev.bind e2 (evPos (by omega) ?_)))
      rw [w64 (by omega) (by omega), show ((n + 1 : Nat) : Int) - 1 = (n : Int) from by omega]
      exact e3
theorem spec_seen_ev {s : ByteArray} (hs : s.size ≤ 8000) {o : Option Int} {p : Int} {b : Bool} (h : St s o p b) : ∃ p' b', St s (rSeen s o).1 p' b' ∧ Ev (fun k => spec_l02Reader_seen.f k s p b) ((rSeen s o).2, s, p', b') := by
  obtain ⟨p1, b1, s1, e1⟩ := spec_many_ev hs h 5
  have hm := rMany_le s o 5 (by omega)
  obtain ⟨p2, b2, s2, e2⟩ := spec_seen_l0 hs (rMany s o 5).2.toNat _ p1 b1 [] (by omega) (by simp; omega) s1
  refine ⟨p2, b2, s2, Ev.bind e1 ?_⟩
  rw [show (((rMany s o 5).2.toNat : Nat) : Int) = (rMany s o 5).2 from by omega, List.nil_append] at e2
  exact e2
theorem impl_seen_l0 {s : ByteArray} (hs : s.size ≤ 8000) : ∀ (n : Nat) (o : Option Int) (p : Int) (b : Bool) (acc : List Mark), n ≤ 5 → acc.length + n ≤ 5 → St s o p b →
    ∃ p' b', St s (rMarks s n o).1 p' b' ∧ Ev (fun k => impl_taker_seen.l0 k acc (n : Int) s p b) (acc ++ (rMarks s n o).2, s, p', b' || !seenOk (acc ++ (rMarks s n o).2)) := by
  have jE : ∀ (acc : List Mark) (n : Int) (p : Int) (b : Bool), acc.length ≤ 5 → Ev (fun k => impl_taker_seen.j1 k acc n false s p b) (acc, s, p, b || !seenOk acc) := by
    intro acc n p b ha
    cases b with
    | true => exact Ev.step (f := fun _ => some (acc, s, p, true)) (fun k => by simp [impl_taker_seen.j1]) (Ev.now _)
    | false =>
      refine Ev.step (fun k => by simp only [impl_taker_seen.j1]; rw [if_neg (by simp), if_neg (by simp)]) (Ev.bind (impl_seenRight_ev acc (by omega)) ?_)
      simp only [Bool.false_or]
      exact Ev.now _
  intro n
  induction n with
  | zero =>
    intro o p b acc hn ha h
    refine ⟨p, b, h, ?_⟩
    simp only [rMarks, List.append_nil]
    refine Ev.step (fun k => ?_) (jE acc ((0 : Nat) : Int) p b (by omega))
    simp only [impl_taker_seen.l0]
    rw [if_neg (by omega)]
  | succ n ih =>
    intro o p b acc hn ha h
    cases b with
    | true =>
      have ho := h.bad
      subst ho
      refine ⟨p, true, h, ?_⟩
      simp only [rMarks, List.append_nil]
      refine Ev.step (fun k => ?_) (jE acc ((n + 1 : Nat) : Int) p true (by omega))
      simp only [impl_taker_seen.l0]
      rw [if_pos (by omega)]
      rfl
    | false =>
      have ho := h.good
      subst ho
      obtain ⟨p1, b1, s1, e1⟩ := impl_num_ev hs h
      obtain ⟨p2, b2, s2, e2⟩ := impl_num_ev hs s1
      obtain ⟨p3, b3, s3, e3⟩ := ih _ p2 b2 (acc ++ [⟨(rNum s (some p)).2, (rNum s (rNum s (some p)).1).2⟩]) (by omega) (by simp; omega) s2
      refine ⟨p3, b3, s3, ?_⟩
      simp only [rMarks]
      rw [List.append_assoc, List.singleton_append] at e3
      refine Ev.step (f := fun k => impl_taker_seen.j1 k acc ((n + 1 : Nat) : Int) true s p false) (fun k => ?_) ?_
      · simp only [impl_taker_seen.l0]
        rw [if_pos (by omega)]
        rfl
      · have hj : ∀ k, impl_taker_seen.j1 (k + 1) acc ((n + 1 : Nat) : Int) true s p false = (impl_taker_num.f k s p false).bind fun a => (impl_taker_num.f k a.2.1 a.2.2.1 a.2.2.2).bind fun c => if acc.length < 8796093022208 then impl_taker_seen.l0 k (acc ++ [⟨a.1, c.1⟩]) (wrap64 (((n + 1 : Nat) : Int) - 1)) c.2.1 c.2.2.1 c.2.2.2 else none := fun k => by simp [impl_taker_seen.j1]
        refine Ev.step hj (Ev.bind e1 (Ev.bind e2 (evPos (by omega) ?_)))
        rw [w64 (by omega) (by omega), show ((n + 1 : Nat) : Int) - 1 = (n : Int) from by omega]
        exact e3
theorem impl_seen_ev {s : ByteArray} (hs : s.size ≤ 8000) {o : Option Int} {p : Int} {b : Bool} (h : St s o p b) : ∃ p' b', St s (rSeen s o).1 p' b' ∧ Ev (fun k => impl_taker_seen.f k s p b) ((rSeen s o).2, s, p', b' || !seenOk (rSeen s o).2) := by
  obtain ⟨p1, b1, s1, e1⟩ := impl_count_ev hs h 5
  have hm := rMany_le s o 5 (by omega)
  obtain ⟨p2, b2, s2, e2⟩ := impl_seen_l0 hs (rMany s o 5).2.toNat _ p1 b1 [] (by omega) (by simp; omega) s1
  refine ⟨p2, b2, s2, Ev.bind e1 ?_⟩
  rw [show (((rMany s o 5).2.toNat : Nat) : Int) = (rMany s o 5).2 from by omega, List.nil_append] at e2
  exact e2
theorem St.start (s : ByteArray) : St s (some 0) 0 false := ⟨Int.le_refl _, by omega, rfl⟩
end Go.Proofs.Ytconpopbpphpgaa.Q

namespace Go.Proofs.Ytconpopbpphpgaa.P
open Go.RowKit Go.Proofs.YtconpopbpphpgaaW.PrintWords Go.Proofs.YtconpopbpphpgaaW.PrintLast Go.Proofs.YtconpopbpphpgaaW.PrintMore
attribute [local go_sem] max2_int min2_int max_two min_two max_three min_three max_four min_four   -- for this text's walks alone
set_option linter.unusedVariables false
set_option linter.unusedSimpArgs false

theorem eqA33 (d : Nat) (w : World) (x0 y0 : Int) (x1 y1 : Int) :
  (Op.equalIn (d + 2) 33 (.agg #[.int .i64 x0, .int .i64 x1]) (.agg #[.int .i64 y0, .int .i64 y1])).run Try.prog w = .ok (x0 == y0 && (x1 == y1)) w := by
 refine eqA_of Try.underlying33 (by kernel_rfl) ?_
 refine eqf_cons (by rfl) (by go_simp; rfl) (by go_simp; rfl) (by go_simp) ?_
 exact eqf_last (by rfl) (by go_simp; rfl) (by go_simp; rfl) (by go_simp)

attribute [local go_sem high] eqA33
/-! ### spec_l03At: function 193 -/
def spec_l03At.l0 : Nat → List (S158) → Int → Int → Int → Option (Int)
 | 0, _, _, _, _ => none
 | k + 1, x0, x5, x1183000, x1183001 => if x5 < (x0.length : Int) then (if 0 ≤ x5 then (if (((rd_T158 x0 x5).f0.f0) == x1183000 && (((rd_T158 x0 x5).f0.f1) == x1183001)) = true then (some x5) else (spec_l03At.l0 k x0 (wrap64 (x5 + 1)) x1183000 x1183001)) else (none)) else (some (-1))
def spec_l03At.f (k : Nat) (l0 : List (S158)) (a1_0 : Int) (a1_1 : Int) : Option (Int) := spec_l03At.l0 k l0 0 a1_0 a1_1
theorem spec_l03At.mono_l : ∀ k, (∀ y0 y1 y2 y3, LeO (spec_l03At.l0 k y0 y1 y2 y3) (spec_l03At.l0 (k + 1) y0 y1 y2 y3))
 | 0 => fun _ _ _ _ r h => by simp [spec_l03At.l0] at h
 | k + 1 => by
  have ih0 := spec_l03At.mono_l k
  ·intro y0 y1 y2 y3
   unfold spec_l03At.l0
   repeat' first
   | (with_reducible exact ih0 _ _ _ _)
   | (with_reducible exact LeO.refl _)
   | (with_reducible exact LeO.none _)
   | (with_reducible refine LeO.ite ?_ ?_)
   | (with_reducible refine LeO.bind ?_ (fun _ => ?_))
   | exact ih0 _ _ _ _
   | exact LeO.none _
   | refine LeO.ite ?_ ?_
   | refine LeO.bind ?_ (fun _ => ?_)
theorem spec_l03At.mono : ∀ a0 a1 a2 k, LeO (spec_l03At.f k a0 a1 a2) (spec_l03At.f (k + 1) a0 a1 a2) := by
 intro a0 a1 a2 k
 have ih0 := spec_l03At.mono_l k
 unfold spec_l03At.f
 repeat' first
   | (with_reducible exact ih0 _ _ _ _)
   | (with_reducible exact LeO.refl _)
   | (with_reducible exact LeO.none _)
   | (with_reducible refine LeO.ite ?_ ?_)
   | (with_reducible refine LeO.bind ?_ (fun _ => ?_))
   | exact ih0 _ _ _ _
   | exact LeO.none _
   | refine LeO.ite ?_ ?_
   | refine LeO.bind ?_ (fun _ => ?_)

attribute [local go_sem high] eqA33
/-! ### impl_Set_sib_1_cap: function 196 -/
def impl_Set_sib_1_cap.f (a0_0 : Int) (a0_1 : Int) (a0_2 : Bool) (a0_3 : ByteArray) (a1_0 : Int) (a1_1 : Int) : Option (Bool) := some (a0_0 == a1_0 && (a0_1 == a1_1))

/-! ### slices_IndexFunc_impl_Sib_impl_Sib_impl_Set_sib_1: function 195 -/
def slices_IndexFunc_impl_Sib_impl_Sib_impl_Set_sib_1.l0 : Nat → List (S158) → Int → Int → Int → Int → Option (Int)
 | 0, _, _, _, _, _ => none
 | k + 1, x0, x7, x8, x62000, x62001 => if x8 < x7 then (if 0 ≤ x8 then (if x8 < (x0.length : Int) then ((impl_Set_sib_1_cap.f ((rd_T158 x0 x8).f0.f0) ((rd_T158 x0 x8).f0.f1) ((rd_T158 x0 x8).f1) ((rd_T158 x0 x8).f2) x62000 x62001).bind fun t1264 => (if t1264 = true then (some x8) else (slices_IndexFunc_impl_Sib_impl_Sib_impl_Set_sib_1.l0 k x0 x7 (wrap64 (x8 + 1)) x62000 x62001))) else (none)) else (none)) else (some (-1))
def slices_IndexFunc_impl_Sib_impl_Sib_impl_Set_sib_1.f (k : Nat) (l0 : List (S158)) (a1_0 : Int) (a1_1 : Int) : Option (Int) := slices_IndexFunc_impl_Sib_impl_Sib_impl_Set_sib_1.l0 k l0 (l0.length : Int) 0 a1_0 a1_1
theorem slices_IndexFunc_impl_Sib_impl_Sib_impl_Set_sib_1.mono_l : ∀ k, (∀ y0 y1 y2 y3 y4, LeO (slices_IndexFunc_impl_Sib_impl_Sib_impl_Set_sib_1.l0 k y0 y1 y2 y3 y4) (slices_IndexFunc_impl_Sib_impl_Sib_impl_Set_sib_1.l0 (k + 1) y0 y1 y2 y3 y4))
 | 0 => fun _ _ _ _ _ r h => by simp [slices_IndexFunc_impl_Sib_impl_Sib_impl_Set_sib_1.l0] at h
 | k + 1 => by
  have ih0 := slices_IndexFunc_impl_Sib_impl_Sib_impl_Set_sib_1.mono_l k
  ·intro y0 y1 y2 y3 y4
   unfold slices_IndexFunc_impl_Sib_impl_Sib_impl_Set_sib_1.l0
   repeat' first
   | (with_reducible exact ih0 _ _ _ _ _)
   | (with_reducible exact LeO.refl _)
   | (with_reducible exact LeO.none _)
   | (with_reducible refine LeO.ite ?_ ?_)
   | (with_reducible refine LeO.bind ?_ (fun _ => ?_))
   | exact ih0 _ _ _ _ _
   | exact LeO.none _
   | refine LeO.ite ?_ ?_
   | refine LeO.bind ?_ (fun _ => ?_)
theorem slices_IndexFunc_impl_Sib_impl_Sib_impl_Set_sib_1.mono : ∀ a0 a1 a2 k, LeO (slices_IndexFunc_impl_Sib_impl_Sib_impl_Set_sib_1.f k a0 a1 a2) (slices_IndexFunc_impl_Sib_impl_Sib_impl_Set_sib_1.f (k + 1) a0 a1 a2) := by
 intro a0 a1 a2 k
 have ih0 := slices_IndexFunc_impl_Sib_impl_Sib_impl_Set_sib_1.mono_l k
 unfold slices_IndexFunc_impl_Sib_impl_Sib_impl_Set_sib_1.f
 repeat' first
   | (with_reducible exact ih0 _ _ _ _ _)
   | (with_reducible exact LeO.refl _)
   | (with_reducible exact LeO.none _)
   | (with_reducible refine LeO.ite ?_ ?_)
   | (with_reducible refine LeO.bind ?_ (fun _ => ?_))
   | exact ih0 _ _ _ _ _
   | exact LeO.none _
   | refine LeO.ite ?_ ?_
   | refine LeO.bind ?_ (fun _ => ?_)

/-! ### impl_Set_sib: function 149 -/
def impl_Set_sib.f (k : Nat) (l0_0 : List (S33)) (l0_1 : List (S158)) (a1_0 : Int) (a1_1 : Int) : Option (Int) := (slices_IndexFunc_impl_Sib_impl_Sib_impl_Set_sib_1.f k l0_1 a1_0 a1_1).bind fun t1267 => (some t1267)
theorem impl_Set_sib.mono : ∀ a0 a1 a2 a3 k, LeO (impl_Set_sib.f k a0 a1 a2 a3) (impl_Set_sib.f (k + 1) a0 a1 a2 a3) := by
 intro a0 a1 a2 a3 k
 unfold impl_Set_sib.f
 repeat' first
   | (with_reducible exact slices_IndexFunc_impl_Sib_impl_Sib_impl_Set_sib_1.mono _ _ _ _)
   | (with_reducible exact LeO.refl _)
   | (with_reducible exact LeO.none _)
   | (with_reducible refine LeO.ite ?_ ?_)
   | (with_reducible refine LeO.bind ?_ (fun _ => ?_))
   | exact slices_IndexFunc_impl_Sib_impl_Sib_impl_Set_sib_1.mono _ _ _ _
   | exact LeO.none _
   | refine LeO.ite ?_ ?_
   | refine LeO.bind ?_ (fun _ => ?_)
end Go.Proofs.Ytconpopbpphpgaa.P

namespace Go.Proofs.Ytconpopbpphpgaa.Q
open Go.RowKit Go.Proofs.Ytconpopbpphpgaa.P Go.Proofs.YtconpopbpphpgaaW.PrintWords Go.Proofs.YtconpopbpphpgaaW.PrintMore

/-- A sibling's bytes. -/
def sibBytes (x : Sib) : ByteArray := putNum x.f0.f0 ++ putNum x.f0.f1 ++ putNum (if x.f1 = true then 1 else 0) ++ putText x.f2
theorem sibsFrom_mem (v : List Mark) : ∀ (s : List Sib) (p : Option Sib), sibsFrom v p s = true → ∀ x ∈ s, sibOk v x = true
  | [], _, _, x, hx => by simp at hx
  | y :: r, p, h, x, hx => by
    have h2 : sibOk v y = true ∧ sibsFrom v (some y) r = true := by
      cases p with
      | none => simpa [sibsFrom] using h
      | some z =>
        simp only [sibsFrom, Bool.and_eq_true] at h
        exact ⟨h.1, h.2.2⟩
    rcases List.mem_cons.1 hx with rfl | hx
    · exact h2.1
    · exact sibsFrom_mem v r _ h2.2 x hx
def SmallSibs (l : List Sib) : Prop := ∀ x ∈ l, ((0 ≤ x.f0.f0 ∧ x.f0.f0 ≤ 4294967295) ∧ 0 ≤ x.f0.f1 ∧ x.f0.f1 ≤ 4294967295) ∧ x.f2.size ≤ 16
theorem setOk_iff (v : List Mark) (l : List Sib) : setOk v l = true ↔ seenOk v = true ∧ l.length ≤ 8 ∧ sibsFrom v none l = true := by
  simp [setOk]
theorem setOk_small {v : List Mark} {l : List Sib} (h : setOk v l = true) : SmallSibs l := fun x hx => by
  have h1 := sibsFrom_mem v l none ((setOk_iff v l).1 h).2.2 x hx
  simp only [sibOk, Bool.and_eq_true, dataOk, decide_eq_true_eq] at h1
  have h2 := (isDot_iff _ _).1 h1.1
  omega
theorem putText_size (t : ByteArray) : (putText t).size ≤ 10 + t.size := by
  have := putNum_size (t.size : Int)
  unfold putText
  split
  · show 0 ≤ _; omega
  · simp only [ByteArray.size_append]; omega
theorem sibBytes_size (x : Sib) : (sibBytes x).size ≤ 40 + x.f2.size := by
  have p0 := putNum_size x.f0.f0
  have p1 := putNum_size x.f0.f1
  have p2 := putNum_size (if x.f1 = true then 1 else 0)
  have p3 := putText_size x.f2
  simp only [sibBytes, ByteArray.size_append]; omega
theorem seenBytes_size (v : List Mark) : (seenBytes v).size ≤ 10 + 20 * v.length := by
  have key : ∀ (s : List Mark) (t : ByteArray), (s.foldl (fun t m => t ++ markBytes m) t).size ≤ t.size + 20 * s.length := by
    intro s
    induction s with
    | nil => intro t; simp
    | cons m r ih =>
      intro t
      have := ih (t ++ markBytes m)
      have p0 := putNum_size m.f0
      have p1 := putNum_size m.f1
      simp only [List.foldl_cons, List.length_cons]
      simp only [markBytes, ByteArray.size_append] at this ⊢
      omega
  have := key v (putNum (v.length : Int))
  have := putNum_size (v.length : Int)
  unfold seenBytes
  omega
def setBytes (v : List Mark) (l : List Sib) : ByteArray := l.foldl (fun t x => t ++ sibBytes x) (seenBytes v ++ putNum (l.length : Int))
theorem l03Bytes_l0 (v : List Mark) (l : List Sib) (hl : l.length ≤ 1048576) (hsm : SmallSibs l) : ∀ (s : List Sib) (i : Nat), l.drop i = s → i ≤ l.length → ∀ t : ByteArray, t.size ≤ 1099511627776 + 56 * i → Ev (fun k => spec_l03Bytes.l0 k t (i : Int) v l) (s.foldl (fun t x => t ++ sibBytes x) t)
  | [], i, h, hi, t, ht => by
    have := dropNil' h hi
    refine Ev.step (f := fun _ => some t) (fun k => ?_) (Ev.now _)
    simp only [spec_l03Bytes.l0]
    rw [if_neg (by omega)]
  | x :: s, i, h, hi, t, ht => by
    obtain ⟨h1, h2, h3⟩ := dropCons h z158
    have hr : rd_T158 l (i : Int) = x := by simpa [rd_T158] using h2
    have hm : x ∈ l := List.mem_of_mem_drop (by rw [h]; exact List.mem_cons_self)
    have hb := hsm x hm
    have p0 := putNum_size x.f0.f0
    have p1 := putNum_size x.f0.f1
    have p2 := putNum_size (if x.f1 = true then 1 else 0)
    have p3 := putText_size x.f2
    have p4 := sibBytes_size x
    refine Ev.step (f := fun k => spec_l03Bytes.j1 k t (i : Int) (if x.f1 = true then 1 else 0) v l x.f0.f0 x.f0.f1 x.f1 x.f2) (fun k => ?_) ?_
    · simp only [spec_l03Bytes.l0, hr]
      rw [if_pos (show (i : Int) < l.length by omega), if_pos (show (0 : Int) ≤ i by omega)]
      cases x.f1 <;> rfl
    · refine Ev.step (fun k => by simp only [spec_l03Bytes.j1]; rw [w64 (x := (i : Int) + 1) (by omega) (by omega)]) ?_
      refine Ev.bind (spec_PutNum_ev (by omega) (by omega)) (evPos (by omega) (Ev.bind (spec_PutNum_ev (by omega) (by omega)) (evPos (by omega) (Ev.bind (spec_PutNum_ev (by split <;> omega) (by split <;> omega)) (evPos (by omega) (Ev.bind (spec_PutText_ev _) (evPos (by omega) ?_)))))))
      have ih := l03Bytes_l0 v l hl hsm s (i + 1) h3 (by omega) (t ++ sibBytes x) (by simp only [ByteArray.size_append]; omega)
      simp only [sibBytes, ← ByteArray.append_assoc] at ih
      simpa [sibBytes, ← ByteArray.append_assoc] using ih
theorem l03Bytes_ev (v : List Mark) (l : List Sib) (hv : v.length ≤ 1048576) (hvs : Small v) (hl : l.length ≤ 1048576) (hsm : SmallSibs l) : Ev (fun k => spec_l03Bytes.f k v l) (setBytes v l) := by
  unfold spec_l03Bytes.f
  have q0 := seenBytes_size v
  have q1 := putNum_size (l.length : Int)
  exact Ev.bind (l02Bytes_ev v hv hvs) (Ev.bind (spec_PutNum_ev (by omega) (by omega)) (evPos (by omega) (l03Bytes_l0 v l hl hsm l 0 rfl (by omega) _ (by simp only [ByteArray.size_append]; omega))))
def setBytesOut (v : List Mark) (l : List Sib) : ByteArray := if setOk v l = true then setBytes v l else ⟨#[]⟩
theorem spec_SetBytes_ev (v : List Mark) (l : List Sib) (hv : v.length ≤ 1048576) (hl : l.length ≤ 1048576) : Ev (fun k => spec_SetBytes.f k v l) (setBytesOut v l) := by
  unfold spec_SetBytes.f setBytesOut
  refine Ev.bind (spec_SetRight_ev v l (by omega) hl) (evIte (fun h => ?_) (fun h => ?_))
  · rw [if_pos h]; exact Ev.bind (l03Bytes_ev v l hv (seenOk_small ((setOk_iff v l).1 h).1) hl (setOk_small h)) (Ev.now _)
  · rw [if_neg h]; exact Ev.now _
end Go.Proofs.Ytconpopbpphpgaa.Q

namespace Go.Proofs.Ytconpopbpphpgaa.Q
open Go.RowKit Go.Proofs.Ytconpopbpphpgaa.P Go.Proofs.YtconpopbpphpgaaW.PrintWords Go.Proofs.YtconpopbpphpgaaW.PrintMore

theorem vbytes_free : ∀ (f : Nat) (u v : Int) (r r' : List Int), 0 ≤ u → u < 128 ^ (f + 1) → 0 ≤ v → v < 128 ^ (f + 1) → vbytes f u ++ r = vbytes f v ++ r' → u = v ∧ r = r'
  | 0, u, v, r, r', u0, u1, v0, v1, h => by
    simp only [vbytes, List.cons_append, List.nil_append, List.cons.injEq] at h
    exact ⟨by omega, h.2⟩
  | f + 1, u, v, r, r', u0, u1, v0, v1, h => by
    rw [Int.pow_succ] at u1 v1
    simp only [vbytes] at h
    by_cases hu : u ≥ 128
    · rw [if_pos hu] at h
      by_cases hv : v ≥ 128
      · rw [if_pos hv] at h
        simp only [List.cons_append, List.cons.injEq] at h
        have ih := vbytes_free f (u / 128) (v / 128) r r' (by omega) (by omega) (by omega) (by omega) h.2
        exact ⟨by omega, ih.2⟩
      · rw [if_neg hv] at h
        simp only [List.cons_append, List.cons.injEq] at h
        omega
    · rw [if_neg hu] at h
      by_cases hv : v ≥ 128
      · rw [if_pos hv] at h
        simp only [List.cons_append, List.cons.injEq] at h
        omega
      · rw [if_neg hv] at h
        simp only [List.cons_append, List.nil_append, List.cons.injEq] at h
        exact ⟨by omega, h.2⟩
theorem zig_inj {a b : Int} (h : zig a = zig b) : a = b := by
  unfold zig at h
  split at h <;> split at h <;> omega
theorem putNum_free {a b : Int} {r r' : List Int} (ha : zig a < 128 ^ 10 ∧ 0 ≤ zig a) (hb : zig b < 128 ^ 10 ∧ 0 ≤ zig b) (h : bytesOf (putNum a) ++ r = bytesOf (putNum b) ++ r') : a = b ∧ r = r' := by
  rw [bytesOf_putNum, bytesOf_putNum] at h
  have := vbytes_free 9 _ _ r r' ha.2 ha.1 hb.2 hb.1 h
  exact ⟨zig_inj this.1, this.2⟩
def rText (s : ByteArray) : Option Int → Option Int × ByteArray
  | none => (none, ⟨#[]⟩)
  | some p => if (getText s p).2.2 = 0 then (some (getText s p).2.1, (getText s p).1) else (none, ⟨#[]⟩)
theorem bytesOf_extract (s : ByteArray) (a b : Nat) : bytesOf (s.extract a b) = ((bytesOf s).drop a).take (b - a) := by
  simp only [bytesOf]
  rw [show (s.extract a b).data = s.data.extract a b from by simp]
  rw [Array.toList_extract, List.extract_eq_take_drop, List.map_take, List.map_drop]
theorem rText_span {s : ByteArray} {p q : Int} {t : ByteArray} (h : rText s (some p) = (some q, t)) : Span s p (bytesOf (putText t)) q ∧ p + 1 ≤ q := by
  simp only [rText] at h
  split at h
  · rename_i hc
    simp only [Prod.mk.injEq, Option.some.injEq] at h
    obtain ⟨h1, h2⟩ := h
    unfold getText at hc h1 h2
    split at hc
    · rename_i hn
      rw [if_pos hn] at h1 h2
      split at hc
      · simp at hc
      · rename_i hr
        rw [if_neg hr] at h1 h2
        split at hc
        · simp at hc
        · rename_i hl
          rw [if_neg hl] at h1 h2
          simp only at h1 h2
          have e : rNum s (some p) = (some (getNum s p).2.1, (getNum s p).1) := by simp [rNum, hn]
          generalize getNum s p = g at *
          have s1 := rNum_span e
          have hlen : (bytesOf t).length = g.1.toNat := by
            rw [← h2, bytesOf_extract, List.length_take, List.length_drop, bytesOf_length]
            have := s1.1.2.2.1
            have := s1.1.1
            have := s1.1.2.1
            omega
          have ht : t.size = g.1.toNat := by rw [← hlen, bytesOf_length]
          have s2 : Span s g.2.1 (bytesOf t) q := by
            have a1 := s1.1.1
            have a2 := s1.1.2.1
            have a3 := s1.1.2.2.1
            refine ⟨by omega, by rw [hlen]; omega, by omega, ?_⟩
            rw [← h2, bytesOf_extract, ← h1]
            have e2 : (g.2.1 + g.1).toNat = g.2.1.toNat + g.1.toNat := by omega
            rw [e2, show g.2.1.toNat + g.1.toNat - g.2.1.toNat = g.1.toNat from by omega, ← List.drop_drop, List.take_append_drop]
          refine ⟨?_, by have := s2.2.1; omega⟩
          unfold putText
          rw [if_neg (by omega), bytesOf_append, ht, show ((g.1.toNat : Nat) : Int) = g.1 from by omega]
          exact s1.1.trans s2
    · rename_i hn
      exact absurd hc hn
  · simp at h
/-- Siblings, k of them at the most, up to the first thing that is wrong; beside each its mark of a removal. -/
def rSibs (s : ByteArray) : Nat → Option Int → Option Int × List (Sib × Int)
  | 0, o => (o, [])
  | _ + 1, none => (none, [])
  | k + 1, some p =>
    ((rSibs s k (rText s (rNum s (rNum s (rNum s (some p)).1).1).1).1).1,
      (⟨⟨(rNum s (some p)).2, (rNum s (rNum s (some p)).1).2⟩, (rNum s (rNum s (rNum s (some p)).1).1).2 == 1, (rText s (rNum s (rNum s (rNum s (some p)).1).1).1).2⟩, (rNum s (rNum s (rNum s (some p)).1).1).2) :: (rSibs s k (rText s (rNum s (rNum s (rNum s (some p)).1).1).1).1).2)
/-- The same, up to the first mark of a removal that is neither 0 nor 1. -/
def rSibsI (s : ByteArray) : Nat → Option Int → Option Int × List Sib
  | 0, o => (o, [])
  | _ + 1, none => (none, [])
  | k + 1, some p =>
    ((rSibsI s k (if isWithin (rNum s (rNum s (rNum s (some p)).1).1).2 0 1 = true then (rText s (rNum s (rNum s (rNum s (some p)).1).1).1).1 else none)).1,
      ⟨⟨(rNum s (some p)).2, (rNum s (rNum s (some p)).1).2⟩, (rNum s (rNum s (rNum s (some p)).1).1).2 == 1, (rText s (rNum s (rNum s (rNum s (some p)).1).1).1).2⟩ :: (rSibsI s k (if isWithin (rNum s (rNum s (rNum s (some p)).1).1).2 0 1 = true then (rText s (rNum s (rNum s (rNum s (some p)).1).1).1).1 else none)).2)
def gonesOk (l : List (Sib × Int)) : Bool := l.all fun x => isWithin x.2 0 1
theorem rSibs_none (s : ByteArray) : ∀ k, (rSibs s k none).1 = none
  | 0 => rfl
  | _ + 1 => rfl
theorem rSibsI_none (s : ByteArray) : ∀ k, (rSibsI s k none).1 = none
  | 0 => rfl
  | _ + 1 => rfl
theorem rSibs_length (s : ByteArray) : ∀ (k : Nat) (o : Option Int), (rSibs s k o).2.length ≤ k
  | 0, _ => by simp [rSibs]
  | _ + 1, none => by simp [rSibs]
  | k + 1, some p => by
    have := rSibs_length s k (rText s (rNum s (rNum s (rNum s (some p)).1).1).1).1
    simp only [rSibs, List.length_cons]; omega
theorem rSibsI_good (s : ByteArray) : ∀ (k : Nat) (o : Option Int), gonesOk (rSibs s k o).2 = true → rSibsI s k o = ((rSibs s k o).1, (rSibs s k o).2.map (·.1))
  | 0, _, _ => rfl
  | _ + 1, none, _ => rfl
  | k + 1, some p, h => by
    simp only [rSibs, gonesOk, List.all_cons, Bool.and_eq_true] at h
    have ih := rSibsI_good s k _ h.2
    simp only [rSibsI, rSibs, if_pos h.1, ih, List.map_cons]
theorem rSibsI_some (s : ByteArray) : ∀ (k : Nat) (o : Option Int) (q : Int), (rSibsI s k o).1 = some q → gonesOk (rSibs s k o).2 = true
  | 0, _, _, _ => rfl
  | _ + 1, none, _, _ => rfl
  | k + 1, some p, q, h => by
    simp only [rSibsI] at h
    simp only [rSibs, gonesOk, List.all_cons, Bool.and_eq_true]
    by_cases hw : isWithin (rNum s (rNum s (rNum s (some p)).1).1).2 0 1 = true
    · rw [if_pos hw] at h
      exact ⟨hw, rSibsI_some s k _ q h⟩
    · rw [if_neg hw, rSibsI_none] at h
      cases h
def rawSib (x : Sib × Int) : List Int := bytesOf (putNum x.1.f0.f0) ++ bytesOf (putNum x.1.f0.f1) ++ (bytesOf (putNum x.2) ++ bytesOf (putText x.1.f2))
def rawSibs (l : List (Sib × Int)) : List Int := l.flatMap rawSib
/-- The marks' numbers are those of the flags, and they are numbers that can be read. -/
def RawOk (l : List (Sib × Int)) : Prop := ∀ x ∈ l, x.1.f1 = (x.2 == 1) ∧ zig x.2 < 128 ^ 10 ∧ 0 ≤ zig x.2
theorem rSibs_span {s : ByteArray} : ∀ (k : Nat) (p q : Int), 0 ≤ p → p ≤ (s.size : Int) → (rSibs s k (some p)).1 = some q → Span s p (rawSibs (rSibs s k (some p)).2) q ∧ (rSibs s k (some p)).2.length = k ∧ RawOk (rSibs s k (some p)).2
  | 0, p, q, h0, h1, h => by
    simp only [rSibs, Option.some.injEq] at h
    subst h
    exact ⟨Span.nil h0 h1, rfl, fun x hx => by cases hx⟩
  | k + 1, p, q, h0, h1, h => by
    simp only [rSibs] at h ⊢
    cases ha : rNum s (some p) with
    | mk a n =>
      rw [ha] at h
      cases a with
      | none => simp only [rNum, rText, rSibs_none] at h; cases h
      | some a =>
        cases hb : rNum s (some a) with
        | mk b m =>
          simp only [hb] at h ⊢
          cases b with
          | none => simp only [rNum, rText, rSibs_none] at h; cases h
          | some b =>
            cases hc : rNum s (some b) with
            | mk c g =>
              simp only [hc] at h ⊢
              cases c with
              | none => simp only [rText, rSibs_none] at h; cases h
              | some c =>
                cases hd : rText s (some c) with
                | mk d t =>
                  simp only [hd] at h ⊢
                  cases d with
                  | none => rw [rSibs_none] at h; cases h
                  | some d =>
                    have s1 := rNum_span ha
                    have s2 := rNum_span hb
                    have s3 := rNum_span hc
                    have s4 := rText_span hd
                    have ih := rSibs_span k d q (by have := s4.1.1; have := s4.1.2.1; omega) s4.1.2.2.1 h
                    refine ⟨?_, by simp only [List.length_cons, ih.2.1], fun x hx => ?_⟩
                    · exact ((s1.1.trans s2.1).trans (s3.1.trans s4.1)).trans ih.1
                    · rcases List.mem_cons.1 hx with rfl | hx
                      · exact ⟨rfl, s3.2.2⟩
                      · exact ih.2.2 x hx
theorem bytesOf_sib (x : Sib) : bytesOf (sibBytes x) = bytesOf (putNum x.f0.f0) ++ bytesOf (putNum x.f0.f1) ++ (bytesOf (putNum (if x.f1 = true then 1 else 0)) ++ bytesOf (putText x.f2)) := by
  simp only [sibBytes, bytesOf_append, List.append_assoc]
theorem bytesOf_foldlS (f : Sib → ByteArray) : ∀ (l : List Sib) (t : ByteArray), bytesOf (l.foldl (fun t m => t ++ f m) t) = bytesOf t ++ l.flatMap fun m => bytesOf (f m)
  | [], t => by simp
  | m :: r, t => by
    rw [List.foldl_cons, bytesOf_foldlS f r, bytesOf_append, List.flatMap_cons, List.append_assoc]
def sibsBytes (l : List Sib) : List Int := l.flatMap fun x => bytesOf (sibBytes x)
theorem bytesOf_setBytes (v : List Mark) (l : List Sib) : bytesOf (setBytes v l) = bytesOf (seenBytes v) ++ bytesOf (putNum (l.length : Int)) ++ sibsBytes l := by
  unfold setBytes
  rw [bytesOf_foldlS sibBytes l, bytesOf_append]
  rfl
theorem flag_num {g : Int} (h : isWithin g 0 1 = true) : (if (g == 1) = true then (1 : Int) else 0) = g := by
  have : 0 ≤ g ∧ g ≤ 1 := by simpa [isWithin] using h
  by_cases e : g = 1
  · simp [e]
  · simp [e]; omega
theorem raw_good : ∀ (l : List (Sib × Int)), RawOk l → gonesOk l = true → rawSibs l = sibsBytes (l.map (·.1))
  | [], _, _ => rfl
  | x :: r, ho, hg => by
    simp only [gonesOk, List.all_cons, Bool.and_eq_true] at hg
    have ih := raw_good r (fun y hy => ho y (List.mem_cons_of_mem _ hy)) hg.2
    have hx := ho x List.mem_cons_self
    show rawSib x ++ rawSibs r = bytesOf (sibBytes x.1) ++ sibsBytes (r.map (·.1))
    rw [ih, bytesOf_sib, hx.1, flag_num hg.1]
    rfl
theorem raw_only : ∀ (l : List (Sib × Int)) (r r' : List Int), RawOk l → rawSibs l ++ r = sibsBytes (l.map (·.1)) ++ r' → gonesOk l = true
  | [], _, _, _, _ => rfl
  | x :: t, r, r', ho, h => by
    have hx := ho x List.mem_cons_self
    have e : rawSib x ++ rawSibs t ++ r = bytesOf (sibBytes x.1) ++ sibsBytes (t.map (·.1)) ++ r' := h
    rw [bytesOf_sib] at e
    simp only [rawSib, List.append_assoc] at e
    have e1 := List.append_cancel_left (List.append_cancel_left e)
    have e2 := putNum_free hx.2 (by unfold zig; split <;> split <;> omega) e1
    have e3 := List.append_cancel_left e2.2
    have ih := raw_only t r r' (fun y hy => ho y (List.mem_cons_of_mem _ hy)) e3
    simp only [gonesOk, List.all_cons, Bool.and_eq_true]
    refine ⟨?_, ih⟩
    rw [e2.1]
    split <;> rfl
end Go.Proofs.Ytconpopbpphpgaa.Q

namespace Go.Proofs.Ytconpopbpphpgaa.Q
open Go.RowKit Go.Proofs.Ytconpopbpphpgaa.P Go.Proofs.YtconpopbpphpgaaW.PrintWords Go.Proofs.YtconpopbpphpgaaW.PrintMore

theorem getText_bad {s : ByteArray} {x : Int} (h : (getText s x).2.2 ≠ 0) : (getText s x).1 = ⟨#[]⟩ ∧ (getText s x).2.1 = 0 := by
  unfold getText at h ⊢
  split
  · rename_i h1
    rw [if_pos h1] at h
    split
    · exact ⟨rfl, rfl⟩
    · rename_i h2
      rw [if_neg h2] at h
      split
      · exact ⟨rfl, rfl⟩
      · rename_i h3
        rw [if_neg h3] at h
        exact absurd rfl h
  · exact ⟨rfl, rfl⟩
theorem getText_ok {s : ByteArray} {x : Int} (h : (getText s x).2.2 = 0) : 0 ≤ (getText s x).2.1 ∧ (getText s x).2.1 ≤ (s.size : Int) := by
  unfold getText at h ⊢
  split
  · rename_i h1
    rw [if_pos h1] at h
    have hk := getNum_ok h1
    split
    · exact ⟨Int.le_refl _, by show (0 : Int) ≤ _; omega⟩
    · rename_i h2
      split
      · exact ⟨Int.le_refl _, by show (0 : Int) ≤ _; omega⟩
      · refine ⟨?_, ?_⟩ <;> dsimp only <;> omega
  · exact ⟨Int.le_refl _, by show (0 : Int) ≤ _; omega⟩
theorem impl_str_ev {s : ByteArray} (hs : s.size ≤ 8000) {o : Option Int} {p : Int} {b : Bool} (h : St s o p b) : ∃ p' b', St s (rText s o).1 p' b' ∧ Ev (fun k => impl_taker_str.f k s p b) ((rText s o).2, s, p', b') := by
  obtain ⟨h0, h1, h2⟩ := h
  unfold impl_taker_str.f
  cases b with
  | true =>
    simp only [if_true] at h2
    subst h2
    exact ⟨p, true, ⟨h0, h1, rfl⟩, evPos rfl (Ev.now _)⟩
  | false =>
    simp only [Bool.false_eq_true, if_false] at h2
    subst h2
    have e := impl_GetText_ev s p (by omega) (by omega)
    by_cases hc : (getText s p).2.2 = 0
    · have hk := getText_ok hc
      refine ⟨(getText s p).2.1, false, ⟨hk.1, hk.2, by simp [rText, hc]⟩, evNeg (by simp) (Ev.bind e ?_)⟩
      simp only [rText, if_pos hc, hc]
      exact Ev.now _
    · have hk := getText_bad hc
      refine ⟨0, true, ⟨Int.le_refl _, by omega, by simp [rText, hc]⟩, evNeg (by simp) (Ev.bind e ?_)⟩
      simp only [rText, if_neg hc, hk.1, hk.2]
      have : ((getText s p).2.2 != 0) = true := by simpa using hc
      rw [this]
      exact Ev.now _
theorem spec_text_ev {s : ByteArray} (hs : s.size ≤ 8000) {o : Option Int} {p : Int} {b : Bool} (h : St s o p b) : ∃ p' b', St s (rText s o).1 p' b' ∧ Ev (fun k => spec_l02Reader_text.f k s p b) ((rText s o).2, s, p', b') := by
  obtain ⟨h0, h1, h2⟩ := h
  unfold spec_l02Reader_text.f
  have e := spec_GetText_ev s p (by omega) (by omega)
  have jT : ∀ b n q c, Ev (fun k => spec_l02Reader_text.j0 k true s p b n q c) (⟨#[]⟩, s, p, true) := fun b n q c => Ev.step (f := fun _ => some (⟨#[]⟩, s, p, true)) (fun k => by simp [spec_l02Reader_text.j0]) (Ev.now _)
  cases b with
  | true =>
    simp only [if_true] at h2
    subst h2
    exact ⟨p, true, ⟨h0, h1, rfl⟩, Ev.bind e (evPos rfl (jT _ _ _ _))⟩
  | false =>
    simp only [Bool.false_eq_true, if_false] at h2
    subst h2
    by_cases hc : (getText s p).2.2 = 0
    · have hk := getText_ok hc
      have er : rText s (some p) = (some (getText s p).2.1, (getText s p).1) := by simp [rText, hc]
      rw [er]
      refine ⟨(getText s p).2.1, false, ⟨hk.1, hk.2, rfl⟩, Ev.bind e (evNeg (by simp) ?_)⟩
      simp only [hc]
      exact Ev.step (f := fun _ => some _) (fun k => by simp only [spec_l02Reader_text.j0]; rw [if_neg (by simp)]) (Ev.now _)
    · refine ⟨p, true, ⟨h0, h1, by simp [rText, hc]⟩, Ev.bind e (evNeg (by simp) ?_)⟩
      simp only [rText, if_neg hc]
      have : ((getText s p).2.2 != 0) = true := by simpa using hc
      rw [this]
      exact jT _ _ _ _
/-- A set's reading. -/
noncomputable def setRead (s : ByteArray) : List Mark × List Sib × Int :=
  if 8000 < s.size then ([], [], 2)
  else if (rSibs s (rMany s (rSeen s (some 0)).1 8).2.toNat (rMany s (rSeen s (some 0)).1 8).1).1 = some (s.size : Int) ∧
      (setOk (rSeen s (some 0)).2 ((rSibs s (rMany s (rSeen s (some 0)).1 8).2.toNat (rMany s (rSeen s (some 0)).1 8).1).2.map (·.1)) = true ∧
      gonesOk (rSibs s (rMany s (rSeen s (some 0)).1 8).2.toNat (rMany s (rSeen s (some 0)).1 8).1).2 = true) then
    ((rSeen s (some 0)).2, (rSibs s (rMany s (rSeen s (some 0)).1 8).2.toNat (rMany s (rSeen s (some 0)).1 8).1).2.map (·.1), 0)
  else ([], [], 3)
theorem setRead_length (s : ByteArray) : (setRead s).1.length ≤ 5 ∧ (setRead s).2.1.length ≤ 8 := by
  have h1 := rSeen_length s (some 0)
  have h2 := rMany_le s (rSeen s (some 0)).1 8 (by omega)
  have h3 := rSibs_length s (rMany s (rSeen s (some 0)).1 8).2.toNat (rMany s (rSeen s (some 0)).1 8).1
  unfold setRead
  split
  · simp
  · split
    · exact ⟨h1, by simp only [List.length_map]; omega⟩
    · simp
/-- What the reference asks at the end. -/
def specEnd (s : ByteArray) (v : List Mark) (l : List Sib) (b : Bool) : List Mark × List Sib × Int × Int × Int :=
  if b = true then ([], [], 0, 0, 3) else if s.toList = [] then ([], [], 0, 0, 3) else if ((setBytesOut v l).toList != s.toList) = true then ([], [], 0, 0, 3) else (v, l, 0, 0, 0)
theorem spec_set_j2 (v : List Mark) (l : List Sib) (b : Bool) : Ev (fun k => spec_SetRead.j2 k b v l) (if b = true then ([], [], 0, 0, 3) else (v, l, 0, 0, 0)) := by
  cases b with
  | true => exact Ev.step (f := fun _ => some _) (fun k => by simp [spec_SetRead.j2, spec_l03Ill.f]) (Ev.now _)
  | false => exact Ev.step (f := fun _ => some _) (fun k => by simp [spec_SetRead.j2]) (Ev.now _)
theorem spec_set_end (s : ByteArray) (n : Int) (p : Int) (b : Bool) (v : List Mark) (l : List Sib) (hv : v.length ≤ 1048576) (hl : l.length ≤ 1048576) : Ev (fun k => spec_SetRead.j1 k s n false s p b v l) (specEnd s v l b) := by
  unfold specEnd
  cases b with
  | true => exact Ev.step (fun k => by simp only [spec_SetRead.j1]; rw [if_neg (by simp), if_pos trivial]) (spec_set_j2 v l true)
  | false =>
    rw [if_neg (by simp)]
    refine Ev.step (fun k => by simp only [spec_SetRead.j1]; rw [if_neg (by simp), if_neg (by simp)]) ?_
    by_cases h : s.toList = []
    · rw [if_pos h]; exact evPos h (spec_set_j2 v l true)
    · rw [if_neg h]
      exact evNeg h (Ev.bind (spec_SetBytes_ev v l hv hl) (spec_set_j2 v l _))
theorem spec_set_l0 {s : ByteArray} (hs : s.size ≤ 8000) (v : List Mark) (hv : v.length ≤ 5) : ∀ (n : Nat) (o : Option Int) (p : Int) (b : Bool) (acc : List Sib), n ≤ 8 → acc.length + n ≤ 8 → St s o p b →
    ∃ p' b', St s (rSibs s n o).1 p' b' ∧ Ev (fun k => spec_SetRead.l0 k s (n : Int) s p b v acc) (specEnd s v (acc ++ (rSibs s n o).2.map (·.1)) b')
  | 0, o, p, b, acc, hn, ha, h => by
    refine ⟨p, b, h, ?_⟩
    simp only [rSibs, List.map_nil, List.append_nil]
    refine Ev.step (fun k => ?_) (spec_set_end s ((0 : Nat) : Int) p b v acc (by omega) (by omega))
    simp only [spec_SetRead.l0]
    rw [if_neg (by omega)]
  | n + 1, o, p, true, acc, hn, ha, h => by
    have ho := h.bad
    subst ho
    refine ⟨p, true, h, ?_⟩
    simp only [rSibs, List.map_nil, List.append_nil]
    refine Ev.step (fun k => ?_) (spec_set_end s ((n + 1 : Nat) : Int) p true v acc (by omega) (by omega))
    simp only [spec_SetRead.l0]
    rw [if_pos (by omega)]
    rfl
  | n + 1, o, p, false, acc, hn, ha, h => by
    have ho := h.good
    subst ho
    obtain ⟨p1, b1, s1, e1⟩ := spec_num_ev hs h
    obtain ⟨p2, b2, s2, e2⟩ := spec_num_ev hs s1
    obtain ⟨p3, b3, s3, e3⟩ := spec_num_ev hs s2
    obtain ⟨p4, b4, s4, e4⟩ := spec_text_ev hs s3
    obtain ⟨p5, b5, s5, e5⟩ := spec_set_l0 hs v hv n _ p4 b4 (acc ++ [⟨⟨(rNum s (some p)).2, (rNum s (rNum s (some p)).1).2⟩, (rNum s (rNum s (rNum s (some p)).1).1).2 == 1, (rText s (rNum s (rNum s (rNum s (some p)).1).1).1).2⟩]) (by omega) (by simp; omega) s4
    refine ⟨p5, b5, s5, ?_⟩
    simp only [rSibs, List.map_cons]
    rw [List.append_assoc, List.singleton_append] at e5
    refine Ev.step (f := fun k => spec_SetRead.j1 k s ((n + 1 : Nat) : Int) true s p false v acc) (fun k => ?_) ?_
    · simp only [spec_SetRead.l0]
      rw [if_pos (by omega)]
      rfl
    · have hj : ∀ k, spec_SetRead.j1 (k + 1) s ((n + 1 : Nat) : Int) true s p false v acc = (spec_l02Reader_num.f k s p false).bind fun a => (spec_l02Reader_num.f k a.2.1 a.2.2.1 a.2.2.2).bind fun c => (spec_l02Reader_num.f k c.2.1 c.2.2.1 c.2.2.2).bind fun d => (spec_l02Reader_text.f k d.2.1 d.2.2.1 d.2.2.2).bind fun e => if acc.length < 3518437208883 then spec_SetRead.l0 k s (wrap64 (((n + 1 : Nat) : Int) - 1)) e.2.1 e.2.2.1 e.2.2.2 v (acc ++ [⟨⟨a.1, c.1⟩, d.1 == 1, e.1⟩]) else none := fun k => by simp [spec_SetRead.j1]
      refine Ev.step hj (Ev.bind e1 (Ev.bind e2 (Ev.bind e3 (Ev.bind e4 (evPos (by omega) ?_)))))
      rw [w64 (by omega) (by omega), show ((n + 1 : Nat) : Int) - 1 = (n : Int) from by omega]
      exact e5
theorem setRead_end {s : ByteArray} (h : ¬ 8000 < s.size) {q : Int} (b3 : Bool) (s3 : St s (rSibs s (rMany s (rSeen s (some 0)).1 8).2.toNat (rMany s (rSeen s (some 0)).1 8).1).1 q b3) :
    specEnd s (rSeen s (some 0)).2 ((rSibs s (rMany s (rSeen s (some 0)).1 8).2.toNat (rMany s (rSeen s (some 0)).1 8).1).2.map (·.1)) b3 = ((setRead s).1, (setRead s).2.1, 0, 0, (setRead s).2.2) := by
  unfold setRead
  rw [if_neg h]
  have hsn := @rSeen_span s 0
  generalize rSeen s (some 0) = av at s3 hsn ⊢
  obtain ⟨a, v⟩ := av
  simp only at s3 hsn ⊢
  have hmn := fun p q n => @rMany_span s p q n 8 (by omega)
  have hm0 := rMany_le s a 8 (by omega)
  have hmN : a = none → (rMany s a 8).1 = none := fun e => by subst e; unfold rMany; split <;> rfl
  generalize hb : rMany s a 8 = cn at s3 hm0 hmN ⊢
  obtain ⟨c, n⟩ := cn
  simp only at s3 hm0 hmN ⊢
  have hsb := @rSibs_span s n.toNat
  have hsN : c = none → (rSibs s n.toNat c).1 = none := fun e => by subst e; exact rSibs_none s _
  generalize hc : rSibs s n.toNat c = dl at s3 hsN ⊢
  obtain ⟨d, l⟩ := dl
  simp only at s3 hsN ⊢
  unfold specEnd
  cases b3 with
  | true =>
    have := s3.bad
    subst this
    rw [if_pos rfl, if_neg (by simp)]
  | false =>
    have := s3.good
    subst this
    cases c with
    | none => cases hsN rfl
    | some c =>
      cases a with
      | none => cases hmN rfl
      | some a =>
        have p1 := hsn rfl
        have p2 := hmn a c n hb
        have p3 := hsb c q (by have := p2.1.1; omega) p2.1.2.2.1 (by rw [hc])
        rw [hc] at p3
        simp only at p3
        have hlen : n = (l.length : Int) := by have := p3.2.1; omega
        subst hlen
        have hsp := (p1.1.trans p2.1).trans p3.1
        have hsz0 : ¬ s.toList = [] := fun e => by
          have := toList_nil e
          have := p2.1.2.2.1
          have := p1.2
          have := p2.2.1
          omega
        rw [if_neg (by simp), if_neg hsz0]
        have e2 := bytesOf_setBytes v (l.map (·.1))
        rw [List.length_map] at e2
        by_cases hg : q = (s.size : Int) ∧ (setOk v (l.map (·.1)) = true ∧ gonesOk l = true)
        · have e := hsp.whole.1 hg.1
          rw [raw_good l p3.2.2 hg.2.2] at e
          have e3 := bytesOf_inj (e.trans e2.symm)
          have hne : ((setBytesOut v (l.map (·.1))).toList != s.toList) = false := by
            unfold setBytesOut
            rw [if_pos hg.2.1, ← e3]
            simp
          rw [hne, if_neg (show ¬ (false = true) by simp), if_pos ⟨by rw [hg.1], hg.2⟩]
        · have hne : ((setBytesOut v (l.map (·.1))).toList != s.toList) = true := by
            simp only [bne_iff_ne, ne_eq]
            intro e
            have e := toList_inj e
            unfold setBytesOut at e
            by_cases hk : setOk v (l.map (·.1)) = true
            · rw [if_pos hk] at e
              have a3 := hsp.2.2.2
              rw [show (0 : Int).toNat = 0 from rfl, List.drop_zero] at a3
              rw [e, a3, List.append_assoc (bytesOf (seenBytes v) ++ _)] at e2
              have e4 := List.append_cancel_left e2
              have g := raw_only l ((bytesOf s).drop q.toNat) [] p3.2.2 (by rw [List.append_nil]; exact e4)
              refine hg ⟨hsp.whole.2 ?_, hk, g⟩
              rw [raw_good l p3.2.2 g] at e4
              have e5 : (bytesOf s).drop q.toNat = [] := by
                have := congrArg List.length e4
                rw [List.length_append] at this
                exact List.length_eq_zero_iff.1 (by omega)
              rw [e5, List.append_nil] at a3
              exact a3
            · rw [if_neg hk] at e
              rw [← e] at hsz0
              exact hsz0 (by rw [toList_data])
          rw [hne, if_pos rfl, if_neg (fun e => hg ⟨Option.some.inj e.1, e.2⟩)]
theorem spec_SetRead_ev (s : ByteArray) : Ev (fun k => spec_SetRead.f k s) ((setRead s).1, (setRead s).2.1, 0, 0, (setRead s).2.2) := by
  unfold spec_SetRead.f setRead
  by_cases h : 8000 < s.size
  · rw [if_pos h]; exact evPos (by omega) (evBind1 rfl (Ev.now _))
  · rw [if_neg h]
    refine evNeg (by omega) ?_
    obtain ⟨p1, b1, s1, e1⟩ := spec_seen_ev (by omega) (St.start s)
    obtain ⟨p2, b2, s2, e2⟩ := spec_many_ev (by omega) s1 8
    have hl := rSeen_length s (some 0)
    have hm := rMany_le s (rSeen s (some 0)).1 8 (by omega)
    obtain ⟨p3, b3, s3, e3⟩ := spec_set_l0 (by omega) (rSeen s (some 0)).2 hl (rMany s (rSeen s (some 0)).1 8).2.toNat _ p2 b2 [] (by omega) (by simp; omega) s2
    rw [show (((rMany s (rSeen s (some 0)).1 8).2.toNat : Nat) : Int) = (rMany s (rSeen s (some 0)).1 8).2 from by omega, List.nil_append] at e3
    have key : specEnd s (rSeen s (some 0)).2 ((rSibs s (rMany s (rSeen s (some 0)).1 8).2.toNat (rMany s (rSeen s (some 0)).1 8).1).2.map (·.1)) b3 = ((setRead s).1, (setRead s).2.1, 0, 0, (setRead s).2.2) := setRead_end h b3 s3
    unfold setRead at key
    rw [if_neg h] at key
    rw [← key]
    exact Ev.bind e1 (Ev.bind e2 e3)
theorem isW01 (g : Int) : impl_within.f g 0 1 = some (isWithin g 0 1) := within_is g 0 1
theorem impl_set_l0 {s : ByteArray} (hs : s.size ≤ 8000) (v : List Mark) (hv : v.length ≤ 5) : ∀ (n : Nat) (o : Option Int) (p : Int) (b : Bool) (acc : List Sib), n ≤ 8 → acc.length + n ≤ 8 → St s o p b →
    ∃ p' b', St s (rSibsI s n o).1 p' b' ∧ Ev (fun k => impl_taker_set.l0 k (n : Int) s p b v acc) (v, acc ++ (rSibsI s n o).2, s, p', b' || !setOk v (acc ++ (rSibsI s n o).2)) := by
  have jE : ∀ (acc : List Sib) (n : Int) (p : Int) (b : Bool), acc.length ≤ 8 → Ev (fun k => impl_taker_set.j1 k n false s p b v acc) (v, acc, s, p, b || !setOk v acc) := by
    intro acc n p b ha
    cases b with
    | true => exact Ev.step (f := fun _ => some (v, acc, s, p, true)) (fun k => by simp [impl_taker_set.j1]) (Ev.now _)
    | false =>
      refine Ev.step (fun k => by simp only [impl_taker_set.j1]; rw [if_neg (by simp), if_neg (by simp)]) (Ev.bind (impl_SetRight_ev v acc (by omega) (by omega)) ?_)
      simp only [Bool.false_or]
      exact Ev.now _
  intro n
  induction n with
  | zero =>
    intro o p b acc hn ha h
    refine ⟨p, b, h, ?_⟩
    simp only [rSibsI, List.append_nil]
    refine Ev.step (fun k => ?_) (jE acc ((0 : Nat) : Int) p b (by omega))
    simp only [impl_taker_set.l0]
    rw [if_neg (by omega)]
  | succ n ih =>
    intro o p b acc hn ha h
    cases b with
    | true =>
      have ho := h.bad
      subst ho
      refine ⟨p, true, h, ?_⟩
      simp only [rSibsI, List.append_nil]
      refine Ev.step (fun k => ?_) (jE acc ((n + 1 : Nat) : Int) p true (by omega))
      simp only [impl_taker_set.l0]
      rw [if_pos (by omega)]
      rfl
    | false =>
      have ho := h.good
      subst ho
      obtain ⟨p1, b1, s1, e1⟩ := impl_num_ev hs h
      obtain ⟨p2, b2, s2, e2⟩ := impl_num_ev hs s1
      obtain ⟨p3, b3, s3, e3⟩ := impl_num_ev hs s2
      obtain ⟨p4, b4, s4, e4⟩ := impl_str_ev hs s3
      have hw := isW01 (rNum s (rNum s (rNum s (some p)).1).1).2
      have hJ : ∀ (b5 : Bool) (o5 : Option Int), (b4 = true ∨ b5 = !isWithin (rNum s (rNum s (rNum s (some p)).1).1).2 0 1) → St s o5 p4 b5 → (b4 = true → b5 = true) →
          ∃ p' b', St s (rSibsI s n o5).1 p' b' ∧ Ev (fun k => impl_taker_set.j1 k ((n + 1 : Nat) : Int) true s p false v acc) (v, acc ++ ⟨⟨(rNum s (some p)).2, (rNum s (rNum s (some p)).1).2⟩, (rNum s (rNum s (rNum s (some p)).1).1).2 == 1, (rText s (rNum s (rNum s (rNum s (some p)).1).1).1).2⟩ :: (rSibsI s n o5).2, s, p', b' || !setOk v (acc ++ ⟨⟨(rNum s (some p)).2, (rNum s (rNum s (some p)).1).2⟩, (rNum s (rNum s (rNum s (some p)).1).1).2 == 1, (rText s (rNum s (rNum s (rNum s (some p)).1).1).1).2⟩ :: (rSibsI s n o5).2)) := by
        intro b5 o5 h5 s5 h6
        obtain ⟨p6, b6, s6, e6⟩ := ih o5 p4 b5 (acc ++ [⟨⟨(rNum s (some p)).2, (rNum s (rNum s (some p)).1).2⟩, (rNum s (rNum s (rNum s (some p)).1).1).2 == 1, (rText s (rNum s (rNum s (rNum s (some p)).1).1).1).2⟩]) (by omega) (by simp; omega) s5
        rw [List.append_assoc, List.singleton_append] at e6
        refine ⟨p6, b6, s6, ?_⟩
        have hj : ∀ k, impl_taker_set.j1 (k + 1) ((n + 1 : Nat) : Int) true s p false v acc = (impl_taker_num.f k s p false).bind fun a => (impl_taker_num.f k a.2.1 a.2.2.1 a.2.2.2).bind fun c => (impl_taker_num.f k c.2.1 c.2.2.1 c.2.2.2).bind fun d => (impl_taker_str.f k d.2.1 d.2.2.1 d.2.2.2).bind fun e => if e.2.2.2 = true then (if acc.length < 3518437208883 then impl_taker_set.l0 k (wrap64 (((n + 1 : Nat) : Int) - 1)) e.2.1 e.2.2.1 true v (acc ++ [⟨⟨a.1, c.1⟩, d.1 == 1, e.1⟩]) else none) else (impl_within.f d.1 0 1).bind fun t => if acc.length < 3518437208883 then impl_taker_set.l0 k (wrap64 (((n + 1 : Nat) : Int) - 1)) e.2.1 e.2.2.1 (!t) v (acc ++ [⟨⟨a.1, c.1⟩, d.1 == 1, e.1⟩]) else none := fun k => by simp [impl_taker_set.j1]
        refine Ev.step hj (Ev.bind e1 (Ev.bind e2 (Ev.bind e3 (Ev.bind e4 ?_))))
        cases b4 with
        | true =>
          have := h6 rfl
          subst this
          refine evPos rfl (evPos (by omega) ?_)
          rw [w64 (by omega) (by omega), show ((n + 1 : Nat) : Int) - 1 = (n : Int) from by omega]
          exact e6
        | false =>
          have := h5.resolve_left (by simp)
          subst this
          refine evNeg (by simp) (evBind1 hw (evPos (by omega) ?_))
          rw [w64 (by omega) (by omega), show ((n + 1 : Nat) : Int) - 1 = (n : Int) from by omega]
          exact e6
      have hl0 : ∀ k, impl_taker_set.l0 (k + 1) ((n + 1 : Nat) : Int) s p false v acc = impl_taker_set.j1 k ((n + 1 : Nat) : Int) true s p false v acc := fun k => by
        simp only [impl_taker_set.l0]
        rw [if_pos (by omega)]
        rfl
      simp only [rSibsI]
      by_cases hq : isWithin (rNum s (rNum s (rNum s (some p)).1).1).2 0 1 = true
      · rw [if_pos hq]
        obtain ⟨p6, b6, s6, e6⟩ := hJ b4 (rText s (rNum s (rNum s (rNum s (some p)).1).1).1).1 (by cases b4 <;> simp [hq]) s4 id
        exact ⟨p6, b6, s6, Ev.step hl0 e6⟩
      · rw [if_neg hq]
        have hq' : isWithin (rNum s (rNum s (rNum s (some p)).1).1).2 0 1 = false := by simpa using hq
        obtain ⟨p6, b6, s6, e6⟩ := hJ true none (by simp [hq']) ⟨s4.1, s4.2.1, rfl⟩ (fun _ => rfl)
        exact ⟨p6, b6, s6, Ev.step hl0 e6⟩
theorem setOk_seen {v : List Mark} {l : List Sib} (h : seenOk v = false) : setOk v l = false := by simp [setOk, h]
theorem impl_SetRead_ev (s : ByteArray) : Ev (fun k => impl_SetRead.f k s) ((setRead s).1, (setRead s).2.1, 0, 0, (setRead s).2.2) := by
  unfold impl_SetRead.f setRead
  refine Ev.bind (isLong1_ev s) ?_
  by_cases h : 8000 < s.size
  · rw [if_pos h]; exact evPos (by simpa using h) (Ev.now _)
  · rw [if_neg h]
    refine evNeg (by simpa using h) ?_
    have hv := rSeen_length s (some 0)
    obtain ⟨p1, b1, s1, e1⟩ := impl_seen_ev (by omega) (St.start s)
    have fin : ∀ (v : List Mark) (l : List Sib) (q : Int) (b : Bool) (o : Option Int), St s o q b → Ev (fun _ => (impl_taker_done.f s q (b || !setOk v l)).bind fun t => if t.1 = true then some (v, l, (0 : Int), (0 : Int), (0 : Int)) else some ([], [], 0, 0, 3))
        (if o = some (s.size : Int) ∧ setOk v l = true then (v, l, 0, 0, 0) else ([], [], 0, 0, 3)) := by
      intro v l q b o hs
      obtain ⟨_, _, h3⟩ := hs
      simp only [impl_taker_done.f, impl_size.f, Option.bind_some]
      cases b with
      | true =>
        simp only [if_true] at h3
        subst h3
        rw [if_neg (show ¬ ((none : Option Int) = some (s.size : Int) ∧ setOk v l = true) by simp)]
        simp only [Bool.true_or, if_true, Option.bind_some]
        exact evNeg (by simp) (Ev.now _)
      | false =>
        simp only [Bool.false_eq_true, if_false] at h3
        subst h3
        cases hk : setOk v l with
        | false =>
          rw [if_neg (show ¬ (some q = some (s.size : Int) ∧ false = true) by simp)]
          simp only [Bool.false_or, Bool.not_false, if_true, Option.bind_some]
          exact evNeg (by simp) (Ev.now _)
        | true =>
          simp only [Bool.false_or, Bool.not_true, Bool.false_eq_true, if_false, Option.bind_some, Option.some.injEq, and_true]
          by_cases hp : q = (s.size : Int)
          · rw [if_pos hp]; exact evPos (by simpa using hp) (Ev.now _)
          · rw [if_neg hp]; exact evNeg (by simpa using hp) (Ev.now _)
    have st1 : St s (if seenOk (rSeen s (some 0)).2 = true then (rSeen s (some 0)).1 else none) p1 (b1 || !seenOk (rSeen s (some 0)).2) := by
      cases hk : seenOk (rSeen s (some 0)).2 with
      | true => rw [if_pos rfl]; simpa using s1
      | false => rw [if_neg (by simp)]; exact ⟨s1.1, s1.2.1, by simp⟩
    obtain ⟨p2, b2, s2, e2⟩ := impl_count_ev (by omega) st1 8
    have hm := rMany_le s (if seenOk (rSeen s (some 0)).2 = true then (rSeen s (some 0)).1 else none) 8 (by omega)
    obtain ⟨p3, b3, s3, e3⟩ := impl_set_l0 (by omega) (rSeen s (some 0)).2 hv (rMany s (if seenOk (rSeen s (some 0)).2 = true then (rSeen s (some 0)).1 else none) 8).2.toNat _ p2 b2 [] (by omega) (by simp; omega) s2
    rw [show (((rMany s (if seenOk (rSeen s (some 0)).2 = true then (rSeen s (some 0)).1 else none) 8).2.toNat : Nat) : Int) = (rMany s (if seenOk (rSeen s (some 0)).2 = true then (rSeen s (some 0)).1 else none) 8).2 from by omega, List.nil_append] at e3
    have e4 := fin (rSeen s (some 0)).2 (rSibsI s (rMany s (if seenOk (rSeen s (some 0)).2 = true then (rSeen s (some 0)).1 else none) 8).2.toNat (rMany s (if seenOk (rSeen s (some 0)).2 = true then (rSeen s (some 0)).1 else none) 8).1).2 p3 b3 _ s3
    have key : (if (rSibsI s (rMany s (if seenOk (rSeen s (some 0)).2 = true then (rSeen s (some 0)).1 else none) 8).2.toNat (rMany s (if seenOk (rSeen s (some 0)).2 = true then (rSeen s (some 0)).1 else none) 8).1).1 = some (s.size : Int) ∧ setOk (rSeen s (some 0)).2 (rSibsI s (rMany s (if seenOk (rSeen s (some 0)).2 = true then (rSeen s (some 0)).1 else none) 8).2.toNat (rMany s (if seenOk (rSeen s (some 0)).2 = true then (rSeen s (some 0)).1 else none) 8).1).2 = true then ((rSeen s (some 0)).2, (rSibsI s (rMany s (if seenOk (rSeen s (some 0)).2 = true then (rSeen s (some 0)).1 else none) 8).2.toNat (rMany s (if seenOk (rSeen s (some 0)).2 = true then (rSeen s (some 0)).1 else none) 8).1).2, (0 : Int), (0 : Int), (0 : Int)) else ([], [], 0, 0, 3)) = ((setRead s).1, (setRead s).2.1, 0, 0, (setRead s).2.2) := by
      unfold setRead
      rw [if_neg h]
      cases hk : seenOk (rSeen s (some 0)).2 with
      | false =>
        rw [setOk_seen hk, setOk_seen hk, if_neg (by simp), if_neg (by simp)]
      | true =>
        rw [if_pos rfl]
        generalize rMany s (rSeen s (some 0)).1 8 = cn
        generalize (rSeen s (some 0)).2 = v
        by_cases hg : gonesOk (rSibs s cn.2.toNat cn.1).2 = true
        · rw [rSibsI_good s _ _ hg]
          simp only [hg, and_true]
          split <;> rfl
        · rw [if_neg (fun e => hg (rSibsI_some s _ _ _ e.1)), if_neg (fun e => hg e.2.2)]
    unfold setRead at key
    rw [if_neg h] at key
    rw [← key]
    have eS : Ev (fun k => impl_taker_set.f k s 0 false) _ := Ev.bind e1 (Ev.bind e2 e3)
    exact Ev.bind eS e4
end Go.Proofs.Ytconpopbpphpgaa.Q

namespace Go.Proofs.Ytconpopbpphpgaa.Pure
open Go.RowKit Go.Proofs.Ytconpopbpphpgaa.P Go.Proofs.Ytconpopbpphpgaa.Q Go.Proofs.YtconpopbpphpgaaW.PrintWords Go.Proofs.YtconpopbpphpgaaW.PrintMore
theorem FnExactSetRead : laws_FnExactSetRead.Pure := by
  intro s hs
  refine Ev.rounds ?_
  unfold laws_FnExactSetRead.f
  have e1 := spec_SetRead_ev s
  have e2 := impl_SetRead_ev s
  have hj := setRead_length s
  generalize setRead s = r at hj e1 e2
  obtain ⟨v, l, c⟩ := r
  simp only at hj e1 e2
  refine evIte (fun _ => Ev.now _) (fun _ => Ev.bind e1 (Ev.bind e2 (Ev.bind (eqSetOut_ev v l 0 0 c (by omega) (by omega)) (evPos rfl ?_))))
  refine Ev.bind (markSetOut_ev v l 0 0 c 1 (by omega) (by omega)) (Ev.bind (heldSetOut_ev v l 0 0 c 1 (by omega) (by omega)) (evNeg (by omega) (evPos rfl ?_)))
  refine Ev.bind e2 (Ev.bind (eqSetOut_ev v l 0 0 c (by omega) (by omega)) (evPos rfl ?_))
  exact Ev.bind (heldSetOut_ev v l 0 0 c 1 (by omega) (by omega)) (evNeg (by omega) (evPos rfl (Ev.now _)))
end Go.Proofs.Ytconpopbpphpgaa.Pure

namespace Go.Proofs.Ytconpopbpphpgaa.fnExactSetRead
open Go.ChangeShapes Go.WideShapes Go.ChangeAt Go.RowKit
open Go.ChangeMaps (open_string shut_string)
set_option linter.unusedVariables false
theorem own : ownKnob Try.prog.godebug = none := by kernel_rfl
set_option maxRecDepth 100000 in
theorem lifted (os : Os) (started : os.Started) (H : Type) (enc : TypeId × Value → H) :
    ReturnsInHanded {} Try.checked os 7 .any (Rows.fnExactSetReadSpec.pre6 enc Try.prog Try.f7 Rows.fnExactSetReadRow.domain false) (Rows.fnExactSetReadSpec.post enc Try.prog Try.f7 false true false false) := by
  refine returnsInHanded_of_change_sized (C := Try.checked) own started (by kernel_rfl) Try.func7
    (ChangeSpec.witness6 (enc := enc) (C := Try.checked) false ⟨#[], #[.string ByteArray.empty], []⟩ 8 (by kernel_rfl) (by kernel_rfl) (by kernel_rfl) (by kernel_rfl)) ?_
  intro W base args ds gs before hval0 hW hcnd hsz0 _
  have hsz : (DataW.weightsEach Try.prog (Try.f7.params.toList ++ Rows.fnExactSetReadSpec.plain.varTypes Try.prog) (ds ++ gs)).all (· ≤ reachBytes) = true := hsz0
  have hval : ∀ (j : Nat) t v, Try.f7.params[j]? = some t → args[j]? = some v → Value.okWide Try.prog W .any base t v := hval0
  have hW' := hW
  obtain ⟨p, q, hA0, hV, rfl, hfz, hnd⟩ := hW
  have hA : DataW.TrodAll enc Try.prog W 0 (fun _ => true) true Try.f7.params.toList args.toList ds p := hA0
  rw [Try.params7] at hA hval hsz
  obtain ⟨v0, vs0, d0, ds0, p0, q0, hargs, rfl, rfl, h0, r0⟩ := trodAll_cons hA
  obtain ⟨rfl, rfl, rfl⟩ := trodAll_nil r0
  obtain rfl : args = #[v0] := by cases args; simp_all
  obtain ⟨rfl, rfl⟩ := trodVars_none hV
  obtain ⟨a0, rfl, rfl, rfl, y0⟩ := open_string Try.underlying9 (hval 0 9 v0 rfl rfl) h0
  have w0 : a0.size ≤ 140737488351232 := by
    have z := sized_string hsz (j := 0) (t := 9) rfl rfl
    rw [Array.length_toList] at z
    exact z
  clear hA0 hval0 hsz0 hsz
  refine (P.laws_FnExactSetRead.walk Pure.FnExactSetRead a0 W w0).mono fun e W' ⟨he, bel⟩ => ?_
  subst he
  exact ⟨_, rfl, _, _, _, [], _, [], hW', trodAll_mk1 (shut_bool Try.underlying4 _), (trodAll_cons_mk (shut_string Try.underlying9 y0) trodAll_mk0), rfl, bel.frame _, fun h => by cases h⟩
theorem over : Rows.fnExactSetReadRow.holds Try.pinned (OpenSpec.ofChange Rows.fnExactSetReadSpec) :=
  OpenClaim.holds_of_wide 7 Try.f7 rfl rfl rfl rfl rfl rfl rfl ⟨rfl, rfl, rfl, rfl, rfl⟩ rfl rfl rfl rfl rfl (by kernel_rfl) Try.func7 (by kernel_rfl)
    (of_decide_eq_true (by kernel_rfl)) (by unfold Func.isWrapper; first | (rw [if_pos (by decide +kernel)]; kernel_rfl) | (rw [if_neg (by decide +kernel)]; exact ⟨rfl, rfl⟩))
    (fun os started H enc _ => lifted os started H enc)
theorem proved : Rows.FnExactSetReadSaid := over
#print axioms proved
end Go.Proofs.Ytconpopbpphpgaa.fnExactSetRead
namespace Go.Proofs.Ytconpopbpphpgaa
/-- The row, under a short name, for the claim. -/
theorem fnExactSetRead_holds : Rows.FnExactSetReadSaid := fnExactSetRead.proved
end Go.Proofs.Ytconpopbpphpgaa
