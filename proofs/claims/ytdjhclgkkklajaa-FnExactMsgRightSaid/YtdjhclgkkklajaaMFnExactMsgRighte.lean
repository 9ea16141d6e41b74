/- For every message the program's MsgRight and the reference's return the same answer, and the message stays as it was. No condition. (Part 5 of 5: written by programs of this workplace and by hand, merged.) -/
import Derived.Test.YtdjhclgkkklajaaMFnExactMsgRighta
import Derived.Test.YtdjhclgkkklajaaMFnExactMsgRightc
import Derived.Test.YtdjhclgkkklajaaMFnExactMsgRightd
import Derived.Test.YtdjhclgkkklajaaMFnExactMsgRightWWords
import Derived.Test.YtdjhclgkkklajaaMFnExactMsgRightWMore
import Derived.Laws.BitsLemmas
import Derived.Test.YtdjhclgkkklajaaMFnExactMsgRightb
import Derived.Test.YtdjhclgkkklajaaRows
import Derived.WalkKit
import Derived.ProofKit
import Derived.OpenShut
import Derived.ShutString
import Derived.ChangeOld
import Derived.Below
import Derived.SizedLaws
set_option linter.unusedVariables false
set_option linter.unusedSimpArgs false

namespace Go.Proofs.Ytdjhclgkkklajaa.P
open Go.RowKit Go.Proofs.YtdjhclgkkklajaaW.PrintWords Go.Proofs.YtdjhclgkkklajaaW.PrintLast Go.Proofs.YtdjhclgkkklajaaW.PrintMore
attribute [local go_sem] max2_int min2_int max_two min_two max_three min_three max_four min_four   -- for this text's walks alone
set_option linter.unusedVariables false
set_option linter.unusedSimpArgs false

/-! ### laws_eqMark: function 89 -/
def laws_eqMark.f (a0_0 : Int) (a0_1 : Int) (a1_0 : Int) (a1_1 : Int) : Option (Bool) := if a0_0 = a1_0 then (if a0_1 = a1_1 then (some true) else (none)) else (none)
set_option maxHeartbeats 8000000 in
set_option maxRecDepth 100000 in
theorem laws_eqMark.calls (a0_0 : Int) (a0_1 : Int) (a1_0 : Int) (a1_1 : Int) (r : Bool) (w : World) (h : laws_eqMark.f a0_0 a0_1 a1_0 a1_1 = some r) :
  Calls Try.prog 89 #[.agg #[.int .i64 a0_0, .int .i64 a0_1], .agg #[.int .i64 a1_0, .int .i64 a1_1]] w fun e w' => e = .returned (.bool r) ∧ Below w.heap.size w w' := by
 have hu43 := Try.underlying43
 have HB := Aside0.mk (Below.refl w.heap.size w)
 have H : (if a0_0 = a1_0 then (if a0_1 = a1_1 then (some true) else (none)) else (none)) = some r := h
 clear h
 by_cases c3 : a0_0 = a1_0
 ·rw [if_pos c3] at H
  have c3b0 : (a0_0 == a1_0) = true := beq_iff_eq.mpr c3
  have c3b1 : (a0_0 != a1_0) = false := bne_eq_false_iff_eq.mpr c3
  clear c3
  by_cases c4 : a0_1 = a1_1
  ·rw [if_pos c4] at H
   have c4b0 : (a0_1 == a1_1) = true := beq_iff_eq.mpr c4
   have c4b1 : (a0_1 != a1_1) = false := bne_eq_false_iff_eq.mpr c4
   clear c4
   obtain rfl := Option.some.inj H
   go_enter Try.func89, Try.ntmps89
   go_wp2_with (first | ((with_reducible refine gate_dst (N := 2) rfl ?_); refine box_event ?hg (N := 2) ?hd (cs := #[.int .i64 a0_0, .int .i64 a0_1]) (t := 43) ?hr ?_; (case hd => rfl); (case hg => rfl); (case hr => first | (go_simp; done) | (go_simp; rfl)); intro gb226 hg w5 hbox hb; have n0_ := Aside0.mk (below_step (by repeat (first | (with_reducible first | exact HB.out | apply below_alloc | apply pw_below_drewN | apply below_drew1) | exact HB.out)) hb); have n1_ := Aside0.mk (hbox); have n2_ := Aside0.mk ((by rw [hg]; exact (below_size (by repeat (first | (with_reducible first | exact HB.out | apply below_alloc | apply pw_below_drewN | apply below_drew1) | exact HB.out))) : w.heap.size ≤ gb226)); have n3_ := Aside0.mk ((by rw [hg]; exact (below_size (by repeat (first | (with_reducible first | exact HB.out | apply below_alloc | apply pw_below_drewN | apply below_drew1) | exact HB.out))) : w.heap.size ≤ gb226)); clear HB; have HB := n0_; have BK226 := n1_; have GW226 := n2_; have GE226 := n3_; clear n0_ n1_ n2_ n3_; clear hb hbox hg) | ((with_reducible refine gate_dst (N := 3) rfl ?_); refine box_event ?hg (N := 3) ?hd (cs := #[.int .i64 a1_0, .int .i64 a1_1]) (t := 43) ?hr ?_; (case hd => rfl); (case hg => rfl); (case hr => first | (go_simp; done) | (go_simp; rfl)); intro gb227 hg w6 hbox hb; have n0_ := Aside0.mk (blk_below (g := gb226) (o := .cells #[.int .i64 a0_0, .int .i64 a0_1] 43 (0, 0)) (by (with_reducible repeat (first | refine blk_drewN ?_ _ | refine blk_drew ?_ | refine blk_alloc ?_ _)); exact BK226.out) hb); have n1_ := Aside0.mk (below_step (by repeat (first | (with_reducible first | exact HB.out | apply below_alloc | apply pw_below_drewN | apply below_drew1 | refine below_set ?_ GE226.out) | exact HB.out)) hb); have n2_ := Aside0.mk (hbox); have n3_ := Aside0.mk ((by rw [hg]; exact (below_size (by repeat (first | (with_reducible first | exact HB.out | apply below_alloc | apply pw_below_drewN | apply below_drew1 | refine below_set ?_ GE226.out) | exact HB.out))) : w.heap.size ≤ gb227)); have n4_ := Aside0.mk ((by rw [hg]; exact (below_size (by repeat (first | (with_reducible first | exact HB.out | apply below_alloc | apply pw_below_drewN | apply below_drew1 | refine below_set ?_ GE226.out) | exact HB.out))) : w.heap.size ≤ gb227)); have n5_ := Aside0.mk ((by rw [hg]; exact Nat.ne_of_lt (blk_lt (g := gb226) (o := .cells #[.int .i64 a0_0, .int .i64 a0_1] 43 (0, 0)) (by (with_reducible repeat (first | refine blk_drewN ?_ _ | refine blk_drew ?_ | refine blk_alloc ?_ _)); exact BK226.out)) : gb226 ≠ gb227)); have n6_ := Aside0.mk ((by rw [hg]; exact Nat.ne_of_gt (blk_lt (g := gb226) (o := .cells #[.int .i64 a0_0, .int .i64 a0_1] 43 (0, 0)) (by (with_reducible repeat (first | refine blk_drewN ?_ _ | refine blk_drew ?_ | refine blk_alloc ?_ _)); exact BK226.out)) : gb227 ≠ gb226)); clear BK226; clear HB; have BK226 := n0_; have HB := n1_; have BK227 := n2_; have GW227 := n3_; have GE227 := n4_; have NB226_227 := n5_; have NB227_226 := n6_; clear n0_ n1_ n2_ n3_ n4_ n5_ n6_; clear hb hbox hg; have hnb7 := NB226_227.out; have hnc7 := NB227_226.out; have hcz8_0 : w6.cell? ⟨gb226, 0, none⟩ = some (.int .i64 a0_0) := (blk_cell BK226.out 0).trans rfl; have hcz8_1 : w6.cell? ⟨gb226, 1, none⟩ = some (.int .i64 a0_1) := (blk_cell BK226.out 1).trans rfl; have hfz8_0 := blk_frozen BK226.out 0; have hfz8_1 := blk_frozen BK226.out 1; have hcz9_0 : w6.cell? ⟨gb227, 0, none⟩ = some (.int .i64 a1_0) := (blk_cell BK227.out 0).trans rfl; have hcz9_1 : w6.cell? ⟨gb227, 1, none⟩ = some (.int .i64 a1_1) := (blk_cell BK227.out 1).trans rfl; have hfz9_0 := blk_frozen BK227.out 0; have hfz9_1 := blk_frozen BK227.out 1))
   go_ret
   exact ⟨by first | rfl | (simp [errW_none, errW_some] <;> rfl) | (simp [*, errW_none, errW_some] <;> rfl), by repeat (first | (with_reducible first | exact HB.out | apply below_alloc | apply pw_below_drewN | apply below_drew1 | refine below_set ?_ GE226.out | refine below_set ?_ GE227.out) | exact HB.out)⟩
  ·rw [if_neg c4] at H
   exact absurd H (by simp)
 ·rw [if_neg c3] at H
  exact absurd H (by simp)

end Go.Proofs.Ytdjhclgkkklajaa.P

namespace Go.Proofs.Ytdjhclgkkklajaa.P
open Go.RowKit Go.Proofs.YtdjhclgkkklajaaW.PrintWords Go.Proofs.YtdjhclgkkklajaaW.PrintLast Go.Proofs.YtdjhclgkkklajaaW.PrintMore
attribute [local go_sem] max2_int min2_int max_two min_two max_three min_three max_four min_four   -- for this text's walks alone
set_option linter.unusedVariables false
set_option linter.unusedSimpArgs false

/-! ### laws_eqMarkS: function 29 -/
def laws_eqMarkS.l0 : Nat → List (S43) → List (S43) → Int → Option (Bool)
 | 0, _, _, _ => none
 | k + 1, x0, x1, x5 => if x5 < (x0.length : Int) then (if 0 ≤ x5 then (if x5 < (x1.length : Int) then ((laws_eqMark.f ((rd_T43 x0 x5).f0) ((rd_T43 x0 x5).f1) ((rd_T43 x1 x5).f0) ((rd_T43 x1 x5).f1)).bind fun t230 => (if t230 = true then (laws_eqMarkS.l0 k x0 x1 (wrap64 (x5 + 1))) else (none))) else (none)) else (none)) else (some true)
def laws_eqMarkS.f (k : Nat) (l0 : List (S43)) (l1 : List (S43)) : Option (Bool) := if (l0.length : Int) = (l1.length : Int) then (laws_eqMarkS.l0 k l0 l1 0) else (none)
theorem laws_eqMarkS.mono_l : ∀ k, (∀ y0 y1 y2, LeO (laws_eqMarkS.l0 k y0 y1 y2) (laws_eqMarkS.l0 (k + 1) y0 y1 y2))
 | 0 => fun _ _ _ r h => by simp [laws_eqMarkS.l0] at h
 | k + 1 => by
  have ih0 := laws_eqMarkS.mono_l k
  ·intro y0 y1 y2
   unfold laws_eqMarkS.l0
   repeat' first
   | (with_reducible exact ih0 _ _ _)
   | (with_reducible exact LeO.refl _)
   | (with_reducible exact LeO.none _)
   | (with_reducible refine LeO.ite ?_ ?_)
   | (with_reducible refine LeO.bind ?_ (fun _ => ?_))
   | exact ih0 _ _ _
   | exact LeO.none _
   | refine LeO.ite ?_ ?_
   | refine LeO.bind ?_ (fun _ => ?_)
theorem laws_eqMarkS.mono : ∀ a0 a1 k, LeO (laws_eqMarkS.f k a0 a1) (laws_eqMarkS.f (k + 1) a0 a1) := by
 intro a0 a1 k
 have ih0 := laws_eqMarkS.mono_l k
 unfold laws_eqMarkS.f
 repeat' first
   | (with_reducible exact ih0 _ _ _)
   | (with_reducible exact LeO.refl _)
   | (with_reducible exact LeO.none _)
   | (with_reducible refine LeO.ite ?_ ?_)
   | (with_reducible refine LeO.bind ?_ (fun _ => ?_))
   | exact ih0 _ _ _
   | exact LeO.none _
   | refine LeO.ite ?_ ?_
   | refine LeO.bind ?_ (fun _ => ?_)
def laws_eqMarkS.T6 : Bool × List (List Nat × List Nat) := (true, [([], []), ([], []), ([0, 1], [0, 1]), ([2], [2]), ([], []), ([], []), ([4, 5], [4, 5]), ([6], [6]), ([3, 7], [3, 7]), ([8], [8])])
def laws_eqMarkS.B6 : List Nat := [0, 0, 3, 7, 0, 0, 48, 112, 255, 511]
theorem laws_eqMarkS.tab6 : rtab .any (opsOf Try.f29 6) = laws_eqMarkS.T6 := by kernel_rfl
theorem laws_eqMarkS.bits6 : waitsOk laws_eqMarkS.T6.2 laws_eqMarkS.B6 = true := by kernel_rfl
set_option maxHeartbeats 8000000 in
set_option maxRecDepth 100000 in
theorem laws_eqMarkS.calls (k : Nat) (A0 : Option Addr) (c0 : Nat) (l0 : List (S43)) (A1 : Option Addr) (c1 : Nat) (l1 : List (S43)) (r : Bool) (w : World) (hr0 : Kd.C k43 w A0 l0.length l0) (hc0 : l0.length ≤ c0) (hr1 : Kd.C k43 w A1 l1.length l1) (hc1 : l1.length ≤ c1) (h : laws_eqMarkS.f k l0 l1 = some r) :
  Calls Try.prog 29 #[.slice A0 l0.length c0, .slice A1 l1.length c1] w fun e w' => e = .returned (.bool r) ∧ Below w.heap.size w w' := by
 have hu43 := Try.underlying43
 have HR0 := Aside0.mk hr0
 have HC0 := Aside0.mk hc0
 clear hr0 hc0
 have HR1 := Aside0.mk hr1
 have HC1 := Aside0.mk hc1
 clear hr1 hc1
 have HB := Aside0.mk (Below.refl w.heap.size w)
 have H : (if (l0.length : Int) = (l1.length : Int) then (laws_eqMarkS.l0 k l0 l1 0) else (none)) = some r := h
 clear h
 by_cases c3 : (l0.length : Int) = (l1.length : Int)
 ·rw [if_pos c3] at H
  have c3b0 : ((l0.length : Int) == (l1.length : Int)) = true := beq_iff_eq.mpr c3
  have c3b1 : ((l0.length : Int) != (l1.length : Int)) = false := bne_eq_false_iff_eq.mpr c3
  have c3b2 : (l0.length == l1.length) = true := by first | simpa using c3 | (simp at c3 ⊢; omega)
  clear c3
  have H' := Aside0.mk H
  clear H
  go_enter Try.func29, Try.ntmps29
  go_wp2
  go_loopg [5] k (fun kq v5 w' => ∃ (x5_1 : Int), v5 = .int .i64 x5_1 ∧ Aside0 (laws_eqMarkS.l0 kq l0 l1 x5_1 = some r) ∧ Aside0 (kq ≤ k) ∧ Aside0 (Below w.heap.size w w'))
  case atStart => exact ⟨(0), (by first | rfl | (simp; done) | (simp [*]; done)), H', ⟨Nat.le_refl _⟩, ⟨by repeat (first | (with_reducible first | exact HB.out | apply below_alloc | apply pw_below_drewN | apply below_drew1) | exact HB.out)⟩⟩
  case round =>
   clear H'
   try clear c1
   try clear c2
   try clear p2
   try clear c3
   try clear c3b0
   try clear c3b1
   try clear c3b2
   obtain ⟨x5_1, rfl, HA, HK1, HB⟩ := hrel
   cases gk with
   | zero => exact absurd HA.out (by simp [laws_eqMarkS.l0])
   | succ k1 =>
    have H := HA.out
    clear HA
    simp only [laws_eqMarkS.l0] at H
    by_cases c4 : x5_1 < (l0.length : Int)
    ·rw [if_pos c4] at H
     have c4b0 : decide (x5_1 < (l0.length : Int)) = true := decide_eq_true c4
     clear c4
     by_cases c5 : 0 ≤ x5_1
     ·rw [if_pos c5] at H
      have c5b0 : decide (0 ≤ x5_1) = true := decide_eq_true c5
      clear c5
      by_cases c6 : x5_1 < (l1.length : Int)
      ·rw [if_pos c6] at H
       have c6b0 : decide (x5_1 < (l1.length : Int)) = true := decide_eq_true c6
       clear c6
       replace H := Option.bind_eq_some_iff.mp H
       obtain ⟨t230, A70, H⟩ := H
       replace H : (if t230 = true then (laws_eqMarkS.l0 k1 l0 l1 (wrap64 (x5_1 + 1))) else (none)) = some r := H
       have A7 := Aside0.mk A70
       clear A70
       by_cases c8 : t230 = true
       ·subst c8
        have H1 : (laws_eqMarkS.l0 k1 l0 l1 (wrap64 (x5_1 + 1))) = some r := by rw [if_pos rfl] at H; exact H
        clear H
        have H := H1
        clear H1
        have H' := Aside0.mk H
        clear H
        try go_wp2
        have n0_ := Aside0.mk (below_drew1 HB.out)
        clear HB
        have HB := n0_
        clear n0_
        have p228 : 0 ≤ (x5_1 : Int) := of_decide_eq_true (by first | (with_reducible assumption) | assumption)
        have q228 : x5_1 < (l0.length : Int) := of_decide_eq_true (by first | (with_reducible assumption) | assumption)
        obtain ⟨ad228, e228, hx228_0, hx228_1⟩ := at_T43 HR0.out x5_1 p228 q228
        have hw228_1 := hx228_1
        have hw228_0 := hx228_0
        cases e228
        replace hx228_0 := (HB.out.cell (World.block_lt_of_cell? w _ hx228_0)).trans hx228_0
        replace hx228_1 := (HB.out.cell (World.block_lt_of_cell? w _ hx228_1)).trans hx228_1
        replace p228 := eq_true p228
        replace q228 := eq_true q228
        have p229 : 0 ≤ (x5_1 : Int) := of_decide_eq_true (by first | (with_reducible assumption) | assumption)
        have q229 : x5_1 < (l1.length : Int) := of_decide_eq_true (by first | (with_reducible assumption) | assumption)
        obtain ⟨ad229, e229, hx229_0, hx229_1⟩ := at_T43 HR1.out x5_1 p229 q229
        have hw229_1 := hx229_1
        have hw229_0 := hx229_0
        cases e229
        replace hx229_0 := (HB.out.cell (World.block_lt_of_cell? w _ hx229_0)).trans hx229_0
        replace hx229_1 := (HB.out.cell (World.block_lt_of_cell? w _ hx229_1)).trans hx229_1
        replace p229 := eq_true p229
        replace q229 := eq_true q229
        refine start_ (n := 10) (S := fun w' => w'.cell? (ad228.add ((x5_1).toNat * 2)) = some (.int .i64 ((rd_T43 l0 x5_1).f0)) ∧ w'.cell? ⟨(ad228.add ((x5_1).toNat * 2)).block, (ad228.add ((x5_1).toNat * 2)).off + 1, none⟩ = some (.int .i64 ((rd_T43 l0 x5_1).f1)) ∧ w'.cell? (ad229.add ((x5_1).toNat * 2)) = some (.int .i64 ((rd_T43 l1 x5_1).f0)) ∧ w'.cell? ⟨(ad229.add ((x5_1).toNat * 2)).block, (ad229.add ((x5_1).toNat * 2)).off + 1, none⟩ = some (.int .i64 ((rd_T43 l1 x5_1).f1))) (ds := []) #[false, false, false, false, false, false, false, false, false, false] (by kernel_rfl) rfl rfl ⟨((HB.out.cell (World.block_lt_of_cell? w _ hw228_0)).trans hw228_0), ((HB.out.cell (World.block_lt_of_cell? w _ hw228_1)).trans hw228_1), ((HB.out.cell (World.block_lt_of_cell? w _ hw229_0)).trans hw229_0), ((HB.out.cell (World.block_lt_of_cell? w _ hw229_1)).trans hw229_1)⟩ (fun hHeld => ?_); refine with_tabW laws_eqMarkS.tab6 laws_eqMarkS.bits6 (fun HT_ HW_ => ?_)
        generalize wr.drew = w9 at HB hx228_0 hx228_1 hx229_0 hx229_1 hHeld ⊢
        refine pure_ (i := 0) (N := some 17) (v := ?_) (a' := ?_) #[true, false, false, false, false, false, false, false, false, false] rfl rfl (any_of HT_.out (by kernel_rfl)) (fun _ _ _ h => h) (Or.inl ⟨by rfl, ?_⟩) ?_ ?_
        rotate_left
        ·intro w'
         go_simp
         with_reducible rfl
        rotate_left
        ·simp only [Act.put, sa_, s0_, ss_, i64_w, i32_w]
         rfl
        refine pure_ (i := 1) (N := some 18) (v := ?_) (a' := ?_) #[true, true, false, false, false, false, false, false, false, false] rfl rfl (any_of HT_.out (by kernel_rfl)) (fun _ _ _ h => h) (Or.inl ⟨by rfl, ?_⟩) ?_ ?_
        rotate_left
        ·intro w'
         go_simp
         with_reducible rfl
        rotate_left
        ·simp only [Act.put, sa_, s0_, ss_, i64_w, i32_w]
         rfl
        refine pure_ (i := 2) (N := some 19) (v := ?_) (a' := ?_) #[true, true, true, false, false, false, false, false, false, false] rfl rfl (any_of HT_.out (by kernel_rfl)) (fun _ _ _ h => h) (Or.inl ⟨by rfl, ?_⟩) ?_ ?_
        rotate_left
        ·intro w'
         go_simp
         with_reducible rfl
        rotate_left
        ·simp only [Act.put, sa_, s0_, ss_, i64_w, i32_w]
         rfl
        refine pure_ (i := 4) (N := some 21) (v := ?_) (a' := ?_) #[true, true, true, false, true, false, false, false, false, false] rfl rfl (any_of HT_.out (by kernel_rfl)) (fun _ _ _ h => h) (Or.inl ⟨by rfl, ?_⟩) ?_ ?_
        rotate_left
        ·intro w'
         go_simp
         with_reducible rfl
        rotate_left
        ·simp only [Act.put, sa_, s0_, ss_, i64_w, i32_w]
         rfl
        refine pure_ (i := 5) (N := some 22) (v := ?_) (a' := ?_) #[true, true, true, false, true, true, false, false, false, false] rfl rfl (any_of HT_.out (by kernel_rfl)) (fun _ _ _ h => h) (Or.inl ⟨by rfl, ?_⟩) ?_ ?_
        rotate_left
        ·intro w'
         go_simp
         with_reducible rfl
        rotate_left
        ·simp only [Act.put, sa_, s0_, ss_, i64_w, i32_w]
         rfl
        refine pure_ (i := 6) (N := some 23) (v := ?_) (a' := ?_) #[true, true, true, false, true, true, true, false, false, false] rfl rfl (any_of HT_.out (by kernel_rfl)) (fun _ _ _ h => h) (Or.inl ⟨by rfl, ?_⟩) ?_ ?_
        rotate_left
        ·intro w'
         go_simp
         with_reducible rfl
        rotate_left
        ·simp only [Act.put, sa_, s0_, ss_, i64_w, i32_w]
         rfl
        refine take_ (i := 3) (N := some 20) (v := ?_) (a' := ?_) #[true, true, true, true, true, true, true, false, false, false] rfl rfl (take_ofW HT_.out HW_.out (by kernel_rfl)) (fun _ _ _ h => h) (Or.inl ⟨by rfl, ?_⟩) hHeld ?_ ?_
        rotate_left
        ·rintro w' ⟨s0, s1, s2, s3⟩
         go_simp
         with_reducible rfl
        rotate_left
        ·simp only [Act.put, sa_, s0_, ss_, i64_w, i32_w]
         rfl
        refine take_ (i := 7) (N := some 24) (v := ?_) (a' := ?_) #[true, true, true, true, true, true, true, true, false, false] rfl rfl (take_ofW HT_.out HW_.out (by kernel_rfl)) (fun _ _ _ h => h) (Or.inl ⟨by rfl, ?_⟩) hHeld ?_ ?_
        rotate_left
        ·rintro w' ⟨s0, s1, s2, s3⟩
         go_simp
         with_reducible rfl
        rotate_left
        ·simp only [Act.put, sa_, s0_, ss_, i64_w, i32_w]
         rfl
        refine one_ (i := 8) (N := some 25) #[true, true, true, true, true, true, true, true, true, false] rfl rfl (one_of HT_.out (by kernel_rfl)) (by decide) (fun K hK => ?_)
        refine goes_ Try.func89 (by kernel_rfl) rfl #[.agg #[.int .i64 ((rd_T43 l0 x5_1).f0), .int .i64 ((rd_T43 l0 x5_1).f1)], .agg #[.int .i64 ((rd_T43 l1 x5_1).f0), .int .i64 ((rd_T43 l1 x5_1).f1)]] (by rfl) rfl rfl (by (try simp only [List.map_toArray, List.map_cons, List.map_nil]); first | done | rfl | (simp only [List.length_drop, List.length_take]; rfl)) ?_
        with_reducible refine (laws_eqMark.calls ((rd_T43 l0 x5_1).f0) ((rd_T43 l0 x5_1).f1) ((rd_T43 l1 x5_1).f0) ((rd_T43 l1 x5_1).f1) true _ A7.out).mono ?_
        rintro e w10 ⟨rfl, hb⟩
        refine ⟨_, rfl, ?_⟩
        have n0_ := Aside0.mk (below_step (by repeat (first | (with_reducible first | exact HB.out | apply below_alloc | apply pw_below_drewN | apply below_drew1) | exact HB.out)) hb)
        clear HB
        have HB := n0_
        clear n0_
        (try clear hb)
        (try clear hb2)
        (try clear hk)
        (try clear hi)
        refine hK.out _ _ ⟨((HB.out.cell (World.block_lt_of_cell? w _ hw228_0)).trans hw228_0), ((HB.out.cell (World.block_lt_of_cell? w _ hw228_1)).trans hw228_1), ((HB.out.cell (World.block_lt_of_cell? w _ hw229_0)).trans hw229_0), ((HB.out.cell (World.block_lt_of_cell? w _ hw229_1)).trans hw229_1)⟩ (fun hHeld => ?_)
        clear hK K
        refine norm_ (a' := ?_) ?_ ?_
        rotate_left
        ·show Act.put _ (some 25) _ = _
         simp only [Act.put, sa_, s0_, ss_, i64_w, i32_w]
         rfl
        refine pure_ (i := 9) (N := some 26) (v := ?_) (a' := ?_) #[true, true, true, true, true, true, true, true, true, true] rfl rfl (any_of HT_.out (by kernel_rfl)) (fun _ _ _ h => h) (Or.inl ⟨by rfl, ?_⟩) ?_ ?_
        rotate_left
        ·intro w'
         go_simp
         with_reducible rfl
        rotate_left
        ·simp only [Act.put, sa_, s0_, ss_, i64_w, i32_w]
         rfl
        refine done_ (done_of HT_.out (by kernel_rfl)) ?_
        try go_wp2
        go_roundg k1
        case measure => have := HK1.out; omega
        case rel => exact ⟨(wrap64 (x5_1 + 1)), (by first | rfl | (simp; done) | (simp [*]; done)), H', ⟨by have := HK1.out; omega⟩, ⟨by repeat (first | (with_reducible first | exact HB.out | apply below_alloc | apply pw_below_drewN | apply below_drew1) | exact HB.out)⟩⟩
       ·replace c8 := Bool.eq_false_iff.mpr c8
        subst c8
        have H1 : (none) = some r := by rw [if_neg (show ¬ (false = true) by decide)] at H; exact H
        clear H
        have H := H1
        clear H1
        exact absurd H (by simp)
      ·rw [if_neg c6] at H
       exact absurd H (by simp)
     ·rw [if_neg c5] at H
      exact absurd H (by simp)
    ·rw [if_neg c4] at H
     have c4b0 : decide (x5_1 < (l0.length : Int)) = false := decide_eq_false c4
     clear c4
     obtain rfl := Option.some.inj H
     go_wp2
     go_ret
     exact ⟨by first | rfl | (simp [errW_none, errW_some] <;> rfl) | (simp [*, errW_none, errW_some] <;> rfl), by repeat (first | (with_reducible first | exact HB.out | apply below_alloc | apply pw_below_drewN | apply below_drew1) | exact HB.out)⟩
 ·rw [if_neg c3] at H
  exact absurd H (by simp)

end Go.Proofs.Ytdjhclgkkklajaa.P

namespace Go.Proofs.Ytdjhclgkkklajaa.P
open Go.RowKit Go.Proofs.YtdjhclgkkklajaaW.PrintWords Go.Proofs.YtdjhclgkkklajaaW.PrintLast Go.Proofs.YtdjhclgkkklajaaW.PrintMore
attribute [local go_sem] max2_int min2_int max_two min_two max_three min_three max_four min_four   -- for this text's walks alone
set_option linter.unusedVariables false
set_option linter.unusedSimpArgs false

/-! ### laws_eqSib: function 149 -/
def laws_eqSib.f (a0_0 : Int) (a0_1 : Int) (a0_2 : Bool) (a0_3 : ByteArray) (a1_0 : Int) (a1_1 : Int) (a1_2 : Bool) (a1_3 : ByteArray) : Option (Bool) := (laws_eqMark.f a0_0 a0_1 a1_0 a1_1).bind fun t472 => (if t472 = true then (if (a0_2 != a1_2) = true then (none) else (if a0_3.toList = a1_3.toList then (some true) else (none))) else (none))
set_option maxHeartbeats 8000000 in
set_option maxRecDepth 100000 in
theorem laws_eqSib.calls (a0_0 : Int) (a0_1 : Int) (a0_2 : Bool) (a0_3 : ByteArray) (a1_0 : Int) (a1_1 : Int) (a1_2 : Bool) (a1_3 : ByteArray) (r : Bool) (w : World) (h : laws_eqSib.f a0_0 a0_1 a0_2 a0_3 a1_0 a1_1 a1_2 a1_3 = some r) :
  Calls Try.prog 149 #[.agg #[.int .i64 a0_0, .int .i64 a0_1, .bool a0_2, .string a0_3], .agg #[.int .i64 a1_0, .int .i64 a1_1, .bool a1_2, .string a1_3]] w fun e w' => e = .returned (.bool r) ∧ Below w.heap.size w w' := by
 have hu139 := Try.underlying139
 have hu43 := Try.underlying43
 have HB := Aside0.mk (Below.refl w.heap.size w)
 have H : ((laws_eqMark.f a0_0 a0_1 a1_0 a1_1).bind fun t472 => (if t472 = true then (if (a0_2 != a1_2) = true then (none) else (if a0_3.toList = a1_3.toList then (some true) else (none))) else (none))) = some r := h
 clear h
 replace H := Option.bind_eq_some_iff.mp H
 obtain ⟨t472, A30, H⟩ := H
 replace H : (if t472 = true then (if (a0_2 != a1_2) = true then (none) else (if a0_3.toList = a1_3.toList then (some true) else (none))) else (none)) = some r := H
 have A3 := Aside0.mk A30
 clear A30
 by_cases c4 : t472 = true
 ·subst c4
  have H1 : (if (a0_2 != a1_2) = true then (none) else (if a0_3.toList = a1_3.toList then (some true) else (none))) = some r := by rw [if_pos rfl] at H; exact H
  clear H
  have H := H1
  clear H1
  by_cases c5 : (a0_2 != a1_2) = true
  ·rw [if_pos c5] at H
   exact absurd H (by simp)
  ·rw [if_neg c5] at H
   have c5b0 : (a0_2 != a1_2) = false := by simpa using c5
   (try (have c5b1 : decide (a0_2 = a1_2) = true := by simpa using c5))
   (try (have c5b2 : (a0_2 == a1_2) = true := by simpa using c5))
   clear c5
   by_cases c6 : a0_3.toList = a1_3.toList
   ·rw [if_pos c6] at H
    have c6b0 : (a0_3.toList == a1_3.toList) = true := beq_iff_eq.mpr c6
    have c6b1 : (a0_3.toList != a1_3.toList) = false := bne_eq_false_iff_eq.mpr c6
    clear c6
    obtain rfl := Option.some.inj H
    go_enter Try.func149, Try.ntmps149
    go_wp2_with (first | ((with_reducible refine gate_dst (N := 2) rfl ?_); refine box_event ?hg (N := 2) ?hd (cs := #[.int .i64 a0_0, .int .i64 a0_1, .bool a0_2, .string a0_3]) (t := 139) ?hr ?_; (case hd => rfl); (case hg => rfl); (case hr => first | (go_simp; done) | (go_simp; rfl)); intro gb470 hg w7 hbox hb; have n0_ := Aside0.mk (below_step (by repeat (first | (with_reducible first | exact HB.out | apply below_alloc | apply pw_below_drewN | apply below_drew1) | exact HB.out)) hb); have n1_ := Aside0.mk (hbox); have n2_ := Aside0.mk ((by rw [hg]; exact (below_size (by repeat (first | (with_reducible first | exact HB.out | apply below_alloc | apply pw_below_drewN | apply below_drew1) | exact HB.out))) : w.heap.size ≤ gb470)); have n3_ := Aside0.mk ((by rw [hg]; exact (below_size (by repeat (first | (with_reducible first | exact HB.out | apply below_alloc | apply pw_below_drewN | apply below_drew1) | exact HB.out))) : w.heap.size ≤ gb470)); clear HB; have HB := n0_; have BK470 := n1_; have GW470 := n2_; have GE470 := n3_; clear n0_ n1_ n2_ n3_; clear hb hbox hg) | ((with_reducible refine gate_dst (N := 3) rfl ?_); refine box_event ?hg (N := 3) ?hd (cs := #[.int .i64 a1_0, .int .i64 a1_1, .bool a1_2, .string a1_3]) (t := 139) ?hr ?_; (case hd => rfl); (case hg => rfl); (case hr => first | (go_simp; done) | (go_simp; rfl)); intro gb471 hg w8 hbox hb; have n0_ := Aside0.mk (blk_below (g := gb470) (o := .cells #[.int .i64 a0_0, .int .i64 a0_1, .bool a0_2, .string a0_3] 139 (0, 0)) (by (with_reducible repeat (first | refine blk_drewN ?_ _ | refine blk_drew ?_ | refine blk_alloc ?_ _)); exact BK470.out) hb); have n1_ := Aside0.mk (below_step (by repeat (first | (with_reducible first | exact HB.out | apply below_alloc | apply pw_below_drewN | apply below_drew1 | refine below_set ?_ GE470.out) | exact HB.out)) hb); have n2_ := Aside0.mk (hbox); have n3_ := Aside0.mk ((by rw [hg]; exact (below_size (by repeat (first | (with_reducible first | exact HB.out | apply below_alloc | apply pw_below_drewN | apply below_drew1 | refine below_set ?_ GE470.out) | exact HB.out))) : w.heap.size ≤ gb471)); have n4_ := Aside0.mk ((by rw [hg]; exact (below_size (by repeat (first | (with_reducible first | exact HB.out | apply below_alloc | apply pw_below_drewN | apply below_drew1 | refine below_set ?_ GE470.out) | exact HB.out))) : w.heap.size ≤ gb471)); have n5_ := Aside0.mk ((by rw [hg]; exact Nat.ne_of_lt (blk_lt (g := gb470) (o := .cells #[.int .i64 a0_0, .int .i64 a0_1, .bool a0_2, .string a0_3] 139 (0, 0)) (by (with_reducible repeat (first | refine blk_drewN ?_ _ | refine blk_drew ?_ | refine blk_alloc ?_ _)); exact BK470.out)) : gb470 ≠ gb471)); have n6_ := Aside0.mk ((by rw [hg]; exact Nat.ne_of_gt (blk_lt (g := gb470) (o := .cells #[.int .i64 a0_0, .int .i64 a0_1, .bool a0_2, .string a0_3] 139 (0, 0)) (by (with_reducible repeat (first | refine blk_drewN ?_ _ | refine blk_drew ?_ | refine blk_alloc ?_ _)); exact BK470.out)) : gb471 ≠ gb470)); clear BK470; clear HB; have BK470 := n0_; have HB := n1_; have BK471 := n2_; have GW471 := n3_; have GE471 := n4_; have NB470_471 := n5_; have NB471_470 := n6_; clear n0_ n1_ n2_ n3_ n4_ n5_ n6_; clear hb hbox hg; have hnb9 := NB470_471.out; have hnc9 := NB471_470.out; have hcz10_0 : w8.cell? ⟨gb470, 0, none⟩ = some (.int .i64 a0_0) := (blk_cell BK470.out 0).trans rfl; have hcz10_1 : w8.cell? ⟨gb470, 1, none⟩ = some (.int .i64 a0_1) := (blk_cell BK470.out 1).trans rfl; have hcz10_2 : w8.cell? ⟨gb470, 2, none⟩ = some (.bool a0_2) := (blk_cell BK470.out 2).trans rfl; have hcz10_3 : w8.cell? ⟨gb470, 3, none⟩ = some (.string a0_3) := (blk_cell BK470.out 3).trans rfl; have hfz10_0 := blk_frozen BK470.out 0; have hfz10_1 := blk_frozen BK470.out 1; have hfz10_2 := blk_frozen BK470.out 2; have hfz10_3 := blk_frozen BK470.out 3; have hcz11_0 : w8.cell? ⟨gb471, 0, none⟩ = some (.int .i64 a1_0) := (blk_cell BK471.out 0).trans rfl; have hcz11_1 : w8.cell? ⟨gb471, 1, none⟩ = some (.int .i64 a1_1) := (blk_cell BK471.out 1).trans rfl; have hcz11_2 : w8.cell? ⟨gb471, 2, none⟩ = some (.bool a1_2) := (blk_cell BK471.out 2).trans rfl; have hcz11_3 : w8.cell? ⟨gb471, 3, none⟩ = some (.string a1_3) := (blk_cell BK471.out 3).trans rfl; have hfz11_0 := blk_frozen BK471.out 0; have hfz11_1 := blk_frozen BK471.out 1; have hfz11_2 := blk_frozen BK471.out 2; have hfz11_3 := blk_frozen BK471.out 3) | ((with_reducible refine gate_callee (f := 89) rfl ?_); refine goesL_ (some 9) rfl rfl Try.func89 (by kernel_rfl) rfl #[.agg #[.int .i64 a0_0, .int .i64 a0_1], .agg #[.int .i64 a1_0, .int .i64 a1_1]] rfl (by (try simp only [List.map_toArray, List.map_cons, List.map_nil]); first | done | rfl | (simp only [List.length_drop, List.length_take]; rfl)) ?_; (with_reducible refine (laws_eqMark.calls a0_0 a0_1 a1_0 a1_1 true _ A3.out).mono ?_); rintro e w12 ⟨rfl, hb⟩; refine ⟨_, rfl, ?_⟩; have n0_ := Aside0.mk (blk_below (g := gb470) (o := .cells #[.int .i64 a0_0, .int .i64 a0_1, .bool a0_2, .string a0_3] 139 (0, 0)) (by (with_reducible repeat (first | refine blk_drewN ?_ _ | refine blk_drew ?_ | refine blk_alloc ?_ _)); exact BK470.out) hb); have n1_ := Aside0.mk (blk_below (g := gb471) (o := .cells #[.int .i64 a1_0, .int .i64 a1_1, .bool a1_2, .string a1_3] 139 (0, 0)) (by (with_reducible repeat (first | refine blk_drewN ?_ _ | refine blk_drew ?_ | refine blk_alloc ?_ _)); exact BK471.out) hb); have n2_ := Aside0.mk (below_step (by repeat (first | (with_reducible first | exact HB.out | apply below_alloc | apply pw_below_drewN | apply below_drew1 | refine below_set ?_ GE470.out | refine below_set ?_ GE471.out) | exact HB.out)) hb); clear BK470; clear BK471; clear HB; have BK470 := n0_; have BK471 := n1_; have HB := n2_; clear n0_ n1_ n2_; (try clear hb); (try clear hb2); (try clear hk); (try clear hi); have hcz13_0 : w12.cell? ⟨gb470, 0, none⟩ = some (.int .i64 a0_0) := (blk_cell BK470.out 0).trans rfl; have hcz13_1 : w12.cell? ⟨gb470, 1, none⟩ = some (.int .i64 a0_1) := (blk_cell BK470.out 1).trans rfl; have hcz13_2 : w12.cell? ⟨gb470, 2, none⟩ = some (.bool a0_2) := (blk_cell BK470.out 2).trans rfl; have hcz13_3 : w12.cell? ⟨gb470, 3, none⟩ = some (.string a0_3) := (blk_cell BK470.out 3).trans rfl; have hfz13_0 := blk_frozen BK470.out 0; have hfz13_1 := blk_frozen BK470.out 1; have hfz13_2 := blk_frozen BK470.out 2; have hfz13_3 := blk_frozen BK470.out 3; have hcz14_0 : w12.cell? ⟨gb471, 0, none⟩ = some (.int .i64 a1_0) := (blk_cell BK471.out 0).trans rfl; have hcz14_1 : w12.cell? ⟨gb471, 1, none⟩ = some (.int .i64 a1_1) := (blk_cell BK471.out 1).trans rfl; have hcz14_2 : w12.cell? ⟨gb471, 2, none⟩ = some (.bool a1_2) := (blk_cell BK471.out 2).trans rfl; have hcz14_3 : w12.cell? ⟨gb471, 3, none⟩ = some (.string a1_3) := (blk_cell BK471.out 3).trans rfl; have hfz14_0 := blk_frozen BK471.out 0; have hfz14_1 := blk_frozen BK471.out 1; have hfz14_2 := blk_frozen BK471.out 2; have hfz14_3 := blk_frozen BK471.out 3))
    go_ret
    exact ⟨by first | rfl | (simp [errW_none, errW_some] <;> rfl) | (simp [*, errW_none, errW_some] <;> rfl), by repeat (first | (with_reducible first | exact HB.out | apply below_alloc | apply pw_below_drewN | apply below_drew1 | refine below_set ?_ GE470.out | refine below_set ?_ GE471.out) | exact HB.out)⟩
   ·rw [if_neg c6] at H
    exact absurd H (by simp)
 ·replace c4 := Bool.eq_false_iff.mpr c4
  subst c4
  have H1 : (none) = some r := by rw [if_neg (show ¬ (false = true) by decide)] at H; exact H
  clear H
  have H := H1
  clear H1
  exact absurd H (by simp)

end Go.Proofs.Ytdjhclgkkklajaa.P

namespace Go.Proofs.Ytdjhclgkkklajaa.P
open Go.RowKit Go.Proofs.YtdjhclgkkklajaaW.PrintWords Go.Proofs.YtdjhclgkkklajaaW.PrintLast Go.Proofs.YtdjhclgkkklajaaW.PrintMore
attribute [local go_sem] max2_int min2_int max_two min_two max_three min_three max_four min_four   -- for this text's walks alone
set_option linter.unusedVariables false
set_option linter.unusedSimpArgs false

/-! ### laws_eqSibS: function 113 -/
def laws_eqSibS.l0 : Nat → List (S139) → List (S139) → Int → Option (Bool)
 | 0, _, _, _ => none
 | k + 1, x0, x1, x5 => if x5 < (x0.length : Int) then (if 0 ≤ x5 then (if x5 < (x1.length : Int) then ((laws_eqSib.f ((rd_T139 x0 x5).f0.f0) ((rd_T139 x0 x5).f0.f1) ((rd_T139 x0 x5).f1) ((rd_T139 x0 x5).f2) ((rd_T139 x1 x5).f0.f0) ((rd_T139 x1 x5).f0.f1) ((rd_T139 x1 x5).f1) ((rd_T139 x1 x5).f2)).bind fun t475 => (if t475 = true then (laws_eqSibS.l0 k x0 x1 (wrap64 (x5 + 1))) else (none))) else (none)) else (none)) else (some true)
def laws_eqSibS.f (k : Nat) (l0 : List (S139)) (l1 : List (S139)) : Option (Bool) := if (l0.length : Int) = (l1.length : Int) then (laws_eqSibS.l0 k l0 l1 0) else (none)
theorem laws_eqSibS.mono_l : ∀ k, (∀ y0 y1 y2, LeO (laws_eqSibS.l0 k y0 y1 y2) (laws_eqSibS.l0 (k + 1) y0 y1 y2))
 | 0 => fun _ _ _ r h => by simp [laws_eqSibS.l0] at h
 | k + 1 => by
  have ih0 := laws_eqSibS.mono_l k
  ·intro y0 y1 y2
   unfold laws_eqSibS.l0
   repeat' first
   | (with_reducible exact ih0 _ _ _)
   | (with_reducible exact LeO.refl _)
   | (with_reducible exact LeO.none _)
   | (with_reducible refine LeO.ite ?_ ?_)
   | (with_reducible refine LeO.bind ?_ (fun _ => ?_))
   | exact ih0 _ _ _
   | exact LeO.none _
   | refine LeO.ite ?_ ?_
   | refine LeO.bind ?_ (fun _ => ?_)
theorem laws_eqSibS.mono : ∀ a0 a1 k, LeO (laws_eqSibS.f k a0 a1) (laws_eqSibS.f (k + 1) a0 a1) := by
 intro a0 a1 k
 have ih0 := laws_eqSibS.mono_l k
 unfold laws_eqSibS.f
 repeat' first
   | (with_reducible exact ih0 _ _ _)
   | (with_reducible exact LeO.refl _)
   | (with_reducible exact LeO.none _)
   | (with_reducible refine LeO.ite ?_ ?_)
   | (with_reducible refine LeO.bind ?_ (fun _ => ?_))
   | exact ih0 _ _ _
   | exact LeO.none _
   | refine LeO.ite ?_ ?_
   | refine LeO.bind ?_ (fun _ => ?_)
def laws_eqSibS.T6 : Bool × List (List Nat × List Nat) := (true, [([], []), ([], []), ([0, 1], [0, 1]), ([2], [2]), ([], []), ([], []), ([4, 5], [4, 5]), ([6], [6]), ([3, 7], [3, 7]), ([8], [8])])
def laws_eqSibS.B6 : List Nat := [0, 0, 3, 7, 0, 0, 48, 112, 255, 511]
theorem laws_eqSibS.tab6 : rtab .any (opsOf Try.f113 6) = laws_eqSibS.T6 := by kernel_rfl
theorem laws_eqSibS.bits6 : waitsOk laws_eqSibS.T6.2 laws_eqSibS.B6 = true := by kernel_rfl
set_option maxHeartbeats 8000000 in
set_option maxRecDepth 100000 in
theorem laws_eqSibS.calls (k : Nat) (A0 : Option Addr) (c0 : Nat) (l0 : List (S139)) (A1 : Option Addr) (c1 : Nat) (l1 : List (S139)) (r : Bool) (w : World) (hr0 : Kd.C k139 w A0 l0.length l0) (hc0 : l0.length ≤ c0) (hr1 : Kd.C k139 w A1 l1.length l1) (hc1 : l1.length ≤ c1) (h : laws_eqSibS.f k l0 l1 = some r) :
  Calls Try.prog 113 #[.slice A0 l0.length c0, .slice A1 l1.length c1] w fun e w' => e = .returned (.bool r) ∧ Below w.heap.size w w' := by
 have hu139 := Try.underlying139
 have HR0 := Aside0.mk hr0
 have HC0 := Aside0.mk hc0
 clear hr0 hc0
 have HR1 := Aside0.mk hr1
 have HC1 := Aside0.mk hc1
 clear hr1 hc1
 have HB := Aside0.mk (Below.refl w.heap.size w)
 have H : (if (l0.length : Int) = (l1.length : Int) then (laws_eqSibS.l0 k l0 l1 0) else (none)) = some r := h
 clear h
 by_cases c3 : (l0.length : Int) = (l1.length : Int)
 ·rw [if_pos c3] at H
  have c3b0 : ((l0.length : Int) == (l1.length : Int)) = true := beq_iff_eq.mpr c3
  have c3b1 : ((l0.length : Int) != (l1.length : Int)) = false := bne_eq_false_iff_eq.mpr c3
  have c3b2 : (l0.length == l1.length) = true := by first | simpa using c3 | (simp at c3 ⊢; omega)
  clear c3
  have H' := Aside0.mk H
  clear H
  go_enter Try.func113, Try.ntmps113
  go_wp2
  go_loopg [5] k (fun kq v5 w' => ∃ (x5_1 : Int), v5 = .int .i64 x5_1 ∧ Aside0 (laws_eqSibS.l0 kq l0 l1 x5_1 = some r) ∧ Aside0 (kq ≤ k) ∧ Aside0 (Below w.heap.size w w'))
  case atStart => exact ⟨(0), (by first | rfl | (simp; done) | (simp [*]; done)), H', ⟨Nat.le_refl _⟩, ⟨by repeat (first | (with_reducible first | exact HB.out | apply below_alloc | apply pw_below_drewN | apply below_drew1) | exact HB.out)⟩⟩
  case round =>
   clear H'
   try clear c1
   try clear p2
   try clear c3
   try clear c3b0
   try clear c3b1
   try clear c3b2
   obtain ⟨x5_1, rfl, HA, HK1, HB⟩ := hrel
   cases gk with
   | zero => exact absurd HA.out (by simp [laws_eqSibS.l0])
   | succ k1 =>
    have H := HA.out
    clear HA
    simp only [laws_eqSibS.l0] at H
    by_cases c4 : x5_1 < (l0.length : Int)
    ·rw [if_pos c4] at H
     have c4b0 : decide (x5_1 < (l0.length : Int)) = true := decide_eq_true c4
     clear c4
     by_cases c5 : 0 ≤ x5_1
     ·rw [if_pos c5] at H
      have c5b0 : decide (0 ≤ x5_1) = true := decide_eq_true c5
      clear c5
      by_cases c6 : x5_1 < (l1.length : Int)
      ·rw [if_pos c6] at H
       have c6b0 : decide (x5_1 < (l1.length : Int)) = true := decide_eq_true c6
       clear c6
       replace H := Option.bind_eq_some_iff.mp H
       obtain ⟨t475, A70, H⟩ := H
       replace H : (if t475 = true then (laws_eqSibS.l0 k1 l0 l1 (wrap64 (x5_1 + 1))) else (none)) = some r := H
       have A7 := Aside0.mk A70
       clear A70
       by_cases c8 : t475 = true
       ·subst c8
        have H1 : (laws_eqSibS.l0 k1 l0 l1 (wrap64 (x5_1 + 1))) = some r := by rw [if_pos rfl] at H; exact H
        clear H
        have H := H1
        clear H1
        have H' := Aside0.mk H
        clear H
        try go_wp2
        have n0_ := Aside0.mk (below_drew1 HB.out)
        clear HB
        have HB := n0_
        clear n0_
        have p473 : 0 ≤ (x5_1 : Int) := of_decide_eq_true (by first | (with_reducible assumption) | assumption)
        have q473 : x5_1 < (l0.length : Int) := of_decide_eq_true (by first | (with_reducible assumption) | assumption)
        obtain ⟨ad473, e473, hx473_0, hx473_1, hx473_2, hx473_3⟩ := at_T139 HR0.out x5_1 p473 q473
        have hw473_3 := hx473_3
        have hw473_2 := hx473_2
        have hw473_1 := hx473_1
        have hw473_0 := hx473_0
        cases e473
        replace hx473_0 := (HB.out.cell (World.block_lt_of_cell? w _ hx473_0)).trans hx473_0
        replace hx473_1 := (HB.out.cell (World.block_lt_of_cell? w _ hx473_1)).trans hx473_1
        replace hx473_2 := (HB.out.cell (World.block_lt_of_cell? w _ hx473_2)).trans hx473_2
        replace hx473_3 := (HB.out.cell (World.block_lt_of_cell? w _ hx473_3)).trans hx473_3
        replace p473 := eq_true p473
        replace q473 := eq_true q473
        have p474 : 0 ≤ (x5_1 : Int) := of_decide_eq_true (by first | (with_reducible assumption) | assumption)
        have q474 : x5_1 < (l1.length : Int) := of_decide_eq_true (by first | (with_reducible assumption) | assumption)
        obtain ⟨ad474, e474, hx474_0, hx474_1, hx474_2, hx474_3⟩ := at_T139 HR1.out x5_1 p474 q474
        have hw474_3 := hx474_3
        have hw474_2 := hx474_2
        have hw474_1 := hx474_1
        have hw474_0 := hx474_0
        cases e474
        replace hx474_0 := (HB.out.cell (World.block_lt_of_cell? w _ hx474_0)).trans hx474_0
        replace hx474_1 := (HB.out.cell (World.block_lt_of_cell? w _ hx474_1)).trans hx474_1
        replace hx474_2 := (HB.out.cell (World.block_lt_of_cell? w _ hx474_2)).trans hx474_2
        replace hx474_3 := (HB.out.cell (World.block_lt_of_cell? w _ hx474_3)).trans hx474_3
        replace p474 := eq_true p474
        replace q474 := eq_true q474
        refine start_ (n := 10) (S := fun w' => w'.cell? (ad473.add ((x5_1).toNat * 4)) = some (.int .i64 ((rd_T139 l0 x5_1).f0.f0)) ∧ w'.cell? ⟨(ad473.add ((x5_1).toNat * 4)).block, (ad473.add ((x5_1).toNat * 4)).off + 1, none⟩ = some (.int .i64 ((rd_T139 l0 x5_1).f0.f1)) ∧ w'.cell? ⟨(ad473.add ((x5_1).toNat * 4)).block, (ad473.add ((x5_1).toNat * 4)).off + 2, none⟩ = some (.bool ((rd_T139 l0 x5_1).f1)) ∧ w'.cell? ⟨(ad473.add ((x5_1).toNat * 4)).block, (ad473.add ((x5_1).toNat * 4)).off + 3, none⟩ = some (.string ((rd_T139 l0 x5_1).f2)) ∧ w'.cell? (ad474.add ((x5_1).toNat * 4)) = some (.int .i64 ((rd_T139 l1 x5_1).f0.f0)) ∧ w'.cell? ⟨(ad474.add ((x5_1).toNat * 4)).block, (ad474.add ((x5_1).toNat * 4)).off + 1, none⟩ = some (.int .i64 ((rd_T139 l1 x5_1).f0.f1)) ∧ w'.cell? ⟨(ad474.add ((x5_1).toNat * 4)).block, (ad474.add ((x5_1).toNat * 4)).off + 2, none⟩ = some (.bool ((rd_T139 l1 x5_1).f1)) ∧ w'.cell? ⟨(ad474.add ((x5_1).toNat * 4)).block, (ad474.add ((x5_1).toNat * 4)).off + 3, none⟩ = some (.string ((rd_T139 l1 x5_1).f2))) (ds := []) #[false, false, false, false, false, false, false, false, false, false] (by kernel_rfl) rfl rfl ⟨((HB.out.cell (World.block_lt_of_cell? w _ hw473_0)).trans hw473_0), ((HB.out.cell (World.block_lt_of_cell? w _ hw473_1)).trans hw473_1), ((HB.out.cell (World.block_lt_of_cell? w _ hw473_2)).trans hw473_2), ((HB.out.cell (World.block_lt_of_cell? w _ hw473_3)).trans hw473_3), ((HB.out.cell (World.block_lt_of_cell? w _ hw474_0)).trans hw474_0), ((HB.out.cell (World.block_lt_of_cell? w _ hw474_1)).trans hw474_1), ((HB.out.cell (World.block_lt_of_cell? w _ hw474_2)).trans hw474_2), ((HB.out.cell (World.block_lt_of_cell? w _ hw474_3)).trans hw474_3)⟩ (fun hHeld => ?_); refine with_tabW laws_eqSibS.tab6 laws_eqSibS.bits6 (fun HT_ HW_ => ?_)
        generalize wr.drew = w9 at HB hx473_0 hx473_1 hx473_2 hx473_3 hx474_0 hx474_1 hx474_2 hx474_3 hHeld ⊢
        refine pure_ (i := 0) (N := some 17) (v := ?_) (a' := ?_) #[true, false, false, false, false, false, false, false, false, false] rfl rfl (any_of HT_.out (by kernel_rfl)) (fun _ _ _ h => h) (Or.inl ⟨by rfl, ?_⟩) ?_ ?_
        rotate_left
        ·intro w'
         go_simp
         with_reducible rfl
        rotate_left
        ·simp only [Act.put, sa_, s0_, ss_, i64_w, i32_w]
         rfl
        refine pure_ (i := 1) (N := some 18) (v := ?_) (a' := ?_) #[true, true, false, false, false, false, false, false, false, false] rfl rfl (any_of HT_.out (by kernel_rfl)) (fun _ _ _ h => h) (Or.inl ⟨by rfl, ?_⟩) ?_ ?_
        rotate_left
        ·intro w'
         go_simp
         with_reducible rfl
        rotate_left
        ·simp only [Act.put, sa_, s0_, ss_, i64_w, i32_w]
         rfl
        refine pure_ (i := 2) (N := some 19) (v := ?_) (a' := ?_) #[true, true, true, false, false, false, false, false, false, false] rfl rfl (any_of HT_.out (by kernel_rfl)) (fun _ _ _ h => h) (Or.inl ⟨by rfl, ?_⟩) ?_ ?_
        rotate_left
        ·intro w'
         go_simp
         with_reducible rfl
        rotate_left
        ·simp only [Act.put, sa_, s0_, ss_, i64_w, i32_w]
         rfl
        refine pure_ (i := 4) (N := some 21) (v := ?_) (a' := ?_) #[true, true, true, false, true, false, false, false, false, false] rfl rfl (any_of HT_.out (by kernel_rfl)) (fun _ _ _ h => h) (Or.inl ⟨by rfl, ?_⟩) ?_ ?_
        rotate_left
        ·intro w'
         go_simp
         with_reducible rfl
        rotate_left
        ·simp only [Act.put, sa_, s0_, ss_, i64_w, i32_w]
         rfl
        refine pure_ (i := 5) (N := some 22) (v := ?_) (a' := ?_) #[true, true, true, false, true, true, false, false, false, false] rfl rfl (any_of HT_.out (by kernel_rfl)) (fun _ _ _ h => h) (Or.inl ⟨by rfl, ?_⟩) ?_ ?_
        rotate_left
        ·intro w'
         go_simp
         with_reducible rfl
        rotate_left
        ·simp only [Act.put, sa_, s0_, ss_, i64_w, i32_w]
         rfl
        refine pure_ (i := 6) (N := some 23) (v := ?_) (a' := ?_) #[true, true, true, false, true, true, true, false, false, false] rfl rfl (any_of HT_.out (by kernel_rfl)) (fun _ _ _ h => h) (Or.inl ⟨by rfl, ?_⟩) ?_ ?_
        rotate_left
        ·intro w'
         go_simp
         with_reducible rfl
        rotate_left
        ·simp only [Act.put, sa_, s0_, ss_, i64_w, i32_w]
         rfl
        refine take_ (i := 3) (N := some 20) (v := ?_) (a' := ?_) #[true, true, true, true, true, true, true, false, false, false] rfl rfl (take_ofW HT_.out HW_.out (by kernel_rfl)) (fun _ _ _ h => h) (Or.inl ⟨by rfl, ?_⟩) hHeld ?_ ?_
        rotate_left
        ·rintro w' ⟨s0, s1, s2, s3, s4, s5, s6, s7⟩
         go_simp
         with_reducible rfl
        rotate_left
        ·simp only [Act.put, sa_, s0_, ss_, i64_w, i32_w]
         rfl
        refine take_ (i := 7) (N := some 24) (v := ?_) (a' := ?_) #[true, true, true, true, true, true, true, true, false, false] rfl rfl (take_ofW HT_.out HW_.out (by kernel_rfl)) (fun _ _ _ h => h) (Or.inl ⟨by rfl, ?_⟩) hHeld ?_ ?_
        rotate_left
        ·rintro w' ⟨s0, s1, s2, s3, s4, s5, s6, s7⟩
         go_simp
         with_reducible rfl
        rotate_left
        ·simp only [Act.put, sa_, s0_, ss_, i64_w, i32_w]
         rfl
        refine one_ (i := 8) (N := some 25) #[true, true, true, true, true, true, true, true, true, false] rfl rfl (one_of HT_.out (by kernel_rfl)) (by decide) (fun K hK => ?_)
        refine goes_ Try.func149 (by kernel_rfl) rfl #[.agg #[.int .i64 ((rd_T139 l0 x5_1).f0.f0), .int .i64 ((rd_T139 l0 x5_1).f0.f1), .bool ((rd_T139 l0 x5_1).f1), .string ((rd_T139 l0 x5_1).f2)], .agg #[.int .i64 ((rd_T139 l1 x5_1).f0.f0), .int .i64 ((rd_T139 l1 x5_1).f0.f1), .bool ((rd_T139 l1 x5_1).f1), .string ((rd_T139 l1 x5_1).f2)]] (by rfl) rfl rfl (by (try simp only [List.map_toArray, List.map_cons, List.map_nil]); first | done | rfl | (simp only [List.length_drop, List.length_take]; rfl)) ?_
        with_reducible refine (laws_eqSib.calls ((rd_T139 l0 x5_1).f0.f0) ((rd_T139 l0 x5_1).f0.f1) ((rd_T139 l0 x5_1).f1) ((rd_T139 l0 x5_1).f2) ((rd_T139 l1 x5_1).f0.f0) ((rd_T139 l1 x5_1).f0.f1) ((rd_T139 l1 x5_1).f1) ((rd_T139 l1 x5_1).f2) true _ A7.out).mono ?_
        rintro e w10 ⟨rfl, hb⟩
        refine ⟨_, rfl, ?_⟩
        have n0_ := Aside0.mk (below_step (by repeat (first | (with_reducible first | exact HB.out | apply below_alloc | apply pw_below_drewN | apply below_drew1) | exact HB.out)) hb)
        clear HB
        have HB := n0_
        clear n0_
        (try clear hb)
        (try clear hb2)
        (try clear hk)
        (try clear hi)
        refine hK.out _ _ ⟨((HB.out.cell (World.block_lt_of_cell? w _ hw473_0)).trans hw473_0), ((HB.out.cell (World.block_lt_of_cell? w _ hw473_1)).trans hw473_1), ((HB.out.cell (World.block_lt_of_cell? w _ hw473_2)).trans hw473_2), ((HB.out.cell (World.block_lt_of_cell? w _ hw473_3)).trans hw473_3), ((HB.out.cell (World.block_lt_of_cell? w _ hw474_0)).trans hw474_0), ((HB.out.cell (World.block_lt_of_cell? w _ hw474_1)).trans hw474_1), ((HB.out.cell (World.block_lt_of_cell? w _ hw474_2)).trans hw474_2), ((HB.out.cell (World.block_lt_of_cell? w _ hw474_3)).trans hw474_3)⟩ (fun hHeld => ?_)
        clear hK K
        refine norm_ (a' := ?_) ?_ ?_
        rotate_left
        ·show Act.put _ (some 25) _ = _
         simp only [Act.put, sa_, s0_, ss_, i64_w, i32_w]
         rfl
        refine pure_ (i := 9) (N := some 26) (v := ?_) (a' := ?_) #[true, true, true, true, true, true, true, true, true, true] rfl rfl (any_of HT_.out (by kernel_rfl)) (fun _ _ _ h => h) (Or.inl ⟨by rfl, ?_⟩) ?_ ?_
        rotate_left
        ·intro w'
         go_simp
         with_reducible rfl
        rotate_left
        ·simp only [Act.put, sa_, s0_, ss_, i64_w, i32_w]
         rfl
        refine done_ (done_of HT_.out (by kernel_rfl)) ?_
        try go_wp2
        go_roundg k1
        case measure => have := HK1.out; omega
        case rel => exact ⟨(wrap64 (x5_1 + 1)), (by first | rfl | (simp; done) | (simp [*]; done)), H', ⟨by have := HK1.out; omega⟩, ⟨by repeat (first | (with_reducible first | exact HB.out | apply below_alloc | apply pw_below_drewN | apply below_drew1) | exact HB.out)⟩⟩
       ·replace c8 := Bool.eq_false_iff.mpr c8
        subst c8
        have H1 : (none) = some r := by rw [if_neg (show ¬ (false = true) by decide)] at H; exact H
        clear H
        have H := H1
        clear H1
        exact absurd H (by simp)
      ·rw [if_neg c6] at H
       exact absurd H (by simp)
     ·rw [if_neg c5] at H
      exact absurd H (by simp)
    ·rw [if_neg c4] at H
     have c4b0 : decide (x5_1 < (l0.length : Int)) = false := decide_eq_false c4
     clear c4
     obtain rfl := Option.some.inj H
     go_wp2
     go_ret
     exact ⟨by first | rfl | (simp [errW_none, errW_some] <;> rfl) | (simp [*, errW_none, errW_some] <;> rfl), by repeat (first | (with_reducible first | exact HB.out | apply below_alloc | apply pw_below_drewN | apply below_drew1) | exact HB.out)⟩
 ·rw [if_neg c3] at H
  exact absurd H (by simp)

end Go.Proofs.Ytdjhclgkkklajaa.P

namespace Go.Proofs.Ytdjhclgkkklajaa.P
open Go.RowKit Go.Proofs.YtdjhclgkkklajaaW.PrintWords Go.Proofs.YtdjhclgkkklajaaW.PrintLast Go.Proofs.YtdjhclgkkklajaaW.PrintMore
attribute [local go_sem] max2_int min2_int max_two min_two max_three min_three max_four min_four   -- for this text's walks alone
set_option linter.unusedVariables false
set_option linter.unusedSimpArgs false

/-! ### laws_eqSet: function 46 -/
def laws_eqSet.f (k : Nat) (l0_0 : List (S43)) (l0_1 : List (S139)) (l1_0 : List (S43)) (l1_1 : List (S139)) : Option (Bool) := (laws_eqMarkS.f k l0_0 l1_0).bind fun t478 => (if t478 = true then ((laws_eqSibS.f k l0_1 l1_1).bind fun t479 => (if t479 = true then (some true) else (none))) else (none))
theorem laws_eqSet.mono : ∀ a0 a1 a2 a3 k, LeO (laws_eqSet.f k a0 a1 a2 a3) (laws_eqSet.f (k + 1) a0 a1 a2 a3) := by
 intro a0 a1 a2 a3 k
 unfold laws_eqSet.f
 repeat' first
   | (with_reducible exact laws_eqMarkS.mono _ _ _)
   | (with_reducible exact laws_eqSibS.mono _ _ _)
   | (with_reducible exact LeO.refl _)
   | (with_reducible exact LeO.none _)
   | (with_reducible refine LeO.ite ?_ ?_)
   | (with_reducible refine LeO.bind ?_ (fun _ => ?_))
   | exact laws_eqMarkS.mono _ _ _
   | exact laws_eqSibS.mono _ _ _
   | exact LeO.none _
   | refine LeO.ite ?_ ?_
   | refine LeO.bind ?_ (fun _ => ?_)
set_option maxHeartbeats 8000000 in
set_option maxRecDepth 100000 in
theorem laws_eqSet.calls (k : Nat) (A0_0 : Option Addr) (c0_0 : Nat) (l0_0 : List (S43)) (A0_1 : Option Addr) (c0_1 : Nat) (l0_1 : List (S139)) (A1_0 : Option Addr) (c1_0 : Nat) (l1_0 : List (S43)) (A1_1 : Option Addr) (c1_1 : Nat) (l1_1 : List (S139)) (r : Bool) (w : World) (hr0_0 : Kd.C k43 w A0_0 l0_0.length l0_0) (hc0_0 : l0_0.length ≤ c0_0) (hr0_1 : Kd.C k139 w A0_1 l0_1.length l0_1) (hc0_1 : l0_1.length ≤ c0_1) (hr1_0 : Kd.C k43 w A1_0 l1_0.length l1_0) (hc1_0 : l1_0.length ≤ c1_0) (hr1_1 : Kd.C k139 w A1_1 l1_1.length l1_1) (hc1_1 : l1_1.length ≤ c1_1) (h : laws_eqSet.f k l0_0 l0_1 l1_0 l1_1 = some r) :
  Calls Try.prog 46 #[.agg #[.slice A0_0 l0_0.length c0_0, .slice A0_1 l0_1.length c0_1], .agg #[.slice A1_0 l1_0.length c1_0, .slice A1_1 l1_1.length c1_1]] w fun e w' => e = .returned (.bool r) ∧ Below w.heap.size w w' := by
 have hu75 := Try.underlying75
 have HR0_0 := Aside0.mk hr0_0
 have HC0_0 := Aside0.mk hc0_0
 clear hr0_0 hc0_0
 have HR0_1 := Aside0.mk hr0_1
 have HC0_1 := Aside0.mk hc0_1
 clear hr0_1 hc0_1
 have HR1_0 := Aside0.mk hr1_0
 have HC1_0 := Aside0.mk hc1_0
 clear hr1_0 hc1_0
 have HR1_1 := Aside0.mk hr1_1
 have HC1_1 := Aside0.mk hc1_1
 clear hr1_1 hc1_1
 have HB := Aside0.mk (Below.refl w.heap.size w)
 have H : ((laws_eqMarkS.f k l0_0 l1_0).bind fun t478 => (if t478 = true then ((laws_eqSibS.f k l0_1 l1_1).bind fun t479 => (if t479 = true then (some true) else (none))) else (none))) = some r := h
 clear h
 replace H := Option.bind_eq_some_iff.mp H
 obtain ⟨t478, A30, H⟩ := H
 replace H : (if t478 = true then ((laws_eqSibS.f k l0_1 l1_1).bind fun t479 => (if t479 = true then (some true) else (none))) else (none)) = some r := H
 have A3 := Aside0.mk A30
 clear A30
 by_cases c4 : t478 = true
 ·subst c4
  have H1 : ((laws_eqSibS.f k l0_1 l1_1).bind fun t479 => (if t479 = true then (some true) else (none))) = some r := by rw [if_pos rfl] at H; exact H
  clear H
  have H := H1
  clear H1
  replace H := Option.bind_eq_some_iff.mp H
  obtain ⟨t479, A50, H⟩ := H
  replace H : (if t479 = true then (some true) else (none)) = some r := H
  have A5 := Aside0.mk A50
  clear A50
  by_cases c6 : t479 = true
  ·subst c6
   have H1 : (some true) = some r := by rw [if_pos rfl] at H; exact H
   clear H
   have H := H1
   clear H1
   obtain rfl := Option.some.inj H
   go_enter Try.func46, Try.ntmps46
   go_wp2_with (first | ((with_reducible refine gate_dst (N := 2) rfl ?_); refine box_event ?hg (N := 2) ?hd (cs := #[.slice A0_0 l0_0.length c0_0, .slice A0_1 l0_1.length c0_1]) (t := 75) ?hr ?_; (case hd => rfl); (case hg => rfl); (case hr => first | (go_simp; done) | (go_simp; rfl)); intro gb476 hg w7 hbox hb; have n0_ := Aside0.mk (below_step (by repeat (first | (with_reducible first | exact HB.out | apply below_alloc | apply pw_below_drewN | apply below_drew1) | exact HB.out)) hb); have n1_ := Aside0.mk (hbox); have n2_ := Aside0.mk ((by rw [hg]; exact (below_size (by repeat (first | (with_reducible first | exact HB.out | apply below_alloc | apply pw_below_drewN | apply below_drew1) | exact HB.out))) : w.heap.size ≤ gb476)); have n3_ := Aside0.mk ((by rw [hg]; exact (below_size (by repeat (first | (with_reducible first | exact HB.out | apply below_alloc | apply pw_below_drewN | apply below_drew1) | exact HB.out))) : w.heap.size ≤ gb476)); clear HB; have HB := n0_; have BK476 := n1_; have GW476 := n2_; have GE476 := n3_; clear n0_ n1_ n2_ n3_; clear hb hbox hg) | ((with_reducible refine gate_dst (N := 3) rfl ?_); refine box_event ?hg (N := 3) ?hd (cs := #[.slice A1_0 l1_0.length c1_0, .slice A1_1 l1_1.length c1_1]) (t := 75) ?hr ?_; (case hd => rfl); (case hg => rfl); (case hr => first | (go_simp; done) | (go_simp; rfl)); intro gb477 hg w8 hbox hb; have n0_ := Aside0.mk (blk_below (g := gb476) (o := .cells #[.slice A0_0 l0_0.length c0_0, .slice A0_1 l0_1.length c0_1] 75 (0, 0)) (by (with_reducible repeat (first | refine blk_drewN ?_ _ | refine blk_drew ?_ | refine blk_alloc ?_ _)); exact BK476.out) hb); have n1_ := Aside0.mk (below_step (by repeat (first | (with_reducible first | exact HB.out | apply below_alloc | apply pw_below_drewN | apply below_drew1 | refine below_set ?_ GE476.out) | exact HB.out)) hb); have n2_ := Aside0.mk (hbox); have n3_ := Aside0.mk ((by rw [hg]; exact (below_size (by repeat (first | (with_reducible first | exact HB.out | apply below_alloc | apply pw_below_drewN | apply below_drew1 | refine below_set ?_ GE476.out) | exact HB.out))) : w.heap.size ≤ gb477)); have n4_ := Aside0.mk ((by rw [hg]; exact (below_size (by repeat (first | (with_reducible first | exact HB.out | apply below_alloc | apply pw_below_drewN | apply below_drew1 | refine below_set ?_ GE476.out) | exact HB.out))) : w.heap.size ≤ gb477)); have n5_ := Aside0.mk ((by rw [hg]; exact Nat.ne_of_lt (blk_lt (g := gb476) (o := .cells #[.slice A0_0 l0_0.length c0_0, .slice A0_1 l0_1.length c0_1] 75 (0, 0)) (by (with_reducible repeat (first | refine blk_drewN ?_ _ | refine blk_drew ?_ | refine blk_alloc ?_ _)); exact BK476.out)) : gb476 ≠ gb477)); have n6_ := Aside0.mk ((by rw [hg]; exact Nat.ne_of_gt (blk_lt (g := gb476) (o := .cells #[.slice A0_0 l0_0.length c0_0, .slice A0_1 l0_1.length c0_1] 75 (0, 0)) (by (with_reducible repeat (first | refine blk_drewN ?_ _ | refine blk_drew ?_ | refine blk_alloc ?_ _)); exact BK476.out)) : gb477 ≠ gb476)); clear BK476; clear HB; have BK476 := n0_; have HB := n1_; have BK477 := n2_; have GW477 := n3_; have GE477 := n4_; have NB476_477 := n5_; have NB477_476 := n6_; clear n0_ n1_ n2_ n3_ n4_ n5_ n6_; clear hb hbox hg; have hnb9 := NB476_477.out; have hnc9 := NB477_476.out; have hcz10_0 : w8.cell? ⟨gb476, 0, none⟩ = some (.slice A0_0 l0_0.length c0_0) := (blk_cell BK476.out 0).trans rfl; have hcz10_1 : w8.cell? ⟨gb476, 1, none⟩ = some (.slice A0_1 l0_1.length c0_1) := (blk_cell BK476.out 1).trans rfl; have hfz10_0 := blk_frozen BK476.out 0; have hfz10_1 := blk_frozen BK476.out 1; have hcz11_0 : w8.cell? ⟨gb477, 0, none⟩ = some (.slice A1_0 l1_0.length c1_0) := (blk_cell BK477.out 0).trans rfl; have hcz11_1 : w8.cell? ⟨gb477, 1, none⟩ = some (.slice A1_1 l1_1.length c1_1) := (blk_cell BK477.out 1).trans rfl; have hfz11_0 := blk_frozen BK477.out 0; have hfz11_1 := blk_frozen BK477.out 1) | ((with_reducible refine gate_callee (f := 29) rfl ?_); refine goesL_ (some 9) rfl rfl Try.func29 (by kernel_rfl) rfl #[.slice A0_0 l0_0.length c0_0, .slice A1_0 l1_0.length c1_0] rfl (by (try simp only [List.map_toArray, List.map_cons, List.map_nil]); first | done | rfl | (simp only [List.length_drop, List.length_take]; rfl)) ?_; (with_reducible refine (laws_eqMarkS.calls k _ _ l0_0 _ _ l1_0 true _ ?side1 ?side2 ?side3 ?side4 A3.out).mono ?_); (case side1 => repeat (first | exact (Kd.C_below HR0_0.out HB.out) | (with_reducible refine Kd.C_alloc ?_ _) | (with_reducible refine Kd.C_drewN ?_ _) | (with_reducible refine Kd.C_drew ?_))); (case side2 => exact HC0_0.out); (case side3 => repeat (first | exact (Kd.C_below HR1_0.out HB.out) | (with_reducible refine Kd.C_alloc ?_ _) | (with_reducible refine Kd.C_drewN ?_ _) | (with_reducible refine Kd.C_drew ?_))); (case side4 => exact HC1_0.out); rintro e w12 ⟨rfl, hb⟩; refine ⟨_, rfl, ?_⟩; have n0_ := Aside0.mk (blk_below (g := gb476) (o := .cells #[.slice A0_0 l0_0.length c0_0, .slice A0_1 l0_1.length c0_1] 75 (0, 0)) (by (with_reducible repeat (first | refine blk_drewN ?_ _ | refine blk_drew ?_ | refine blk_alloc ?_ _)); exact BK476.out) hb); have n1_ := Aside0.mk (blk_below (g := gb477) (o := .cells #[.slice A1_0 l1_0.length c1_0, .slice A1_1 l1_1.length c1_1] 75 (0, 0)) (by (with_reducible repeat (first | refine blk_drewN ?_ _ | refine blk_drew ?_ | refine blk_alloc ?_ _)); exact BK477.out) hb); have n2_ := Aside0.mk (below_step (by repeat (first | (with_reducible first | exact HB.out | apply below_alloc | apply pw_below_drewN | apply below_drew1 | refine below_set ?_ GE476.out | refine below_set ?_ GE477.out) | exact HB.out)) hb); clear BK476; clear BK477; clear HB; have BK476 := n0_; have BK477 := n1_; have HB := n2_; clear n0_ n1_ n2_; (try clear hb); (try clear hb2); (try clear hk); (try clear hi); have hcz13_0 : w12.cell? ⟨gb476, 0, none⟩ = some (.slice A0_0 l0_0.length c0_0) := (blk_cell BK476.out 0).trans rfl; have hcz13_1 : w12.cell? ⟨gb476, 1, none⟩ = some (.slice A0_1 l0_1.length c0_1) := (blk_cell BK476.out 1).trans rfl; have hfz13_0 := blk_frozen BK476.out 0; have hfz13_1 := blk_frozen BK476.out 1; have hcz14_0 : w12.cell? ⟨gb477, 0, none⟩ = some (.slice A1_0 l1_0.length c1_0) := (blk_cell BK477.out 0).trans rfl; have hcz14_1 : w12.cell? ⟨gb477, 1, none⟩ = some (.slice A1_1 l1_1.length c1_1) := (blk_cell BK477.out 1).trans rfl; have hfz14_0 := blk_frozen BK477.out 0; have hfz14_1 := blk_frozen BK477.out 1) | ((with_reducible refine gate_callee (f := 113) rfl ?_); refine goesL_ (some 15) rfl rfl Try.func113 (by kernel_rfl) rfl #[.slice A0_1 l0_1.length c0_1, .slice A1_1 l1_1.length c1_1] rfl (by (try simp only [List.map_toArray, List.map_cons, List.map_nil]); first | done | rfl | (simp only [List.length_drop, List.length_take]; rfl)) ?_; (with_reducible refine (laws_eqSibS.calls k _ _ l0_1 _ _ l1_1 true _ ?side1 ?side2 ?side3 ?side4 A5.out).mono ?_); (case side1 => repeat (first | exact (Kd.C_below HR0_1.out HB.out) | (with_reducible refine Kd.C_alloc ?_ _) | (with_reducible refine Kd.C_drewN ?_ _) | (with_reducible refine Kd.C_drew ?_))); (case side2 => exact HC0_1.out); (case side3 => repeat (first | exact (Kd.C_below HR1_1.out HB.out) | (with_reducible refine Kd.C_alloc ?_ _) | (with_reducible refine Kd.C_drewN ?_ _) | (with_reducible refine Kd.C_drew ?_))); (case side4 => exact HC1_1.out); rintro e w15 ⟨rfl, hb⟩; refine ⟨_, rfl, ?_⟩; have n0_ := Aside0.mk (blk_below (g := gb476) (o := .cells #[.slice A0_0 l0_0.length c0_0, .slice A0_1 l0_1.length c0_1] 75 (0, 0)) (by (with_reducible repeat (first | refine blk_drewN ?_ _ | refine blk_drew ?_ | refine blk_alloc ?_ _)); exact BK476.out) hb); have n1_ := Aside0.mk (blk_below (g := gb477) (o := .cells #[.slice A1_0 l1_0.length c1_0, .slice A1_1 l1_1.length c1_1] 75 (0, 0)) (by (with_reducible repeat (first | refine blk_drewN ?_ _ | refine blk_drew ?_ | refine blk_alloc ?_ _)); exact BK477.out) hb); have n2_ := Aside0.mk (below_step (by repeat (first | (with_reducible first | exact HB.out | apply below_alloc | apply pw_below_drewN | apply below_drew1 | refine below_set ?_ GE476.out | refine below_set ?_ GE477.out) | exact HB.out)) hb); clear BK476; clear BK477; clear HB; have BK476 := n0_; have BK477 := n1_; have HB := n2_; clear n0_ n1_ n2_; (try clear hb); (try clear hb2); (try clear hk); (try clear hi)))
   go_ret
   exact ⟨by first | rfl | (simp [errW_none, errW_some] <;> rfl) | (simp [*, errW_none, errW_some] <;> rfl), by repeat (first | (with_reducible first | exact HB.out | apply below_alloc | apply pw_below_drewN | apply below_drew1 | refine below_set ?_ GE476.out | refine below_set ?_ GE477.out) | exact HB.out)⟩
  ·replace c6 := Bool.eq_false_iff.mpr c6
   subst c6
   have H1 : (none) = some r := by rw [if_neg (show ¬ (false = true) by decide)] at H; exact H
   clear H
   have H := H1
   clear H1
   exact absurd H (by simp)
 ·replace c4 := Bool.eq_false_iff.mpr c4
  subst c4
  have H1 : (none) = some r := by rw [if_neg (show ¬ (false = true) by decide)] at H; exact H
  clear H
  have H := H1
  clear H1
  exact absurd H (by simp)

end Go.Proofs.Ytdjhclgkkklajaa.P

namespace Go.Proofs.Ytdjhclgkkklajaa.P
open Go.RowKit Go.Proofs.YtdjhclgkkklajaaW.PrintWords Go.Proofs.YtdjhclgkkklajaaW.PrintLast Go.Proofs.YtdjhclgkkklajaaW.PrintMore
attribute [local go_sem] max2_int min2_int max_two min_two max_three min_three max_four min_four   -- for this text's walks alone
set_option linter.unusedVariables false
set_option linter.unusedSimpArgs false

/-! ### laws_eqMsg: function 66 -/
def laws_eqMsg.f (k : Nat) (a0_0 : Int) (a0_1 : Int) (a0_2 : Int) (a0_3 : Int) (a0_4 : ByteArray) (a0_5 : Int) (l0_6 : List (S43)) (l0_7 : List (S139)) (a1_0 : Int) (a1_1 : Int) (a1_2 : Int) (a1_3 : Int) (a1_4 : ByteArray) (a1_5 : Int) (l1_6 : List (S43)) (l1_7 : List (S139)) : Option (Bool) := if a0_0 = a1_0 then (if a0_1 = a1_1 then (if a0_2 = a1_2 then (if a0_3 = a1_3 then (if a0_4.toList = a1_4.toList then (if a0_5 = a1_5 then ((laws_eqSet.f k l0_6 l0_7 l1_6 l1_7).bind fun t726 => (if t726 = true then (some true) else (none))) else (none)) else (none)) else (none)) else (none)) else (none)) else (none)
theorem laws_eqMsg.mono : ∀ a0 a1 a2 a3 a4 a5 a6 a7 a8 a9 a10 a11 a12 a13 a14 a15 k, LeO (laws_eqMsg.f k a0 a1 a2 a3 a4 a5 a6 a7 a8 a9 a10 a11 a12 a13 a14 a15) (laws_eqMsg.f (k + 1) a0 a1 a2 a3 a4 a5 a6 a7 a8 a9 a10 a11 a12 a13 a14 a15) := by
 intro a0 a1 a2 a3 a4 a5 a6 a7 a8 a9 a10 a11 a12 a13 a14 a15 k
 unfold laws_eqMsg.f
 repeat' first
   | (with_reducible exact laws_eqSet.mono _ _ _ _ _)
   | (with_reducible exact LeO.refl _)
   | (with_reducible exact LeO.none _)
   | (with_reducible refine LeO.ite ?_ ?_)
   | (with_reducible refine LeO.bind ?_ (fun _ => ?_))
   | exact laws_eqSet.mono _ _ _ _ _
   | exact LeO.none _
   | refine LeO.ite ?_ ?_
   | refine LeO.bind ?_ (fun _ => ?_)
set_option maxHeartbeats 8000000 in
set_option maxRecDepth 100000 in
theorem laws_eqMsg.calls (k : Nat) (a0_0 : Int) (a0_1 : Int) (a0_2 : Int) (a0_3 : Int) (a0_4 : ByteArray) (a0_5 : Int) (A0_6 : Option Addr) (c0_6 : Nat) (l0_6 : List (S43)) (A0_7 : Option Addr) (c0_7 : Nat) (l0_7 : List (S139)) (a1_0 : Int) (a1_1 : Int) (a1_2 : Int) (a1_3 : Int) (a1_4 : ByteArray) (a1_5 : Int) (A1_6 : Option Addr) (c1_6 : Nat) (l1_6 : List (S43)) (A1_7 : Option Addr) (c1_7 : Nat) (l1_7 : List (S139)) (r : Bool) (w : World) (hr0_6 : Kd.C k43 w A0_6 l0_6.length l0_6) (hc0_6 : l0_6.length ≤ c0_6) (hr0_7 : Kd.C k139 w A0_7 l0_7.length l0_7) (hc0_7 : l0_7.length ≤ c0_7) (hr1_6 : Kd.C k43 w A1_6 l1_6.length l1_6) (hc1_6 : l1_6.length ≤ c1_6) (hr1_7 : Kd.C k139 w A1_7 l1_7.length l1_7) (hc1_7 : l1_7.length ≤ c1_7) (h : laws_eqMsg.f k a0_0 a0_1 a0_2 a0_3 a0_4 a0_5 l0_6 l0_7 a1_0 a1_1 a1_2 a1_3 a1_4 a1_5 l1_6 l1_7 = some r) :
  Calls Try.prog 66 #[.agg #[.int .i64 a0_0, .int .i64 a0_1, .int .i64 a0_2, .int .i64 a0_3, .string a0_4, .int .i64 a0_5, .slice A0_6 l0_6.length c0_6, .slice A0_7 l0_7.length c0_7], .agg #[.int .i64 a1_0, .int .i64 a1_1, .int .i64 a1_2, .int .i64 a1_3, .string a1_4, .int .i64 a1_5, .slice A1_6 l1_6.length c1_6, .slice A1_7 l1_7.length c1_7]] w fun e w' => e = .returned (.bool r) ∧ Below w.heap.size w w' := by
 have hu102 := Try.underlying102
 have hu75 := Try.underlying75
 have HR0_6 := Aside0.mk hr0_6
 have HC0_6 := Aside0.mk hc0_6
 clear hr0_6 hc0_6
 have HR0_7 := Aside0.mk hr0_7
 have HC0_7 := Aside0.mk hc0_7
 clear hr0_7 hc0_7
 have HR1_6 := Aside0.mk hr1_6
 have HC1_6 := Aside0.mk hc1_6
 clear hr1_6 hc1_6
 have HR1_7 := Aside0.mk hr1_7
 have HC1_7 := Aside0.mk hc1_7
 clear hr1_7 hc1_7
 have HB := Aside0.mk (Below.refl w.heap.size w)
 have H : (if a0_0 = a1_0 then (if a0_1 = a1_1 then (if a0_2 = a1_2 then (if a0_3 = a1_3 then (if a0_4.toList = a1_4.toList then (if a0_5 = a1_5 then ((laws_eqSet.f k l0_6 l0_7 l1_6 l1_7).bind fun t726 => (if t726 = true then (some true) else (none))) else (none)) else (none)) else (none)) else (none)) else (none)) else (none)) = some r := h
 clear h
 by_cases c3 : a0_0 = a1_0
 ·rw [if_pos c3] at H
  have c3b0 : (a0_0 == a1_0) = true := beq_iff_eq.mpr c3
  have c3b1 : (a0_0 != a1_0) = false := bne_eq_false_iff_eq.mpr c3
  clear c3
  by_cases c4 : a0_1 = a1_1
  ·rw [if_pos c4] at H
   have c4b0 : (a0_1 == a1_1) = true := beq_iff_eq.mpr c4
   have c4b1 : (a0_1 != a1_1) = false := bne_eq_false_iff_eq.mpr c4
   clear c4
   by_cases c5 : a0_2 = a1_2
   ·rw [if_pos c5] at H
    have c5b0 : (a0_2 == a1_2) = true := beq_iff_eq.mpr c5
    have c5b1 : (a0_2 != a1_2) = false := bne_eq_false_iff_eq.mpr c5
    clear c5
    by_cases c6 : a0_3 = a1_3
    ·rw [if_pos c6] at H
     have c6b0 : (a0_3 == a1_3) = true := beq_iff_eq.mpr c6
     have c6b1 : (a0_3 != a1_3) = false := bne_eq_false_iff_eq.mpr c6
     clear c6
     by_cases c7 : a0_4.toList = a1_4.toList
     ·rw [if_pos c7] at H
      have c7b0 : (a0_4.toList == a1_4.toList) = true := beq_iff_eq.mpr c7
      have c7b1 : (a0_4.toList != a1_4.toList) = false := bne_eq_false_iff_eq.mpr c7
      clear c7
      by_cases c8 : a0_5 = a1_5
      ·rw [if_pos c8] at H
       have c8b0 : (a0_5 == a1_5) = true := beq_iff_eq.mpr c8
       have c8b1 : (a0_5 != a1_5) = false := bne_eq_false_iff_eq.mpr c8
       clear c8
       replace H := Option.bind_eq_some_iff.mp H
       obtain ⟨t726, A90, H⟩ := H
       replace H : (if t726 = true then (some true) else (none)) = some r := H
       have A9 := Aside0.mk A90
       clear A90
       by_cases c10 : t726 = true
       ·subst c10
        have H1 : (some true) = some r := by rw [if_pos rfl] at H; exact H
        clear H
        have H := H1
        clear H1
        obtain rfl := Option.some.inj H
        go_enter Try.func66, Try.ntmps66
        go_wp2_with (first | ((with_reducible refine gate_dst (N := 2) rfl ?_); refine box_event ?hg (N := 2) ?hd (cs := #[.int .i64 a0_0, .int .i64 a0_1, .int .i64 a0_2, .int .i64 a0_3, .string a0_4, .int .i64 a0_5, .slice A0_6 l0_6.length c0_6, .slice A0_7 l0_7.length c0_7]) (t := 102) ?hr ?_; (case hd => rfl); (case hg => rfl); (case hr => first | (go_simp; done) | (go_simp; rfl)); intro gb724 hg w11 hbox hb; have n0_ := Aside0.mk (below_step (by repeat (first | (with_reducible first | exact HB.out | apply below_alloc | apply pw_below_drewN | apply below_drew1) | exact HB.out)) hb); have n1_ := Aside0.mk (hbox); have n2_ := Aside0.mk ((by rw [hg]; exact (below_size (by repeat (first | (with_reducible first | exact HB.out | apply below_alloc | apply pw_below_drewN | apply below_drew1) | exact HB.out))) : w.heap.size ≤ gb724)); have n3_ := Aside0.mk ((by rw [hg]; exact (below_size (by repeat (first | (with_reducible first | exact HB.out | apply below_alloc | apply pw_below_drewN | apply below_drew1) | exact HB.out))) : w.heap.size ≤ gb724)); clear HB; have HB := n0_; have BK724 := n1_; have GW724 := n2_; have GE724 := n3_; clear n0_ n1_ n2_ n3_; clear hb hbox hg) | ((with_reducible refine gate_dst (N := 3) rfl ?_); refine box_event ?hg (N := 3) ?hd (cs := #[.int .i64 a1_0, .int .i64 a1_1, .int .i64 a1_2, .int .i64 a1_3, .string a1_4, .int .i64 a1_5, .slice A1_6 l1_6.length c1_6, .slice A1_7 l1_7.length c1_7]) (t := 102) ?hr ?_; (case hd => rfl); (case hg => rfl); (case hr => first | (go_simp; done) | (go_simp; rfl)); intro gb725 hg w12 hbox hb; have n0_ := Aside0.mk (blk_below (g := gb724) (o := .cells #[.int .i64 a0_0, .int .i64 a0_1, .int .i64 a0_2, .int .i64 a0_3, .string a0_4, .int .i64 a0_5, .slice A0_6 l0_6.length c0_6, .slice A0_7 l0_7.length c0_7] 102 (0, 0)) (by (with_reducible repeat (first | refine blk_drewN ?_ _ | refine blk_drew ?_ | refine blk_alloc ?_ _)); exact BK724.out) hb); have n1_ := Aside0.mk (below_step (by repeat (first | (with_reducible first | exact HB.out | apply below_alloc | apply pw_below_drewN | apply below_drew1 | refine below_set ?_ GE724.out) | exact HB.out)) hb); have n2_ := Aside0.mk (hbox); have n3_ := Aside0.mk ((by rw [hg]; exact (below_size (by repeat (first | (with_reducible first | exact HB.out | apply below_alloc | apply pw_below_drewN | apply below_drew1 | refine below_set ?_ GE724.out) | exact HB.out))) : w.heap.size ≤ gb725)); have n4_ := Aside0.mk ((by rw [hg]; exact (below_size (by repeat (first | (with_reducible first | exact HB.out | apply below_alloc | apply pw_below_drewN | apply below_drew1 | refine below_set ?_ GE724.out) | exact HB.out))) : w.heap.size ≤ gb725)); have n5_ := Aside0.mk ((by rw [hg]; exact Nat.ne_of_lt (blk_lt (g := gb724) (o := .cells #[.int .i64 a0_0, .int .i64 a0_1, .int .i64 a0_2, .int .i64 a0_3, .string a0_4, .int .i64 a0_5, .slice A0_6 l0_6.length c0_6, .slice A0_7 l0_7.length c0_7] 102 (0, 0)) (by (with_reducible repeat (first | refine blk_drewN ?_ _ | refine blk_drew ?_ | refine blk_alloc ?_ _)); exact BK724.out)) : gb724 ≠ gb725)); have n6_ := Aside0.mk ((by rw [hg]; exact Nat.ne_of_gt (blk_lt (g := gb724) (o := .cells #[.int .i64 a0_0, .int .i64 a0_1, .int .i64 a0_2, .int .i64 a0_3, .string a0_4, .int .i64 a0_5, .slice A0_6 l0_6.length c0_6, .slice A0_7 l0_7.length c0_7] 102 (0, 0)) (by (with_reducible repeat (first | refine blk_drewN ?_ _ | refine blk_drew ?_ | refine blk_alloc ?_ _)); exact BK724.out)) : gb725 ≠ gb724)); clear BK724; clear HB; have BK724 := n0_; have HB := n1_; have BK725 := n2_; have GW725 := n3_; have GE725 := n4_; have NB724_725 := n5_; have NB725_724 := n6_; clear n0_ n1_ n2_ n3_ n4_ n5_ n6_; clear hb hbox hg; have hnb13 := NB724_725.out; have hnc13 := NB725_724.out; have hcz14_0 : w12.cell? ⟨gb724, 0, none⟩ = some (.int .i64 a0_0) := (blk_cell BK724.out 0).trans rfl; have hcz14_1 : w12.cell? ⟨gb724, 1, none⟩ = some (.int .i64 a0_1) := (blk_cell BK724.out 1).trans rfl; have hcz14_2 : w12.cell? ⟨gb724, 2, none⟩ = some (.int .i64 a0_2) := (blk_cell BK724.out 2).trans rfl; have hcz14_3 : w12.cell? ⟨gb724, 3, none⟩ = some (.int .i64 a0_3) := (blk_cell BK724.out 3).trans rfl; have hcz14_4 : w12.cell? ⟨gb724, 4, none⟩ = some (.string a0_4) := (blk_cell BK724.out 4).trans rfl; have hcz14_5 : w12.cell? ⟨gb724, 5, none⟩ = some (.int .i64 a0_5) := (blk_cell BK724.out 5).trans rfl; have hcz14_6 : w12.cell? ⟨gb724, 6, none⟩ = some (.slice A0_6 l0_6.length c0_6) := (blk_cell BK724.out 6).trans rfl; have hcz14_7 : w12.cell? ⟨gb724, 7, none⟩ = some (.slice A0_7 l0_7.length c0_7) := (blk_cell BK724.out 7).trans rfl; have hfz14_0 := blk_frozen BK724.out 0; have hfz14_1 := blk_frozen BK724.out 1; have hfz14_2 := blk_frozen BK724.out 2; have hfz14_3 := blk_frozen BK724.out 3; have hfz14_4 := blk_frozen BK724.out 4; have hfz14_5 := blk_frozen BK724.out 5; have hfz14_6 := blk_frozen BK724.out 6; have hfz14_7 := blk_frozen BK724.out 7; have hcz15_0 : w12.cell? ⟨gb725, 0, none⟩ = some (.int .i64 a1_0) := (blk_cell BK725.out 0).trans rfl; have hcz15_1 : w12.cell? ⟨gb725, 1, none⟩ = some (.int .i64 a1_1) := (blk_cell BK725.out 1).trans rfl; have hcz15_2 : w12.cell? ⟨gb725, 2, none⟩ = some (.int .i64 a1_2) := (blk_cell BK725.out 2).trans rfl; have hcz15_3 : w12.cell? ⟨gb725, 3, none⟩ = some (.int .i64 a1_3) := (blk_cell BK725.out 3).trans rfl; have hcz15_4 : w12.cell? ⟨gb725, 4, none⟩ = some (.string a1_4) := (blk_cell BK725.out 4).trans rfl; have hcz15_5 : w12.cell? ⟨gb725, 5, none⟩ = some (.int .i64 a1_5) := (blk_cell BK725.out 5).trans rfl; have hcz15_6 : w12.cell? ⟨gb725, 6, none⟩ = some (.slice A1_6 l1_6.length c1_6) := (blk_cell BK725.out 6).trans rfl; have hcz15_7 : w12.cell? ⟨gb725, 7, none⟩ = some (.slice A1_7 l1_7.length c1_7) := (blk_cell BK725.out 7).trans rfl; have hfz15_0 := blk_frozen BK725.out 0; have hfz15_1 := blk_frozen BK725.out 1; have hfz15_2 := blk_frozen BK725.out 2; have hfz15_3 := blk_frozen BK725.out 3; have hfz15_4 := blk_frozen BK725.out 4; have hfz15_5 := blk_frozen BK725.out 5; have hfz15_6 := blk_frozen BK725.out 6; have hfz15_7 := blk_frozen BK725.out 7) | ((with_reducible refine gate_callee (f := 46) rfl ?_); refine goesL_ (some 39) rfl rfl Try.func46 (by kernel_rfl) rfl #[.agg #[.slice A0_6 l0_6.length c0_6, .slice A0_7 l0_7.length c0_7], .agg #[.slice A1_6 l1_6.length c1_6, .slice A1_7 l1_7.length c1_7]] rfl (by (try simp only [List.map_toArray, List.map_cons, List.map_nil]); first | done | rfl | (simp only [List.length_drop, List.length_take]; rfl)) ?_; (with_reducible refine (laws_eqSet.calls k _ _ l0_6 _ _ l0_7 _ _ l1_6 _ _ l1_7 true _ ?side1 ?side2 ?side3 ?side4 ?side5 ?side6 ?side7 ?side8 A9.out).mono ?_); (case side1 => repeat (first | exact (Kd.C_below HR0_6.out HB.out) | (with_reducible refine Kd.C_alloc ?_ _) | (with_reducible refine Kd.C_drewN ?_ _) | (with_reducible refine Kd.C_drew ?_))); (case side2 => exact HC0_6.out); (case side3 => repeat (first | exact (Kd.C_below HR0_7.out HB.out) | (with_reducible refine Kd.C_alloc ?_ _) | (with_reducible refine Kd.C_drewN ?_ _) | (with_reducible refine Kd.C_drew ?_))); (case side4 => exact HC0_7.out); (case side5 => repeat (first | exact (Kd.C_below HR1_6.out HB.out) | (with_reducible refine Kd.C_alloc ?_ _) | (with_reducible refine Kd.C_drewN ?_ _) | (with_reducible refine Kd.C_drew ?_))); (case side6 => exact HC1_6.out); (case side7 => repeat (first | exact (Kd.C_below HR1_7.out HB.out) | (with_reducible refine Kd.C_alloc ?_ _) | (with_reducible refine Kd.C_drewN ?_ _) | (with_reducible refine Kd.C_drew ?_))); (case side8 => exact HC1_7.out); rintro e w16 ⟨rfl, hb⟩; refine ⟨_, rfl, ?_⟩; have n0_ := Aside0.mk (blk_below (g := gb724) (o := .cells #[.int .i64 a0_0, .int .i64 a0_1, .int .i64 a0_2, .int .i64 a0_3, .string a0_4, .int .i64 a0_5, .slice A0_6 l0_6.length c0_6, .slice A0_7 l0_7.length c0_7] 102 (0, 0)) (by (with_reducible repeat (first | refine blk_drewN ?_ _ | refine blk_drew ?_ | refine blk_alloc ?_ _)); exact BK724.out) hb); have n1_ := Aside0.mk (blk_below (g := gb725) (o := .cells #[.int .i64 a1_0, .int .i64 a1_1, .int .i64 a1_2, .int .i64 a1_3, .string a1_4, .int .i64 a1_5, .slice A1_6 l1_6.length c1_6, .slice A1_7 l1_7.length c1_7] 102 (0, 0)) (by (with_reducible repeat (first | refine blk_drewN ?_ _ | refine blk_drew ?_ | refine blk_alloc ?_ _)); exact BK725.out) hb); have n2_ := Aside0.mk (below_step (by repeat (first | (with_reducible first | exact HB.out | apply below_alloc | apply pw_below_drewN | apply below_drew1 | refine below_set ?_ GE724.out | refine below_set ?_ GE725.out) | exact HB.out)) hb); clear BK724; clear BK725; clear HB; have BK724 := n0_; have BK725 := n1_; have HB := n2_; clear n0_ n1_ n2_; (try clear hb); (try clear hb2); (try clear hk); (try clear hi)))
        go_ret
        exact ⟨by first | rfl | (simp [errW_none, errW_some] <;> rfl) | (simp [*, errW_none, errW_some] <;> rfl), by repeat (first | (with_reducible first | exact HB.out | apply below_alloc | apply pw_below_drewN | apply below_drew1 | refine below_set ?_ GE724.out | refine below_set ?_ GE725.out) | exact HB.out)⟩
       ·replace c10 := Bool.eq_false_iff.mpr c10
        subst c10
        have H1 : (none) = some r := by rw [if_neg (show ¬ (false = true) by decide)] at H; exact H
        clear H
        have H := H1
        clear H1
        exact absurd H (by simp)
      ·rw [if_neg c8] at H
       exact absurd H (by simp)
     ·rw [if_neg c7] at H
      exact absurd H (by simp)
    ·rw [if_neg c6] at H
     exact absurd H (by simp)
   ·rw [if_neg c5] at H
    exact absurd H (by simp)
  ·rw [if_neg c4] at H
   exact absurd H (by simp)
 ·rw [if_neg c3] at H
  exact absurd H (by simp)

end Go.Proofs.Ytdjhclgkkklajaa.P

namespace Go.Proofs.Ytdjhclgkkklajaa.P
open Go.RowKit Go.Proofs.YtdjhclgkkklajaaW.PrintWords Go.Proofs.YtdjhclgkkklajaaW.PrintLast Go.Proofs.YtdjhclgkkklajaaW.PrintMore
attribute [local go_sem] max2_int min2_int max_two min_two max_three min_three max_four min_four   -- for this text's walks alone
set_option linter.unusedVariables false
set_option linter.unusedSimpArgs false

/-! ### laws_FnExactMsgRight: function 12 -/
def laws_FnExactMsgRight.f (k : Nat) (a0_0 : Int) (a0_1 : Int) (a0_2 : Int) (a0_3 : Int) (a0_4 : ByteArray) (a0_5 : Int) (l0_6 : List (S36)) (l0_7 : List (S177)) : Option (Bool) := (laws_szMsg.f k a0_0 a0_1 a0_2 a0_3 a0_4 a0_5 l0_6 l0_7 1048576).bind fun t728 => (if t728 < 0 then (some true) else ((laws_toMsg.f k a0_0 a0_1 a0_2 a0_3 a0_4 a0_5 l0_6 l0_7).bind fun bt729 => ((spec_MsgRight.f k bt729.1 bt729.2.1 bt729.2.2.1 bt729.2.2.2.1 bt729.2.2.2.2.1 bt729.2.2.2.2.2.1 bt729.2.2.2.2.2.2.1 bt729.2.2.2.2.2.2.2).bind fun t741 => ((laws_toMsg.f k a0_0 a0_1 a0_2 a0_3 a0_4 a0_5 l0_6 l0_7).bind fun bt742 => ((impl_MsgRight.f k bt742.1 bt742.2.1 bt742.2.2.1 bt742.2.2.2.1 bt742.2.2.2.2.1 bt742.2.2.2.2.2.1 bt742.2.2.2.2.2.2.1 bt742.2.2.2.2.2.2.2).bind fun t755 => (if (t755 != t741) = true then (none) else ((laws_toMsg.f k a0_0 a0_1 a0_2 a0_3 a0_4 a0_5 l0_6 l0_7).bind fun bt756 => ((laws_eqMsg.f k bt742.1 bt742.2.1 bt742.2.2.1 bt742.2.2.2.1 bt742.2.2.2.2.1 bt742.2.2.2.2.2.1 bt742.2.2.2.2.2.2.1 bt742.2.2.2.2.2.2.2 bt756.1 bt756.2.1 bt756.2.2.1 bt756.2.2.2.1 bt756.2.2.2.2.1 bt756.2.2.2.2.2.1 bt756.2.2.2.2.2.2.1 bt756.2.2.2.2.2.2.2).bind fun t768 => (if t768 = true then (some true) else (none))))))))))
theorem laws_FnExactMsgRight.mono : ∀ a0 a1 a2 a3 a4 a5 a6 a7 k, LeO (laws_FnExactMsgRight.f k a0 a1 a2 a3 a4 a5 a6 a7) (laws_FnExactMsgRight.f (k + 1) a0 a1 a2 a3 a4 a5 a6 a7) := by
 intro a0 a1 a2 a3 a4 a5 a6 a7 k
 unfold laws_FnExactMsgRight.f
 repeat' first
   | (with_reducible exact impl_MsgRight.mono _ _ _ _ _ _ _ _ _)
   | (with_reducible exact laws_eqMsg.mono _ _ _ _ _ _ _ _ _ _ _ _ _ _ _ _ _)
   | (with_reducible exact laws_szMsg.mono _ _ _ _ _ _ _ _ _ _)
   | (with_reducible exact laws_toMsg.mono _ _ _ _ _ _ _ _ _)
   | (with_reducible exact spec_MsgRight.mono _ _ _ _ _ _ _ _ _)
   | (with_reducible exact LeO.refl _)
   | (with_reducible exact LeO.none _)
   | (with_reducible refine LeO.ite ?_ ?_)
   | (with_reducible refine LeO.bind ?_ (fun _ => ?_))
   | exact impl_MsgRight.mono _ _ _ _ _ _ _ _ _
   | exact laws_eqMsg.mono _ _ _ _ _ _ _ _ _ _ _ _ _ _ _ _ _
   | exact laws_szMsg.mono _ _ _ _ _ _ _ _ _ _
   | exact laws_toMsg.mono _ _ _ _ _ _ _ _ _
   | exact spec_MsgRight.mono _ _ _ _ _ _ _ _ _
   | exact LeO.none _
   | refine LeO.ite ?_ ?_
   | refine LeO.bind ?_ (fun _ => ?_)
set_option maxHeartbeats 8000000 in
set_option maxRecDepth 100000 in
theorem laws_FnExactMsgRight.calls (k : Nat) (a0_0 : Int) (a0_1 : Int) (a0_2 : Int) (a0_3 : Int) (a0_4 : ByteArray) (a0_5 : Int) (A0_6 : Option Addr) (c0_6 : Nat) (l0_6 : List (S36)) (A0_7 : Option Addr) (c0_7 : Nat) (l0_7 : List (S177)) (r : Bool) (w : World) (hr0_6 : Kd.C k36 w A0_6 l0_6.length l0_6) (hc0_6 : l0_6.length ≤ c0_6) (hr0_7 : Kd.C k177 w A0_7 l0_7.length l0_7) (hc0_7 : l0_7.length ≤ c0_7) (h : laws_FnExactMsgRight.f k a0_0 a0_1 a0_2 a0_3 a0_4 a0_5 l0_6 l0_7 = some r) :
  Calls Try.prog 12 #[.agg #[.int .i64 a0_0, .int .i64 a0_1, .int .i64 a0_2, .int .i64 a0_3, .string a0_4, .int .i64 a0_5, .slice A0_6 l0_6.length c0_6, .slice A0_7 l0_7.length c0_7]] w fun e w' => e = .returned (.bool r) ∧ Below w.heap.size w w' := by
 have hu98 := Try.underlying98
 have hu102 := Try.underlying102
 have HR0_6 := Aside0.mk hr0_6
 have HC0_6 := Aside0.mk hc0_6
 clear hr0_6 hc0_6
 have HR0_7 := Aside0.mk hr0_7
 have HC0_7 := Aside0.mk hc0_7
 clear hr0_7 hc0_7
 have HB := Aside0.mk (Below.refl w.heap.size w)
 have H : ((laws_szMsg.f k a0_0 a0_1 a0_2 a0_3 a0_4 a0_5 l0_6 l0_7 1048576).bind fun t728 => (if t728 < 0 then (some true) else ((laws_toMsg.f k a0_0 a0_1 a0_2 a0_3 a0_4 a0_5 l0_6 l0_7).bind fun bt729 => ((spec_MsgRight.f k bt729.1 bt729.2.1 bt729.2.2.1 bt729.2.2.2.1 bt729.2.2.2.2.1 bt729.2.2.2.2.2.1 bt729.2.2.2.2.2.2.1 bt729.2.2.2.2.2.2.2).bind fun t741 => ((laws_toMsg.f k a0_0 a0_1 a0_2 a0_3 a0_4 a0_5 l0_6 l0_7).bind fun bt742 => ((impl_MsgRight.f k bt742.1 bt742.2.1 bt742.2.2.1 bt742.2.2.2.1 bt742.2.2.2.2.1 bt742.2.2.2.2.2.1 bt742.2.2.2.2.2.2.1 bt742.2.2.2.2.2.2.2).bind fun t755 => (if (t755 != t741) = true then (none) else ((laws_toMsg.f k a0_0 a0_1 a0_2 a0_3 a0_4 a0_5 l0_6 l0_7).bind fun bt756 => ((laws_eqMsg.f k bt742.1 bt742.2.1 bt742.2.2.1 bt742.2.2.2.1 bt742.2.2.2.2.1 bt742.2.2.2.2.2.1 bt742.2.2.2.2.2.2.1 bt742.2.2.2.2.2.2.2 bt756.1 bt756.2.1 bt756.2.2.1 bt756.2.2.2.1 bt756.2.2.2.2.1 bt756.2.2.2.2.2.1 bt756.2.2.2.2.2.2.1 bt756.2.2.2.2.2.2.2).bind fun t768 => (if t768 = true then (some true) else (none))))))))))) = some r := h
 clear h
 replace H := Option.bind_eq_some_iff.mp H
 obtain ⟨t728, A20, H⟩ := H
 replace H : (if t728 < 0 then (some true) else ((laws_toMsg.f k a0_0 a0_1 a0_2 a0_3 a0_4 a0_5 l0_6 l0_7).bind fun bt729 => ((spec_MsgRight.f k bt729.1 bt729.2.1 bt729.2.2.1 bt729.2.2.2.1 bt729.2.2.2.2.1 bt729.2.2.2.2.2.1 bt729.2.2.2.2.2.2.1 bt729.2.2.2.2.2.2.2).bind fun t741 => ((laws_toMsg.f k a0_0 a0_1 a0_2 a0_3 a0_4 a0_5 l0_6 l0_7).bind fun bt742 => ((impl_MsgRight.f k bt742.1 bt742.2.1 bt742.2.2.1 bt742.2.2.2.1 bt742.2.2.2.2.1 bt742.2.2.2.2.2.1 bt742.2.2.2.2.2.2.1 bt742.2.2.2.2.2.2.2).bind fun t755 => (if (t755 != t741) = true then (none) else ((laws_toMsg.f k a0_0 a0_1 a0_2 a0_3 a0_4 a0_5 l0_6 l0_7).bind fun bt756 => ((laws_eqMsg.f k bt742.1 bt742.2.1 bt742.2.2.1 bt742.2.2.2.1 bt742.2.2.2.2.1 bt742.2.2.2.2.2.1 bt742.2.2.2.2.2.2.1 bt742.2.2.2.2.2.2.2 bt756.1 bt756.2.1 bt756.2.2.1 bt756.2.2.2.1 bt756.2.2.2.2.1 bt756.2.2.2.2.2.1 bt756.2.2.2.2.2.2.1 bt756.2.2.2.2.2.2.2).bind fun t768 => (if t768 = true then (some true) else (none)))))))))) = some r := H
 have A2 := Aside0.mk A20
 clear A20
 by_cases c3 : t728 < 0
 ·rw [if_pos c3] at H
  have c3b0 : decide (t728 < 0) = true := decide_eq_true c3
  clear c3
  obtain rfl := Option.some.inj H
  go_enter Try.func12, Try.ntmps12
  go_wp2_with (first | ((with_reducible refine gate_dst (N := 1) rfl ?_); refine box_event ?hg (N := 1) ?hd (cs := #[.int .i64 a0_0, .int .i64 a0_1, .int .i64 a0_2, .int .i64 a0_3, .string a0_4, .int .i64 a0_5, .slice A0_6 l0_6.length c0_6, .slice A0_7 l0_7.length c0_7]) (t := 98) ?hr ?_; (case hd => rfl); (case hg => rfl); (case hr => first | (go_simp; done) | (go_simp; rfl)); intro gb727 hg w4 hbox hb; have n0_ := Aside0.mk (below_step (by repeat (first | (with_reducible first | exact HB.out | apply below_alloc | apply pw_below_drewN | apply below_drew1) | exact HB.out)) hb); have n1_ := Aside0.mk (hbox); have n2_ := Aside0.mk ((by rw [hg]; exact (below_size (by repeat (first | (with_reducible first | exact HB.out | apply below_alloc | apply pw_below_drewN | apply below_drew1) | exact HB.out))) : w.heap.size ≤ gb727)); have n3_ := Aside0.mk ((by rw [hg]; exact (below_size (by repeat (first | (with_reducible first | exact HB.out | apply below_alloc | apply pw_below_drewN | apply below_drew1) | exact HB.out))) : w.heap.size ≤ gb727)); clear HB; have HB := n0_; have BK727 := n1_; have GW727 := n2_; have GE727 := n3_; clear n0_ n1_ n2_ n3_; clear hb hbox hg; have hcz5_0 : w4.cell? ⟨gb727, 0, none⟩ = some (.int .i64 a0_0) := (blk_cell BK727.out 0).trans rfl; have hcz5_1 : w4.cell? ⟨gb727, 1, none⟩ = some (.int .i64 a0_1) := (blk_cell BK727.out 1).trans rfl; have hcz5_2 : w4.cell? ⟨gb727, 2, none⟩ = some (.int .i64 a0_2) := (blk_cell BK727.out 2).trans rfl; have hcz5_3 : w4.cell? ⟨gb727, 3, none⟩ = some (.int .i64 a0_3) := (blk_cell BK727.out 3).trans rfl; have hcz5_4 : w4.cell? ⟨gb727, 4, none⟩ = some (.string a0_4) := (blk_cell BK727.out 4).trans rfl; have hcz5_5 : w4.cell? ⟨gb727, 5, none⟩ = some (.int .i64 a0_5) := (blk_cell BK727.out 5).trans rfl; have hcz5_6 : w4.cell? ⟨gb727, 6, none⟩ = some (.slice A0_6 l0_6.length c0_6) := (blk_cell BK727.out 6).trans rfl; have hcz5_7 : w4.cell? ⟨gb727, 7, none⟩ = some (.slice A0_7 l0_7.length c0_7) := (blk_cell BK727.out 7).trans rfl; have hfz5_0 := blk_frozen BK727.out 0; have hfz5_1 := blk_frozen BK727.out 1; have hfz5_2 := blk_frozen BK727.out 2; have hfz5_3 := blk_frozen BK727.out 3; have hfz5_4 := blk_frozen BK727.out 4; have hfz5_5 := blk_frozen BK727.out 5; have hfz5_6 := blk_frozen BK727.out 6; have hfz5_7 := blk_frozen BK727.out 7) | ((with_reducible refine gate_callee (f := 62) rfl ?_); refine goesL_ (some 9) rfl rfl Try.func62 (by kernel_rfl) rfl #[.agg #[.int .i64 a0_0, .int .i64 a0_1, .int .i64 a0_2, .int .i64 a0_3, .string a0_4, .int .i64 a0_5, .slice A0_6 l0_6.length c0_6, .slice A0_7 l0_7.length c0_7], .int .i64 1048576] rfl (by (try simp only [List.map_toArray, List.map_cons, List.map_nil]); first | done | rfl | (simp only [List.length_drop, List.length_take]; rfl)) ?_; (with_reducible refine (laws_szMsg.calls k a0_0 a0_1 a0_2 a0_3 a0_4 a0_5 _ _ l0_6 _ _ l0_7 1048576 t728 _ ?side1 ?side2 ?side3 ?side4 A2.out).mono ?_); (case side1 => repeat (first | exact (Kd.C_below HR0_6.out HB.out) | (with_reducible refine Kd.C_alloc ?_ _) | (with_reducible refine Kd.C_drewN ?_ _) | (with_reducible refine Kd.C_drew ?_))); (case side2 => exact HC0_6.out); (case side3 => repeat (first | exact (Kd.C_below HR0_7.out HB.out) | (with_reducible refine Kd.C_alloc ?_ _) | (with_reducible refine Kd.C_drewN ?_ _) | (with_reducible refine Kd.C_drew ?_))); (case side4 => exact HC0_7.out); rintro e w6 ⟨rfl, hb⟩; refine ⟨_, rfl, ?_⟩; have n0_ := Aside0.mk (blk_below (g := gb727) (o := .cells #[.int .i64 a0_0, .int .i64 a0_1, .int .i64 a0_2, .int .i64 a0_3, .string a0_4, .int .i64 a0_5, .slice A0_6 l0_6.length c0_6, .slice A0_7 l0_7.length c0_7] 98 (0, 0)) (by (with_reducible repeat (first | refine blk_drewN ?_ _ | refine blk_drew ?_ | refine blk_alloc ?_ _)); exact BK727.out) hb); have n1_ := Aside0.mk (below_step (by repeat (first | (with_reducible first | exact HB.out | apply below_alloc | apply pw_below_drewN | apply below_drew1 | refine below_set ?_ GE727.out) | exact HB.out)) hb); clear BK727; clear HB; have BK727 := n0_; have HB := n1_; clear n0_ n1_; (try clear hb); (try clear hb2); (try clear hk); (try clear hi)))
  go_ret
  exact ⟨by first | rfl | (simp [errW_none, errW_some] <;> rfl) | (simp [*, errW_none, errW_some] <;> rfl), by repeat (first | (with_reducible first | exact HB.out | apply below_alloc | apply pw_below_drewN | apply below_drew1 | refine below_set ?_ GE727.out) | exact HB.out)⟩
 ·rw [if_neg c3] at H
  have c3b0 : decide (t728 < 0) = false := decide_eq_false c3
  clear c3
  replace H := Option.bind_eq_some_iff.mp H
  obtain ⟨⟨t729, t730, t731, t732, t733, t734, t735, t738⟩, A70, H⟩ := H
  replace H : ((spec_MsgRight.f k t729 t730 t731 t732 t733 t734 t735 t738).bind fun t741 => ((laws_toMsg.f k a0_0 a0_1 a0_2 a0_3 a0_4 a0_5 l0_6 l0_7).bind fun bt742 => ((impl_MsgRight.f k bt742.1 bt742.2.1 bt742.2.2.1 bt742.2.2.2.1 bt742.2.2.2.2.1 bt742.2.2.2.2.2.1 bt742.2.2.2.2.2.2.1 bt742.2.2.2.2.2.2.2).bind fun t755 => (if (t755 != t741) = true then (none) else ((laws_toMsg.f k a0_0 a0_1 a0_2 a0_3 a0_4 a0_5 l0_6 l0_7).bind fun bt756 => ((laws_eqMsg.f k bt742.1 bt742.2.1 bt742.2.2.1 bt742.2.2.2.1 bt742.2.2.2.2.1 bt742.2.2.2.2.2.1 bt742.2.2.2.2.2.2.1 bt742.2.2.2.2.2.2.2 bt756.1 bt756.2.1 bt756.2.2.1 bt756.2.2.2.1 bt756.2.2.2.2.1 bt756.2.2.2.2.2.1 bt756.2.2.2.2.2.2.1 bt756.2.2.2.2.2.2.2).bind fun t768 => (if t768 = true then (some true) else (none)))))))) = some r := H
  have A7 := Aside0.mk A70
  clear A70
  replace H := Option.bind_eq_some_iff.mp H
  obtain ⟨t741, A80, H⟩ := H
  replace H : ((laws_toMsg.f k a0_0 a0_1 a0_2 a0_3 a0_4 a0_5 l0_6 l0_7).bind fun bt742 => ((impl_MsgRight.f k bt742.1 bt742.2.1 bt742.2.2.1 bt742.2.2.2.1 bt742.2.2.2.2.1 bt742.2.2.2.2.2.1 bt742.2.2.2.2.2.2.1 bt742.2.2.2.2.2.2.2).bind fun t755 => (if (t755 != t741) = true then (none) else ((laws_toMsg.f k a0_0 a0_1 a0_2 a0_3 a0_4 a0_5 l0_6 l0_7).bind fun bt756 => ((laws_eqMsg.f k bt742.1 bt742.2.1 bt742.2.2.1 bt742.2.2.2.1 bt742.2.2.2.2.1 bt742.2.2.2.2.2.1 bt742.2.2.2.2.2.2.1 bt742.2.2.2.2.2.2.2 bt756.1 bt756.2.1 bt756.2.2.1 bt756.2.2.2.1 bt756.2.2.2.2.1 bt756.2.2.2.2.2.1 bt756.2.2.2.2.2.2.1 bt756.2.2.2.2.2.2.2).bind fun t768 => (if t768 = true then (some true) else (none))))))) = some r := H
  have A8 := Aside0.mk A80
  clear A80
  replace H := Option.bind_eq_some_iff.mp H
  obtain ⟨⟨t742, t743, t744, t745, t746, t747, t748, t751⟩, A90, H⟩ := H
  replace H : ((impl_MsgRight.f k t742 t743 t744 t745 t746 t747 t748 t751).bind fun t755 => (if (t755 != t741) = true then (none) else ((laws_toMsg.f k a0_0 a0_1 a0_2 a0_3 a0_4 a0_5 l0_6 l0_7).bind fun bt756 => ((laws_eqMsg.f k t742 t743 t744 t745 t746 t747 t748 t751 bt756.1 bt756.2.1 bt756.2.2.1 bt756.2.2.2.1 bt756.2.2.2.2.1 bt756.2.2.2.2.2.1 bt756.2.2.2.2.2.2.1 bt756.2.2.2.2.2.2.2).bind fun t768 => (if t768 = true then (some true) else (none)))))) = some r := H
  have A9 := Aside0.mk A90
  clear A90
  replace H := Option.bind_eq_some_iff.mp H
  obtain ⟨t755, A100, H⟩ := H
  replace H : (if (t755 != t741) = true then (none) else ((laws_toMsg.f k a0_0 a0_1 a0_2 a0_3 a0_4 a0_5 l0_6 l0_7).bind fun bt756 => ((laws_eqMsg.f k t742 t743 t744 t745 t746 t747 t748 t751 bt756.1 bt756.2.1 bt756.2.2.1 bt756.2.2.2.1 bt756.2.2.2.2.1 bt756.2.2.2.2.2.1 bt756.2.2.2.2.2.2.1 bt756.2.2.2.2.2.2.2).bind fun t768 => (if t768 = true then (some true) else (none))))) = some r := H
  have A10 := Aside0.mk A100
  clear A100
  by_cases c11 : (t755 != t741) = true
  ·rw [if_pos c11] at H
   exact absurd H (by simp)
  ·rw [if_neg c11] at H
   have c11b0 : (t755 != t741) = false := by simpa using c11
   (try (have c11b1 : decide (t755 = t741) = true := by simpa using c11))
   (try (have c11b2 : (t755 == t741) = true := by simpa using c11))
   clear c11
   replace H := Option.bind_eq_some_iff.mp H
   obtain ⟨⟨t756, t757, t758, t759, t760, t761, t762, t765⟩, A120, H⟩ := H
   replace H : ((laws_eqMsg.f k t742 t743 t744 t745 t746 t747 t748 t751 t756 t757 t758 t759 t760 t761 t762 t765).bind fun t768 => (if t768 = true then (some true) else (none))) = some r := H
   have A12 := Aside0.mk A120
   clear A120
   replace H := Option.bind_eq_some_iff.mp H
   obtain ⟨t768, A130, H⟩ := H
   replace H : (if t768 = true then (some true) else (none)) = some r := H
   have A13 := Aside0.mk A130
   clear A130
   by_cases c14 : t768 = true
   ·subst c14
    have H1 : (some true) = some r := by rw [if_pos rfl] at H; exact H
    clear H
    have H := H1
    clear H1
    obtain rfl := Option.some.inj H
    go_enter Try.func12, Try.ntmps12
    try go_wp2_with (first | ((with_reducible refine gate_dst (N := 1) rfl ?_); refine box_event ?hg (N := 1) ?hd (cs := #[.int .i64 a0_0, .int .i64 a0_1, .int .i64 a0_2, .int .i64 a0_3, .string a0_4, .int .i64 a0_5, .slice A0_6 l0_6.length c0_6, .slice A0_7 l0_7.length c0_7]) (t := 98) ?hr ?_; (case hd => rfl); (case hg => rfl); (case hr => first | (go_simp; done) | (go_simp; rfl)); intro gb727 hg w15 hbox hb; have n0_ := Aside0.mk (below_step (by repeat (first | (with_reducible first | exact HB.out | apply below_alloc | apply pw_below_drewN | apply below_drew1) | exact HB.out)) hb); have n1_ := Aside0.mk (hbox); have n2_ := Aside0.mk ((by rw [hg]; exact (below_size (by repeat (first | (with_reducible first | exact HB.out | apply below_alloc | apply pw_below_drewN | apply below_drew1) | exact HB.out))) : w.heap.size ≤ gb727)); have n3_ := Aside0.mk ((by rw [hg]; exact (below_size (by repeat (first | (with_reducible first | exact HB.out | apply below_alloc | apply pw_below_drewN | apply below_drew1) | exact HB.out))) : w.heap.size ≤ gb727)); clear HB; have HB := n0_; have BK727 := n1_; have GW727 := n2_; have GE727 := n3_; clear n0_ n1_ n2_ n3_; clear hb hbox hg; have hcz16_0 : w15.cell? ⟨gb727, 0, none⟩ = some (.int .i64 a0_0) := (blk_cell BK727.out 0).trans rfl; have hcz16_1 : w15.cell? ⟨gb727, 1, none⟩ = some (.int .i64 a0_1) := (blk_cell BK727.out 1).trans rfl; have hcz16_2 : w15.cell? ⟨gb727, 2, none⟩ = some (.int .i64 a0_2) := (blk_cell BK727.out 2).trans rfl; have hcz16_3 : w15.cell? ⟨gb727, 3, none⟩ = some (.int .i64 a0_3) := (blk_cell BK727.out 3).trans rfl; have hcz16_4 : w15.cell? ⟨gb727, 4, none⟩ = some (.string a0_4) := (blk_cell BK727.out 4).trans rfl; have hcz16_5 : w15.cell? ⟨gb727, 5, none⟩ = some (.int .i64 a0_5) := (blk_cell BK727.out 5).trans rfl; have hcz16_6 : w15.cell? ⟨gb727, 6, none⟩ = some (.slice A0_6 l0_6.length c0_6) := (blk_cell BK727.out 6).trans rfl; have hcz16_7 : w15.cell? ⟨gb727, 7, none⟩ = some (.slice A0_7 l0_7.length c0_7) := (blk_cell BK727.out 7).trans rfl; have hfz16_0 := blk_frozen BK727.out 0; have hfz16_1 := blk_frozen BK727.out 1; have hfz16_2 := blk_frozen BK727.out 2; have hfz16_3 := blk_frozen BK727.out 3; have hfz16_4 := blk_frozen BK727.out 4; have hfz16_5 := blk_frozen BK727.out 5; have hfz16_6 := blk_frozen BK727.out 6; have hfz16_7 := blk_frozen BK727.out 7) | ((with_reducible refine gate_callee (f := 62) rfl ?_); refine goesL_ (some 9) rfl rfl Try.func62 (by kernel_rfl) rfl #[.agg #[.int .i64 a0_0, .int .i64 a0_1, .int .i64 a0_2, .int .i64 a0_3, .string a0_4, .int .i64 a0_5, .slice A0_6 l0_6.length c0_6, .slice A0_7 l0_7.length c0_7], .int .i64 1048576] rfl (by (try simp only [List.map_toArray, List.map_cons, List.map_nil]); first | done | rfl | (simp only [List.length_drop, List.length_take]; rfl)) ?_; (with_reducible refine (laws_szMsg.calls k a0_0 a0_1 a0_2 a0_3 a0_4 a0_5 _ _ l0_6 _ _ l0_7 1048576 t728 _ ?side1 ?side2 ?side3 ?side4 A2.out).mono ?_); (case side1 => repeat (first | exact (Kd.C_below HR0_6.out HB.out) | (with_reducible refine Kd.C_alloc ?_ _) | (with_reducible refine Kd.C_drewN ?_ _) | (with_reducible refine Kd.C_drew ?_))); (case side2 => exact HC0_6.out); (case side3 => repeat (first | exact (Kd.C_below HR0_7.out HB.out) | (with_reducible refine Kd.C_alloc ?_ _) | (with_reducible refine Kd.C_drewN ?_ _) | (with_reducible refine Kd.C_drew ?_))); (case side4 => exact HC0_7.out); rintro e w17 ⟨rfl, hb⟩; refine ⟨_, rfl, ?_⟩; have n0_ := Aside0.mk (blk_below (g := gb727) (o := .cells #[.int .i64 a0_0, .int .i64 a0_1, .int .i64 a0_2, .int .i64 a0_3, .string a0_4, .int .i64 a0_5, .slice A0_6 l0_6.length c0_6, .slice A0_7 l0_7.length c0_7] 98 (0, 0)) (by (with_reducible repeat (first | refine blk_drewN ?_ _ | refine blk_drew ?_ | refine blk_alloc ?_ _)); exact BK727.out) hb); have n1_ := Aside0.mk (below_step (by repeat (first | (with_reducible first | exact HB.out | apply below_alloc | apply pw_below_drewN | apply below_drew1 | refine below_set ?_ GE727.out) | exact HB.out)) hb); clear BK727; clear HB; have BK727 := n0_; have HB := n1_; clear n0_ n1_; (try clear hb); (try clear hb2); (try clear hk); (try clear hi); have hcz18_0 : w17.cell? ⟨gb727, 0, none⟩ = some (.int .i64 a0_0) := (blk_cell BK727.out 0).trans rfl; have hcz18_1 : w17.cell? ⟨gb727, 1, none⟩ = some (.int .i64 a0_1) := (blk_cell BK727.out 1).trans rfl; have hcz18_2 : w17.cell? ⟨gb727, 2, none⟩ = some (.int .i64 a0_2) := (blk_cell BK727.out 2).trans rfl; have hcz18_3 : w17.cell? ⟨gb727, 3, none⟩ = some (.int .i64 a0_3) := (blk_cell BK727.out 3).trans rfl; have hcz18_4 : w17.cell? ⟨gb727, 4, none⟩ = some (.string a0_4) := (blk_cell BK727.out 4).trans rfl; have hcz18_5 : w17.cell? ⟨gb727, 5, none⟩ = some (.int .i64 a0_5) := (blk_cell BK727.out 5).trans rfl; have hcz18_6 : w17.cell? ⟨gb727, 6, none⟩ = some (.slice A0_6 l0_6.length c0_6) := (blk_cell BK727.out 6).trans rfl; have hcz18_7 : w17.cell? ⟨gb727, 7, none⟩ = some (.slice A0_7 l0_7.length c0_7) := (blk_cell BK727.out 7).trans rfl; have hfz18_0 := blk_frozen BK727.out 0; have hfz18_1 := blk_frozen BK727.out 1; have hfz18_2 := blk_frozen BK727.out 2; have hfz18_3 := blk_frozen BK727.out 3; have hfz18_4 := blk_frozen BK727.out 4; have hfz18_5 := blk_frozen BK727.out 5; have hfz18_6 := blk_frozen BK727.out 6; have hfz18_7 := blk_frozen BK727.out 7) | ((with_reducible refine gate_callee (f := 64) rfl ?_); refine goesL_ (some 13) rfl rfl Try.func64 (by kernel_rfl) rfl #[.agg #[.int .i64 a0_0, .int .i64 a0_1, .int .i64 a0_2, .int .i64 a0_3, .string a0_4, .int .i64 a0_5, .slice A0_6 l0_6.length c0_6, .slice A0_7 l0_7.length c0_7]] rfl (by (try simp only [List.map_toArray, List.map_cons, List.map_nil]); first | done | rfl | (simp only [List.length_drop, List.length_take]; rfl)) ?_; (with_reducible refine (laws_toMsg.calls k a0_0 a0_1 a0_2 a0_3 a0_4 a0_5 _ _ l0_6 _ _ l0_7 t729 t730 t731 t732 t733 t734 t735 t738 _ ?side1 ?side2 ?side3 ?side4 A7.out).mono ?_); (case side1 => repeat (first | exact (Kd.C_below HR0_6.out HB.out) | (with_reducible refine Kd.C_alloc ?_ _) | (with_reducible refine Kd.C_drewN ?_ _) | (with_reducible refine Kd.C_drew ?_))); (case side2 => exact HC0_6.out); (case side3 => repeat (first | exact (Kd.C_below HR0_7.out HB.out) | (with_reducible refine Kd.C_alloc ?_ _) | (with_reducible refine Kd.C_drewN ?_ _) | (with_reducible refine Kd.C_drew ?_))); (case side4 => exact HC0_7.out); rintro e w19 ⟨v736, v739, rfl, ho0, ho1, hb⟩; refine ⟨_, rfl, ?_⟩; have n0_ := Aside0.mk (Kd.R_lower ho0 (below_size (by repeat (first | (with_reducible first | exact HB.out | apply below_alloc | apply pw_below_drewN | apply below_drew1 | refine below_set ?_ GE727.out) | exact HB.out)))); have n1_ := Aside0.mk (Kd.R_lower ho1 (below_size (by repeat (first | (with_reducible first | exact HB.out | apply below_alloc | apply pw_below_drewN | apply below_drew1 | refine below_set ?_ GE727.out) | exact HB.out)))); have n2_ := Aside0.mk (blk_below (g := gb727) (o := .cells #[.int .i64 a0_0, .int .i64 a0_1, .int .i64 a0_2, .int .i64 a0_3, .string a0_4, .int .i64 a0_5, .slice A0_6 l0_6.length c0_6, .slice A0_7 l0_7.length c0_7] 98 (0, 0)) (by (with_reducible repeat (first | refine blk_drewN ?_ _ | refine blk_drew ?_ | refine blk_alloc ?_ _)); exact BK727.out) hb); have n3_ := Aside0.mk (below_step (by repeat (first | (with_reducible first | exact HB.out | apply below_alloc | apply pw_below_drewN | apply below_drew1 | refine below_set ?_ GE727.out) | exact HB.out)) hb); clear BK727; clear HB; have HO737 := n0_; have HO740 := n1_; have BK727 := n2_; have HB := n3_; clear n0_ n1_ n2_ n3_; (try clear hb); (try clear hb2); (try clear hk); (try clear hi); (try clear ho0); (try clear ho1); obtain ⟨Ao20, co20, eo20⟩ := Kd.R_slice HO737.out; subst eo20; obtain ⟨Ao21, co21, eo21⟩ := Kd.R_slice HO740.out; subst eo21) | ((with_reducible refine gate_callee (f := 63) rfl ?_); refine goesL_ (some 14) rfl rfl Try.func63 (by kernel_rfl) rfl #[.agg #[.int .i64 t729, .int .i64 t730, .int .i64 t731, .int .i64 t732, .string t733, .int .i64 t734, .slice Ao20 t735.length co20, .slice Ao21 t738.length co21]] rfl (by (try simp only [List.map_toArray, List.map_cons, List.map_nil]); first | done | rfl | (simp only [List.length_drop, List.length_take]; rfl)) ?_; (with_reducible refine (spec_MsgRight.calls k t729 t730 t731 t732 t733 t734 _ _ t735 _ _ t738 t741 _ ?side1 ?side2 ?side3 ?side4 A8.out).mono ?_); (case side1 => repeat (first | exact (Kd.R_reads' HO737.out).2.2 | (with_reducible refine Kd.C_alloc ?_ _) | (with_reducible refine Kd.C_drewN ?_ _) | (with_reducible refine Kd.C_drew ?_))); (case side2 => exact (Kd.R_reads' HO737.out).2.1); (case side3 => repeat (first | exact (Kd.R_reads' HO740.out).2.2 | (with_reducible refine Kd.C_alloc ?_ _) | (with_reducible refine Kd.C_drewN ?_ _) | (with_reducible refine Kd.C_drew ?_))); (case side4 => exact (Kd.R_reads' HO740.out).2.1); rintro e w22 ⟨rfl, hb⟩; refine ⟨_, rfl, ?_⟩; have n0_ := Aside0.mk (Kd.R_below (by (with_reducible repeat (first | apply Kd.R_alloc | apply Kd.R_drewN | apply Kd.R_drew)); exact HO737.out) hb); have n1_ := Aside0.mk (Kd.R_below (by (with_reducible repeat (first | apply Kd.R_alloc | apply Kd.R_drewN | apply Kd.R_drew)); exact HO740.out) hb); have n2_ := Aside0.mk (blk_below (g := gb727) (o := .cells #[.int .i64 a0_0, .int .i64 a0_1, .int .i64 a0_2, .int .i64 a0_3, .string a0_4, .int .i64 a0_5, .slice A0_6 l0_6.length c0_6, .slice A0_7 l0_7.length c0_7] 98 (0, 0)) (by (with_reducible repeat (first | refine blk_drewN ?_ _ | refine blk_drew ?_ | refine blk_alloc ?_ _)); exact BK727.out) hb); have n3_ := Aside0.mk (below_step (by repeat (first | (with_reducible first | exact HB.out | apply below_alloc | apply pw_below_drewN | apply below_drew1 | refine below_set ?_ GE727.out) | exact HB.out)) hb); clear HO737; clear HO740; clear BK727; clear HB; have HO737 := n0_; have HO740 := n1_; have BK727 := n2_; have HB := n3_; clear n0_ n1_ n2_ n3_; (try clear hb); (try clear hb2); (try clear hk); (try clear hi); have hcz23_0 : w22.cell? ⟨gb727, 0, none⟩ = some (.int .i64 a0_0) := (blk_cell BK727.out 0).trans rfl; have hcz23_1 : w22.cell? ⟨gb727, 1, none⟩ = some (.int .i64 a0_1) := (blk_cell BK727.out 1).trans rfl; have hcz23_2 : w22.cell? ⟨gb727, 2, none⟩ = some (.int .i64 a0_2) := (blk_cell BK727.out 2).trans rfl; have hcz23_3 : w22.cell? ⟨gb727, 3, none⟩ = some (.int .i64 a0_3) := (blk_cell BK727.out 3).trans rfl; have hcz23_4 : w22.cell? ⟨gb727, 4, none⟩ = some (.string a0_4) := (blk_cell BK727.out 4).trans rfl; have hcz23_5 : w22.cell? ⟨gb727, 5, none⟩ = some (.int .i64 a0_5) := (blk_cell BK727.out 5).trans rfl; have hcz23_6 : w22.cell? ⟨gb727, 6, none⟩ = some (.slice A0_6 l0_6.length c0_6) := (blk_cell BK727.out 6).trans rfl; have hcz23_7 : w22.cell? ⟨gb727, 7, none⟩ = some (.slice A0_7 l0_7.length c0_7) := (blk_cell BK727.out 7).trans rfl; have hfz23_0 := blk_frozen BK727.out 0; have hfz23_1 := blk_frozen BK727.out 1; have hfz23_2 := blk_frozen BK727.out 2; have hfz23_3 := blk_frozen BK727.out 3; have hfz23_4 := blk_frozen BK727.out 4; have hfz23_5 := blk_frozen BK727.out 5; have hfz23_6 := blk_frozen BK727.out 6; have hfz23_7 := blk_frozen BK727.out 7) | ((with_reducible refine gate_callee (f := 64) rfl ?_); refine goesL_ (some 16) rfl rfl Try.func64 (by kernel_rfl) rfl #[.agg #[.int .i64 a0_0, .int .i64 a0_1, .int .i64 a0_2, .int .i64 a0_3, .string a0_4, .int .i64 a0_5, .slice A0_6 l0_6.length c0_6, .slice A0_7 l0_7.length c0_7]] rfl (by (try simp only [List.map_toArray, List.map_cons, List.map_nil]); first | done | rfl | (simp only [List.length_drop, List.length_take]; rfl)) ?_; (with_reducible refine (laws_toMsg.calls k a0_0 a0_1 a0_2 a0_3 a0_4 a0_5 _ _ l0_6 _ _ l0_7 t742 t743 t744 t745 t746 t747 t748 t751 _ ?side1 ?side2 ?side3 ?side4 A9.out).mono ?_); (case side1 => repeat (first | exact (Kd.C_below HR0_6.out HB.out) | (with_reducible refine Kd.C_alloc ?_ _) | (with_reducible refine Kd.C_drewN ?_ _) | (with_reducible refine Kd.C_drew ?_))); (case side2 => exact HC0_6.out); (case side3 => repeat (first | exact (Kd.C_below HR0_7.out HB.out) | (with_reducible refine Kd.C_alloc ?_ _) | (with_reducible refine Kd.C_drewN ?_ _) | (with_reducible refine Kd.C_drew ?_))); (case side4 => exact HC0_7.out); rintro e w24 ⟨v749, v752, rfl, ho0, ho1, hb⟩; refine ⟨_, rfl, ?_⟩; have n0_ := Aside0.mk (Kd.R_elder' (by (with_reducible repeat (first | apply Kd.R_alloc | apply Kd.R_drewN | apply Kd.R_drew)); exact HO737.out) (Kd.R_base ho0) hb); have n1_ := Aside0.mk (Kd.R_elder' (by (with_reducible repeat (first | apply Kd.R_alloc | apply Kd.R_drewN | apply Kd.R_drew)); exact HO740.out) (Kd.R_base ho1) hb); have n2_ := Aside0.mk (Kd.R_lower (Kd.R_new' ho0 (Kd.R_lt (by (with_reducible repeat (first | apply Kd.R_alloc | apply Kd.R_drewN | apply Kd.R_drew)); exact HO737.out))) (below_size (by repeat (first | (with_reducible first | exact HB.out | apply below_alloc | apply pw_below_drewN | apply below_drew1 | refine below_set ?_ GE727.out) | exact HB.out)))); have n3_ := Aside0.mk (Kd.R_lower (Kd.R_new' ho1 (Kd.R_lt (by (with_reducible repeat (first | apply Kd.R_alloc | apply Kd.R_drewN | apply Kd.R_drew)); exact HO740.out))) (below_size (by repeat (first | (with_reducible first | exact HB.out | apply below_alloc | apply pw_below_drewN | apply below_drew1 | refine below_set ?_ GE727.out) | exact HB.out)))); have n4_ := Aside0.mk (blk_below (g := gb727) (o := .cells #[.int .i64 a0_0, .int .i64 a0_1, .int .i64 a0_2, .int .i64 a0_3, .string a0_4, .int .i64 a0_5, .slice A0_6 l0_6.length c0_6, .slice A0_7 l0_7.length c0_7] 98 (0, 0)) (by (with_reducible repeat (first | refine blk_drewN ?_ _ | refine blk_drew ?_ | refine blk_alloc ?_ _)); exact BK727.out) hb); have n5_ := Aside0.mk (below_step (by repeat (first | (with_reducible first | exact HB.out | apply below_alloc | apply pw_below_drewN | apply below_drew1 | refine below_set ?_ GE727.out) | exact HB.out)) hb); clear HO737; clear HO740; clear BK727; clear HB; have HO737 := n0_; have HO740 := n1_; have HO750 := n2_; have HO753 := n3_; have BK727 := n4_; have HB := n5_; clear n0_ n1_ n2_ n3_ n4_ n5_; (try clear hb); (try clear hb2); (try clear hk); (try clear hi); (try clear ho0); (try clear ho1)) | ((with_reducible refine gate_dst (N := 5) rfl ?_); refine box_event ?hg (N := 5) ?hd (cs := #[.int .i64 0, .int .i64 0, .int .i64 0, .int .i64 0, .string (⟨#[]⟩ : ByteArray), .int .i64 0, .slice none 0 0, .slice none 0 0]) (t := 102) ?hr ?_; (case hd => rfl); (case hg => rfl); (case hr => first | (go_simp; done) | (go_simp; rfl)); intro gb754 hg w25 hbox hb; have n0_ := Aside0.mk (Kd.R_below (by (with_reducible repeat (first | apply Kd.R_alloc | apply Kd.R_drewN | apply Kd.R_drew)); exact HO737.out) hb); have n1_ := Aside0.mk (Kd.R_below (by (with_reducible repeat (first | apply Kd.R_alloc | apply Kd.R_drewN | apply Kd.R_drew)); exact HO740.out) hb); have n2_ := Aside0.mk (Kd.R_below (by (with_reducible repeat (first | apply Kd.R_alloc | apply Kd.R_drewN | apply Kd.R_drew)); exact HO750.out) hb); have n3_ := Aside0.mk (Kd.R_below (by (with_reducible repeat (first | apply Kd.R_alloc | apply Kd.R_drewN | apply Kd.R_drew)); exact HO753.out) hb); have n4_ := Aside0.mk (blk_below (g := gb727) (o := .cells #[.int .i64 a0_0, .int .i64 a0_1, .int .i64 a0_2, .int .i64 a0_3, .string a0_4, .int .i64 a0_5, .slice A0_6 l0_6.length c0_6, .slice A0_7 l0_7.length c0_7] 98 (0, 0)) (by (with_reducible repeat (first | refine blk_drewN ?_ _ | refine blk_drew ?_ | refine blk_alloc ?_ _)); exact BK727.out) hb); have n5_ := Aside0.mk (below_step (by repeat (first | (with_reducible first | exact HB.out | apply below_alloc | apply pw_below_drewN | apply below_drew1 | refine below_set ?_ GE727.out) | exact HB.out)) hb); have n6_ := Aside0.mk (hbox); have n7_ := Aside0.mk ((by rw [hg]; exact (below_size (by repeat (first | (with_reducible first | exact HB.out | apply below_alloc | apply pw_below_drewN | apply below_drew1 | refine below_set ?_ GE727.out) | exact HB.out))) : w.heap.size ≤ gb754)); have n8_ := Aside0.mk ((by rw [hg]; exact (below_size (by repeat (first | (with_reducible first | exact HB.out | apply below_alloc | apply pw_below_drewN | apply below_drew1 | refine below_set ?_ GE727.out) | exact HB.out))) : w.heap.size ≤ gb754)); have n9_ := Aside0.mk ((by rw [hg]; exact Nat.ne_of_lt (blk_lt (g := gb727) (o := .cells #[.int .i64 a0_0, .int .i64 a0_1, .int .i64 a0_2, .int .i64 a0_3, .string a0_4, .int .i64 a0_5, .slice A0_6 l0_6.length c0_6, .slice A0_7 l0_7.length c0_7] 98 (0, 0)) (by (with_reducible repeat (first | refine blk_drewN ?_ _ | refine blk_drew ?_ | refine blk_alloc ?_ _)); exact BK727.out)) : gb727 ≠ gb754)); have n10_ := Aside0.mk ((by rw [hg]; exact Nat.ne_of_gt (blk_lt (g := gb727) (o := .cells #[.int .i64 a0_0, .int .i64 a0_1, .int .i64 a0_2, .int .i64 a0_3, .string a0_4, .int .i64 a0_5, .slice A0_6 l0_6.length c0_6, .slice A0_7 l0_7.length c0_7] 98 (0, 0)) (by (with_reducible repeat (first | refine blk_drewN ?_ _ | refine blk_drew ?_ | refine blk_alloc ?_ _)); exact BK727.out)) : gb754 ≠ gb727)); clear HO737; clear HO740; clear HO750; clear HO753; clear BK727; clear HB; have HO737 := n0_; have HO740 := n1_; have HO750 := n2_; have HO753 := n3_; have BK727 := n4_; have HB := n5_; have BK754 := n6_; have GW754 := n7_; have GE754 := n8_; have NB727_754 := n9_; have NB754_727 := n10_; clear n0_ n1_ n2_ n3_ n4_ n5_ n6_ n7_ n8_ n9_ n10_; clear hb hbox hg; have hnb26 := NB754_727.out; have hnc26 := NB727_754.out; have hcz27_0 : w25.cell? ⟨gb754, 0, none⟩ = some (.int .i64 0) := (blk_cell BK754.out 0).trans rfl; have hcz27_1 : w25.cell? ⟨gb754, 1, none⟩ = some (.int .i64 0) := (blk_cell BK754.out 1).trans rfl; have hcz27_2 : w25.cell? ⟨gb754, 2, none⟩ = some (.int .i64 0) := (blk_cell BK754.out 2).trans rfl; have hcz27_3 : w25.cell? ⟨gb754, 3, none⟩ = some (.int .i64 0) := (blk_cell BK754.out 3).trans rfl; have hcz27_4 : w25.cell? ⟨gb754, 4, none⟩ = some (.string (⟨#[]⟩ : ByteArray)) := (blk_cell BK754.out 4).trans rfl; have hcz27_5 : w25.cell? ⟨gb754, 5, none⟩ = some (.int .i64 0) := (blk_cell BK754.out 5).trans rfl; have hcz27_6 : w25.cell? ⟨gb754, 6, none⟩ = some (.slice none 0 0) := (blk_cell BK754.out 6).trans rfl; have hcz27_7 : w25.cell? ⟨gb754, 7, none⟩ = some (.slice none 0 0) := (blk_cell BK754.out 7).trans rfl; have hfz27_0 := blk_frozen BK754.out 0; have hfz27_1 := blk_frozen BK754.out 1; have hfz27_2 := blk_frozen BK754.out 2; have hfz27_3 := blk_frozen BK754.out 3; have hfz27_4 := blk_frozen BK754.out 4; have hfz27_5 := blk_frozen BK754.out 5; have hfz27_6 := blk_frozen BK754.out 6; have hfz27_7 := blk_frozen BK754.out 7; obtain ⟨Ao28, co28, eo28⟩ := Kd.R_slice HO750.out; subst eo28; obtain ⟨Ao29, co29, eo29⟩ := Kd.R_slice HO753.out; subst eo29) | ((with_reducible refine gate_callee (f := 65) rfl ?_); refine goesL_ (some 18) rfl rfl Try.func65 (by kernel_rfl) rfl #[.agg #[.int .i64 t742, .int .i64 t743, .int .i64 t744, .int .i64 t745, .string t746, .int .i64 t747, .slice Ao28 t748.length co28, .slice Ao29 t751.length co29]] rfl (by (try simp only [List.map_toArray, List.map_cons, List.map_nil]); first | done | rfl | (simp only [List.length_drop, List.length_take]; rfl)) ?_; (with_reducible refine (impl_MsgRight.calls k t742 t743 t744 t745 t746 t747 _ _ t748 _ _ t751 t755 _ ?side1 ?side2 ?side3 ?side4 A10.out).mono ?_); (case side1 => refine (Kd.R_reads' (e := 43) (base := w.heap.size) (ok := fun k_ => (True ∧ some k_ ≠ (.slice Ao20 t735.length co20 : Value).ownBlock)) (n := t748.length) (c := co28) ?_).2.2; exact (by (with_reducible repeat (first | apply Kd.R_alloc | apply Kd.R_drewN | apply Kd.R_drew)); exact (Kd.R_mono (Kd.R_far (p := ⟨gb754, 7, none⟩) (Kd.R_far (p := ⟨gb754, 6, none⟩) (Kd.R_far (p := ⟨gb754, 5, none⟩) (Kd.R_far (p := ⟨gb754, 4, none⟩) (Kd.R_far (p := ⟨gb754, 3, none⟩) (Kd.R_far (p := ⟨gb754, 2, none⟩) (Kd.R_far (p := ⟨gb754, 1, none⟩) (Kd.R_far (p := ⟨gb754, 0, none⟩) (Kd.R_types HO750.out BK754.out (by decide)) (fun _ hk => hk.2) (.int .i64 t742)) (fun _ hk => hk.2) (.int .i64 t743)) (fun _ hk => hk.2) (.int .i64 t744)) (fun _ hk => hk.2) (.int .i64 t745)) (fun _ hk => hk.2) (.string t746)) (fun _ hk => hk.2) (.int .i64 t747)) (fun _ hk => hk.2) (.slice Ao28 t748.length co28)) (fun _ hk => hk.2) (.slice Ao29 t751.length co29)) (fun _ h_ => h_.1)))); (case side2 => exact (Kd.R_reads' HO750.out).2.1); (case side3 => refine (Kd.R_reads' (e := 139) (base := w.heap.size) (ok := fun k_ => (True ∧ some k_ ≠ (.slice Ao21 t738.length co21 : Value).ownBlock)) (n := t751.length) (c := co29) ?_).2.2; exact (by (with_reducible repeat (first | apply Kd.R_alloc | apply Kd.R_drewN | apply Kd.R_drew)); exact (Kd.R_mono (Kd.R_far (p := ⟨gb754, 7, none⟩) (Kd.R_far (p := ⟨gb754, 6, none⟩) (Kd.R_far (p := ⟨gb754, 5, none⟩) (Kd.R_far (p := ⟨gb754, 4, none⟩) (Kd.R_far (p := ⟨gb754, 3, none⟩) (Kd.R_far (p := ⟨gb754, 2, none⟩) (Kd.R_far (p := ⟨gb754, 1, none⟩) (Kd.R_far (p := ⟨gb754, 0, none⟩) (Kd.R_types HO753.out BK754.out (by decide)) (fun _ hk => hk.2) (.int .i64 t742)) (fun _ hk => hk.2) (.int .i64 t743)) (fun _ hk => hk.2) (.int .i64 t744)) (fun _ hk => hk.2) (.int .i64 t745)) (fun _ hk => hk.2) (.string t746)) (fun _ hk => hk.2) (.int .i64 t747)) (fun _ hk => hk.2) (.slice Ao28 t748.length co28)) (fun _ hk => hk.2) (.slice Ao29 t751.length co29)) (fun _ h_ => h_.1)))); (case side4 => exact (Kd.R_reads' HO753.out).2.1); rintro e w30 ⟨rfl, hb⟩; refine ⟨_, rfl, ?_⟩; have n0_ := Aside0.mk (Kd.R_below (by (with_reducible repeat (first | apply Kd.R_alloc | apply Kd.R_drewN | apply Kd.R_drew)); exact (Kd.R_mono (Kd.R_far (p := ⟨gb754, 7, none⟩) (Kd.R_far (p := ⟨gb754, 6, none⟩) (Kd.R_far (p := ⟨gb754, 5, none⟩) (Kd.R_far (p := ⟨gb754, 4, none⟩) (Kd.R_far (p := ⟨gb754, 3, none⟩) (Kd.R_far (p := ⟨gb754, 2, none⟩) (Kd.R_far (p := ⟨gb754, 1, none⟩) (Kd.R_far (p := ⟨gb754, 0, none⟩) (Kd.R_types HO737.out BK754.out (by decide)) (fun _ hk => hk.2) (.int .i64 t742)) (fun _ hk => hk.2) (.int .i64 t743)) (fun _ hk => hk.2) (.int .i64 t744)) (fun _ hk => hk.2) (.int .i64 t745)) (fun _ hk => hk.2) (.string t746)) (fun _ hk => hk.2) (.int .i64 t747)) (fun _ hk => hk.2) (.slice Ao28 t748.length co28)) (fun _ hk => hk.2) (.slice Ao29 t751.length co29)) (fun _ h_ => h_.1))) hb); have n1_ := Aside0.mk (Kd.R_below (by (with_reducible repeat (first | apply Kd.R_alloc | apply Kd.R_drewN | apply Kd.R_drew)); exact (Kd.R_mono (Kd.R_far (p := ⟨gb754, 7, none⟩) (Kd.R_far (p := ⟨gb754, 6, none⟩) (Kd.R_far (p := ⟨gb754, 5, none⟩) (Kd.R_far (p := ⟨gb754, 4, none⟩) (Kd.R_far (p := ⟨gb754, 3, none⟩) (Kd.R_far (p := ⟨gb754, 2, none⟩) (Kd.R_far (p := ⟨gb754, 1, none⟩) (Kd.R_far (p := ⟨gb754, 0, none⟩) (Kd.R_types HO740.out BK754.out (by decide)) (fun _ hk => hk.2) (.int .i64 t742)) (fun _ hk => hk.2) (.int .i64 t743)) (fun _ hk => hk.2) (.int .i64 t744)) (fun _ hk => hk.2) (.int .i64 t745)) (fun _ hk => hk.2) (.string t746)) (fun _ hk => hk.2) (.int .i64 t747)) (fun _ hk => hk.2) (.slice Ao28 t748.length co28)) (fun _ hk => hk.2) (.slice Ao29 t751.length co29)) (fun _ h_ => h_.1))) hb); have n2_ := Aside0.mk (Kd.R_below (by (with_reducible repeat (first | apply Kd.R_alloc | apply Kd.R_drewN | apply Kd.R_drew)); exact (Kd.R_mono (Kd.R_far (p := ⟨gb754, 7, none⟩) (Kd.R_far (p := ⟨gb754, 6, none⟩) (Kd.R_far (p := ⟨gb754, 5, none⟩) (Kd.R_far (p := ⟨gb754, 4, none⟩) (Kd.R_far (p := ⟨gb754, 3, none⟩) (Kd.R_far (p := ⟨gb754, 2, none⟩) (Kd.R_far (p := ⟨gb754, 1, none⟩) (Kd.R_far (p := ⟨gb754, 0, none⟩) (Kd.R_types HO750.out BK754.out (by decide)) (fun _ hk => hk.2) (.int .i64 t742)) (fun _ hk => hk.2) (.int .i64 t743)) (fun _ hk => hk.2) (.int .i64 t744)) (fun _ hk => hk.2) (.int .i64 t745)) (fun _ hk => hk.2) (.string t746)) (fun _ hk => hk.2) (.int .i64 t747)) (fun _ hk => hk.2) (.slice Ao28 t748.length co28)) (fun _ hk => hk.2) (.slice Ao29 t751.length co29)) (fun _ h_ => h_.1))) hb); have n3_ := Aside0.mk (Kd.R_below (by (with_reducible repeat (first | apply Kd.R_alloc | apply Kd.R_drewN | apply Kd.R_drew)); exact (Kd.R_mono (Kd.R_far (p := ⟨gb754, 7, none⟩) (Kd.R_far (p := ⟨gb754, 6, none⟩) (Kd.R_far (p := ⟨gb754, 5, none⟩) (Kd.R_far (p := ⟨gb754, 4, none⟩) (Kd.R_far (p := ⟨gb754, 3, none⟩) (Kd.R_far (p := ⟨gb754, 2, none⟩) (Kd.R_far (p := ⟨gb754, 1, none⟩) (Kd.R_far (p := ⟨gb754, 0, none⟩) (Kd.R_types HO753.out BK754.out (by decide)) (fun _ hk => hk.2) (.int .i64 t742)) (fun _ hk => hk.2) (.int .i64 t743)) (fun _ hk => hk.2) (.int .i64 t744)) (fun _ hk => hk.2) (.int .i64 t745)) (fun _ hk => hk.2) (.string t746)) (fun _ hk => hk.2) (.int .i64 t747)) (fun _ hk => hk.2) (.slice Ao28 t748.length co28)) (fun _ hk => hk.2) (.slice Ao29 t751.length co29)) (fun _ h_ => h_.1))) hb); have n4_ := Aside0.mk (blk_below (g := gb727) (o := .cells #[.int .i64 a0_0, .int .i64 a0_1, .int .i64 a0_2, .int .i64 a0_3, .string a0_4, .int .i64 a0_5, .slice A0_6 l0_6.length c0_6, .slice A0_7 l0_7.length c0_7] 98 (0, 0)) (by (with_reducible repeat (first | refine blk_drewN ?_ _ | refine blk_drew ?_ | refine blk_alloc ?_ _)); refine blk_far ?_ NB727_754.out _; (with_reducible repeat (first | refine blk_drewN ?_ _ | refine blk_drew ?_ | refine blk_alloc ?_ _)); refine blk_far ?_ NB727_754.out _; (with_reducible repeat (first | refine blk_drewN ?_ _ | refine blk_drew ?_ | refine blk_alloc ?_ _)); refine blk_far ?_ NB727_754.out _; (with_reducible repeat (first | refine blk_drewN ?_ _ | refine blk_drew ?_ | refine blk_alloc ?_ _)); refine blk_far ?_ NB727_754.out _; (with_reducible repeat (first | refine blk_drewN ?_ _ | refine blk_drew ?_ | refine blk_alloc ?_ _)); refine blk_far ?_ NB727_754.out _; (with_reducible repeat (first | refine blk_drewN ?_ _ | refine blk_drew ?_ | refine blk_alloc ?_ _)); refine blk_far ?_ NB727_754.out _; (with_reducible repeat (first | refine blk_drewN ?_ _ | refine blk_drew ?_ | refine blk_alloc ?_ _)); refine blk_far ?_ NB727_754.out _; (with_reducible repeat (first | refine blk_drewN ?_ _ | refine blk_drew ?_ | refine blk_alloc ?_ _)); refine blk_far ?_ NB727_754.out _; (with_reducible repeat (first | refine blk_drewN ?_ _ | refine blk_drew ?_ | refine blk_alloc ?_ _)); exact BK727.out) hb); have n5_ := Aside0.mk (blk_below (g := gb754) (o := .cells #[.int .i64 t742, .int .i64 t743, .int .i64 t744, .int .i64 t745, .string t746, .int .i64 t747, .slice Ao28 t748.length co28, .slice Ao29 t751.length co29] 102 (0, 0)) (by (with_reducible repeat (first | refine blk_drewN ?_ _ | refine blk_drew ?_ | refine blk_alloc ?_ _)); refine blk_put (cs := #[.int .i64 t742, .int .i64 t743, .int .i64 t744, .int .i64 t745, .string t746, .int .i64 t747, .slice Ao28 t748.length co28, .slice none 0 0]) ?_ 7 _ rfl; (with_reducible repeat (first | refine blk_drewN ?_ _ | refine blk_drew ?_ | refine blk_alloc ?_ _)); refine blk_put (cs := #[.int .i64 t742, .int .i64 t743, .int .i64 t744, .int .i64 t745, .string t746, .int .i64 t747, .slice none 0 0, .slice none 0 0]) ?_ 6 _ rfl; (with_reducible repeat (first | refine blk_drewN ?_ _ | refine blk_drew ?_ | refine blk_alloc ?_ _)); refine blk_put (cs := #[.int .i64 t742, .int .i64 t743, .int .i64 t744, .int .i64 t745, .string t746, .int .i64 0, .slice none 0 0, .slice none 0 0]) ?_ 5 _ rfl; (with_reducible repeat (first | refine blk_drewN ?_ _ | refine blk_drew ?_ | refine blk_alloc ?_ _)); refine blk_put (cs := #[.int .i64 t742, .int .i64 t743, .int .i64 t744, .int .i64 t745, .string (⟨#[]⟩ : ByteArray), .int .i64 0, .slice none 0 0, .slice none 0 0]) ?_ 4 _ rfl; (with_reducible repeat (first | refine blk_drewN ?_ _ | refine blk_drew ?_ | refine blk_alloc ?_ _)); refine blk_put (cs := #[.int .i64 t742, .int .i64 t743, .int .i64 t744, .int .i64 0, .string (⟨#[]⟩ : ByteArray), .int .i64 0, .slice none 0 0, .slice none 0 0]) ?_ 3 _ rfl; (with_reducible repeat (first | refine blk_drewN ?_ _ | refine blk_drew ?_ | refine blk_alloc ?_ _)); refine blk_put (cs := #[.int .i64 t742, .int .i64 t743, .int .i64 0, .int .i64 0, .string (⟨#[]⟩ : ByteArray), .int .i64 0, .slice none 0 0, .slice none 0 0]) ?_ 2 _ rfl; (with_reducible repeat (first | refine blk_drewN ?_ _ | refine blk_drew ?_ | refine blk_alloc ?_ _)); refine blk_put (cs := #[.int .i64 t742, .int .i64 0, .int .i64 0, .int .i64 0, .string (⟨#[]⟩ : ByteArray), .int .i64 0, .slice none 0 0, .slice none 0 0]) ?_ 1 _ rfl; (with_reducible repeat (first | refine blk_drewN ?_ _ | refine blk_drew ?_ | refine blk_alloc ?_ _)); refine blk_put (cs := #[.int .i64 0, .int .i64 0, .int .i64 0, .int .i64 0, .string (⟨#[]⟩ : ByteArray), .int .i64 0, .slice none 0 0, .slice none 0 0]) ?_ 0 _ rfl; (with_reducible repeat (first | refine blk_drewN ?_ _ | refine blk_drew ?_ | refine blk_alloc ?_ _)); exact BK754.out) hb); have n6_ := Aside0.mk (below_step (by repeat (first | (with_reducible first | exact HB.out | apply below_alloc | apply pw_below_drewN | apply below_drew1 | refine below_set ?_ GE727.out | refine below_set ?_ GE754.out) | exact HB.out)) hb); clear HO737; clear HO740; clear HO750; clear HO753; clear BK727; clear BK754; clear HB; have HO737 := n0_; have HO740 := n1_; have HO750 := n2_; have HO753 := n3_; have BK727 := n4_; have BK754 := n5_; have HB := n6_; clear n0_ n1_ n2_ n3_ n4_ n5_ n6_; (try clear hb); (try clear hb2); (try clear hk); (try clear hi)))
    have n0_ := Aside0.mk (Kd.R_drew HO737.out)
    have n1_ := Aside0.mk (Kd.R_drew HO740.out)
    have n2_ := Aside0.mk (Kd.R_drew HO750.out)
    have n3_ := Aside0.mk (Kd.R_drew HO753.out)
    have n4_ := Aside0.mk (blk_drew BK727.out)
    have n5_ := Aside0.mk (blk_drew BK754.out)
    have n6_ := Aside0.mk (below_drew1 HB.out)
    clear HO737
    clear HO740
    clear HO750
    clear HO753
    clear BK727
    clear BK754
    clear HB
    have HO737 := n0_
    have HO740 := n1_
    have HO750 := n2_
    have HO753 := n3_
    have BK727 := n4_
    have BK754 := n5_
    have HB := n6_
    clear n0_ n1_ n2_ n3_ n4_ n5_ n6_
    refine start_ (n := 5) (S := fun w' => w'.cell? ⟨gb754, 0, none⟩ = some (.int .i64 t742) ∧ w'.cell? ⟨gb754, 1, none⟩ = some (.int .i64 t743) ∧ w'.cell? ⟨gb754, 2, none⟩ = some (.int .i64 t744) ∧ w'.cell? ⟨gb754, 3, none⟩ = some (.int .i64 t745) ∧ w'.cell? ⟨gb754, 4, none⟩ = some (.string t746) ∧ w'.cell? ⟨gb754, 5, none⟩ = some (.int .i64 t747) ∧ w'.cell? ⟨gb754, 6, none⟩ = some (.slice Ao28 t748.length co28) ∧ w'.cell? ⟨gb754, 7, none⟩ = some (.slice Ao29 t751.length co29) ∧ w'.cell? ⟨gb727, 0, none⟩ = some (.int .i64 a0_0) ∧ w'.cell? ⟨gb727, 1, none⟩ = some (.int .i64 a0_1) ∧ w'.cell? ⟨gb727, 2, none⟩ = some (.int .i64 a0_2) ∧ w'.cell? ⟨gb727, 3, none⟩ = some (.int .i64 a0_3) ∧ w'.cell? ⟨gb727, 4, none⟩ = some (.string a0_4) ∧ w'.cell? ⟨gb727, 5, none⟩ = some (.int .i64 a0_5) ∧ w'.cell? ⟨gb727, 6, none⟩ = some (.slice A0_6 l0_6.length c0_6) ∧ w'.cell? ⟨gb727, 7, none⟩ = some (.slice A0_7 l0_7.length c0_7)) (ds := []) #[false, false, false, false, false] (by kernel_rfl) rfl rfl ⟨(blk_cell BK754.out 0).trans rfl, (blk_cell BK754.out 1).trans rfl, (blk_cell BK754.out 2).trans rfl, (blk_cell BK754.out 3).trans rfl, (blk_cell BK754.out 4).trans rfl, (blk_cell BK754.out 5).trans rfl, (blk_cell BK754.out 6).trans rfl, (blk_cell BK754.out 7).trans rfl, (blk_cell BK727.out 0).trans rfl, (blk_cell BK727.out 1).trans rfl, (blk_cell BK727.out 2).trans rfl, (blk_cell BK727.out 3).trans rfl, (blk_cell BK727.out 4).trans rfl, (blk_cell BK727.out 5).trans rfl, (blk_cell BK727.out 6).trans rfl, (blk_cell BK727.out 7).trans rfl⟩ (fun hHeld => ?_)
    generalize w30.drew = w31 at HO737 HO740 HO750 HO753 BK727 BK754 HB hHeld ⊢
    refine take_ (i := 0) (N := some 22) (v := ?_) (a' := ?_) #[true, false, false, false, false] rfl rfl (by kernel_rfl) (fun _ _ _ h => h) (Or.inl ⟨by rfl, ?_⟩) hHeld ?_ ?_
    rotate_left
    ·rintro w' ⟨s0, s1, s2, s3, s4, s5, s6, s7, s8, s9, s10, s11, s12, s13, s14, s15⟩
     go_simp
     with_reducible rfl
    rotate_left
    ·simp only [Act.put, sa_, s0_, ss_, i64_w, i32_w]
     rfl
    refine take_ (i := 1) (N := some 23) (v := ?_) (a' := ?_) #[true, true, false, false, false] rfl rfl (by kernel_rfl) (fun _ _ _ h => h) (Or.inl ⟨by rfl, ?_⟩) hHeld ?_ ?_
    rotate_left
    ·rintro w' ⟨s0, s1, s2, s3, s4, s5, s6, s7, s8, s9, s10, s11, s12, s13, s14, s15⟩
     go_simp
     with_reducible rfl
    rotate_left
    ·simp only [Act.put, sa_, s0_, ss_, i64_w, i32_w]
     rfl
    refine one_ (i := 2) (N := some 24) #[true, true, true, false, false] rfl rfl (by kernel_rfl) (by decide) (fun K hK => ?_)
    refine goes_ Try.func64 (by kernel_rfl) rfl #[.agg #[.int .i64 a0_0, .int .i64 a0_1, .int .i64 a0_2, .int .i64 a0_3, .string a0_4, .int .i64 a0_5, .slice A0_6 l0_6.length c0_6, .slice A0_7 l0_7.length c0_7]] (by rfl) rfl rfl (by (try simp only [List.map_toArray, List.map_cons, List.map_nil]); first | done | rfl | (simp only [List.length_drop, List.length_take]; rfl)) ?_
    with_reducible refine (laws_toMsg.calls k a0_0 a0_1 a0_2 a0_3 a0_4 a0_5 _ _ l0_6 _ _ l0_7 t756 t757 t758 t759 t760 t761 t762 t765 _ ?side1 ?side2 ?side3 ?side4 A12.out).mono ?_
    (case side1 => repeat (first | exact (Kd.C_below HR0_6.out HB.out) | (with_reducible refine Kd.C_alloc ?_ _) | (with_reducible refine Kd.C_drewN ?_ _) | (with_reducible refine Kd.C_drew ?_)))
    (case side2 => exact HC0_6.out)
    (case side3 => repeat (first | exact (Kd.C_below HR0_7.out HB.out) | (with_reducible refine Kd.C_alloc ?_ _) | (with_reducible refine Kd.C_drewN ?_ _) | (with_reducible refine Kd.C_drew ?_)))
    (case side4 => exact HC0_7.out)
    rintro e w32 ⟨v763, v766, rfl, ho0, ho1, hb⟩
    refine ⟨_, rfl, ?_⟩
    have n0_ := Aside0.mk (Kd.R_elder' (by (with_reducible repeat (first | apply Kd.R_alloc | apply Kd.R_drewN | apply Kd.R_drew)); exact HO737.out) (Kd.R_base ho0) hb)
    have n1_ := Aside0.mk (Kd.R_elder' (by (with_reducible repeat (first | apply Kd.R_alloc | apply Kd.R_drewN | apply Kd.R_drew)); exact HO740.out) (Kd.R_base ho1) hb)
    have n2_ := Aside0.mk (Kd.R_elder' (by (with_reducible repeat (first | apply Kd.R_alloc | apply Kd.R_drewN | apply Kd.R_drew)); exact HO750.out) (Kd.R_base ho0) hb)
    have n3_ := Aside0.mk (Kd.R_elder' (by (with_reducible repeat (first | apply Kd.R_alloc | apply Kd.R_drewN | apply Kd.R_drew)); exact HO753.out) (Kd.R_base ho1) hb)
    have n4_ := Aside0.mk (Kd.R_lower (Kd.R_new' (Kd.R_new' ho0 (Kd.R_lt (by (with_reducible repeat (first | apply Kd.R_alloc | apply Kd.R_drewN | apply Kd.R_drew)); exact HO737.out))) (Kd.R_lt (by (with_reducible repeat (first | apply Kd.R_alloc | apply Kd.R_drewN | apply Kd.R_drew)); exact HO750.out))) (below_size (by repeat (first | (with_reducible first | exact HB.out | apply below_alloc | apply pw_below_drewN | apply below_drew1 | refine below_set ?_ GE727.out | refine below_set ?_ GE754.out) | exact HB.out))))
    have n5_ := Aside0.mk (Kd.R_lower (Kd.R_new' (Kd.R_new' ho1 (Kd.R_lt (by (with_reducible repeat (first | apply Kd.R_alloc | apply Kd.R_drewN | apply Kd.R_drew)); exact HO740.out))) (Kd.R_lt (by (with_reducible repeat (first | apply Kd.R_alloc | apply Kd.R_drewN | apply Kd.R_drew)); exact HO753.out))) (below_size (by repeat (first | (with_reducible first | exact HB.out | apply below_alloc | apply pw_below_drewN | apply below_drew1 | refine below_set ?_ GE727.out | refine below_set ?_ GE754.out) | exact HB.out))))
    have n6_ := Aside0.mk (blk_below (g := gb727) (o := .cells #[.int .i64 a0_0, .int .i64 a0_1, .int .i64 a0_2, .int .i64 a0_3, .string a0_4, .int .i64 a0_5, .slice A0_6 l0_6.length c0_6, .slice A0_7 l0_7.length c0_7] 98 (0, 0)) (by (with_reducible repeat (first | refine blk_drewN ?_ _ | refine blk_drew ?_ | refine blk_alloc ?_ _)); exact BK727.out) hb)
    have n7_ := Aside0.mk (blk_below (g := gb754) (o := .cells #[.int .i64 t742, .int .i64 t743, .int .i64 t744, .int .i64 t745, .string t746, .int .i64 t747, .slice Ao28 t748.length co28, .slice Ao29 t751.length co29] 102 (0, 0)) (by (with_reducible repeat (first | refine blk_drewN ?_ _ | refine blk_drew ?_ | refine blk_alloc ?_ _)); exact BK754.out) hb)
    have n8_ := Aside0.mk (below_step (by repeat (first | (with_reducible first | exact HB.out | apply below_alloc | apply pw_below_drewN | apply below_drew1 | refine below_set ?_ GE727.out | refine below_set ?_ GE754.out) | exact HB.out)) hb)
    clear HO737
    clear HO740
    clear HO750
    clear HO753
    clear BK727
    clear BK754
    clear HB
    have HO737 := n0_
    have HO740 := n1_
    have HO750 := n2_
    have HO753 := n3_
    have HO764 := n4_
    have HO767 := n5_
    have BK727 := n6_
    have BK754 := n7_
    have HB := n8_
    clear n0_ n1_ n2_ n3_ n4_ n5_ n6_ n7_ n8_
    (try clear hb)
    (try clear hb2)
    (try clear hk)
    (try clear hi)
    (try clear ho0)
    (try clear ho1)
    obtain ⟨Ao33, co33, eo33⟩ := Kd.R_slice HO764.out
    (first | subst eo33 | (injection eo33 with f1_ f2_ f3_; have f4_ := f1_.symm; have f5_ := f3_.symm; clear f1_ f2_ f3_; subst f4_; subst f5_))
    obtain ⟨Ao34, co34, eo34⟩ := Kd.R_slice HO767.out
    (first | subst eo34 | (injection eo34 with f1_ f2_ f3_; have f4_ := f1_.symm; have f5_ := f3_.symm; clear f1_ f2_ f3_; subst f4_; subst f5_))
    refine hK.out _ _ ⟨(blk_cell BK754.out 0).trans rfl, (blk_cell BK754.out 1).trans rfl, (blk_cell BK754.out 2).trans rfl, (blk_cell BK754.out 3).trans rfl, (blk_cell BK754.out 4).trans rfl, (blk_cell BK754.out 5).trans rfl, (blk_cell BK754.out 6).trans rfl, (blk_cell BK754.out 7).trans rfl, (blk_cell BK727.out 0).trans rfl, (blk_cell BK727.out 1).trans rfl, (blk_cell BK727.out 2).trans rfl, (blk_cell BK727.out 3).trans rfl, (blk_cell BK727.out 4).trans rfl, (blk_cell BK727.out 5).trans rfl, (blk_cell BK727.out 6).trans rfl, (blk_cell BK727.out 7).trans rfl⟩ (fun hHeld => ?_)
    clear hK K
    refine norm_ (a' := ?_) ?_ ?_
    rotate_left
    ·show Act.put _ (some 24) _ = _
     simp only [Act.put, sa_, s0_, ss_, i64_w, i32_w]
     rfl
    refine one_ (i := 3) (N := some 25) #[true, true, true, true, false] rfl rfl (by kernel_rfl) (by decide) (fun K hK => ?_)
    refine goes_ Try.func66 (by kernel_rfl) rfl #[.agg #[.int .i64 t742, .int .i64 t743, .int .i64 t744, .int .i64 t745, .string t746, .int .i64 t747, .slice Ao28 t748.length co28, .slice Ao29 t751.length co29], .agg #[.int .i64 t756, .int .i64 t757, .int .i64 t758, .int .i64 t759, .string t760, .int .i64 t761, .slice Ao33 t762.length co33, .slice Ao34 t765.length co34]] (by rfl) rfl rfl (by (try simp only [List.map_toArray, List.map_cons, List.map_nil]); first | done | rfl | (simp only [List.length_drop, List.length_take]; rfl)) ?_
    with_reducible refine (laws_eqMsg.calls k t742 t743 t744 t745 t746 t747 _ _ t748 _ _ t751 t756 t757 t758 t759 t760 t761 _ _ t762 _ _ t765 true _ ?side1 ?side2 ?side3 ?side4 ?side5 ?side6 ?side7 ?side8 A13.out).mono ?_
    (case side1 => repeat (first | exact (Kd.R_reads' HO750.out).2.2 | (with_reducible refine Kd.C_alloc ?_ _) | (with_reducible refine Kd.C_drewN ?_ _) | (with_reducible refine Kd.C_drew ?_)))
    (case side2 => exact (Kd.R_reads' HO750.out).2.1)
    (case side3 => repeat (first | exact (Kd.R_reads' HO753.out).2.2 | (with_reducible refine Kd.C_alloc ?_ _) | (with_reducible refine Kd.C_drewN ?_ _) | (with_reducible refine Kd.C_drew ?_)))
    (case side4 => exact (Kd.R_reads' HO753.out).2.1)
    (case side5 => repeat (first | exact (Kd.R_reads' HO764.out).2.2 | (with_reducible refine Kd.C_alloc ?_ _) | (with_reducible refine Kd.C_drewN ?_ _) | (with_reducible refine Kd.C_drew ?_)))
    (case side6 => exact (Kd.R_reads' HO764.out).2.1)
    (case side7 => repeat (first | exact (Kd.R_reads' HO767.out).2.2 | (with_reducible refine Kd.C_alloc ?_ _) | (with_reducible refine Kd.C_drewN ?_ _) | (with_reducible refine Kd.C_drew ?_)))
    (case side8 => exact (Kd.R_reads' HO767.out).2.1)
    rintro e w35 ⟨rfl, hb⟩
    refine ⟨_, rfl, ?_⟩
    have n0_ := Aside0.mk (Kd.R_below (by (with_reducible repeat (first | apply Kd.R_alloc | apply Kd.R_drewN | apply Kd.R_drew)); exact HO737.out) hb)
    have n1_ := Aside0.mk (Kd.R_below (by (with_reducible repeat (first | apply Kd.R_alloc | apply Kd.R_drewN | apply Kd.R_drew)); exact HO740.out) hb)
    have n2_ := Aside0.mk (Kd.R_below (by (with_reducible repeat (first | apply Kd.R_alloc | apply Kd.R_drewN | apply Kd.R_drew)); exact HO750.out) hb)
    have n3_ := Aside0.mk (Kd.R_below (by (with_reducible repeat (first | apply Kd.R_alloc | apply Kd.R_drewN | apply Kd.R_drew)); exact HO753.out) hb)
    have n4_ := Aside0.mk (Kd.R_below (by (with_reducible repeat (first | apply Kd.R_alloc | apply Kd.R_drewN | apply Kd.R_drew)); exact HO764.out) hb)
    have n5_ := Aside0.mk (Kd.R_below (by (with_reducible repeat (first | apply Kd.R_alloc | apply Kd.R_drewN | apply Kd.R_drew)); exact HO767.out) hb)
    have n6_ := Aside0.mk (blk_below (g := gb727) (o := .cells #[.int .i64 a0_0, .int .i64 a0_1, .int .i64 a0_2, .int .i64 a0_3, .string a0_4, .int .i64 a0_5, .slice A0_6 l0_6.length c0_6, .slice A0_7 l0_7.length c0_7] 98 (0, 0)) (by (with_reducible repeat (first | refine blk_drewN ?_ _ | refine blk_drew ?_ | refine blk_alloc ?_ _)); exact BK727.out) hb)
    have n7_ := Aside0.mk (blk_below (g := gb754) (o := .cells #[.int .i64 t742, .int .i64 t743, .int .i64 t744, .int .i64 t745, .string t746, .int .i64 t747, .slice Ao28 t748.length co28, .slice Ao29 t751.length co29] 102 (0, 0)) (by (with_reducible repeat (first | refine blk_drewN ?_ _ | refine blk_drew ?_ | refine blk_alloc ?_ _)); exact BK754.out) hb)
    have n8_ := Aside0.mk (below_step (by repeat (first | (with_reducible first | exact HB.out | apply below_alloc | apply pw_below_drewN | apply below_drew1 | refine below_set ?_ GE727.out | refine below_set ?_ GE754.out) | exact HB.out)) hb)
    clear HO737
    clear HO740
    clear HO750
    clear HO753
    clear HO764
    clear HO767
    clear BK727
    clear BK754
    clear HB
    have HO737 := n0_
    have HO740 := n1_
    have HO750 := n2_
    have HO753 := n3_
    have HO764 := n4_
    have HO767 := n5_
    have BK727 := n6_
    have BK754 := n7_
    have HB := n8_
    clear n0_ n1_ n2_ n3_ n4_ n5_ n6_ n7_ n8_
    (try clear hb)
    (try clear hb2)
    (try clear hk)
    (try clear hi)
    refine hK.out _ _ ⟨(blk_cell BK754.out 0).trans rfl, (blk_cell BK754.out 1).trans rfl, (blk_cell BK754.out 2).trans rfl, (blk_cell BK754.out 3).trans rfl, (blk_cell BK754.out 4).trans rfl, (blk_cell BK754.out 5).trans rfl, (blk_cell BK754.out 6).trans rfl, (blk_cell BK754.out 7).trans rfl, (blk_cell BK727.out 0).trans rfl, (blk_cell BK727.out 1).trans rfl, (blk_cell BK727.out 2).trans rfl, (blk_cell BK727.out 3).trans rfl, (blk_cell BK727.out 4).trans rfl, (blk_cell BK727.out 5).trans rfl, (blk_cell BK727.out 6).trans rfl, (blk_cell BK727.out 7).trans rfl⟩ (fun hHeld => ?_)
    clear hK K
    refine norm_ (a' := ?_) ?_ ?_
    rotate_left
    ·show Act.put _ (some 25) _ = _
     simp only [Act.put, sa_, s0_, ss_, i64_w, i32_w]
     rfl
    refine pure_ (i := 4) (N := some 26) (v := ?_) (a' := ?_) #[true, true, true, true, true] rfl rfl (by kernel_rfl) (fun _ _ _ h => h) (Or.inl ⟨by rfl, ?_⟩) ?_ ?_
    rotate_left
    ·intro w'
     go_simp
     with_reducible rfl
    rotate_left
    ·simp only [Act.put, sa_, s0_, ss_, i64_w, i32_w]
     rfl
    refine done_ (by kernel_rfl) ?_
    try go_wp2
    go_ret
    exact ⟨by first | rfl | (simp [errW_none, errW_some] <;> rfl) | (simp [*, errW_none, errW_some] <;> rfl), by repeat (first | (with_reducible first | exact HB.out | apply below_alloc | apply pw_below_drewN | apply below_drew1 | refine below_set ?_ GE727.out | refine below_set ?_ GE754.out) | exact HB.out)⟩
   ·replace c14 := Bool.eq_false_iff.mpr c14
    subst c14
    have H1 : (none) = some r := by rw [if_neg (show ¬ (false = true) by decide)] at H; exact H
    clear H
    have H := H1
    clear H1
    exact absurd H (by simp)

end Go.Proofs.Ytdjhclgkkklajaa.P

namespace Go.Proofs.Ytdjhclgkkklajaa.P
open Go.RowKit Go.Proofs.Ytdjhclgkkklajaa.RO
def laws_FnExactMsgRight.Pure : Prop := ∀ (x0 : S98), wfT98 x0 → ∃ k, laws_FnExactMsgRight.f k x0.f0 x0.f1 x0.f2 x0.f3 x0.f4 x0.f5 x0.f6.f0 x0.f6.f1 = some true
end Go.Proofs.Ytdjhclgkkklajaa.P

namespace Go.Proofs.Ytdjhclgkkklajaa.Q
open Go.RowKit Go.Proofs.YtdjhclgkkklajaaW.PrintWords Go.Proofs.YtdjhclgkkklajaaW.PrintMore

theorem w64 {x : Int} (h0 : -9223372036854775808 ≤ x) (h1 : x ≤ 9223372036854775807) : wrap64 x = x := by unfold wrap64; omega
theorem evIte {α : Type} {c : Prop} [Decidable c] {f g : Nat → Option α} {r : α} (h : c → Ev f r) (h' : ¬ c → Ev g r) : Ev (fun k => if c then f k else g k) r := by
  by_cases hc : c
  · simp only [if_pos hc]; exact h hc
  · simp only [if_neg hc]; exact h' hc
theorem evPos {α : Type} {c : Prop} [Decidable c] {f g : Nat → Option α} {r : α} (hc : c) (h : Ev f r) : Ev (fun k => if c then f k else g k) r := by
  simp only [if_pos hc]; exact h
theorem evNeg {α : Type} {c : Prop} [Decidable c] {f g : Nat → Option α} {r : α} (hc : ¬ c) (h : Ev g r) : Ev (fun k => if c then f k else g k) r := by
  simp only [if_neg hc]; exact h
theorem evBind1 {α β : Type} {g : Option α} {f : Nat → α → Option β} {a : α} {r : β} (h : g = some a) (k : Ev (fun n => f n a) r) : Ev (fun n => g.bind (f n)) r := by
  subst h; exact k
theorem dropCons {α : Type} {l : List α} {i : Nat} {a : α} {s : List α} (h : l.drop i = a :: s) (d : α) : i < l.length ∧ l.getD i d = a ∧ l.drop (i + 1) = s := by
  have hl : i < l.length := by
    have := congrArg List.length h
    simp at this; omega
  rw [List.drop_eq_getElem_cons hl] at h
  injection h with h1 h2
  exact ⟨hl, by rw [List.getD_eq_getElem?_getD, List.getElem?_eq_getElem hl]; exact h1, h2⟩
theorem dropNil {α : Type} {l : List α} {i : Nat} (h : l.drop i = []) : l.length ≤ i := by
  have := congrArg List.length h
  simp at this; omega
theorem dropNil' {α : Type} {l : List α} {i : Nat} (h : l.drop i = []) (hi : i ≤ l.length) : l.length = i := by
  have := dropNil h; omega
end Go.Proofs.Ytdjhclgkkklajaa.Q

namespace Go.Proofs.Ytdjhclgkkklajaa.P
open Go.RowKit Go.Proofs.YtdjhclgkkklajaaW.PrintWords Go.Proofs.YtdjhclgkkklajaaW.PrintLast Go.Proofs.YtdjhclgkkklajaaW.PrintMore
attribute [local go_sem] max2_int min2_int max_two min_two max_three min_three max_four min_four   -- for this text's walks alone
set_option linter.unusedVariables false
set_option linter.unusedSimpArgs false

/-! ### impl_isMany_impl_Mark: function 85 -/
def impl_isMany_impl_Mark.f (l0 : List (S43)) : Option (Bool) := some (decide ((l0.length : Int) > 400))
end Go.Proofs.Ytdjhclgkkklajaa.P

namespace Go.Proofs.Ytdjhclgkkklajaa.Q
open Go.RowKit Go.Proofs.Ytdjhclgkkklajaa.P Go.Proofs.YtdjhclgkkklajaaW.PrintWords Go.Proofs.YtdjhclgkkklajaaW.PrintMore

abbrev Mark := S43
def isWithin (n low high : Int) : Bool := decide (low ≤ n) && decide (n ≤ high)
def isNode (n : Int) : Bool := isWithin n 1 5
def isDot (a b : Int) : Bool := isNode a && isWithin b 1 1000000
theorem l02Is_is (n a b : Int) : spec_l02Is.f n a b = some (isWithin n a b) := by
  unfold spec_l02Is.f isWithin
  split
  · rename_i h; simp [show a ≤ n from h]
  · rename_i h; simp [show ¬ a ≤ n from h]
theorem l02Node_is (n : Int) : spec_l02Node.f n = some (isNode n) := by simp [spec_l02Node.f, l02Is_is, isNode]
theorem l02Dot_is (a b : Int) : spec_l02Dot.f a b = some (isDot a b) := by
  simp only [spec_l02Dot.f, l02Node_is, l02Is_is, isDot, Option.bind_some]
  cases isNode a <;> simp
theorem within_is (n a b : Int) : impl_within.f n a b = some (isWithin n a b) := by
  unfold impl_within.f isWithin
  split
  · rename_i h; simp [show a ≤ n from h]
  · rename_i h; simp [show ¬ a ≤ n from h]
theorem isNode_is (n : Int) : impl_isNode.f n = some (isNode n) := by simp [impl_isNode.f, within_is, isNode]
theorem isDot_is (a b : Int) : impl_isDot.f a b = some (isDot a b) := by
  simp only [impl_isDot.f, isNode_is, within_is, isDot, Option.bind_some]
  cases isNode a <;> simp
/-- Dots whose nodes rise from above p. -/
def okFrom : Int → List Mark → Bool
  | _, [] => true
  | p, m :: r => isDot m.f0 m.f1 && (decide (p < m.f0) && okFrom m.f0 r)
def seenOk (v : List Mark) : Bool := okFrom 0 v
theorem isDot_iff (a b : Int) : isDot a b = true ↔ (1 ≤ a ∧ a ≤ 5) ∧ 1 ≤ b ∧ b ≤ 1000000 := by simp [isDot, isNode, isWithin]
/-- The node ahead of place i. -/
def prevAt (l : List Mark) (i : Nat) : Int := if i = 0 then 0 else (l.getD (i - 1) z43).f0
theorem prevAt_succ {l : List Mark} {i : Nat} {m : Mark} (h : l.getD i z43 = m) : prevAt l (i + 1) = m.f0 := by
  simp only [prevAt, Nat.add_sub_cancel, h]
  simp
theorem impl_seenRight_l0 (l : List Mark) (hl : l.length ≤ 4611686018427387904) : ∀ (s : List Mark) (i : Nat), l.drop i = s → i ≤ l.length → 0 ≤ prevAt l i →
    Ev (fun k => impl_seenRight.l0 k l l (l.length : Int) (i : Int)) (okFrom (prevAt l i) s)
  | [], i, h, hi, hp => by
    have := dropNil' h hi
    refine Ev.step (f := fun _ => some true) (fun k => ?_) (Ev.now _)
    simp only [impl_seenRight.l0]
    rw [if_neg (by omega)]
  | m :: s, i, h, hi, hp => by
    obtain ⟨h1, h2, h3⟩ := dropCons h z43
    have hr : rd_T43 l (i : Int) = m := by simpa [rd_T43] using h2
    have ih := fun hq => impl_seenRight_l0 l hl s (i + 1) h3 (by omega) hq
    rw [prevAt_succ h2] at ih
    by_cases hd : isDot m.f0 m.f1 = true
    · have hd' := (isDot_iff _ _).1 hd
      by_cases hlt : prevAt l i < m.f0
      · have ih := ih (by omega)
        refine Ev.step (fun k => ?_) (show Ev _ (okFrom (prevAt l i) (m :: s)) from by simp only [okFrom, hd, hlt, decide_true, Bool.true_and]; exact ih)
        simp only [impl_seenRight.l0, hr, isDot_is, Option.bind_some]
        rw [if_pos (by omega), if_pos (by omega), if_pos (by omega), if_pos hd, w64 (x := (i : Int) + 1) (by omega) (by omega)]
        by_cases hi0 : i = 0
        · subst hi0
          rw [if_neg (by omega)]; rfl
        · have hq : rd_T43 l ((i : Int) - 1) = l.getD (i - 1) z43 := by
            simp only [rd_T43]; congr 1; omega
          rw [w64 (x := (i : Int) - 1) (by omega) (by omega), if_pos (by omega), if_pos (by omega), if_pos (by omega), hq, if_neg (by simp only [prevAt, if_neg hi0] at hlt; omega)]
          rfl
      · refine Ev.step (f := fun _ => some false) (fun k => ?_) (show Ev _ (okFrom (prevAt l i) (m :: s)) from by simp only [okFrom, hd, hlt, decide_false, Bool.false_and, Bool.and_false]; exact Ev.now _)
        have hi0 : i ≠ 0 := by
          intro e; subst e
          simp [prevAt] at hlt; omega
        have hq : rd_T43 l ((i : Int) - 1) = l.getD (i - 1) z43 := by
          simp only [rd_T43]; congr 1; omega
        simp only [impl_seenRight.l0, hr, isDot_is, Option.bind_some]
        rw [if_pos (by omega), if_pos (by omega), if_pos (by omega), if_pos hd, w64 (x := (i : Int) - 1) (by omega) (by omega), if_pos (by omega), if_pos (by omega), if_pos (by omega), hq,
          if_pos (by simp only [prevAt, if_neg hi0] at hlt; omega)]
    · refine Ev.step (f := fun _ => some false) (fun k => ?_) (show Ev _ (okFrom (prevAt l i) (m :: s)) from by simp only [okFrom, Bool.eq_false_iff.mpr hd, Bool.false_and]; exact Ev.now _)
      simp only [impl_seenRight.l0, hr, isDot_is, Option.bind_some]
      rw [if_pos (by omega), if_pos (by omega), if_pos (by omega), if_neg hd]
theorem impl_seenRight_ev (l : List Mark) (hl : l.length ≤ 4611686018427387904) : Ev (fun k => impl_seenRight.f k l) (seenOk l) :=
  impl_seenRight_l0 l hl l 0 rfl (by omega) (by simp [prevAt])
theorem spec_SeenRight_l0 (l : List Mark) (hl : l.length ≤ 4611686018427387904) : ∀ (s : List Mark) (i : Nat), l.drop i = s → i ≤ l.length → (i : Int) ≤ prevAt l i → prevAt l i ≤ 5 →
    Ev (fun k => spec_SeenRight.l0 k l (i : Int)) (okFrom (prevAt l i) s)
  | [], i, h, hi, hp, hp5 => by
    have := dropNil' h hi
    refine Ev.step (f := fun k => spec_SeenRight.j1 k l (i : Int) false) (fun k => ?_) (Ev.step (f := fun _ => some true) (fun k => ?_) (Ev.now _))
    · simp only [spec_SeenRight.l0]
      rw [if_neg (by omega)]
    · simp only [spec_SeenRight.j1]
      rw [if_neg (by simp)]
      congr 1
      simp; omega
  | m :: s, i, h, hi, hp, hp5 => by
    obtain ⟨h1, h2, h3⟩ := dropCons h z43
    have hr : rd_T43 l (i : Int) = m := by simpa [rd_T43] using h2
    have ih := fun hq => spec_SeenRight_l0 l hl s (i + 1) h3 (by omega) hq
    rw [prevAt_succ h2] at ih
    have hj : decide ((i : Int) ≤ 5) = true := by simp; omega
    have hl0 : ∀ k, spec_SeenRight.l0 (k + 1) l (i : Int) = spec_SeenRight.j1 k l (i : Int) true := fun k => by
      simp only [spec_SeenRight.l0]
      rw [if_pos (by omega), hj]
    by_cases hd : isDot m.f0 m.f1 = true
    · have hd' := (isDot_iff _ _).1 hd
      by_cases hlt : prevAt l i < m.f0
      · have ih := ih (by omega) (by omega)
        refine Ev.step hl0 (Ev.step (fun k => ?_) (show Ev _ (okFrom (prevAt l i) (m :: s)) from by simp only [okFrom, hd, hlt, decide_true, Bool.true_and]; exact ih))
        simp only [spec_SeenRight.j1, hr, l02Dot_is, Option.bind_some]
        rw [if_pos trivial, if_pos (by omega), if_pos (by omega), if_pos hd, w64 (x := (i : Int) + 1) (by omega) (by omega)]
        by_cases hi0 : i = 0
        · subst hi0
          rw [if_neg (by omega)]; rfl
        · have hq : rd_T43 l ((i : Int) - 1) = l.getD (i - 1) z43 := by
            simp only [rd_T43]; congr 1; omega
          rw [w64 (x := (i : Int) - 1) (by omega) (by omega), if_pos (by omega), if_pos (by omega), if_pos (by omega), hq, if_neg (by simp only [prevAt, if_neg hi0] at hlt; omega)]
          rfl
      · refine Ev.step hl0 (Ev.step (f := fun _ => some false) (fun k => ?_) (show Ev _ (okFrom (prevAt l i) (m :: s)) from by simp only [okFrom, hd, hlt, decide_false, Bool.false_and, Bool.and_false]; exact Ev.now _))
        have hi0 : i ≠ 0 := by
          intro e; subst e
          simp [prevAt] at hlt; omega
        have hq : rd_T43 l ((i : Int) - 1) = l.getD (i - 1) z43 := by
          simp only [rd_T43]; congr 1; omega
        simp only [spec_SeenRight.j1, hr, l02Dot_is, Option.bind_some]
        rw [if_pos trivial, if_pos (by omega), if_pos (by omega), if_pos hd, w64 (x := (i : Int) - 1) (by omega) (by omega), if_pos (by omega), if_pos (by omega), if_pos (by omega), hq,
          if_pos (by simp only [prevAt, if_neg hi0] at hlt; omega)]
    · refine Ev.step hl0 (Ev.step (f := fun _ => some false) (fun k => ?_) (show Ev _ (okFrom (prevAt l i) (m :: s)) from by simp only [okFrom, Bool.eq_false_iff.mpr hd, Bool.false_and]; exact Ev.now _))
      simp only [spec_SeenRight.j1, hr, l02Dot_is, Option.bind_some]
      rw [if_pos trivial, if_pos (by omega), if_pos (by omega), if_neg hd]
theorem spec_SeenRight_ev (l : List Mark) (hl : l.length ≤ 4611686018427387904) : Ev (fun k => spec_SeenRight.f k l) (seenOk l) :=
  spec_SeenRight_l0 l hl l 0 rfl (by omega) (by simp [prevAt]) (by simp [prevAt])
end Go.Proofs.Ytdjhclgkkklajaa.Q

namespace Go.Proofs.Ytdjhclgkkklajaa.Q
open Go.RowKit Go.Proofs.Ytdjhclgkkklajaa.P Go.Proofs.YtdjhclgkkklajaaW.PrintWords Go.Proofs.YtdjhclgkkklajaaW.PrintMore

abbrev LMark := S36
def toMark (m : LMark) : Mark := ⟨m.f0, m.f1⟩
theorem szMarkS_is (l : List LMark) (n : Int) (h0 : 0 ≤ n) (h1 : n ≤ 1048576) (hl : l.length ≤ 9223372036854775807) :
    laws_szMarkS.f l n = some (if n < (l.length : Int) then -1 else n - (l.length : Int)) := by
  unfold laws_szMarkS.f
  rw [w64 (by omega) (by omega)]
  split
  · rw [if_pos (by omega)]
  · rw [if_neg (by omega)]
theorem toMarkS_l0 (l : List LMark) (hl : l.length ≤ 1048576) : ∀ (s : List LMark) (i : Nat), l.drop i = s → i ≤ l.length → ∀ (acc : List Mark), acc.length = l.length → acc.take i = (l.take i).map toMark →
    Ev (fun k => laws_toMarkS.l0 k l acc (i : Int)) (l.map toMark)
  | [], i, h, hi, acc, ha, hc => by
    have := dropNil' h hi
    refine Ev.step (f := fun _ => some (l.map toMark)) (fun k => ?_) (Ev.now _)
    simp only [laws_toMarkS.l0]
    rw [if_neg (by omega)]
    rw [← this, List.take_of_length_le (by omega), List.take_length] at hc
    rw [hc]
  | m :: s, i, h, hi, acc, ha, hc => by
    obtain ⟨h1, h2, h3⟩ := dropCons h z36
    have hr : rd_T36 l (i : Int) = m := by simpa [rd_T36] using h2
    have hm : l[i]'h1 = m := by
      rw [List.getD_eq_getElem?_getD, List.getElem?_eq_getElem h1] at h2; exact h2
    refine Ev.step (fun k => ?_) (toMarkS_l0 l hl s (i + 1) h3 (by omega) (acc.set i (toMark m)) (by simpa using ha) (by
      rw [List.take_succ_eq_append_getElem (by simp; omega), List.take_succ_eq_append_getElem h1, List.map_append, List.take_set_of_le (by omega), hc]
      simp [hm]))
    simp only [laws_toMarkS.l0, laws_toMark.f, hr, Option.bind_some, Int.toNat_natCast]
    rw [if_pos (by omega), if_pos (by omega), if_pos (by omega), w64 (by omega) (by omega)]
    rfl
theorem toMarkS_ev (l : List LMark) (hl : l.length ≤ 1048576) : Ev (fun k => laws_toMarkS.f k l) (l.map toMark) := by
  unfold laws_toMarkS.f
  refine evPos (by omega) (evPos (by omega) ?_)
  exact toMarkS_l0 l hl l 0 rfl (by omega) _ (by simp) (by simp)
theorem eqMark_refl (a b : Int) : laws_eqMark.f a b a b = some true := by simp [laws_eqMark.f]
theorem eqMarkS_l0 (l : List Mark) (hl : l.length ≤ 4611686018427387904) : ∀ (s : List Mark) (i : Nat), l.drop i = s → i ≤ l.length →
    Ev (fun k => laws_eqMarkS.l0 k l l (i : Int)) true
  | [], i, h, hi => by
    have := dropNil' h hi
    refine Ev.step (f := fun _ => some true) (fun k => ?_) (Ev.now _)
    simp only [laws_eqMarkS.l0]
    rw [if_neg (by omega)]
  | m :: s, i, h, hi => by
    obtain ⟨h1, h2, h3⟩ := dropCons h z43
    refine Ev.step (fun k => ?_) (eqMarkS_l0 l hl s (i + 1) h3 (by omega))
    simp only [laws_eqMarkS.l0, eqMark_refl, Option.bind_some]
    rw [if_pos (by omega), if_pos (by omega), if_pos (by omega), if_pos trivial, w64 (by omega) (by omega)]
    rfl
theorem eqMarkS_ev (l : List Mark) (hl : l.length ≤ 4611686018427387904) : Ev (fun k => laws_eqMarkS.f k l l) true := by
  unfold laws_eqMarkS.f
  exact evPos rfl (eqMarkS_l0 l hl l 0 rfl (by omega))
end Go.Proofs.Ytdjhclgkkklajaa.Q

namespace Go.Proofs.Ytdjhclgkkklajaa.P
open Go.RowKit Go.Proofs.YtdjhclgkkklajaaW.PrintWords Go.Proofs.YtdjhclgkkklajaaW.PrintLast Go.Proofs.YtdjhclgkkklajaaW.PrintMore
attribute [local go_sem] max2_int min2_int max_two min_two max_three min_three max_four min_four   -- for this text's walks alone
set_option linter.unusedVariables false
set_option linter.unusedSimpArgs false

/-! ### spec_l01Fold: function 75 -/
def spec_l01Fold.f (a0 : Int) : Option (Int) := if a0 < 0 then (some (IntKind.u64.wrap ((IntKind.u64.wrap (2 * (IntKind.u64.wrap (wrap64 (-(wrap64 (a0 + 1))))))) + 1))) else (some (IntKind.u64.wrap (2 * (IntKind.u64.wrap (a0)))))
end Go.Proofs.Ytdjhclgkkklajaa.P

namespace Go.Proofs.Ytdjhclgkkklajaa.P
open Go.RowKit Go.Proofs.YtdjhclgkkklajaaW.PrintWords Go.Proofs.YtdjhclgkkklajaaW.PrintLast Go.Proofs.YtdjhclgkkklajaaW.PrintMore
attribute [local go_sem] max2_int min2_int max_two min_two max_three min_three max_four min_four   -- for this text's walks alone
set_option linter.unusedVariables false
set_option linter.unusedSimpArgs false

/-! ### spec_PutNum: function 17 -/
def spec_PutNum.l0 : Nat → Int → List Int → Option (ByteArray)
 | 0, _, _ => none
 | k + 1, x3, x4 => if x3 ≥ 128 then (if x4.length < 140737488355328 then (spec_PutNum.l0 k (IntKind.u64.wrap (Int.tdiv x3 128)) (x4 ++ [(IntKind.u64.wrap ((Int.tmod x3 128) + 128)) % 256])) else (none)) else (if x4.length < 140737488355328 then (some (strOfNums (x4 ++ [(x3) % 256]))) else (none))
def spec_PutNum.f (k : Nat) (a0 : Int) : Option (ByteArray) := (spec_l01Fold.f a0).bind fun t118 => (spec_PutNum.l0 k t118 (([] : List Int)))
theorem spec_PutNum.mono_l : ∀ k, (∀ y0 y1, LeO (spec_PutNum.l0 k y0 y1) (spec_PutNum.l0 (k + 1) y0 y1))
 | 0 => fun _ _ r h => by simp [spec_PutNum.l0] at h
 | k + 1 => by
  have ih0 := spec_PutNum.mono_l k
  ·intro y0 y1
   unfold spec_PutNum.l0
   repeat' first
   | (with_reducible exact ih0 _ _)
   | (with_reducible exact LeO.refl _)
   | (with_reducible exact LeO.none _)
   | (with_reducible refine LeO.ite ?_ ?_)
   | (with_reducible refine LeO.bind ?_ (fun _ => ?_))
   | exact ih0 _ _
   | exact LeO.none _
   | refine LeO.ite ?_ ?_
   | refine LeO.bind ?_ (fun _ => ?_)
theorem spec_PutNum.mono : ∀ a0 k, LeO (spec_PutNum.f k a0) (spec_PutNum.f (k + 1) a0) := by
 intro a0 k
 have ih0 := spec_PutNum.mono_l k
 unfold spec_PutNum.f
 repeat' first
   | (with_reducible exact ih0 _ _)
   | (with_reducible exact LeO.refl _)
   | (with_reducible exact LeO.none _)
   | (with_reducible refine LeO.ite ?_ ?_)
   | (with_reducible refine LeO.bind ?_ (fun _ => ?_))
   | exact ih0 _ _
   | exact LeO.none _
   | refine LeO.ite ?_ ?_
   | refine LeO.bind ?_ (fun _ => ?_)
end Go.Proofs.Ytdjhclgkkklajaa.P

namespace Go.Proofs.Ytdjhclgkkklajaa.P
open Go.RowKit Go.Proofs.YtdjhclgkkklajaaW.PrintWords Go.Proofs.YtdjhclgkkklajaaW.PrintLast Go.Proofs.YtdjhclgkkklajaaW.PrintMore
attribute [local go_sem] max2_int min2_int max_two min_two max_three min_three max_four min_four   -- for this text's walks alone
set_option linter.unusedVariables false
set_option linter.unusedSimpArgs false

/-! ### impl_PutNum: function 16 -/
def impl_PutNum.l0 : Nat → Int → List Int → Option (ByteArray)
 | 0, _, _ => none
 | k + 1, x3, x4 => if x3 ≥ 128 then (if x4.length < 140737488355328 then (impl_PutNum.l0 k (x3 / 128) (x4 ++ [Go.bits .or .u8 ((Go.bits .and .u64 x3 127) % 256) 128])) else (none)) else (if x4.length < 140737488355328 then (some (strOfNums (x4 ++ [(x3) % 256]))) else (none))
def impl_PutNum.f (k : Nat) (a0 : Int) : Option (ByteArray) := impl_PutNum.l0 k (Go.bits .xor .u64 (IntKind.u64.wrap ((IntKind.u64.wrap (a0)) * 2)) (IntKind.u64.wrap (a0 / 9223372036854775808))) ([] : List Int)
theorem impl_PutNum.mono_l : ∀ k, (∀ y0 y1, LeO (impl_PutNum.l0 k y0 y1) (impl_PutNum.l0 (k + 1) y0 y1))
 | 0 => fun _ _ r h => by simp [impl_PutNum.l0] at h
 | k + 1 => by
  have ih0 := impl_PutNum.mono_l k
  ·intro y0 y1
   unfold impl_PutNum.l0
   repeat' first
   | (with_reducible exact ih0 _ _)
   | (with_reducible exact LeO.refl _)
   | (with_reducible exact LeO.none _)
   | (with_reducible refine LeO.ite ?_ ?_)
   | (with_reducible refine LeO.bind ?_ (fun _ => ?_))
   | exact ih0 _ _
   | exact LeO.none _
   | refine LeO.ite ?_ ?_
   | refine LeO.bind ?_ (fun _ => ?_)
theorem impl_PutNum.mono : ∀ a0 k, LeO (impl_PutNum.f k a0) (impl_PutNum.f (k + 1) a0) := by
 intro a0 k
 have ih0 := impl_PutNum.mono_l k
 unfold impl_PutNum.f
 repeat' first
   | (with_reducible exact ih0 _ _)
   | (with_reducible exact LeO.refl _)
   | (with_reducible exact LeO.none _)
   | (with_reducible refine LeO.ite ?_ ?_)
   | (with_reducible refine LeO.bind ?_ (fun _ => ?_))
   | exact ih0 _ _
   | exact LeO.none _
   | refine LeO.ite ?_ ?_
   | refine LeO.bind ?_ (fun _ => ?_)
end Go.Proofs.Ytdjhclgkkklajaa.P

namespace Go.Proofs.Ytdjhclgkkklajaa.P
open Go.RowKit Go.Proofs.YtdjhclgkkklajaaW.PrintWords Go.Proofs.YtdjhclgkkklajaaW.PrintLast Go.Proofs.YtdjhclgkkklajaaW.PrintMore
attribute [local go_sem] max2_int min2_int max_two min_two max_three min_three max_four min_four   -- for this text's walks alone
set_option linter.unusedVariables false
set_option linter.unusedSimpArgs false

/-! ### impl_isLong_1: function 137 -/
def impl_isLong_1.f (a0 : ByteArray) : Option (Bool) := some (decide ((a0.size : Int) > 8000))
end Go.Proofs.Ytdjhclgkkklajaa.P

namespace Go.Proofs.Ytdjhclgkkklajaa.P
open Go.RowKit Go.Proofs.YtdjhclgkkklajaaW.PrintWords Go.Proofs.YtdjhclgkkklajaaW.PrintLast Go.Proofs.YtdjhclgkkklajaaW.PrintMore
attribute [local go_sem] max2_int min2_int max_two min_two max_three min_three max_four min_four   -- for this text's walks alone
set_option linter.unusedVariables false
set_option linter.unusedSimpArgs false

/-! ### slices_IndexFunc_string_string_impl_isLong_1: function 163 -/
def slices_IndexFunc_string_string_impl_isLong_1.l0 : Nat → List ByteArray → Int → Int → Option (Int)
 | 0, _, _, _ => none
 | k + 1, x0, x7, x8 => if x8 < x7 then (if 0 ≤ x8 then (if x8 < (x0.length : Int) then ((impl_isLong_1.f (rdOf ByteArray.empty x0 x8)).bind fun t129 => (if t129 = true then (some x8) else (slices_IndexFunc_string_string_impl_isLong_1.l0 k x0 x7 (wrap64 (x8 + 1))))) else (none)) else (none)) else (some (-1))
def slices_IndexFunc_string_string_impl_isLong_1.f (k : Nat) (l0 : List ByteArray)  : Option (Int) := slices_IndexFunc_string_string_impl_isLong_1.l0 k l0 (l0.length : Int) 0
theorem slices_IndexFunc_string_string_impl_isLong_1.mono_l : ∀ k, (∀ y0 y1 y2, LeO (slices_IndexFunc_string_string_impl_isLong_1.l0 k y0 y1 y2) (slices_IndexFunc_string_string_impl_isLong_1.l0 (k + 1) y0 y1 y2))
 | 0 => fun _ _ _ r h => by simp [slices_IndexFunc_string_string_impl_isLong_1.l0] at h
 | k + 1 => by
  have ih0 := slices_IndexFunc_string_string_impl_isLong_1.mono_l k
  ·intro y0 y1 y2
   unfold slices_IndexFunc_string_string_impl_isLong_1.l0
   repeat' first
   | (with_reducible exact ih0 _ _ _)
   | (with_reducible exact LeO.refl _)
   | (with_reducible exact LeO.none _)
   | (with_reducible refine LeO.ite ?_ ?_)
   | (with_reducible refine LeO.bind ?_ (fun _ => ?_))
   | exact ih0 _ _ _
   | exact LeO.none _
   | refine LeO.ite ?_ ?_
   | refine LeO.bind ?_ (fun _ => ?_)
theorem slices_IndexFunc_string_string_impl_isLong_1.mono : ∀ a0 k, LeO (slices_IndexFunc_string_string_impl_isLong_1.f k a0) (slices_IndexFunc_string_string_impl_isLong_1.f (k + 1) a0) := by
 intro a0 k
 have ih0 := slices_IndexFunc_string_string_impl_isLong_1.mono_l k
 unfold slices_IndexFunc_string_string_impl_isLong_1.f
 repeat' first
   | (with_reducible exact ih0 _ _ _)
   | (with_reducible exact LeO.refl _)
   | (with_reducible exact LeO.none _)
   | (with_reducible refine LeO.ite ?_ ?_)
   | (with_reducible refine LeO.bind ?_ (fun _ => ?_))
   | exact ih0 _ _ _
   | exact LeO.none _
   | refine LeO.ite ?_ ?_
   | refine LeO.bind ?_ (fun _ => ?_)
end Go.Proofs.Ytdjhclgkkklajaa.P

namespace Go.Proofs.Ytdjhclgkkklajaa.P
open Go.RowKit Go.Proofs.YtdjhclgkkklajaaW.PrintWords Go.Proofs.YtdjhclgkkklajaaW.PrintLast Go.Proofs.YtdjhclgkkklajaaW.PrintMore
attribute [local go_sem] max2_int min2_int max_two min_two max_three min_three max_four min_four   -- for this text's walks alone
set_option linter.unusedVariables false
set_option linter.unusedSimpArgs false

/-! ### slices_ContainsFunc_string_string_impl_isLong_1: function 136 -/
def slices_ContainsFunc_string_string_impl_isLong_1.f (k : Nat) (l0 : List ByteArray)  : Option (Bool) := (slices_IndexFunc_string_string_impl_isLong_1.f k l0).bind fun t130 => (some (decide (t130 ≥ 0)))
theorem slices_ContainsFunc_string_string_impl_isLong_1.mono : ∀ a0 k, LeO (slices_ContainsFunc_string_string_impl_isLong_1.f k a0) (slices_ContainsFunc_string_string_impl_isLong_1.f (k + 1) a0) := by
 intro a0 k
 unfold slices_ContainsFunc_string_string_impl_isLong_1.f
 repeat' first
   | (with_reducible exact slices_IndexFunc_string_string_impl_isLong_1.mono _ _)
   | (with_reducible exact LeO.refl _)
   | (with_reducible exact LeO.none _)
   | (with_reducible refine LeO.ite ?_ ?_)
   | (with_reducible refine LeO.bind ?_ (fun _ => ?_))
   | exact slices_IndexFunc_string_string_impl_isLong_1.mono _ _
   | exact LeO.none _
   | refine LeO.ite ?_ ?_
   | refine LeO.bind ?_ (fun _ => ?_)
end Go.Proofs.Ytdjhclgkkklajaa.P

namespace Go.Proofs.Ytdjhclgkkklajaa.P
open Go.RowKit Go.Proofs.YtdjhclgkkklajaaW.PrintWords Go.Proofs.YtdjhclgkkklajaaW.PrintLast Go.Proofs.YtdjhclgkkklajaaW.PrintMore
attribute [local go_sem] max2_int min2_int max_two min_two max_three min_three max_four min_four   -- for this text's walks alone
set_option linter.unusedVariables false
set_option linter.unusedSimpArgs false

/-! ### impl_isLong: function 76 -/
def impl_isLong.f (k : Nat) (l0 : List ByteArray) : Option (Bool) := (slices_ContainsFunc_string_string_impl_isLong_1.f k l0).bind fun t131 => (some t131)
theorem impl_isLong.mono : ∀ a0 k, LeO (impl_isLong.f k a0) (impl_isLong.f (k + 1) a0) := by
 intro a0 k
 unfold impl_isLong.f
 repeat' first
   | (with_reducible exact slices_ContainsFunc_string_string_impl_isLong_1.mono _ _)
   | (with_reducible exact LeO.refl _)
   | (with_reducible exact LeO.none _)
   | (with_reducible refine LeO.ite ?_ ?_)
   | (with_reducible refine LeO.bind ?_ (fun _ => ?_))
   | exact slices_ContainsFunc_string_string_impl_isLong_1.mono _ _
   | exact LeO.none _
   | refine LeO.ite ?_ ?_
   | refine LeO.bind ?_ (fun _ => ?_)
end Go.Proofs.Ytdjhclgkkklajaa.P

namespace Go.Proofs.Ytdjhclgkkklajaa.P
open Go.RowKit Go.Proofs.YtdjhclgkkklajaaW.PrintWords Go.Proofs.YtdjhclgkkklajaaW.PrintLast Go.Proofs.YtdjhclgkkklajaaW.PrintMore
attribute [local go_sem] max2_int min2_int max_two min_two max_three min_three max_four min_four   -- for this text's walks alone
set_option linter.unusedVariables false
set_option linter.unusedSimpArgs false

/-! ### spec_PutText: function 21 -/
def spec_PutText.f (k : Nat) (a0 : ByteArray) : Option (ByteArray) := if (a0.size : Int) > 8000 then (some (⟨#[]⟩ : ByteArray)) else ((spec_PutNum.f k (a0.size : Int)).bind fun t153 => (if t153.size + a0.size ≤ 9223372036854775807 then (some (t153 ++ a0)) else (none)))
theorem spec_PutText.mono : ∀ a0 k, LeO (spec_PutText.f k a0) (spec_PutText.f (k + 1) a0) := by
 intro a0 k
 unfold spec_PutText.f
 repeat' first
   | (with_reducible exact spec_PutNum.mono _ _)
   | (with_reducible exact LeO.refl _)
   | (with_reducible exact LeO.none _)
   | (with_reducible refine LeO.ite ?_ ?_)
   | (with_reducible refine LeO.bind ?_ (fun _ => ?_))
   | exact spec_PutNum.mono _ _
   | exact LeO.none _
   | refine LeO.ite ?_ ?_
   | refine LeO.bind ?_ (fun _ => ?_)
end Go.Proofs.Ytdjhclgkkklajaa.P

namespace Go.Proofs.Ytdjhclgkkklajaa.P
open Go.RowKit Go.Proofs.YtdjhclgkkklajaaW.PrintWords Go.Proofs.YtdjhclgkkklajaaW.PrintLast Go.Proofs.YtdjhclgkkklajaaW.PrintMore
attribute [local go_sem] max2_int min2_int max_two min_two max_three min_three max_four min_four   -- for this text's walks alone
set_option linter.unusedVariables false
set_option linter.unusedSimpArgs false

/-! ### impl_PutText: function 20 -/
def impl_PutText.f (k : Nat) (a0 : ByteArray) : Option (ByteArray) := (impl_isLong.f k (([a0] : List ByteArray))).bind fun t150 => (if t150 = true then (some (⟨#[]⟩ : ByteArray)) else ((impl_size.f a0).bind fun t151 => ((impl_PutNum.f k t151).bind fun t152 => (if t152.size + a0.size ≤ 9223372036854775807 then (some (t152 ++ a0)) else (none)))))
theorem impl_PutText.mono : ∀ a0 k, LeO (impl_PutText.f k a0) (impl_PutText.f (k + 1) a0) := by
 intro a0 k
 unfold impl_PutText.f
 repeat' first
   | (with_reducible exact impl_PutNum.mono _ _)
   | (with_reducible exact impl_isLong.mono _ _)
   | (with_reducible exact LeO.refl _)
   | (with_reducible exact LeO.none _)
   | (with_reducible refine LeO.ite ?_ ?_)
   | (with_reducible refine LeO.bind ?_ (fun _ => ?_))
   | exact impl_PutNum.mono _ _
   | exact impl_isLong.mono _ _
   | exact LeO.none _
   | refine LeO.ite ?_ ?_
   | refine LeO.bind ?_ (fun _ => ?_)
end Go.Proofs.Ytdjhclgkkklajaa.P

namespace Go.Proofs.Ytdjhclgkkklajaa.P
open Go.RowKit Go.Proofs.YtdjhclgkkklajaaW.PrintWords Go.Proofs.YtdjhclgkkklajaaW.PrintLast Go.Proofs.YtdjhclgkkklajaaW.PrintMore
attribute [local go_sem] max2_int min2_int max_two min_two max_three min_three max_four min_four   -- for this text's walks alone
set_option linter.unusedVariables false
set_option linter.unusedSimpArgs false

/-! ### spec_l01Max: function 138 -/
def spec_l01Max.f (a0 : Int) (a1 : Int) : Option (Int) := if a0 > a1 then (some a0) else (some a1)
end Go.Proofs.Ytdjhclgkkklajaa.P

namespace Go.Proofs.Ytdjhclgkkklajaa.P
open Go.RowKit Go.Proofs.YtdjhclgkkklajaaW.PrintWords Go.Proofs.YtdjhclgkkklajaaW.PrintLast Go.Proofs.YtdjhclgkkklajaaW.PrintMore
attribute [local go_sem] max2_int min2_int max_two min_two max_three min_three max_four min_four   -- for this text's walks alone
set_option linter.unusedVariables false
set_option linter.unusedSimpArgs false

/-! ### spec_l02Join: function 84 -/
def spec_l02Join.l0 : Nat → List (S43) → List (S43) → List (S43) → Int → Option ((List (S43)))
 | 0, _, _, _, _ => none
 | k + 1, x0, x1, x5, x6 => if x6 ≤ 5 then ((spec_l02Of.f k x0 x6).bind fun t174 => ((spec_l02Of.f k x1 x6).bind fun t175 => ((spec_l01Max.f t174 t175).bind fun t176 => (if t176 > 0 then (if x5.length < 8796093022208 then (spec_l02Join.l0 k x0 x1 (x5 ++ [(⟨x6, t176⟩ : S43)]) (wrap64 (x6 + 1))) else (none)) else (spec_l02Join.l0 k x0 x1 x5 (wrap64 (x6 + 1))))))) else (some x5)
def spec_l02Join.f (k : Nat) (l0 : List (S43)) (l1 : List (S43)) : Option ((List (S43))) := spec_l02Join.l0 k l0 l1 (([] : List (S43))) 1
theorem spec_l02Join.mono_l : ∀ k, (∀ y0 y1 y2 y3, LeO (spec_l02Join.l0 k y0 y1 y2 y3) (spec_l02Join.l0 (k + 1) y0 y1 y2 y3))
 | 0 => fun _ _ _ _ r h => by simp [spec_l02Join.l0] at h
 | k + 1 => by
  have ih0 := spec_l02Join.mono_l k
  ·intro y0 y1 y2 y3
   unfold spec_l02Join.l0
   repeat' first
   | (with_reducible exact ih0 _ _ _ _)
   | (with_reducible exact spec_l02Of.mono _ _ _)
   | (with_reducible exact LeO.refl _)
   | (with_reducible exact LeO.none _)
   | (with_reducible refine LeO.ite ?_ ?_)
   | (with_reducible refine LeO.bind ?_ (fun _ => ?_))
   | exact ih0 _ _ _ _
   | exact spec_l02Of.mono _ _ _
   | exact LeO.none _
   | refine LeO.ite ?_ ?_
   | refine LeO.bind ?_ (fun _ => ?_)
theorem spec_l02Join.mono : ∀ a0 a1 k, LeO (spec_l02Join.f k a0 a1) (spec_l02Join.f (k + 1) a0 a1) := by
 intro a0 a1 k
 have ih0 := spec_l02Join.mono_l k
 unfold spec_l02Join.f
 repeat' first
   | (with_reducible exact ih0 _ _ _ _)
   | (with_reducible exact spec_l02Of.mono _ _ _)
   | (with_reducible exact LeO.refl _)
   | (with_reducible exact LeO.none _)
   | (with_reducible refine LeO.ite ?_ ?_)
   | (with_reducible refine LeO.bind ?_ (fun _ => ?_))
   | exact ih0 _ _ _ _
   | exact spec_l02Of.mono _ _ _
   | exact LeO.none _
   | refine LeO.ite ?_ ?_
   | refine LeO.bind ?_ (fun _ => ?_)
end Go.Proofs.Ytdjhclgkkklajaa.P

namespace Go.Proofs.Ytdjhclgkkklajaa.P
open Go.RowKit Go.Proofs.YtdjhclgkkklajaaW.PrintWords Go.Proofs.YtdjhclgkkklajaaW.PrintLast Go.Proofs.YtdjhclgkkklajaaW.PrintMore
attribute [local go_sem] max2_int min2_int max_two min_two max_three min_three max_four min_four   -- for this text's walks alone
set_option linter.unusedVariables false
set_option linter.unusedSimpArgs false

/-! ### impl_seenJoin: function 88 -/
def impl_seenJoin.l0 : Nat → List (S43) → List (S43) → List (S43) → Int → Option ((List (S43)))
 | 0, _, _, _, _ => none
 | k + 1, x0, x1, x5, x6 => if x6 ≤ 5 then ((impl_seenOf.f k x0 x6).bind fun t210 => ((impl_seenOf.f k x1 x6).bind fun t211 => (if (mx t210 t211) > 0 then (if x5.length < 8796093022208 then (impl_seenJoin.l0 k x0 x1 (x5 ++ [(⟨x6, mx t210 t211⟩ : S43)]) (wrap64 (x6 + 1))) else (none)) else (impl_seenJoin.l0 k x0 x1 x5 (wrap64 (x6 + 1)))))) else (some x5)
def impl_seenJoin.f (k : Nat) (l0 : List (S43)) (l1 : List (S43)) : Option ((List (S43))) := impl_seenJoin.l0 k l0 l1 ([] : List (S43)) 1
theorem impl_seenJoin.mono_l : ∀ k, (∀ y0 y1 y2 y3, LeO (impl_seenJoin.l0 k y0 y1 y2 y3) (impl_seenJoin.l0 (k + 1) y0 y1 y2 y3))
 | 0 => fun _ _ _ _ r h => by simp [impl_seenJoin.l0] at h
 | k + 1 => by
  have ih0 := impl_seenJoin.mono_l k
  ·intro y0 y1 y2 y3
   unfold impl_seenJoin.l0
   repeat' first
   | (with_reducible exact ih0 _ _ _ _)
   | (with_reducible exact impl_seenOf.mono _ _ _)
   | (with_reducible exact LeO.refl _)
   | (with_reducible exact LeO.none _)
   | (with_reducible refine LeO.ite ?_ ?_)
   | (with_reducible refine LeO.bind ?_ (fun _ => ?_))
   | exact ih0 _ _ _ _
   | exact impl_seenOf.mono _ _ _
   | exact LeO.none _
   | refine LeO.ite ?_ ?_
   | refine LeO.bind ?_ (fun _ => ?_)
theorem impl_seenJoin.mono : ∀ a0 a1 k, LeO (impl_seenJoin.f k a0 a1) (impl_seenJoin.f (k + 1) a0 a1) := by
 intro a0 a1 k
 have ih0 := impl_seenJoin.mono_l k
 unfold impl_seenJoin.f
 repeat' first
   | (with_reducible exact ih0 _ _ _ _)
   | (with_reducible exact impl_seenOf.mono _ _ _)
   | (with_reducible exact LeO.refl _)
   | (with_reducible exact LeO.none _)
   | (with_reducible refine LeO.ite ?_ ?_)
   | (with_reducible refine LeO.bind ?_ (fun _ => ?_))
   | exact ih0 _ _ _ _
   | exact impl_seenOf.mono _ _ _
   | exact LeO.none _
   | refine LeO.ite ?_ ?_
   | refine LeO.bind ?_ (fun _ => ?_)
end Go.Proofs.Ytdjhclgkkklajaa.P

namespace Go.Proofs.Ytdjhclgkkklajaa.P
open Go.RowKit Go.Proofs.YtdjhclgkkklajaaW.PrintWords Go.Proofs.YtdjhclgkkklajaaW.PrintLast Go.Proofs.YtdjhclgkkklajaaW.PrintMore
attribute [local go_sem] max2_int min2_int max_two min_two max_three min_three max_four min_four   -- for this text's walks alone
set_option linter.unusedVariables false
set_option linter.unusedSimpArgs false

/-! ### spec_l02Bytes: function 157 -/
def spec_l02Bytes.l0 : Nat → List (S43) → ByteArray → Int → Option (ByteArray)
 | 0, _, _, _ => none
 | k + 1, x0, x3, x4 => if x4 < (x0.length : Int) then (if 0 ≤ x4 then ((spec_PutNum.f k ((rd_T43 x0 x4).f0)).bind fun t623 => (if x3.size + t623.size ≤ 9223372036854775807 then ((spec_PutNum.f k ((rd_T43 x0 x4).f1)).bind fun t625 => (if (x3.size + t623.size) + t625.size ≤ 9223372036854775807 then (spec_l02Bytes.l0 k x0 ((x3 ++ t623) ++ t625) (wrap64 (x4 + 1))) else (none))) else (none))) else (none)) else (some x3)
def spec_l02Bytes.f (k : Nat) (l0 : List (S43)) : Option (ByteArray) := (spec_PutNum.f k (l0.length : Int)).bind fun t621 => (spec_l02Bytes.l0 k l0 t621 0)
theorem spec_l02Bytes.mono_l : ∀ k, (∀ y0 y1 y2, LeO (spec_l02Bytes.l0 k y0 y1 y2) (spec_l02Bytes.l0 (k + 1) y0 y1 y2))
 | 0 => fun _ _ _ r h => by simp [spec_l02Bytes.l0] at h
 | k + 1 => by
  have ih0 := spec_l02Bytes.mono_l k
  ·intro y0 y1 y2
   unfold spec_l02Bytes.l0
   repeat' first
   | (with_reducible exact ih0 _ _ _)
   | (with_reducible exact spec_PutNum.mono _ _)
   | (with_reducible exact LeO.refl _)
   | (with_reducible exact LeO.none _)
   | (with_reducible refine LeO.ite ?_ ?_)
   | (with_reducible refine LeO.bind ?_ (fun _ => ?_))
   | exact ih0 _ _ _
   | exact spec_PutNum.mono _ _
   | exact LeO.none _
   | refine LeO.ite ?_ ?_
   | refine LeO.bind ?_ (fun _ => ?_)
theorem spec_l02Bytes.mono : ∀ a0 k, LeO (spec_l02Bytes.f k a0) (spec_l02Bytes.f (k + 1) a0) := by
 intro a0 k
 have ih0 := spec_l02Bytes.mono_l k
 unfold spec_l02Bytes.f
 repeat' first
   | (with_reducible exact ih0 _ _ _)
   | (with_reducible exact spec_PutNum.mono _ _)
   | (with_reducible exact LeO.refl _)
   | (with_reducible exact LeO.none _)
   | (with_reducible refine LeO.ite ?_ ?_)
   | (with_reducible refine LeO.bind ?_ (fun _ => ?_))
   | exact ih0 _ _ _
   | exact spec_PutNum.mono _ _
   | exact LeO.none _
   | refine LeO.ite ?_ ?_
   | refine LeO.bind ?_ (fun _ => ?_)
end Go.Proofs.Ytdjhclgkkklajaa.P

namespace Go.Proofs.Ytdjhclgkkklajaa.P
open Go.RowKit Go.Proofs.YtdjhclgkkklajaaW.PrintWords Go.Proofs.YtdjhclgkkklajaaW.PrintLast Go.Proofs.YtdjhclgkkklajaaW.PrintMore
attribute [local go_sem] max2_int min2_int max_two min_two max_three min_three max_four min_four   -- for this text's walks alone
set_option linter.unusedVariables false
set_option linter.unusedSimpArgs false

/-! ### impl_seenBytes: function 161 -/
def impl_seenBytes.l0 : Nat → ByteArray → List (S43) → Int → Int → Option (ByteArray)
 | 0, _, _, _, _ => none
 | k + 1, x3, x9, x10, x11 => if x11 < x10 then (if 0 ≤ x11 then (if x11 < (x9.length : Int) then ((impl_PutNum.f k ((rd_T43 x9 x11).f0)).bind fun t834 => ((impl_PutNum.f k ((rd_T43 x9 x11).f1)).bind fun t835 => (if t834.size + t835.size ≤ 9223372036854775807 then (if x3.size + (t834.size + t835.size) ≤ 9223372036854775807 then (impl_seenBytes.l0 k (x3 ++ (t834 ++ t835)) x9 x10 (wrap64 (x11 + 1))) else (none)) else (none)))) else (none)) else (none)) else (some x3)
def impl_seenBytes.f (k : Nat) (l0 : List (S43)) : Option (ByteArray) := (impl_PutNum.f k (l0.length : Int)).bind fun t831 => (impl_seenBytes.l0 k t831 l0 (l0.length : Int) 0)
theorem impl_seenBytes.mono_l : ∀ k, (∀ y0 y1 y2 y3, LeO (impl_seenBytes.l0 k y0 y1 y2 y3) (impl_seenBytes.l0 (k + 1) y0 y1 y2 y3))
 | 0 => fun _ _ _ _ r h => by simp [impl_seenBytes.l0] at h
 | k + 1 => by
  have ih0 := impl_seenBytes.mono_l k
  ·intro y0 y1 y2 y3
   unfold impl_seenBytes.l0
   repeat' first
   | (with_reducible exact ih0 _ _ _ _)
   | (with_reducible exact impl_PutNum.mono _ _)
   | (with_reducible exact LeO.refl _)
   | (with_reducible exact LeO.none _)
   | (with_reducible refine LeO.ite ?_ ?_)
   | (with_reducible refine LeO.bind ?_ (fun _ => ?_))
   | exact ih0 _ _ _ _
   | exact impl_PutNum.mono _ _
   | exact LeO.none _
   | refine LeO.ite ?_ ?_
   | refine LeO.bind ?_ (fun _ => ?_)
theorem impl_seenBytes.mono : ∀ a0 k, LeO (impl_seenBytes.f k a0) (impl_seenBytes.f (k + 1) a0) := by
 intro a0 k
 have ih0 := impl_seenBytes.mono_l k
 unfold impl_seenBytes.f
 repeat' first
   | (with_reducible exact ih0 _ _ _ _)
   | (with_reducible exact impl_PutNum.mono _ _)
   | (with_reducible exact LeO.refl _)
   | (with_reducible exact LeO.none _)
   | (with_reducible refine LeO.ite ?_ ?_)
   | (with_reducible refine LeO.bind ?_ (fun _ => ?_))
   | exact ih0 _ _ _ _
   | exact impl_PutNum.mono _ _
   | exact LeO.none _
   | refine LeO.ite ?_ ?_
   | refine LeO.bind ?_ (fun _ => ?_)
end Go.Proofs.Ytdjhclgkkklajaa.P

namespace Go.Proofs.Ytdjhclgkkklajaa.P
open Go.RowKit Go.Proofs.YtdjhclgkkklajaaW.PrintWords Go.Proofs.YtdjhclgkkklajaaW.PrintLast Go.Proofs.YtdjhclgkkklajaaW.PrintMore
attribute [local go_sem] max2_int min2_int max_two min_two max_three min_three max_four min_four   -- for this text's walks alone
set_option linter.unusedVariables false
set_option linter.unusedSimpArgs false

/-! ### spec_SeenBytes: function 123 -/
def spec_SeenBytes.f (k : Nat) (l0 : List (S43)) : Option (ByteArray) := (spec_SeenRight.f k l0).bind fun t626 => (if t626 = true then ((spec_l02Bytes.f k l0).bind fun t627 => (some t627)) else (some (⟨#[]⟩ : ByteArray)))
theorem spec_SeenBytes.mono : ∀ a0 k, LeO (spec_SeenBytes.f k a0) (spec_SeenBytes.f (k + 1) a0) := by
 intro a0 k
 unfold spec_SeenBytes.f
 repeat' first
   | (with_reducible exact spec_SeenRight.mono _ _)
   | (with_reducible exact spec_l02Bytes.mono _ _)
   | (with_reducible exact LeO.refl _)
   | (with_reducible exact LeO.none _)
   | (with_reducible refine LeO.ite ?_ ?_)
   | (with_reducible refine LeO.bind ?_ (fun _ => ?_))
   | exact spec_SeenRight.mono _ _
   | exact spec_l02Bytes.mono _ _
   | exact LeO.none _
   | refine LeO.ite ?_ ?_
   | refine LeO.bind ?_ (fun _ => ?_)
end Go.Proofs.Ytdjhclgkkklajaa.P

namespace Go.Proofs.Ytdjhclgkkklajaa.Q
open Go.RowKit Go.Proofs.Ytdjhclgkkklajaa.P Go.Proofs.YtdjhclgkkklajaaW.PrintWords Go.Proofs.YtdjhclgkkklajaaW.PrintMore

def seenOf : List Mark → Int → Int
  | [], _ => 0
  | m :: r, n => if m.f0 = n then m.f1 else seenOf r n
theorem l02Of_l0 (l : List Mark) (n : Int) (hl : l.length ≤ 4611686018427387904) : ∀ (s : List Mark) (i : Nat), l.drop i = s → i ≤ l.length → Ev (fun k => spec_l02Of.l0 k l n (i : Int)) (seenOf s n)
  | [], i, h, hi => by
    have := dropNil' h hi
    refine Ev.step (f := fun _ => some 0) (fun k => ?_) (Ev.now _)
    simp only [spec_l02Of.l0]
    rw [if_neg (by omega)]
  | m :: s, i, h, hi => by
    obtain ⟨h1, h2, h3⟩ := dropCons h z43
    have hr : rd_T43 l (i : Int) = m := by simpa [rd_T43] using h2
    refine Ev.step (f := fun k => if m.f0 = n then some m.f1 else spec_l02Of.l0 k l n ((i + 1 : Nat) : Int)) (fun k => ?_) ?_
    · simp only [spec_l02Of.l0, hr]
      rw [if_pos (by omega), if_pos (by omega), w64 (by omega) (by omega)]
      rfl
    · simp only [seenOf]
      refine evIte (fun h => ?_) (fun h => ?_)
      · rw [if_pos h]; exact Ev.now _
      · rw [if_neg h]; exact l02Of_l0 l n hl s (i + 1) h3 (by omega)
theorem l02Of_ev (l : List Mark) (n : Int) (hl : l.length ≤ 4611686018427387904) : Ev (fun k => spec_l02Of.f k l n) (seenOf l n) := l02Of_l0 l n hl l 0 rfl (by omega)
theorem seenOf_l0 (l : List Mark) (n : Int) (hl : l.length ≤ 4611686018427387904) : ∀ (s : List Mark) (i : Nat), l.drop i = s → i ≤ l.length → Ev (fun k => impl_seenOf.l0 k n l (l.length : Int) (i : Int)) (seenOf s n)
  | [], i, h, hi => by
    have := dropNil' h hi
    refine Ev.step (f := fun _ => some 0) (fun k => ?_) (Ev.now _)
    simp only [impl_seenOf.l0]
    rw [if_neg (by omega)]
  | m :: s, i, h, hi => by
    obtain ⟨h1, h2, h3⟩ := dropCons h z43
    have hr : rd_T43 l (i : Int) = m := by simpa [rd_T43] using h2
    refine Ev.step (f := fun k => if m.f0 = n then some m.f1 else impl_seenOf.l0 k n l (l.length : Int) ((i + 1 : Nat) : Int)) (fun k => ?_) ?_
    · simp only [impl_seenOf.l0, hr]
      rw [if_pos (by omega), if_pos (by omega), if_pos (by omega), w64 (by omega) (by omega)]
      rfl
    · simp only [seenOf]
      refine evIte (fun h => ?_) (fun h => ?_)
      · rw [if_pos h]; exact Ev.now _
      · rw [if_neg h]; exact seenOf_l0 l n hl s (i + 1) h3 (by omega)
theorem seenOf_ev (l : List Mark) (n : Int) (hl : l.length ≤ 4611686018427387904) : Ev (fun k => impl_seenOf.f k l n) (seenOf l n) := seenOf_l0 l n hl l 0 rfl (by omega)
def seenHas (l : List Mark) (a b : Int) : Bool := decide (b ≤ seenOf l a)
def seenHasOut (l : List Mark) (a b : Int) : Bool := seenOk l && (isDot a b && seenHas l a b)
theorem seenHas_ev (l : List Mark) (a b : Int) (hl : l.length ≤ 4611686018427387904) : Ev (fun k => impl_seenHas.f k l a b) (seenHas l a b) := Ev.bind (seenOf_ev l a hl) (Ev.now _)
theorem spec_SeenHas_ev (l : List Mark) (a b : Int) (hl : l.length ≤ 4611686018427387904) : Ev (fun k => spec_SeenHas.f k l a b) (seenHasOut l a b) := by
  unfold spec_SeenHas.f seenHasOut
  refine Ev.bind (spec_SeenRight_ev l hl) ?_
  cases seenOk l with
  | false => exact evNeg (by simp) (Ev.now _)
  | true =>
    refine evPos rfl (evBind1 (l02Dot_is a b) ?_)
    cases isDot a b with
    | false => exact evNeg (by simp) (Ev.now _)
    | true => exact evPos rfl (Ev.bind (l02Of_ev l a hl) (Ev.now _))
end Go.Proofs.Ytdjhclgkkklajaa.Q

namespace Go.Proofs.Ytdjhclgkkklajaa.Q
open Go.RowKit Go.Proofs.Ytdjhclgkkklajaa.P Go.Proofs.YtdjhclgkkklajaaW.PrintWords Go.Proofs.YtdjhclgkkklajaaW.PrintMore

abbrev Sib := S139
def dotLess (a b c d : Int) : Bool := decide (a < c) || (decide (a = c) && decide (b < d))
def dataOk (t : ByteArray) (gone : Bool) : Bool := decide (t.size ≤ 16) && (!gone || decide (t.toList = []))
def sibOk (v : List Mark) (x : Sib) : Bool := isDot x.f0.f0 x.f0.f1 && (seenHas v x.f0.f0 x.f0.f1 && dataOk x.f2 x.f1)
def sibsFrom (v : List Mark) : Option Sib → List Sib → Bool
  | _, [] => true
  | none, x :: r => sibOk v x && sibsFrom v (some x) r
  | some y, x :: r => sibOk v x && (dotLess y.f0.f0 y.f0.f1 x.f0.f0 x.f0.f1 && sibsFrom v (some x) r)
def setOk (v : List Mark) (s : List Sib) : Bool := seenOk v && (decide (s.length ≤ 8) && sibsFrom v none s)
/-- The sibling ahead of place i. -/
def prevSib (l : List Sib) (i : Nat) : Option Sib := if i = 0 then none else some (l.getD (i - 1) z139)
theorem prevSib_succ {l : List Sib} {i : Nat} {x : Sib} (h : l.getD i z139 = x) : prevSib l (i + 1) = some x := by
  simp only [prevSib, Nat.add_sub_cancel, h]
  simp
theorem l03Less_is (a b c d : Int) : spec_l03Less.f a b c d = some (dotLess a b c d) := by
  unfold spec_l03Less.f dotLess
  by_cases h : a < c
  · rw [if_pos h]; simp [h]
  · rw [if_neg h]
    by_cases h2 : a = c
    · rw [if_pos h2]; simp [h2]
    · rw [if_neg h2]; simp [h, h2]
def cmpI (a b : Int) : Int := if a < b then -1 else if a > b then 1 else 0
theorem Compare_is (a b : Int) : cmp_Compare_int64.f a b = some (cmpI a b) := by
  simp only [cmp_Compare_int64.f, cmp_isNaN_int64.f, cmpI]
  by_cases h : a < b
  · simp [h]
  · by_cases h2 : a > b
    · simp [h, h2]
    · simp [h, h2]
theorem Or_ev (x y : Int) : Ev (fun k => cmp_Or_int.f k [x, y]) (if x = 0 then y else x) := by
  unfold cmp_Or_int.f
  have hx : rd [x, y] 0 = x := rfl
  have hy : rd [x, y] 1 = y := rfl
  have hl : (([x, y] : List Int).length : Int) = 2 := rfl
  rw [hl]
  refine Ev.step (f := fun k => if x = 0 then cmp_Or_int.l0 k 0 [x, y] 2 1 else some x) (fun k => ?_) ?_
  · simp only [cmp_Or_int.l0, hx, hl]
    rw [if_pos (by omega), if_pos (by omega), if_pos (by omega), w64 (by omega) (by omega)]
    rfl
  · refine evIte (fun h => ?_) (fun h => ?_)
    · rw [if_pos h]
      refine Ev.step (f := fun k => if y = 0 then cmp_Or_int.l0 k 0 [x, y] 2 2 else some y) (fun k => ?_) ?_
      · simp only [cmp_Or_int.l0, hy, hl]
        rw [if_pos (by omega), if_pos (by omega), if_pos (by omega), w64 (by omega) (by omega)]
        rfl
      · refine evIte (fun h => ?_) (fun h => Ev.now _)
        refine Ev.step (f := fun _ => some y) (fun k => ?_) (Ev.now _)
        simp only [cmp_Or_int.l0]
        rw [if_neg (by omega), h]
    · rw [if_neg h]; exact Ev.now _
def cmpDots (a b c d : Int) : Int := if cmpI a c = 0 then cmpI b d else cmpI a c
theorem compareDots_ev (a b c d : Int) : Ev (fun k => impl_compareDots.f k a b c d) (cmpDots a b c d) := by
  unfold impl_compareDots.f
  exact evBind1 (Compare_is a c) (evBind1 (Compare_is b d) (Ev.bind (Or_ev _ _) (Ev.now _)))
theorem cmpDots_ge (a b c d : Int) : decide (cmpDots a b c d ≥ 0) = !dotLess a b c d := by
  unfold cmpDots cmpI dotLess
  by_cases h1 : a < c
  · simp [h1]
  · by_cases h2 : a > c
    · have : ¬ a = c := by omega
      simp [h1, h2, this]
    · have : a = c := by omega
      subst this
      by_cases h3 : b < d
      · simp [h3]
      · by_cases h4 : b > d
        · simp [h3, h4]
        · simp [h3, h4]
theorem isData_is (t : ByteArray) (g : Bool) : impl_isData.f t g = some (dataOk t g) := by
  unfold impl_isData.f dataOk
  by_cases h : (t.size : Int) ≤ 16
  · have h' : t.size ≤ 16 := by omega
    rw [if_pos h]
    cases g with
    | true =>
      by_cases e : t.toList = []
      · simp [h', e]
      · simp [h', e]
    | false => simp [h']
  · have h' : ¬ t.size ≤ 16 := by omega
    rw [if_neg h]; simp [h']
theorem impl_SetRight_l0 (v : List Mark) (hv : v.length ≤ 4611686018427387904) (l : List Sib) (hl : l.length ≤ 1048576) : ∀ (s : List Sib) (i : Nat), l.drop i = s → i ≤ l.length →
    Ev (fun k => impl_SetRight.l0 k l (l.length : Int) (i : Int) v l) (sibsFrom v (prevSib l i) s)
  | [], i, h, hi => by
    have := dropNil' h hi
    refine Ev.step (f := fun _ => some true) (fun k => ?_) (by simp only [sibsFrom]; exact Ev.now _)
    simp only [impl_SetRight.l0]
    rw [if_neg (by omega)]
  | x :: s, i, h, hi => by
    obtain ⟨h1, h2, h3⟩ := dropCons h z139
    have hr : rd_T139 l (i : Int) = x := by simpa [rd_T139] using h2
    have ih := impl_SetRight_l0 v hv l hl s (i + 1) h3 (by omega)
    rw [prevSib_succ h2] at ih
    have hj : ∀ b : Bool, Ev (fun k => impl_SetRight.j2 k l (l.length : Int) (i : Int) b v l) (!b && sibsFrom v (some x) s) := fun b => by
      cases b with
      | true => exact Ev.step (f := fun _ => some false) (fun k => by simp [impl_SetRight.j2]) (Ev.now _)
      | false => exact Ev.step (fun k => by simp only [impl_SetRight.j2]; rw [if_neg (by simp), w64 (x := (i : Int) + 1) (by omega) (by omega)]) (by simpa using ih)
    have main : ∀ (p : Bool) (g : Nat → Option Bool), Ev g (p && sibsFrom v (some x) s) → Ev (fun k => (impl_isDot.f x.f0.f0 x.f0.f1).bind fun t => if t = true then ((impl_seenHas.f k v x.f0.f0 x.f0.f1).bind fun t => if t = true then ((impl_isData.f x.f2 x.f1).bind fun t => if t = true then g k else impl_SetRight.j2 k l (l.length : Int) (i : Int) true v l) else impl_SetRight.j2 k l (l.length : Int) (i : Int) true v l) else impl_SetRight.j2 k l (l.length : Int) (i : Int) true v l) (sibOk v x && (p && sibsFrom v (some x) s)) := by
      intro p g hg
      unfold sibOk
      refine evBind1 (isDot_is _ _) ?_
      cases isDot x.f0.f0 x.f0.f1 with
      | false => exact evNeg (by simp) (by simpa using hj true)
      | true =>
        refine evPos rfl (Ev.bind (seenHas_ev v _ _ hv) ?_)
        cases seenHas v x.f0.f0 x.f0.f1 with
        | false => exact evNeg (by simp) (by simpa using hj true)
        | true =>
          refine evPos rfl (evBind1 (isData_is _ _) ?_)
          cases dataOk x.f2 x.f1 with
          | false => exact evNeg (by simp) (by simpa using hj true)
          | true => exact evPos rfl (by simpa using hg)
    by_cases hi0 : i = 0
    · have hp : prevSib l i = none := by simp [prevSib, hi0]
      rw [hp]
      have h0 : ¬ ((i : Int) > 0) := by omega
      refine Ev.step (fun k => ?_) (show Ev _ (sibsFrom v none (x :: s)) from by
        have := main true _ (by simpa using hj false)
        simpa [sibsFrom] using this)
      simp only [impl_SetRight.l0, hr, if_neg h0]
      rw [if_pos (by omega), if_pos (by omega), if_pos (by omega)]
    · have hp : prevSib l i = some (l.getD (i - 1) z139) := by simp [prevSib, hi0]
      rw [hp]
      generalize hy : l.getD (i - 1) z139 = y
      have hq : rd_T139 l ((i : Int) - 1) = y := by
        rw [← hy]; simp only [rd_T139]; congr 1; omega
      have h0 : (i : Int) > 0 := by omega
      have hw : wrap64 ((i : Int) - 1) = (i : Int) - 1 := w64 (by omega) (by omega)
      have hA : (0 : Int) ≤ (i : Int) - 1 := by omega
      have hB : (i : Int) - 1 < (l.length : Int) := by omega
      refine Ev.step (fun k => ?_) (show Ev _ (sibsFrom v (some y) (x :: s)) from by
        have := main (dotLess y.f0.f0 y.f0.f1 x.f0.f0 x.f0.f1) (fun k => (impl_compareDots.f k y.f0.f0 y.f0.f1 x.f0.f0 x.f0.f1).bind fun t => impl_SetRight.j2 k l (l.length : Int) (i : Int) (decide (t ≥ 0)) v l)
          (Ev.bind (compareDots_ev _ _ _ _) (by
            have := hj (decide (cmpDots y.f0.f0 y.f0.f1 x.f0.f0 x.f0.f1 ≥ 0))
            rw [cmpDots_ge] at this ⊢
            simpa using this))
        simpa [sibsFrom] using this)
      simp only [impl_SetRight.l0, hr, if_pos h0, hw, if_pos hA, if_pos hB, hq]
      rw [if_pos (by omega), if_pos (by omega), if_pos (by omega)]
theorem impl_SetRight_ev (v : List Mark) (l : List Sib) (hv : v.length ≤ 4611686018427387904) (hl : l.length ≤ 1048576) : Ev (fun k => impl_SetRight.f k v l) (setOk v l) := by
  unfold impl_SetRight.f setOk
  refine Ev.bind (impl_seenRight_ev v hv) ?_
  cases seenOk v with
  | false => exact evNeg (by simp) (Ev.step (f := fun _ => some false) (fun k => by simp [impl_SetRight.j0]) (Ev.now _))
  | true =>
    refine evPos rfl ?_
    by_cases h : l.length ≤ 8
    · have hd : decide ((l.length : Int) > 8) = false := by simp; omega
      rw [hd]
      refine Ev.step (fun k => by simp only [impl_SetRight.j0]; rw [if_neg (by simp)]) ?_
      simpa [h, prevSib] using impl_SetRight_l0 v hv l hl l 0 rfl (by omega)
    · have hd : decide ((l.length : Int) > 8) = true := by simp; omega
      rw [hd]
      exact Ev.step (f := fun _ => some false) (fun k => by simp [impl_SetRight.j0]) (by simp [h]; exact Ev.now _)
theorem spec_SetRight_l0 (v : List Mark) (hv : v.length ≤ 4611686018427387904) (hk : seenOk v = true) (l : List Sib) (hl : l.length ≤ 1048576) : ∀ (s : List Sib) (i : Nat), l.drop i = s → i ≤ l.length →
    Ev (fun k => spec_SetRight.l0 k (i : Int) v l) (sibsFrom v (prevSib l i) s)
  | [], i, h, hi => by
    have := dropNil' h hi
    refine Ev.step (f := fun _ => some true) (fun k => ?_) (by simp only [sibsFrom]; exact Ev.now _)
    simp only [spec_SetRight.l0]
    rw [if_neg (by omega)]
  | x :: s, i, h, hi => by
    obtain ⟨h1, h2, h3⟩ := dropCons h z139
    have hr : rd_T139 l (i : Int) = x := by simpa [rd_T139] using h2
    have ih := spec_SetRight_l0 v hv hk l hl s (i + 1) h3 (by omega)
    rw [prevSib_succ h2] at ih
    have hj : ∀ b : Bool, Ev (fun k => if b = true then spec_SetRight.l0 k ((i : Int) + 1) v l else some false) (b && sibsFrom v (some x) s) := fun b => by
      cases b with
      | false => exact evNeg (by simp) (Ev.now _)
      | true => exact evPos rfl (by simpa using ih)
    have hi1 : wrap64 ((i : Int) + 1) = (i : Int) + 1 := w64 (by omega) (by omega)
    have main : ∀ (p : Bool) (g : Nat → Option Bool), Ev g (p && sibsFrom v (some x) s) → Ev (fun k => (spec_SeenHas.f k v x.f0.f0 x.f0.f1).bind fun t => if t = true then (if (x.f2.size : Int) > 16 then some false else (if x.f1 = true then (if x.f2.toList = ([] : List UInt8) then g k else some false) else g k)) else some false) (sibOk v x && (p && sibsFrom v (some x) s)) := by
      intro p g hg
      have e : seenHasOut v x.f0.f0 x.f0.f1 = (isDot x.f0.f0 x.f0.f1 && seenHas v x.f0.f0 x.f0.f1) := by simp [seenHasOut, hk]
      unfold sibOk
      rw [← Bool.and_assoc (isDot _ _), ← e]
      refine Ev.bind (spec_SeenHas_ev v _ _ hv) ?_
      cases seenHasOut v x.f0.f0 x.f0.f1 with
      | false => exact evNeg (by simp) (Ev.now _)
      | true =>
        refine evPos rfl ?_
        unfold dataOk
        by_cases hs : (x.f2.size : Int) > 16
        · have hs' : ¬ x.f2.size ≤ 16 := by omega
          exact evPos hs (by simpa [hs'] using Ev.now false)
        · have hs' : x.f2.size ≤ 16 := by omega
          refine evNeg hs ?_
          cases hg1 : x.f1 with
          | false => exact evNeg (by simp) (by simpa [hs'] using hg)
          | true =>
            refine evPos rfl ?_
            by_cases he : x.f2.toList = []
            · exact evPos he (by simpa [hs', he] using hg)
            · exact evNeg he (by simpa [hs', he] using Ev.now false)
    by_cases hi0 : i = 0
    · have hp : prevSib l i = none := by simp [prevSib, hi0]
      rw [hp]
      have h0 : ¬ ((i : Int) > 0) := by omega
      refine Ev.step (fun k => ?_) (show Ev _ (sibsFrom v none (x :: s)) from by
        have := main true (fun k => spec_SetRight.l0 k ((i : Int) + 1) v l) (by simpa using ih)
        simpa [sibsFrom] using this)
      simp only [spec_SetRight.l0, hr, if_neg h0, hi1]
      rw [if_pos (by omega), if_pos (by omega)]
    · have hp : prevSib l i = some (l.getD (i - 1) z139) := by simp [prevSib, hi0]
      rw [hp]
      generalize hy : l.getD (i - 1) z139 = y
      have hq : rd_T139 l ((i : Int) - 1) = y := by
        rw [← hy]; simp only [rd_T139]; congr 1; omega
      have h0 : (i : Int) > 0 := by omega
      have hw : wrap64 ((i : Int) - 1) = (i : Int) - 1 := w64 (by omega) (by omega)
      have hA : (0 : Int) ≤ (i : Int) - 1 := by omega
      have hB : (i : Int) - 1 < (l.length : Int) := by omega
      refine Ev.step (fun k => ?_) (show Ev _ (sibsFrom v (some y) (x :: s)) from by
        have := main (dotLess y.f0.f0 y.f0.f1 x.f0.f0 x.f0.f1) (fun k => (spec_l03Less.f y.f0.f0 y.f0.f1 x.f0.f0 x.f0.f1).bind fun t => if t = true then spec_SetRight.l0 k ((i : Int) + 1) v l else some false)
          (evBind1 (l03Less_is _ _ _ _) (hj (dotLess y.f0.f0 y.f0.f1 x.f0.f0 x.f0.f1)))
        simpa [sibsFrom] using this)
      simp only [spec_SetRight.l0, hr, hi1, if_pos h0, hw, if_pos hA, if_pos hB, hq]
      rw [if_pos (by omega), if_pos (by omega)]
theorem spec_SetRight_ev (v : List Mark) (l : List Sib) (hv : v.length ≤ 4611686018427387904) (hl : l.length ≤ 1048576) : Ev (fun k => spec_SetRight.f k v l) (setOk v l) := by
  unfold spec_SetRight.f setOk
  refine Ev.bind (spec_SeenRight_ev v hv) ?_
  cases hk : seenOk v with
  | false => exact evNeg (by simp) (Ev.step (f := fun _ => some false) (fun k => by simp [spec_SetRight.j0]) (Ev.now _))
  | true =>
    refine evPos rfl ?_
    by_cases h : l.length ≤ 8
    · have hd : decide ((l.length : Int) > 8) = false := by simp; omega
      rw [hd]
      refine Ev.step (fun k => by simp only [spec_SetRight.j0]; rw [if_neg (by simp)]) ?_
      simpa [h, prevSib] using spec_SetRight_l0 v hv hk l hl l 0 rfl (by omega)
    · have hd : decide ((l.length : Int) > 8) = true := by simp; omega
      rw [hd]
      exact Ev.step (f := fun _ => some false) (fun k => by simp [spec_SetRight.j0]) (by simp [h]; exact Ev.now _)
end Go.Proofs.Ytdjhclgkkklajaa.Q

namespace Go.Proofs.Ytdjhclgkkklajaa.Q
open Go.RowKit Go.Proofs.Ytdjhclgkkklajaa.P Go.Proofs.YtdjhclgkkklajaaW.PrintWords Go.Proofs.YtdjhclgkkklajaaW.PrintMore

abbrev LSib := S177
def toSib (x : LSib) : Sib := ⟨toMark x.f0, x.f1, x.f2⟩
theorem szSib_is (a b : Int) (c : Bool) (t : ByteArray) (n : Int) (h0 : 0 ≤ n) (h1 : n ≤ 1048576) (ht : t.size ≤ 9223372036854775807) :
    laws_szSib.f a b c t n = some (if n < (t.size : Int) then -1 else n - (t.size : Int)) := by
  unfold laws_szSib.f
  rw [w64 (by omega) (by omega)]
  split
  · rw [if_pos (by omega)]
  · rw [if_neg (by omega)]
theorem szSibS_l0 (l : List LSib) (hl : l.length ≤ 1048576) (hx : ∀ x ∈ l, x.f2.size ≤ 9223372036854775807) : ∀ (s : List LSib) (i : Nat), l.drop i = s → i ≤ l.length → ∀ n : Int, 0 ≤ n → n ≤ 1048576 →
    ∃ r, Ev (fun k => laws_szSibS.l0 k l n (i : Int)) r ∧ r ≤ n ∧ (0 ≤ r → ∀ x ∈ s, (x.f2.size : Int) ≤ n)
  | [], i, h, hi, n, h0, h1 => by
    have := dropNil' h hi
    refine ⟨n, Ev.step (f := fun _ => some n) (fun k => ?_) (Ev.now _), by omega, by simp⟩
    simp only [laws_szSibS.l0]
    rw [if_neg (by omega)]
  | m :: s, i, h, hi, n, h0, h1 => by
    obtain ⟨g1, g2, g3⟩ := dropCons h z177
    have hr : rd_T177 l (i : Int) = m := by simpa [rd_T177] using g2
    have hm : m ∈ l := List.mem_of_mem_drop (by rw [h]; exact List.mem_cons_self)
    have e := szSib_is m.f0.f0 m.f0.f1 m.f1 m.f2 n h0 h1 (hx m hm)
    by_cases hn : n < (m.f2.size : Int)
    · rw [if_pos hn] at e
      refine ⟨-1, Ev.step (f := fun _ => some (-1)) (fun k => ?_) (Ev.now _), by omega, by omega⟩
      simp only [laws_szSibS.l0, hr, e, Option.bind_some]
      rw [if_pos (by omega), if_pos (by omega), if_pos (by omega)]
    · rw [if_neg hn] at e
      obtain ⟨r, e1, e2, e3⟩ := szSibS_l0 l hl hx s (i + 1) g3 (by omega) (n - (m.f2.size : Int)) (by omega) (by omega)
      refine ⟨r, Ev.step (fun k => ?_) e1, by omega, fun hr0 x hxm => ?_⟩
      · simp only [laws_szSibS.l0, hr, e, Option.bind_some]
        rw [if_pos (by omega), if_pos (by omega), if_neg (by omega), w64 (by omega) (by omega)]
        rfl
      · rcases List.mem_cons.1 hxm with rfl | hxm
        · omega
        · have := e3 hr0 x hxm; omega
theorem szSibS_ev (l : List LSib) (hl : l.length ≤ 9223372036854775807) (hx : ∀ x ∈ l, x.f2.size ≤ 9223372036854775807) (n : Int) (h0 : 0 ≤ n) (h1 : n ≤ 1048576) :
    ∃ r, Ev (fun k => laws_szSibS.f k l n) r ∧ r ≤ n ∧ (0 ≤ r → (l.length : Int) ≤ n ∧ ∀ x ∈ l, (x.f2.size : Int) ≤ n) := by
  unfold laws_szSibS.f
  rw [w64 (by omega) (by omega)]
  by_cases h : n - (l.length : Int) < 0
  · exact ⟨-1, evPos h (Ev.now _), by omega, by omega⟩
  · obtain ⟨r, e1, e2, e3⟩ := szSibS_l0 l (by omega) hx l 0 rfl (by omega) (n - (l.length : Int)) (by omega) (by omega)
    exact ⟨r, evNeg h e1, by omega, fun h0 => ⟨by omega, fun x hx => by have := e3 h0 x hx; omega⟩⟩
theorem szSet_ev (v : List LMark) (l : List LSib) (hv : v.length ≤ 9223372036854775807) (hl : l.length ≤ 9223372036854775807) (hx : ∀ x ∈ l, x.f2.size ≤ 9223372036854775807) (n : Int) (h0 : 0 ≤ n) (h1 : n ≤ 1048576) :
    ∃ r, Ev (fun k => laws_szSet.f k v l n) r ∧ r ≤ n ∧ (0 ≤ r → v.length ≤ 1048576 ∧ l.length ≤ 1048576 ∧ ∀ x ∈ l, x.f2.size ≤ 1048576) := by
  unfold laws_szSet.f
  rw [szMarkS_is v n h0 h1 hv]
  simp only [Option.bind_some]
  by_cases h : n < (v.length : Int)
  · rw [if_pos h]
    exact ⟨-1, evPos (by omega) (Ev.now _), by omega, by omega⟩
  · rw [if_neg h]
    obtain ⟨r, e1, e2, e3⟩ := szSibS_ev l hl hx (n - (v.length : Int)) (by omega) (by omega)
    by_cases hr : r < 0
    · exact ⟨-1, evNeg (by omega) (Ev.bind e1 (evPos hr (Ev.now _))), by omega, by omega⟩
    · refine ⟨r, evNeg (by omega) (Ev.bind e1 (evNeg hr (Ev.now _))), by omega, fun h0 => ?_⟩
      obtain ⟨g1, g2⟩ := e3 h0
      exact ⟨by omega, by omega, fun x hx => by have := g2 x hx; omega⟩
theorem toSibS_l0 (l : List LSib) (hl : l.length ≤ 1048576) : ∀ (s : List LSib) (i : Nat), l.drop i = s → i ≤ l.length → ∀ (acc : List Sib), acc.length = l.length → acc.take i = (l.take i).map toSib →
    Ev (fun k => laws_toSibS.l0 k l acc (i : Int)) (l.map toSib)
  | [], i, h, hi, acc, ha, hc => by
    have := dropNil' h hi
    refine Ev.step (f := fun _ => some (l.map toSib)) (fun k => ?_) (Ev.now _)
    simp only [laws_toSibS.l0]
    rw [if_neg (by omega)]
    rw [← this, List.take_of_length_le (by omega), List.take_length] at hc
    rw [hc]
  | m :: s, i, h, hi, acc, ha, hc => by
    obtain ⟨h1, h2, h3⟩ := dropCons h z177
    have hr : rd_T177 l (i : Int) = m := by simpa [rd_T177] using h2
    have hm : l[i]'h1 = m := by
      rw [List.getD_eq_getElem?_getD, List.getElem?_eq_getElem h1] at h2; exact h2
    refine Ev.step (fun k => ?_) (toSibS_l0 l hl s (i + 1) h3 (by omega) (acc.set i (toSib m)) (by simpa using ha) (by
      rw [List.take_succ_eq_append_getElem (by simp; omega), List.take_succ_eq_append_getElem h1, List.map_append, List.take_set_of_le (by omega), hc]
      simp [hm]))
    simp only [laws_toSibS.l0, laws_toSib.f, laws_toMark.f, hr, Option.bind_some, Int.toNat_natCast]
    rw [if_pos (by omega), if_pos (by omega), if_pos (by omega), w64 (by omega) (by omega)]
    rfl
theorem toSibS_ev (l : List LSib) (hl : l.length ≤ 1048576) : Ev (fun k => laws_toSibS.f k l) (l.map toSib) := by
  unfold laws_toSibS.f
  refine evPos (by omega) (evPos (by omega) ?_)
  exact toSibS_l0 l hl l 0 rfl (by omega) _ (by simp) (by simp)
theorem toSet_ev (v : List LMark) (l : List LSib) (hv : v.length ≤ 1048576) (hl : l.length ≤ 1048576) : Ev (fun k => laws_toSet.f k v l) (v.map toMark, l.map toSib) :=
  Ev.bind (toMarkS_ev v hv) (Ev.bind (toSibS_ev l hl) (Ev.now _))
theorem eqSib_refl (a b : Int) (c : Bool) (t : ByteArray) : laws_eqSib.f a b c t a b c t = some true := by simp [laws_eqSib.f, eqMark_refl]
theorem eqSibS_l0 (l : List Sib) (hl : l.length ≤ 4611686018427387904) : ∀ (s : List Sib) (i : Nat), l.drop i = s → i ≤ l.length →
    Ev (fun k => laws_eqSibS.l0 k l l (i : Int)) true
  | [], i, h, hi => by
    have := dropNil' h hi
    refine Ev.step (f := fun _ => some true) (fun k => ?_) (Ev.now _)
    simp only [laws_eqSibS.l0]
    rw [if_neg (by omega)]
  | m :: s, i, h, hi => by
    obtain ⟨h1, h2, h3⟩ := dropCons h z139
    refine Ev.step (fun k => ?_) (eqSibS_l0 l hl s (i + 1) h3 (by omega))
    simp only [laws_eqSibS.l0, eqSib_refl, Option.bind_some]
    rw [if_pos (by omega), if_pos (by omega), if_pos (by omega), if_pos trivial, w64 (by omega) (by omega)]
    rfl
theorem eqSibS_ev (l : List Sib) (hl : l.length ≤ 4611686018427387904) : Ev (fun k => laws_eqSibS.f k l l) true := by
  unfold laws_eqSibS.f
  exact evPos rfl (eqSibS_l0 l hl l 0 rfl (by omega))
theorem eqSet_ev (v : List Mark) (l : List Sib) (hv : v.length ≤ 4611686018427387904) (hl : l.length ≤ 4611686018427387904) : Ev (fun k => laws_eqSet.f k v l v l) true :=
  Ev.bind (eqMarkS_ev v hv) (evPos rfl (Ev.bind (eqSibS_ev l hl) (evPos rfl (Ev.now _))))
end Go.Proofs.Ytdjhclgkkklajaa.Q

namespace Go.Proofs.Ytdjhclgkkklajaa.P
open Go.RowKit Go.Proofs.YtdjhclgkkklajaaW.PrintWords Go.Proofs.YtdjhclgkkklajaaW.PrintLast Go.Proofs.YtdjhclgkkklajaaW.PrintMore
attribute [local go_sem] max2_int min2_int max_two min_two max_three min_three max_four min_four   -- for this text's walks alone
set_option linter.unusedVariables false
set_option linter.unusedSimpArgs false

theorem eqA43 (d : Nat) (w : World) (x0 y0 : Int) (x1 y1 : Int) :
  (Op.equalIn (d + 2) 43 (.agg #[.int .i64 x0, .int .i64 x1]) (.agg #[.int .i64 y0, .int .i64 y1])).run Try.prog w = .ok (x0 == y0 && (x1 == y1)) w := by
 refine eqA_of Try.underlying43 (by kernel_rfl) ?_
 refine eqf_cons (by rfl) (by go_simp; rfl) (by go_simp; rfl) (by go_simp) ?_
 exact eqf_last (by rfl) (by go_simp; rfl) (by go_simp; rfl) (by go_simp)
end Go.Proofs.Ytdjhclgkkklajaa.P

namespace Go.Proofs.Ytdjhclgkkklajaa.P
open Go.RowKit Go.Proofs.YtdjhclgkkklajaaW.PrintWords Go.Proofs.YtdjhclgkkklajaaW.PrintLast Go.Proofs.YtdjhclgkkklajaaW.PrintMore
attribute [local go_sem] max2_int min2_int max_two min_two max_three min_three max_four min_four   -- for this text's walks alone
set_option linter.unusedVariables false
set_option linter.unusedSimpArgs false

attribute [local go_sem high] eqA43
/-! ### spec_l03At: function 120 -/
def spec_l03At.l0 : Nat → List (S139) → Int → Int → Int → Option (Int)
 | 0, _, _, _, _ => none
 | k + 1, x0, x5, x569000, x569001 => if x5 < (x0.length : Int) then (if 0 ≤ x5 then (if (((rd_T139 x0 x5).f0.f0) == x569000 && (((rd_T139 x0 x5).f0.f1) == x569001)) = true then (some x5) else (spec_l03At.l0 k x0 (wrap64 (x5 + 1)) x569000 x569001)) else (none)) else (some (-1))
def spec_l03At.f (k : Nat) (l0 : List (S139)) (a1_0 : Int) (a1_1 : Int) : Option (Int) := spec_l03At.l0 k l0 0 a1_0 a1_1
theorem spec_l03At.mono_l : ∀ k, (∀ y0 y1 y2 y3, LeO (spec_l03At.l0 k y0 y1 y2 y3) (spec_l03At.l0 (k + 1) y0 y1 y2 y3))
 | 0 => fun _ _ _ _ r h => by simp [spec_l03At.l0] at h
 | k + 1 => by
  have ih0 := spec_l03At.mono_l k
  ·intro y0 y1 y2 y3
   unfold spec_l03At.l0
   repeat' first
   | (with_reducible exact ih0 _ _ _ _)
   | (with_reducible exact LeO.refl _)
   | (with_reducible exact LeO.none _)
   | (with_reducible refine LeO.ite ?_ ?_)
   | (with_reducible refine LeO.bind ?_ (fun _ => ?_))
   | exact ih0 _ _ _ _
   | exact LeO.none _
   | refine LeO.ite ?_ ?_
   | refine LeO.bind ?_ (fun _ => ?_)
theorem spec_l03At.mono : ∀ a0 a1 a2 k, LeO (spec_l03At.f k a0 a1 a2) (spec_l03At.f (k + 1) a0 a1 a2) := by
 intro a0 a1 a2 k
 have ih0 := spec_l03At.mono_l k
 unfold spec_l03At.f
 repeat' first
   | (with_reducible exact ih0 _ _ _ _)
   | (with_reducible exact LeO.refl _)
   | (with_reducible exact LeO.none _)
   | (with_reducible refine LeO.ite ?_ ?_)
   | (with_reducible refine LeO.bind ?_ (fun _ => ?_))
   | exact ih0 _ _ _ _
   | exact LeO.none _
   | refine LeO.ite ?_ ?_
   | refine LeO.bind ?_ (fun _ => ?_)
end Go.Proofs.Ytdjhclgkkklajaa.P

namespace Go.Proofs.Ytdjhclgkkklajaa.P
open Go.RowKit Go.Proofs.YtdjhclgkkklajaaW.PrintWords Go.Proofs.YtdjhclgkkklajaaW.PrintLast Go.Proofs.YtdjhclgkkklajaaW.PrintMore
attribute [local go_sem] max2_int min2_int max_two min_two max_three min_three max_four min_four   -- for this text's walks alone
set_option linter.unusedVariables false
set_option linter.unusedSimpArgs false

/-! ### spec_SetHas: function 52 -/
def spec_SetHas.f (k : Nat) (l0_0 : List (S43)) (l0_1 : List (S139)) (a1_0 : Int) (a1_1 : Int) : Option (Bool) := (spec_SetRight.f k l0_0 l0_1).bind fun t572 => (if t572 = true then ((spec_l03At.f k l0_1 a1_0 a1_1).bind fun t573 => (some (decide (t573 ≥ 0)))) else (some false))
theorem spec_SetHas.mono : ∀ a0 a1 a2 a3 k, LeO (spec_SetHas.f k a0 a1 a2 a3) (spec_SetHas.f (k + 1) a0 a1 a2 a3) := by
 intro a0 a1 a2 a3 k
 unfold spec_SetHas.f
 repeat' first
   | (with_reducible exact spec_SetRight.mono _ _ _)
   | (with_reducible exact spec_l03At.mono _ _ _ _)
   | (with_reducible exact LeO.refl _)
   | (with_reducible exact LeO.none _)
   | (with_reducible refine LeO.ite ?_ ?_)
   | (with_reducible refine LeO.bind ?_ (fun _ => ?_))
   | exact spec_SetRight.mono _ _ _
   | exact spec_l03At.mono _ _ _ _
   | exact LeO.none _
   | refine LeO.ite ?_ ?_
   | refine LeO.bind ?_ (fun _ => ?_)
end Go.Proofs.Ytdjhclgkkklajaa.P

namespace Go.Proofs.Ytdjhclgkkklajaa.P
open Go.RowKit Go.Proofs.YtdjhclgkkklajaaW.PrintWords Go.Proofs.YtdjhclgkkklajaaW.PrintLast Go.Proofs.YtdjhclgkkklajaaW.PrintMore
attribute [local go_sem] max2_int min2_int max_two min_two max_three min_three max_four min_four   -- for this text's walks alone
set_option linter.unusedVariables false
set_option linter.unusedSimpArgs false

attribute [local go_sem high] eqA43
/-! ### impl_Set_sib_1_cap: function 154 -/
def impl_Set_sib_1_cap.f (a0_0 : Int) (a0_1 : Int) (a0_2 : Bool) (a0_3 : ByteArray) (a1_0 : Int) (a1_1 : Int) : Option (Bool) := some (a0_0 == a1_0 && (a0_1 == a1_1))
end Go.Proofs.Ytdjhclgkkklajaa.P

namespace Go.Proofs.Ytdjhclgkkklajaa.P
open Go.RowKit Go.Proofs.YtdjhclgkkklajaaW.PrintWords Go.Proofs.YtdjhclgkkklajaaW.PrintLast Go.Proofs.YtdjhclgkkklajaaW.PrintMore
attribute [local go_sem] max2_int min2_int max_two min_two max_three min_three max_four min_four   -- for this text's walks alone
set_option linter.unusedVariables false
set_option linter.unusedSimpArgs false

/-! ### slices_IndexFunc_impl_Sib_impl_Sib_impl_Set_sib_1: function 153 -/
def slices_IndexFunc_impl_Sib_impl_Sib_impl_Set_sib_1.l0 : Nat → List (S139) → Int → Int → Int → Int → Option (Int)
 | 0, _, _, _, _, _ => none
 | k + 1, x0, x7, x8, x62000, x62001 => if x8 < x7 then (if 0 ≤ x8 then (if x8 < (x0.length : Int) then ((impl_Set_sib_1_cap.f ((rd_T139 x0 x8).f0.f0) ((rd_T139 x0 x8).f0.f1) ((rd_T139 x0 x8).f1) ((rd_T139 x0 x8).f2) x62000 x62001).bind fun t576 => (if t576 = true then (some x8) else (slices_IndexFunc_impl_Sib_impl_Sib_impl_Set_sib_1.l0 k x0 x7 (wrap64 (x8 + 1)) x62000 x62001))) else (none)) else (none)) else (some (-1))
def slices_IndexFunc_impl_Sib_impl_Sib_impl_Set_sib_1.f (k : Nat) (l0 : List (S139)) (a1_0 : Int) (a1_1 : Int) : Option (Int) := slices_IndexFunc_impl_Sib_impl_Sib_impl_Set_sib_1.l0 k l0 (l0.length : Int) 0 a1_0 a1_1
theorem slices_IndexFunc_impl_Sib_impl_Sib_impl_Set_sib_1.mono_l : ∀ k, (∀ y0 y1 y2 y3 y4, LeO (slices_IndexFunc_impl_Sib_impl_Sib_impl_Set_sib_1.l0 k y0 y1 y2 y3 y4) (slices_IndexFunc_impl_Sib_impl_Sib_impl_Set_sib_1.l0 (k + 1) y0 y1 y2 y3 y4))
 | 0 => fun _ _ _ _ _ r h => by simp [slices_IndexFunc_impl_Sib_impl_Sib_impl_Set_sib_1.l0] at h
 | k + 1 => by
  have ih0 := slices_IndexFunc_impl_Sib_impl_Sib_impl_Set_sib_1.mono_l k
  ·intro y0 y1 y2 y3 y4
   unfold slices_IndexFunc_impl_Sib_impl_Sib_impl_Set_sib_1.l0
   repeat' first
   | (with_reducible exact ih0 _ _ _ _ _)
   | (with_reducible exact LeO.refl _)
   | (with_reducible exact LeO.none _)
   | (with_reducible refine LeO.ite ?_ ?_)
   | (with_reducible refine LeO.bind ?_ (fun _ => ?_))
   | exact ih0 _ _ _ _ _
   | exact LeO.none _
   | refine LeO.ite ?_ ?_
   | refine LeO.bind ?_ (fun _ => ?_)
theorem slices_IndexFunc_impl_Sib_impl_Sib_impl_Set_sib_1.mono : ∀ a0 a1 a2 k, LeO (slices_IndexFunc_impl_Sib_impl_Sib_impl_Set_sib_1.f k a0 a1 a2) (slices_IndexFunc_impl_Sib_impl_Sib_impl_Set_sib_1.f (k + 1) a0 a1 a2) := by
 intro a0 a1 a2 k
 have ih0 := slices_IndexFunc_impl_Sib_impl_Sib_impl_Set_sib_1.mono_l k
 unfold slices_IndexFunc_impl_Sib_impl_Sib_impl_Set_sib_1.f
 repeat' first
   | (with_reducible exact ih0 _ _ _ _ _)
   | (with_reducible exact LeO.refl _)
   | (with_reducible exact LeO.none _)
   | (with_reducible refine LeO.ite ?_ ?_)
   | (with_reducible refine LeO.bind ?_ (fun _ => ?_))
   | exact ih0 _ _ _ _ _
   | exact LeO.none _
   | refine LeO.ite ?_ ?_
   | refine LeO.bind ?_ (fun _ => ?_)
end Go.Proofs.Ytdjhclgkkklajaa.P

namespace Go.Proofs.Ytdjhclgkkklajaa.P
open Go.RowKit Go.Proofs.YtdjhclgkkklajaaW.PrintWords Go.Proofs.YtdjhclgkkklajaaW.PrintLast Go.Proofs.YtdjhclgkkklajaaW.PrintMore
attribute [local go_sem] max2_int min2_int max_two min_two max_three min_three max_four min_four   -- for this text's walks alone
set_option linter.unusedVariables false
set_option linter.unusedSimpArgs false

/-! ### impl_Set_sib: function 121 -/
def impl_Set_sib.f (k : Nat) (l0_0 : List (S43)) (l0_1 : List (S139)) (a1_0 : Int) (a1_1 : Int) : Option (Int) := (slices_IndexFunc_impl_Sib_impl_Sib_impl_Set_sib_1.f k l0_1 a1_0 a1_1).bind fun t579 => (some t579)
theorem impl_Set_sib.mono : ∀ a0 a1 a2 a3 k, LeO (impl_Set_sib.f k a0 a1 a2 a3) (impl_Set_sib.f (k + 1) a0 a1 a2 a3) := by
 intro a0 a1 a2 a3 k
 unfold impl_Set_sib.f
 repeat' first
   | (with_reducible exact slices_IndexFunc_impl_Sib_impl_Sib_impl_Set_sib_1.mono _ _ _ _)
   | (with_reducible exact LeO.refl _)
   | (with_reducible exact LeO.none _)
   | (with_reducible refine LeO.ite ?_ ?_)
   | (with_reducible refine LeO.bind ?_ (fun _ => ?_))
   | exact slices_IndexFunc_impl_Sib_impl_Sib_impl_Set_sib_1.mono _ _ _ _
   | exact LeO.none _
   | refine LeO.ite ?_ ?_
   | refine LeO.bind ?_ (fun _ => ?_)
end Go.Proofs.Ytdjhclgkkklajaa.P

namespace Go.Proofs.Ytdjhclgkkklajaa.P
open Go.RowKit Go.Proofs.YtdjhclgkkklajaaW.PrintWords Go.Proofs.YtdjhclgkkklajaaW.PrintLast Go.Proofs.YtdjhclgkkklajaaW.PrintMore
attribute [local go_sem] max2_int min2_int max_two min_two max_three min_three max_four min_four   -- for this text's walks alone
set_option linter.unusedVariables false
set_option linter.unusedSimpArgs false

/-! ### impl_SetHas: function 53 -/
def impl_SetHas.f (k : Nat) (l0_0 : List (S43)) (l0_1 : List (S139)) (a1_0 : Int) (a1_1 : Int) : Option (Bool) := (impl_SetRight.f k l0_0 l0_1).bind fun t582 => (if t582 = true then ((impl_Set_sib.f k l0_0 l0_1 a1_0 a1_1).bind fun t583 => (some (decide (t583 ≥ 0)))) else (some false))
theorem impl_SetHas.mono : ∀ a0 a1 a2 a3 k, LeO (impl_SetHas.f k a0 a1 a2 a3) (impl_SetHas.f (k + 1) a0 a1 a2 a3) := by
 intro a0 a1 a2 a3 k
 unfold impl_SetHas.f
 repeat' first
   | (with_reducible exact impl_SetRight.mono _ _ _)
   | (with_reducible exact impl_Set_sib.mono _ _ _ _ _)
   | (with_reducible exact LeO.refl _)
   | (with_reducible exact LeO.none _)
   | (with_reducible refine LeO.ite ?_ ?_)
   | (with_reducible refine LeO.bind ?_ (fun _ => ?_))
   | exact impl_SetRight.mono _ _ _
   | exact impl_Set_sib.mono _ _ _ _ _
   | exact LeO.none _
   | refine LeO.ite ?_ ?_
   | refine LeO.bind ?_ (fun _ => ?_)
end Go.Proofs.Ytdjhclgkkklajaa.P

namespace Go.Proofs.Ytdjhclgkkklajaa.P
open Go.RowKit Go.Proofs.YtdjhclgkkklajaaW.PrintWords Go.Proofs.YtdjhclgkkklajaaW.PrintLast Go.Proofs.YtdjhclgkkklajaaW.PrintMore
attribute [local go_sem] max2_int min2_int max_two min_two max_three min_three max_four min_four   -- for this text's walks alone
set_option linter.unusedVariables false
set_option linter.unusedSimpArgs false

/-! ### spec_l03Bytes: function 133 -/
mutual
def spec_l03Bytes.l0 : Nat → ByteArray → Int → List (S43) → List (S139) → Option (ByteArray)
 | 0, _, _, _, _ => none
 | k + 1, x3, x4, x820000, x820001 => if x4 < (x820001.length : Int) then (if 0 ≤ x4 then (if (rd_T139 x820001 x4).f1 = true then (spec_l03Bytes.j1 k x3 x4 1 x820000 x820001 ((rd_T139 x820001 x4).f0.f0) ((rd_T139 x820001 x4).f0.f1) ((rd_T139 x820001 x4).f1) ((rd_T139 x820001 x4).f2)) else (spec_l03Bytes.j1 k x3 x4 0 x820000 x820001 ((rd_T139 x820001 x4).f0.f0) ((rd_T139 x820001 x4).f0.f1) ((rd_T139 x820001 x4).f1) ((rd_T139 x820001 x4).f2))) else (none)) else (some x3)
def spec_l03Bytes.j1 : Nat → ByteArray → Int → Int → List (S43) → List (S139) → Int → Int → Bool → ByteArray → Option (ByteArray)
 | 0, _, _, _, _, _, _, _, _, _ => none
 | k + 1, x3, x4, x6, x820000, x820001, x824000, x824001, x824002, x824003 => (spec_PutNum.f k x824000).bind fun t824 => (if x3.size + t824.size ≤ 9223372036854775807 then ((spec_PutNum.f k x824001).bind fun t825 => (if (x3.size + t824.size) + t825.size ≤ 9223372036854775807 then ((spec_PutNum.f k x6).bind fun t826 => (if ((x3.size + t824.size) + t825.size) + t826.size ≤ 9223372036854775807 then ((spec_PutText.f k x824003).bind fun t827 => (if (((x3.size + t824.size) + t825.size) + t826.size) + t827.size ≤ 9223372036854775807 then (spec_l03Bytes.l0 k ((((x3 ++ t824) ++ t825) ++ t826) ++ t827) (wrap64 (x4 + 1)) x820000 x820001) else (none))) else (none))) else (none))) else (none))
end
def spec_l03Bytes.f (k : Nat) (l0_0 : List (S43)) (l0_1 : List (S139)) : Option (ByteArray) := (spec_l02Bytes.f k l0_0).bind fun t820 => ((spec_PutNum.f k (l0_1.length : Int)).bind fun t821 => (if t820.size + t821.size ≤ 9223372036854775807 then (spec_l03Bytes.l0 k (t820 ++ t821) 0 l0_0 l0_1) else (none)))
theorem spec_l03Bytes.mono_l : ∀ k, (∀ y0 y1 y2 y3, LeO (spec_l03Bytes.l0 k y0 y1 y2 y3) (spec_l03Bytes.l0 (k + 1) y0 y1 y2 y3)) ∧ (∀ y0 y1 y2 y3 y4 y5 y6 y7 y8, LeO (spec_l03Bytes.j1 k y0 y1 y2 y3 y4 y5 y6 y7 y8) (spec_l03Bytes.j1 (k + 1) y0 y1 y2 y3 y4 y5 y6 y7 y8))
 | 0 => ⟨fun _ _ _ _ r h => by simp [spec_l03Bytes.l0] at h, fun _ _ _ _ _ _ _ _ _ r h => by simp [spec_l03Bytes.j1] at h⟩
 | k + 1 => by
  obtain ⟨ih0, ih1⟩ := spec_l03Bytes.mono_l k
  refine ⟨?_, ?_⟩
  ·intro y0 y1 y2 y3
   unfold spec_l03Bytes.l0
   repeat' first
   | (with_reducible exact ih0 _ _ _ _)
   | (with_reducible exact ih1 _ _ _ _ _ _ _ _ _)
   | (with_reducible exact spec_PutNum.mono _ _)
   | (with_reducible exact spec_PutText.mono _ _)
   | (with_reducible exact spec_l02Bytes.mono _ _)
   | (with_reducible exact LeO.refl _)
   | (with_reducible exact LeO.none _)
   | (with_reducible refine LeO.ite ?_ ?_)
   | (with_reducible refine LeO.bind ?_ (fun _ => ?_))
   | exact ih0 _ _ _ _
   | exact ih1 _ _ _ _ _ _ _ _ _
   | exact spec_PutNum.mono _ _
   | exact spec_PutText.mono _ _
   | exact spec_l02Bytes.mono _ _
   | exact LeO.none _
   | refine LeO.ite ?_ ?_
   | refine LeO.bind ?_ (fun _ => ?_)
  ·intro y0 y1 y2 y3 y4 y5 y6 y7 y8
   unfold spec_l03Bytes.j1
   repeat' first
   | (with_reducible exact ih0 _ _ _ _)
   | (with_reducible exact ih1 _ _ _ _ _ _ _ _ _)
   | (with_reducible exact spec_PutNum.mono _ _)
   | (with_reducible exact spec_PutText.mono _ _)
   | (with_reducible exact spec_l02Bytes.mono _ _)
   | (with_reducible exact LeO.refl _)
   | (with_reducible exact LeO.none _)
   | (with_reducible refine LeO.ite ?_ ?_)
   | (with_reducible refine LeO.bind ?_ (fun _ => ?_))
   | exact ih0 _ _ _ _
   | exact ih1 _ _ _ _ _ _ _ _ _
   | exact spec_PutNum.mono _ _
   | exact spec_PutText.mono _ _
   | exact spec_l02Bytes.mono _ _
   | exact LeO.none _
   | refine LeO.ite ?_ ?_
   | refine LeO.bind ?_ (fun _ => ?_)
theorem spec_l03Bytes.mono : ∀ a0 a1 k, LeO (spec_l03Bytes.f k a0 a1) (spec_l03Bytes.f (k + 1) a0 a1) := by
 intro a0 a1 k
 obtain ⟨ih0, ih1⟩ := spec_l03Bytes.mono_l k
 unfold spec_l03Bytes.f
 repeat' first
   | (with_reducible exact ih0 _ _ _ _)
   | (with_reducible exact ih1 _ _ _ _ _ _ _ _ _)
   | (with_reducible exact spec_PutNum.mono _ _)
   | (with_reducible exact spec_PutText.mono _ _)
   | (with_reducible exact spec_l02Bytes.mono _ _)
   | (with_reducible exact LeO.refl _)
   | (with_reducible exact LeO.none _)
   | (with_reducible refine LeO.ite ?_ ?_)
   | (with_reducible refine LeO.bind ?_ (fun _ => ?_))
   | exact ih0 _ _ _ _
   | exact ih1 _ _ _ _ _ _ _ _ _
   | exact spec_PutNum.mono _ _
   | exact spec_PutText.mono _ _
   | exact spec_l02Bytes.mono _ _
   | exact LeO.none _
   | refine LeO.ite ?_ ?_
   | refine LeO.bind ?_ (fun _ => ?_)
end Go.Proofs.Ytdjhclgkkklajaa.P

namespace Go.Proofs.Ytdjhclgkkklajaa.P
open Go.RowKit Go.Proofs.YtdjhclgkkklajaaW.PrintWords Go.Proofs.YtdjhclgkkklajaaW.PrintLast Go.Proofs.YtdjhclgkkklajaaW.PrintMore
attribute [local go_sem] max2_int min2_int max_two min_two max_three min_three max_four min_four   -- for this text's walks alone
set_option linter.unusedVariables false
set_option linter.unusedSimpArgs false

/-! ### spec_SetBytes: function 71 -/
def spec_SetBytes.f (k : Nat) (l0_0 : List (S43)) (l0_1 : List (S139)) : Option (ByteArray) := (spec_SetRight.f k l0_0 l0_1).bind fun t829 => (if t829 = true then ((spec_l03Bytes.f k l0_0 l0_1).bind fun t830 => (some t830)) else (some (⟨#[]⟩ : ByteArray)))
theorem spec_SetBytes.mono : ∀ a0 a1 k, LeO (spec_SetBytes.f k a0 a1) (spec_SetBytes.f (k + 1) a0 a1) := by
 intro a0 a1 k
 unfold spec_SetBytes.f
 repeat' first
   | (with_reducible exact spec_SetRight.mono _ _ _)
   | (with_reducible exact spec_l03Bytes.mono _ _ _)
   | (with_reducible exact LeO.refl _)
   | (with_reducible exact LeO.none _)
   | (with_reducible refine LeO.ite ?_ ?_)
   | (with_reducible refine LeO.bind ?_ (fun _ => ?_))
   | exact spec_SetRight.mono _ _ _
   | exact spec_l03Bytes.mono _ _ _
   | exact LeO.none _
   | refine LeO.ite ?_ ?_
   | refine LeO.bind ?_ (fun _ => ?_)
end Go.Proofs.Ytdjhclgkkklajaa.P

namespace Go.Proofs.Ytdjhclgkkklajaa.P
open Go.RowKit Go.Proofs.YtdjhclgkkklajaaW.PrintWords Go.Proofs.YtdjhclgkkklajaaW.PrintLast Go.Proofs.YtdjhclgkkklajaaW.PrintMore
attribute [local go_sem] max2_int min2_int max_two min_two max_three min_three max_four min_four   -- for this text's walks alone
set_option linter.unusedVariables false
set_option linter.unusedSimpArgs false

/-! ### impl_truth: function 162 -/
def impl_truth.f (a0 : Bool) : Option (Int) := if a0 = true then (some 1) else (some 0)
end Go.Proofs.Ytdjhclgkkklajaa.P

namespace Go.Proofs.Ytdjhclgkkklajaa.P
open Go.RowKit Go.Proofs.YtdjhclgkkklajaaW.PrintWords Go.Proofs.YtdjhclgkkklajaaW.PrintLast Go.Proofs.YtdjhclgkkklajaaW.PrintMore
attribute [local go_sem] max2_int min2_int max_two min_two max_three min_three max_four min_four   -- for this text's walks alone
set_option linter.unusedVariables false
set_option linter.unusedSimpArgs false

/-! ### impl_Set_bytes: function 134 -/
def impl_Set_bytes.l0 : Nat → ByteArray → List (S139) → Int → Int → Option (ByteArray)
 | 0, _, _, _, _ => none
 | k + 1, x3, x15, x16, x17 => if x17 < x16 then (if 0 ≤ x17 then (if x17 < (x15.length : Int) then ((impl_PutNum.f k ((rd_T139 x15 x17).f0.f0)).bind fun t841 => ((impl_PutNum.f k ((rd_T139 x15 x17).f0.f1)).bind fun t842 => (if t841.size + t842.size ≤ 9223372036854775807 then ((impl_truth.f ((rd_T139 x15 x17).f1)).bind fun t843 => ((impl_PutNum.f k t843).bind fun t844 => (if (t841.size + t842.size) + t844.size ≤ 9223372036854775807 then ((impl_PutText.f k ((rd_T139 x15 x17).f2)).bind fun t845 => (if ((t841.size + t842.size) + t844.size) + t845.size ≤ 9223372036854775807 then (if x3.size + (((t841.size + t842.size) + t844.size) + t845.size) ≤ 9223372036854775807 then (impl_Set_bytes.l0 k (x3 ++ (((t841 ++ t842) ++ t844) ++ t845)) x15 x16 (wrap64 (x17 + 1))) else (none)) else (none))) else (none)))) else (none)))) else (none)) else (none)) else (some x3)
def impl_Set_bytes.f (k : Nat) (l0_0 : List (S43)) (l0_1 : List (S139)) : Option (ByteArray) := (impl_seenBytes.f k l0_0).bind fun t837 => ((impl_PutNum.f k (l0_1.length : Int)).bind fun t838 => (if t837.size + t838.size ≤ 9223372036854775807 then (impl_Set_bytes.l0 k (t837 ++ t838) l0_1 (l0_1.length : Int) 0) else (none)))
theorem impl_Set_bytes.mono_l : ∀ k, (∀ y0 y1 y2 y3, LeO (impl_Set_bytes.l0 k y0 y1 y2 y3) (impl_Set_bytes.l0 (k + 1) y0 y1 y2 y3))
 | 0 => fun _ _ _ _ r h => by simp [impl_Set_bytes.l0] at h
 | k + 1 => by
  have ih0 := impl_Set_bytes.mono_l k
  ·intro y0 y1 y2 y3
   unfold impl_Set_bytes.l0
   repeat' first
   | (with_reducible exact ih0 _ _ _ _)
   | (with_reducible exact impl_PutNum.mono _ _)
   | (with_reducible exact impl_PutText.mono _ _)
   | (with_reducible exact impl_seenBytes.mono _ _)
   | (with_reducible exact LeO.refl _)
   | (with_reducible exact LeO.none _)
   | (with_reducible refine LeO.ite ?_ ?_)
   | (with_reducible refine LeO.bind ?_ (fun _ => ?_))
   | exact ih0 _ _ _ _
   | exact impl_PutNum.mono _ _
   | exact impl_PutText.mono _ _
   | exact impl_seenBytes.mono _ _
   | exact LeO.none _
   | refine LeO.ite ?_ ?_
   | refine LeO.bind ?_ (fun _ => ?_)
theorem impl_Set_bytes.mono : ∀ a0 a1 k, LeO (impl_Set_bytes.f k a0 a1) (impl_Set_bytes.f (k + 1) a0 a1) := by
 intro a0 a1 k
 have ih0 := impl_Set_bytes.mono_l k
 unfold impl_Set_bytes.f
 repeat' first
   | (with_reducible exact ih0 _ _ _ _)
   | (with_reducible exact impl_PutNum.mono _ _)
   | (with_reducible exact impl_PutText.mono _ _)
   | (with_reducible exact impl_seenBytes.mono _ _)
   | (with_reducible exact LeO.refl _)
   | (with_reducible exact LeO.none _)
   | (with_reducible refine LeO.ite ?_ ?_)
   | (with_reducible refine LeO.bind ?_ (fun _ => ?_))
   | exact ih0 _ _ _ _
   | exact impl_PutNum.mono _ _
   | exact impl_PutText.mono _ _
   | exact impl_seenBytes.mono _ _
   | exact LeO.none _
   | refine LeO.ite ?_ ?_
   | refine LeO.bind ?_ (fun _ => ?_)
end Go.Proofs.Ytdjhclgkkklajaa.P

namespace Go.Proofs.Ytdjhclgkkklajaa.P
open Go.RowKit Go.Proofs.YtdjhclgkkklajaaW.PrintWords Go.Proofs.YtdjhclgkkklajaaW.PrintLast Go.Proofs.YtdjhclgkkklajaaW.PrintMore
attribute [local go_sem] max2_int min2_int max_two min_two max_three min_three max_four min_four   -- for this text's walks alone
set_option linter.unusedVariables false
set_option linter.unusedSimpArgs false

/-! ### impl_SetBytes: function 72 -/
def impl_SetBytes.f (k : Nat) (l0_0 : List (S43)) (l0_1 : List (S139)) : Option (ByteArray) := (impl_SetRight.f k l0_0 l0_1).bind fun t847 => (if t847 = true then ((impl_Set_bytes.f k l0_0 l0_1).bind fun t848 => (some t848)) else (some (⟨#[]⟩ : ByteArray)))
theorem impl_SetBytes.mono : ∀ a0 a1 k, LeO (impl_SetBytes.f k a0 a1) (impl_SetBytes.f (k + 1) a0 a1) := by
 intro a0 a1 k
 unfold impl_SetBytes.f
 repeat' first
   | (with_reducible exact impl_SetRight.mono _ _ _)
   | (with_reducible exact impl_Set_bytes.mono _ _ _)
   | (with_reducible exact LeO.refl _)
   | (with_reducible exact LeO.none _)
   | (with_reducible refine LeO.ite ?_ ?_)
   | (with_reducible refine LeO.bind ?_ (fun _ => ?_))
   | exact impl_SetRight.mono _ _ _
   | exact impl_Set_bytes.mono _ _ _
   | exact LeO.none _
   | refine LeO.ite ?_ ?_
   | refine LeO.bind ?_ (fun _ => ?_)
end Go.Proofs.Ytdjhclgkkklajaa.P

namespace Go.Proofs.Ytdjhclgkkklajaa.Q
open Go.RowKit Go.Proofs.Ytdjhclgkkklajaa.P Go.Proofs.YtdjhclgkkklajaaW.PrintWords Go.Proofs.YtdjhclgkkklajaaW.PrintMore

theorem setOk_iff (v : List Mark) (l : List Sib) : setOk v l = true ↔ seenOk v = true ∧ l.length ≤ 8 ∧ sibsFrom v none l = true := by
  simp [setOk]
end Go.Proofs.Ytdjhclgkkklajaa.Q

namespace Go.Proofs.Ytdjhclgkkklajaa.Q
open Go.RowKit Go.Proofs.Ytdjhclgkkklajaa.P Go.Proofs.YtdjhclgkkklajaaW.PrintWords Go.Proofs.YtdjhclgkkklajaaW.PrintMore

def lowCh (c : Int) : Bool := decide (97 ≤ c) && decide (c ≤ 122)
def nameCh (c : Int) : Bool := lowCh c || (decide (48 ≤ c) && decide (c ≤ 57)) || decide (c = 95)
def nameList : List Int → Bool
  | [] => false
  | c :: r => lowCh c && r.all nameCh
def nameOk (s : ByteArray) : Bool := decide (s.size ≤ 20) && nameList (bytesOf s)
theorem bt_of {s : ByteArray} {i : Nat} {c : Int} (h : (bytesOf s).getD i 0 = c) : bt s (i : Int) = c := by
  rw [← rd_bytesOf]; simpa [rd] using h
theorem spec_name_round (s : ByteArray) (k i : Nat) (hi : i < s.size) (h1 : 1 ≤ i) (hs : s.size ≤ 1048576) :
    spec_NameRight.l0 (k + 1) s (i : Int) = if nameCh (bt s i) then spec_NameRight.l0 k s ((i + 1 : Nat) : Int) else some false := by
  simp only [spec_NameRight.l0]
  rw [if_pos (by omega), if_pos (by omega), w64 (by omega) (by omega)]
  have h0 : ¬ ((i : Int) = 0) := by omega
  simp only [if_neg h0, nameCh, lowCh]
  generalize bt s i = c
  by_cases h1 : 97 ≤ c <;> by_cases h2 : c ≤ 122 <;> by_cases h3 : 48 ≤ c <;> by_cases h4 : c ≤ 57 <;> by_cases h5 : c = 95 <;> first | (exfalso; omega) | simp [ge_iff_le, h1, h2, h3, h4, h5]
theorem spec_name_first (s : ByteArray) (k : Nat) (hi : 0 < s.size) (hs : s.size ≤ 1048576) :
    spec_NameRight.l0 (k + 1) s 0 = if lowCh (bt s 0) then spec_NameRight.l0 k s 1 else some false := by
  simp only [spec_NameRight.l0]
  rw [if_pos (by omega), if_pos (by omega), w64 (by omega) (by omega)]
  simp only [if_true, lowCh, Int.zero_add]
  generalize bt s 0 = c
  by_cases h1 : 97 ≤ c <;> by_cases h2 : c ≤ 122 <;> first | (exfalso; omega) | simp [ge_iff_le, h1, h2]
theorem spec_name_l0 (s : ByteArray) (hs : s.size ≤ 1048576) : ∀ (r : List Int) (i : Nat), (bytesOf s).drop i = r → i ≤ s.size → 1 ≤ i → Ev (fun k => spec_NameRight.l0 k s (i : Int)) (r.all nameCh)
  | [], i, h, hi, h1 => by
    have := dropNil h
    rw [bytesOf_length] at this
    refine Ev.step (f := fun _ => some true) (fun k => ?_) (Ev.now _)
    simp only [spec_NameRight.l0]
    rw [if_neg (by omega)]
  | c :: r, i, h, hi, h1 => by
    obtain ⟨g1, g2, g3⟩ := dropCons h 0
    rw [bytesOf_length] at g1
    have hb := bt_of g2
    refine Ev.step (fun k => spec_name_round s k i g1 h1 hs) ?_
    rw [hb]
    refine evIte (fun hc => ?_) (fun hc => ?_)
    · simp only [List.all_cons, hc, Bool.true_and]; exact spec_name_l0 s hs r (i + 1) g3 (by omega) (by omega)
    · simp only [List.all_cons, Bool.eq_false_iff.mpr hc, Bool.false_and]; exact Ev.now _
theorem spec_NameRight_ev (s : ByteArray) (hs : s.size ≤ 1048576) : Ev (fun k => spec_NameRight.f k s) (nameOk s) := by
  have hl := bytesOf_length s
  unfold spec_NameRight.f nameOk
  refine evIte (fun h => ?_) (fun h => ?_)
  · refine Ev.step (f := fun _ => some false) (fun k => by simp only [spec_NameRight.j0]; rw [if_pos trivial]) ?_
    have : bytesOf s = [] := by rw [← List.length_eq_zero_iff, hl]; omega
    simp only [this, nameList, Bool.and_false]
    exact Ev.now _
  · by_cases h20 : (s.size : Int) > 20
    · refine Ev.step (f := fun _ => some false) (fun k => by simp only [spec_NameRight.j0]; rw [if_pos (by simpa using h20)]) ?_
      have : ¬ s.size ≤ 20 := by omega
      simp only [this, decide_false, Bool.false_and]
      exact Ev.now _
    · refine Ev.step (fun k => by simp only [spec_NameRight.j0]; rw [if_neg (by simpa using h20)]) ?_
      have h20' : s.size ≤ 20 := by omega
      simp only [h20', decide_true, Bool.true_and]
      cases hb : bytesOf s with
      | nil => rw [hb] at hl; simp at hl; omega
      | cons c r =>
        have hc : bt s ((0 : Nat) : Int) = c := bt_of (by rw [hb]; rfl)
        refine Ev.step (fun k => spec_name_first s k (by omega) hs) ?_
        rw [show (0 : Int) = ((0 : Nat) : Int) from rfl, hc]
        refine evIte (fun h1 => ?_) (fun h1 => ?_)
        · simp only [nameList, h1, Bool.true_and]
          exact spec_name_l0 s hs r 1 (by rw [hb]; rfl) (by omega) (by omega)
        · simp only [nameList, Bool.eq_false_iff.mpr h1, Bool.false_and]; exact Ev.now _
theorem impl_name_round (s : ByteArray) (k i : Nat) (hi : i < s.size) (hs : s.size ≤ 140737488351232) :
    impl_NameRight.l0 (k + 1) s (s.size : Int) (i : Int) = if nameCh (bt s i) then impl_NameRight.l0 k s (s.size : Int) ((i + 1 : Nat) : Int) else some false := by
  simp only [impl_NameRight.l0]
  rw [if_pos (by omega), if_pos (by omega), if_pos (by omega), w64 (by omega) (by omega)]
  simp only [nameCh, lowCh]
  generalize bt s i = c
  by_cases h1 : 97 ≤ c <;> by_cases h2 : c ≤ 122 <;> by_cases h3 : 48 ≤ c <;> by_cases h4 : c ≤ 57 <;> by_cases h5 : c = 95 <;> first | (exfalso; omega) | simp [ge_iff_le, h1, h2, h3, h4, h5]
theorem impl_name_l0 (s : ByteArray) (hs : s.size ≤ 140737488351232) : ∀ (r : List Int) (i : Nat), (bytesOf s).drop i = r → i ≤ s.size → Ev (fun k => impl_NameRight.l0 k s (s.size : Int) (i : Int)) (r.all nameCh)
  | [], i, h, hi => by
    have := dropNil h
    rw [bytesOf_length] at this
    refine Ev.step (f := fun _ => some true) (fun k => ?_) (Ev.now _)
    simp only [impl_NameRight.l0]
    rw [if_neg (by omega)]
  | c :: r, i, h, hi => by
    obtain ⟨g1, g2, g3⟩ := dropCons h 0
    rw [bytesOf_length] at g1
    have hb := bt_of g2
    refine Ev.step (fun k => impl_name_round s k i g1 hs) ?_
    rw [hb]
    refine evIte (fun hc => ?_) (fun hc => ?_)
    · simp only [List.all_cons, hc, Bool.true_and]; exact impl_name_l0 s hs r (i + 1) g3 (by omega)
    · simp only [List.all_cons, Bool.eq_false_iff.mpr hc, Bool.false_and]; exact Ev.now _
theorem low_name {c : Int} (h : lowCh c = true) : nameCh c = true := by simp [nameCh, h]
theorem impl_NameRight_ev (s : ByteArray) (hs : s.size ≤ 140737488351232) : Ev (fun k => impl_NameRight.f k s) (nameOk s) := by
  have hl := bytesOf_length s
  unfold impl_NameRight.f nameOk impl_size.f
  refine evBind1 rfl (evBind1 (within_is _ _ _) ?_)
  refine evIte (fun h => ?_) (fun h => ?_)
  · have hw : 1 ≤ (s.size : Int) ∧ (s.size : Int) ≤ 20 := by simpa [isWithin] using h
    refine evPos (by omega) ?_
    have h20' : s.size ≤ 20 := by omega
    simp only [h20', decide_true, Bool.true_and]
    cases hb : bytesOf s with
    | nil => rw [hb] at hl; simp at hl; omega
    | cons c r =>
      have hc : bt s ((0 : Nat) : Int) = c := bt_of (by rw [hb]; rfl)
      have hc' : bt s 0 = c := hc
      rw [hc']
      refine evIte (fun h1 => ?_) (fun h1 => ?_)
      · refine Ev.step (f := fun _ => some false) (fun k => by simp only [impl_NameRight.j0]; rw [if_pos trivial]) ?_
        have : lowCh c = false := by simp [lowCh]; omega
        simp only [nameList, this, Bool.false_and]; exact Ev.now _
      · by_cases h2 : c > 122
        · refine Ev.step (f := fun _ => some false) (fun k => by simp only [impl_NameRight.j0]; rw [if_pos (by simpa using h2)]) ?_
          have : lowCh c = false := by simp [lowCh]; omega
          simp only [nameList, this, Bool.false_and]; exact Ev.now _
        · refine Ev.step (fun k => by simp only [impl_NameRight.j0]; rw [if_neg (by simpa using h2)]) ?_
          have hlow : lowCh c = true := by simp [lowCh]; omega
          simp only [nameList, hlow, Bool.true_and]
          have := impl_name_l0 s hs (c :: r) 0 (by rw [hb]; rfl) (by omega)
          simpa [low_name hlow] using this
  · refine Ev.step (f := fun _ => some false) (fun k => by simp only [impl_NameRight.j0]; rw [if_pos trivial]) ?_
    have hw : isWithin (s.size : Int) 1 20 = false := by simpa using h
    have : (decide (s.size ≤ 20) && nameList (bytesOf s)) = false := by
      by_cases h20 : s.size ≤ 20
      · have : bytesOf s = [] := by
          rw [← List.length_eq_zero_iff, hl]
          simp [isWithin] at hw; omega
        simp [this, nameList]
      · simp [h20]
    rw [this]
    exact Ev.now _
end Go.Proofs.Ytdjhclgkkklajaa.Q

namespace Go.Proofs.Ytdjhclgkkklajaa.Q
open Go.RowKit Go.Proofs.Ytdjhclgkkklajaa.P Go.Proofs.YtdjhclgkkklajaaW.PrintWords Go.Proofs.YtdjhclgkkklajaaW.PrintMore

theorem l02Time_is (n : Int) : spec_l02Time.f n = some (isWithin n 0 1000000) := by simp [spec_l02Time.f, l02Is_is]
/-- What a kind asks for. -/
def msgKind (kd rq : Int) (v : List Mark) (l : List Sib) : Bool :=
  if kd = 1 then (if rq > 0 then ((v.length : Int) == 0) else false) else if kd = 2 then decide (rq > 0) else if kd = 3 then decide ((v.length : Int) > 0) else if (v.length : Int) > 0 then ((l.length : Int) == 0) else false
def msgOk (kd fr tu rq : Int) (key : ByteArray) (fo : Int) (v : List Mark) (l : List Sib) : Bool :=
  isWithin kd 1 4 && (isNode fr && (isNode tu && (isNode fo && (isWithin rq 0 1000000 && (nameOk key && (setOk v l && msgKind kd rq v l))))))
theorem spec_MsgRight_ev (kd fr tu rq : Int) (key : ByteArray) (fo : Int) (v : List Mark) (l : List Sib) (hk : key.size ≤ 1048576) (hv : v.length ≤ 1048576) (hl : l.length ≤ 1048576) :
    Ev (fun k => spec_MsgRight.f k kd fr tu rq key fo v l) (msgOk kd fr tu rq key fo v l) := by
  have jF : Ev (fun k => spec_MsgRight.j0 k true kd fr tu rq key fo v l) false := Ev.step (f := fun _ => some false) (fun k => by simp [spec_MsgRight.j0]) (Ev.now _)
  have jT : Ev (fun k => spec_MsgRight.j0 k false kd fr tu rq key fo v l) (msgKind kd rq v l) := by
    refine Ev.step (f := fun _ => some (msgKind kd rq v l)) (fun k => ?_) (Ev.now _)
    simp only [spec_MsgRight.j0, msgKind]
    rw [if_neg (by simp)]
    by_cases h1 : kd = 1
    · rw [if_pos h1, if_pos h1]; split <;> rfl
    · rw [if_neg h1, if_neg h1]
      by_cases h2 : kd = 2
      · rw [if_pos h2, if_pos h2]
      · rw [if_neg h2, if_neg h2]
        by_cases h3 : kd = 3
        · rw [if_pos h3, if_pos h3]
        · rw [if_neg h3, if_neg h3]; split <;> rfl
  unfold spec_MsgRight.f msgOk
  refine evBind1 (l02Is_is _ _ _) ?_
  cases isWithin kd 1 4 with
  | false => exact evNeg (by simp) jF
  | true =>
    refine evPos rfl (evBind1 (l02Node_is _) ?_)
    cases isNode fr with
    | false => exact evNeg (by simp) jF
    | true =>
      refine evPos rfl (evBind1 (l02Node_is _) ?_)
      cases isNode tu with
      | false => exact evNeg (by simp) jF
      | true =>
        refine evPos rfl (evBind1 (l02Node_is _) ?_)
        cases isNode fo with
        | false => exact evNeg (by simp) jF
        | true =>
          refine evPos rfl (evBind1 (l02Time_is _) ?_)
          cases isWithin rq 0 1000000 with
          | false => exact evNeg (by simp) jF
          | true =>
            refine evPos rfl (Ev.bind (spec_NameRight_ev key hk) ?_)
            cases nameOk key with
            | false => exact evNeg (by simp) jF
            | true =>
              refine evPos rfl (Ev.bind (spec_SetRight_ev v l (by omega) hl) ?_)
              cases setOk v l with
              | false => exact jF
              | true => exact jT
def msgJ2 (b : Bool) (kd : Int) (l : List Sib) : Bool := if b = true then false else if kd = 1 then ((l.length : Int) == 0) else if kd = 4 then ((l.length : Int) == 0) else true
def msgJ1 (c : Bool) (kd rq : Int) (v : List Mark) (l : List Sib) : Bool :=
  if c = true then (if (v.length : Int) = 0 then msgJ2 true kd l else if kd = 1 then msgJ2 (decide ((v.length : Int) > 0)) kd l else msgJ2 false kd l)
  else (if rq = 0 then msgJ2 true kd l else if kd = 1 then msgJ2 (decide ((v.length : Int) > 0)) kd l else msgJ2 false kd l)
theorem msgKind_is {kd rq : Int} {v : List Mark} {l : List Sib} (h1 : 1 ≤ kd) (h2 : kd ≤ 4) (hr : 0 ≤ rq) (he : v.length = 0 → l.length = 0) : (if kd = 3 then msgJ1 true kd rq v l else msgJ1 (kd == 4) kd rq v l) = msgKind kd rq v l := by
  unfold msgKind msgJ1 msgJ2
  have ha : (0 : Int) ≤ (v.length : Int) := by omega
  have he' : (v.length : Int) = 0 → (l.length : Int) = 0 := by omega
  clear he
  generalize (v.length : Int) = a at ha he' ⊢
  generalize (l.length : Int) = b at he' ⊢
  rcases (show kd = 1 ∨ kd = 2 ∨ kd = 3 ∨ kd = 4 by omega) with rfl | rfl | rfl | rfl <;> by_cases hq : rq = 0 <;> by_cases hv : a = 0 <;>
    first
    | (have hb := he' hv
       have hq' : rq > 0 := by omega
       simp [hq, hq', hv, hb]; done)
    | (have hb := he' hv
       simp [hq, hv, hb]; done)
    | (have hp : 0 < a := by omega
       have hq' : rq > 0 := by omega
       simp [hq, hq', hv, hp]; done)
    | (have hp : 0 < a := by omega
       simp [hq, hv, hp]; done)
theorem setOk_empty {v : List Mark} {l : List Sib} (h : setOk v l = true) (hv : v.length = 0) : l.length = 0 := by
  cases l with
  | nil => rfl
  | cons x r =>
    have := (setOk_iff v (x :: r)).1 h
    obtain ⟨_, _, h3⟩ := this
    have hv' : v = [] := List.length_eq_zero_iff.1 hv
    subst hv'
    simp only [sibsFrom, sibOk, Bool.and_eq_true] at h3
    have h4 := (isDot_iff _ _).1 h3.1.1
    have h5 : x.f0.f1 ≤ 0 := of_decide_eq_true (p := x.f0.f1 ≤ seenOf [] x.f0.f0) h3.1.2.1
    omega
theorem msg_j2 (b : Bool) (kd fr tu rq : Int) (key : ByteArray) (fo : Int) (v : List Mark) (l : List Sib) : Ev (fun k => impl_MsgRight.j2 k b kd fr tu rq key fo v l) (msgJ2 b kd l) := by
  refine Ev.step (f := fun _ => some (msgJ2 b kd l)) (fun k => ?_) (Ev.now _)
  simp only [impl_MsgRight.j2, msgJ2]
  cases b with
  | true => rfl
  | false =>
    by_cases h1 : kd = 1
    · simp [h1]
    · by_cases h4 : kd = 4
      · simp [h4]
      · simp [h1, h4]
theorem msg_j1 (c : Bool) (kd fr tu rq : Int) (key : ByteArray) (fo : Int) (v : List Mark) (l : List Sib) : Ev (fun k => impl_MsgRight.j1 k c kd fr tu rq key fo v l) (msgJ1 c kd rq v l) := by
  refine Ev.step (fun k => by rw [impl_MsgRight.j1]) ?_
  unfold msgJ1
  refine evIte (fun h => ?_) (fun h => ?_)
  · rw [if_pos h]
    refine evIte (fun h => ?_) (fun h => ?_)
    · rw [if_pos h]; exact msg_j2 _ _ _ _ _ _ _ _ _
    · rw [if_neg h]
      refine evIte (fun h => ?_) (fun h => ?_)
      · rw [if_pos h]; exact msg_j2 _ _ _ _ _ _ _ _ _
      · rw [if_neg h]; exact msg_j2 _ _ _ _ _ _ _ _ _
  · rw [if_neg h]
    refine evIte (fun h => ?_) (fun h => ?_)
    · rw [if_pos h]; exact msg_j2 _ _ _ _ _ _ _ _ _
    · rw [if_neg h]
      refine evIte (fun h => ?_) (fun h => ?_)
      · rw [if_pos h]; exact msg_j2 _ _ _ _ _ _ _ _ _
      · rw [if_neg h]; exact msg_j2 _ _ _ _ _ _ _ _ _
theorem impl_MsgRight_ev (kd fr tu rq : Int) (key : ByteArray) (fo : Int) (v : List Mark) (l : List Sib) (hk : key.size ≤ 1048576) (hv : v.length ≤ 1048576) (hl : l.length ≤ 1048576) :
    Ev (fun k => impl_MsgRight.f k kd fr tu rq key fo v l) (msgOk kd fr tu rq key fo v l) := by
  have jF : Ev (fun k => impl_MsgRight.j0 k true kd fr tu rq key fo v l) false := Ev.step (f := fun _ => some false) (fun k => by simp [impl_MsgRight.j0]) (Ev.now _)
  unfold impl_MsgRight.f msgOk
  refine evBind1 (within_is _ _ _) ?_
  cases h1 : isWithin kd 1 4 with
  | false => exact evNeg (by simp) jF
  | true =>
    refine evPos rfl (evBind1 (isNode_is _) ?_)
    cases isNode fr with
    | false => exact evNeg (by simp) jF
    | true =>
      refine evPos rfl (evBind1 (isNode_is _) ?_)
      cases isNode tu with
      | false => exact evNeg (by simp) jF
      | true =>
        refine evPos rfl (evBind1 (isNode_is _) ?_)
        cases isNode fo with
        | false => exact evNeg (by simp) jF
        | true =>
          refine evPos rfl (evBind1 (within_is _ _ _) ?_)
          cases h2 : isWithin rq 0 1000000 with
          | false => exact evNeg (by simp) jF
          | true =>
            refine evPos rfl (Ev.bind (impl_NameRight_ev key (by omega)) ?_)
            cases nameOk key with
            | false => exact evNeg (by simp) jF
            | true =>
              refine evPos rfl (Ev.bind (impl_SetRight_ev v l (by omega) hl) ?_)
              cases h3 : setOk v l with
              | false => exact jF
              | true =>
                simp only [isWithin, Bool.and_eq_true, decide_eq_true_eq] at h1 h2
                simp only [Bool.true_and, Bool.not_true]
                rw [← msgKind_is h1.1 h1.2 h2.1 (setOk_empty h3)]
                refine Ev.step (fun k => by rw [impl_MsgRight.j0]) (evNeg (by simp) (evIte (fun h => ?_) (fun h => ?_)))
                · rw [if_pos h]; exact msg_j1 _ _ _ _ _ _ _ _ _
                · rw [if_neg h]; exact msg_j1 _ _ _ _ _ _ _ _ _
theorem szMsg_ev (kd fr tu rq : Int) (key : ByteArray) (fo : Int) (v : List LMark) (l : List LSib) (hk : key.size ≤ 9223372036854775807) (hv : v.length ≤ 9223372036854775807) (hl : l.length ≤ 9223372036854775807) (hx : ∀ x ∈ l, x.f2.size ≤ 9223372036854775807) :
    ∃ r, Ev (fun k => laws_szMsg.f k kd fr tu rq key fo v l 1048576) r ∧ (¬ r < 0 → key.size ≤ 1048576 ∧ v.length ≤ 1048576 ∧ l.length ≤ 1048576) := by
  unfold laws_szMsg.f
  rw [w64 (by omega) (by omega)]
  by_cases h : 1048576 - (key.size : Int) < 0
  · exact ⟨-1, evPos h (Ev.now _), by omega⟩
  · obtain ⟨r, e1, e2, e3⟩ := szSet_ev v l hv hl hx (1048576 - (key.size : Int)) (by omega) (by omega)
    by_cases hr : r < 0
    · exact ⟨-1, evNeg h (Ev.bind e1 (evPos hr (Ev.now _))), by omega⟩
    · refine ⟨r, evNeg h (Ev.bind e1 (evNeg hr (Ev.now _))), fun h0 => ?_⟩
      obtain ⟨g1, g2, _⟩ := e3 (by omega)
      exact ⟨by omega, g1, g2⟩
theorem toMsg_ev (kd fr tu rq : Int) (key : ByteArray) (fo : Int) (v : List LMark) (l : List LSib) (hv : v.length ≤ 1048576) (hl : l.length ≤ 1048576) :
    Ev (fun k => laws_toMsg.f k kd fr tu rq key fo v l) (kd, fr, tu, rq, key, fo, v.map toMark, l.map toSib) := Ev.bind (toSet_ev v l hv hl) (Ev.now _)
theorem eqMsg_ev (kd fr tu rq : Int) (key : ByteArray) (fo : Int) (v : List Mark) (l : List Sib) (hv : v.length ≤ 1048576) (hl : l.length ≤ 1048576) :
    Ev (fun k => laws_eqMsg.f k kd fr tu rq key fo v l kd fr tu rq key fo v l) true :=
  evPos rfl (evPos rfl (evPos rfl (evPos rfl (evPos rfl (evPos rfl (Ev.bind (eqSet_ev v l (by omega) (by omega)) (evPos rfl (Ev.now _))))))))
end Go.Proofs.Ytdjhclgkkklajaa.Q

namespace Go.Proofs.Ytdjhclgkkklajaa.Pure
open Go.RowKit Go.Proofs.Ytdjhclgkkklajaa.P Go.Proofs.Ytdjhclgkkklajaa.Q Go.Proofs.YtdjhclgkkklajaaW.PrintWords Go.Proofs.YtdjhclgkkklajaaW.PrintMore
theorem FnExactMsgRight : laws_FnExactMsgRight.Pure := by
  intro x hx
  obtain ⟨_, _, _, _, hk, _, hs⟩ := hx
  obtain ⟨r, e, hr⟩ := szMsg_ev x.f0 x.f1 x.f2 x.f3 x.f4 x.f5 x.f6.f0 x.f6.f1 hk hs.1.1 hs.2.1 (fun y hy => (hs.2.2 y hy).2.2)
  refine Ev.rounds ?_
  unfold laws_FnExactMsgRight.f
  refine Ev.bind e (evIte (fun _ => Ev.now _) (fun h => ?_))
  obtain ⟨g0, g1, g2⟩ := hr h
  have hm : (x.f6.f0.map toMark).length ≤ 1048576 := by simpa using g1
  have hn : (x.f6.f1.map toSib).length ≤ 1048576 := by simpa using g2
  refine Ev.bind (toMsg_ev _ _ _ _ _ _ _ _ g1 g2) (Ev.bind (spec_MsgRight_ev x.f0 x.f1 x.f2 x.f3 x.f4 x.f5 (x.f6.f0.map toMark) (x.f6.f1.map toSib) g0 hm hn) (Ev.bind (toMsg_ev _ _ _ _ _ _ _ _ g1 g2) (Ev.bind (impl_MsgRight_ev x.f0 x.f1 x.f2 x.f3 x.f4 x.f5 (x.f6.f0.map toMark) (x.f6.f1.map toSib) g0 hm hn) (evNeg (by simp) ?_))))
  exact Ev.bind (toMsg_ev _ _ _ _ _ _ _ _ g1 g2) (Ev.bind (eqMsg_ev x.f0 x.f1 x.f2 x.f3 x.f4 x.f5 (x.f6.f0.map toMark) (x.f6.f1.map toSib) hm hn) (evPos rfl (Ev.now _)))
end Go.Proofs.Ytdjhclgkkklajaa.Pure

namespace Go.Proofs.Ytdjhclgkkklajaa.fnExactMsgRight
open Go.ChangeShapes Go.WideShapes Go.ChangeAt Go.RowKit Go.Proofs.Ytdjhclgkkklajaa.P Go.Proofs.Ytdjhclgkkklajaa.RO Go.Proofs.Ytdjhclgkkklajaa.Open Go.Proofs.YtdjhclgkkklajaaW.PrintWords
open Go.ChangeMaps (open_string shut_string)
set_option linter.unusedVariables false
theorem own : ownKnob Try.prog.godebug = none := by kernel_rfl
theorem laidOut : laidOutB Try.prog = true := by kernel_rfl
set_option maxRecDepth 100000 in
theorem lifted (os : Os) (started : os.Started) (H : Type) (enc : TypeId × Value → H) :
    ReturnsInHanded {} Try.checked os 12 .any (Rows.fnExactMsgRightSpec.pre6 enc Try.prog Try.f12 Rows.fnExactMsgRightRow.domain false) (Rows.fnExactMsgRightSpec.post enc Try.prog Try.f12 false true false false) := by
  refine returnsInHanded_of_change_sized (C := Try.checked) own started (by kernel_rfl) Try.func12
    (ChangeSpec.witness6 (enc := enc) (C := Try.checked) false ⟨#[], #[.agg #[.int .i64 0, .int .i64 0, .int .i64 0, .int .i64 0, .string ByteArray.empty, .int .i64 0, .slice none 0 0, .slice none 0 0]], []⟩ 8 (by kernel_rfl) (by kernel_rfl) (by kernel_rfl) (by kernel_rfl)) ?_
  intro W base args ds gs before hval0 hW hcnd hsz0 _
  have hsz : (DataW.weightsEach Try.prog (Try.f12.params.toList ++ Rows.fnExactMsgRightSpec.plain.varTypes Try.prog) (ds ++ gs)).all (· ≤ reachBytes) = true := hsz0
  have hval : ∀ (j : Nat) t v, Try.f12.params[j]? = some t → args[j]? = some v → Value.okWide Try.prog W .any base t v := hval0
  have hW' := hW
  obtain ⟨p, q, hA0, hV, rfl, hfz, hnd⟩ := hW
  have hA : DataW.TrodAll enc Try.prog W 0 (fun _ => true) true Try.f12.params.toList args.toList ds p := hA0
  rw [Try.params12] at hA hval hsz
  obtain ⟨v0, vs0, d0, ds0, p0, q0, hargs, rfl, rfl, h0, r0⟩ := trodAll_cons hA
  obtain ⟨rfl, rfl, rfl⟩ := trodAll_nil r0
  obtain rfl : args = #[v0] := by cases args; simp_all
  obtain ⟨rfl, rfl⟩ := trodVars_none hV
  have k0 := h0
  have lt0 : ∀ x ∈ p0, x.block < W.heap.size := by obtain ⟨m, hm⟩ := k0; exact DataW.trod_lt m _ _ _ hm
  obtain ⟨cs0, rfl, _⟩ := okWide_struct Try.underlying98 (hval 0 98 v0 rfl rfl)
  obtain ⟨fuel0, hf0⟩ := h0
  obtain ⟨x0, hk0, w0⟩ := op_T98 hf0
  obtain ⟨A0_6, c0_6, A0_7, c0_7, hcs0, hl0_6, hr0_6, hl0_7, hr0_7⟩ := k98_open hk0
  obtain rfl : cs0 = #[.int .i64 x0.f0, .int .i64 x0.f1, .int .i64 x0.f2, .int .i64 x0.f3, .string x0.f4, .int .i64 x0.f5, .slice A0_6 x0.f6.f0.length c0_6, .slice A0_7 x0.f6.f1.length c0_7] := Array.toList_inj.1 hcs0
  clear hA0 hval0 hsz0 hsz
  obtain ⟨k, hp⟩ := Pure.FnExactMsgRight x0 w0
  refine (P.laws_FnExactMsgRight.calls k x0.f0 x0.f1 x0.f2 x0.f3 x0.f4 x0.f5 _ _ x0.f6.f0 _ _ x0.f6.f1 true W hr0_6 hl0_6 hr0_7 hl0_7 hp).mono fun e W' ⟨he, bel0⟩ => ?_
  have bel : Below W.heap.size W W' := bel0
  subst he
  exact ⟨_, rfl, _, _, _, [], _, [], hW', trodAll_mk1 (shut_bool Try.underlying4 _), (trodAll_cons_mk (Below.trod laidOut (by kernel_rfl) (of_decide_eq_true (by kernel_rfl)) k0 bel lt0) trodAll_mk0), rfl, bel.frame _, fun h => by cases h⟩
theorem over : Rows.fnExactMsgRightRow.holds Try.pinned (OpenSpec.ofChange Rows.fnExactMsgRightSpec) :=
  OpenClaim.holds_of_wide 12 Try.f12 rfl rfl rfl rfl rfl rfl rfl ⟨rfl, rfl, rfl, rfl, rfl⟩ rfl rfl rfl rfl rfl (by kernel_rfl) Try.func12 (by kernel_rfl)
    (of_decide_eq_true (by kernel_rfl)) (by unfold Func.isWrapper; first | (rw [if_pos (by decide +kernel)]; kernel_rfl) | (rw [if_neg (by decide +kernel)]; exact ⟨rfl, rfl⟩))
    (fun os started H enc _ => lifted os started H enc)
theorem proved : Rows.FnExactMsgRightSaid := over
#print axioms proved
end Go.Proofs.Ytdjhclgkkklajaa.fnExactMsgRight
namespace Go.Proofs.Ytdjhclgkkklajaa
/-- The row, under a short name, for the claim. -/
theorem fnExactMsgRight_holds : Rows.FnExactMsgRightSaid := fnExactMsgRight.proved
end Go.Proofs.Ytdjhclgkkklajaa
