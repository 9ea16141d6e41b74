/- For all lists of marks the program's SeenJoin and the reference's return the same list, of its own memory, and the lists stay as they were. No condition. (Part 3 of 3: written by programs of this workplace and by hand, merged.) -/
import Derived.Test.YthebelmpachdbaaMFnExactSeenJoina
import Derived.Test.YthebelmpachdbaaMFnExactSeenJoinb
import Derived.Test.YthebelmpachdbaaRows
import Derived.WalkKit
import Derived.ProofKit
import Derived.OpenShut
import Derived.ShutString
import Derived.ChangeOld
import Derived.Below
import Derived.SizedLaws
set_option linter.unusedVariables false
set_option linter.unusedSimpArgs false

namespace Go.Proofs.Ythebelmpachdbaa.P
open Go.RowKit Go.Proofs.YthebelmpachdbaaW.PrintWords Go.Proofs.YthebelmpachdbaaW.PrintLast Go.Proofs.YthebelmpachdbaaW.PrintMore
attribute [local go_sem] max2_int min2_int max_two min_two max_three min_three max_four min_four   -- for this text's walks alone
set_option linter.unusedVariables false
set_option linter.unusedSimpArgs false

/-! ### impl_seenBytes: function 84 -/
def impl_seenBytes.l0 : Nat → ByteArray → List (S30) → Int → Int → Option (ByteArray)
 | 0, _, _, _, _ => none
 | k + 1, x3, x9, x10, x11 => if x11 < x10 then (if 0 ≤ x11 then (if x11 < (x9.length : Int) then ((impl_PutNum.f k ((rd_T30 x9 x11).f0)).bind fun t747 => ((impl_PutNum.f k ((rd_T30 x9 x11).f1)).bind fun t748 => (if t747.size + t748.size ≤ 9223372036854775807 then (if x3.size + (t747.size + t748.size) ≤ 9223372036854775807 then (impl_seenBytes.l0 k (x3 ++ (t747 ++ t748)) x9 x10 (wrap64 (x11 + 1))) else (none)) else (none)))) else (none)) else (none)) else (some x3)
def impl_seenBytes.f (k : Nat) (l0 : List (S30)) : Option (ByteArray) := (impl_PutNum.f k (l0.length : Int)).bind fun t744 => (impl_seenBytes.l0 k t744 l0 (l0.length : Int) 0)
theorem impl_seenBytes.mono_l : ∀ k, (∀ y0 y1 y2 y3, LeO (impl_seenBytes.l0 k y0 y1 y2 y3) (impl_seenBytes.l0 (k + 1) y0 y1 y2 y3))
 | 0 => fun _ _ _ _ r h => by simp [impl_seenBytes.l0] at h
 | k + 1 => by
  have ih0 := impl_seenBytes.mono_l k
  ·intro y0 y1 y2 y3
   unfold impl_seenBytes.l0
   repeat' first
   | (with_reducible exact ih0 _ _ _ _)
   | (with_reducible exact impl_PutNum.mono _ _)
   | (with_reducible exact LeO.refl _)
   | (with_reducible exact LeO.none _)
   | (with_reducible refine LeO.ite ?_ ?_)
   | (with_reducible refine LeO.bind ?_ (fun _ => ?_))
   | exact ih0 _ _ _ _
   | exact impl_PutNum.mono _ _
   | exact LeO.none _
   | refine LeO.ite ?_ ?_
   | refine LeO.bind ?_ (fun _ => ?_)
theorem impl_seenBytes.mono : ∀ a0 k, LeO (impl_seenBytes.f k a0) (impl_seenBytes.f (k + 1) a0) := by
 intro a0 k
 have ih0 := impl_seenBytes.mono_l k
 unfold impl_seenBytes.f
 repeat' first
   | (with_reducible exact ih0 _ _ _ _)
   | (with_reducible exact impl_PutNum.mono _ _)
   | (with_reducible exact LeO.refl _)
   | (with_reducible exact LeO.none _)
   | (with_reducible refine LeO.ite ?_ ?_)
   | (with_reducible refine LeO.bind ?_ (fun _ => ?_))
   | exact ih0 _ _ _ _
   | exact impl_PutNum.mono _ _
   | exact LeO.none _
   | refine LeO.ite ?_ ?_
   | refine LeO.bind ?_ (fun _ => ?_)
def impl_seenBytes.T5 : Bool × List (List Nat × List Nat) := (true, [([], []), ([], []), ([1], [1]), ([2], [2]), ([], []), ([4], [4]), ([5, 3], [5]), ([3, 6], [3, 6]), ([0, 7], [0, 7]), ([8, 6, 0, 1, 2, 3, 4, 5, 6, 7, 8], [0, 8])])
def impl_seenBytes.B5 : List Nat := [0, 0, 2, 6, 0, 16, 62, 126, 255, 511]
theorem impl_seenBytes.tab5 : rtab .any (opsOf Try.f84 5) = impl_seenBytes.T5 := by kernel_rfl
theorem impl_seenBytes.bits5 : waitsOk impl_seenBytes.T5.2 impl_seenBytes.B5 = true := by kernel_rfl
set_option maxHeartbeats 8000000 in
set_option maxRecDepth 100000 in
theorem impl_seenBytes.calls (k : Nat) (A0 : Option Addr) (c0 : Nat) (l0 : List (S30)) (r : ByteArray) (w : World) (hr0 : Kd.C k30 w A0 l0.length l0) (hc0 : l0.length ≤ c0) (h : impl_seenBytes.f k l0 = some r) :
  Calls Try.prog 84 #[.slice A0 l0.length c0] w fun e w' => e = .returned (.string r) ∧ Below w.heap.size w w' := by
 have hu30 := Try.underlying30
 have HR0 := Aside0.mk hr0
 have HC0 := Aside0.mk hc0
 clear hr0 hc0
 have HB := Aside0.mk (Below.refl w.heap.size w)
 have H : ((impl_PutNum.f k (l0.length : Int)).bind fun t744 => (impl_seenBytes.l0 k t744 l0 (l0.length : Int) 0)) = some r := h
 clear h
 replace H := Option.bind_eq_some_iff.mp H
 obtain ⟨t744, A20, H⟩ := H
 replace H : (impl_seenBytes.l0 k t744 l0 (l0.length : Int) 0) = some r := H
 have A2 := Aside0.mk A20
 clear A20
 have H' := Aside0.mk H
 clear H
 go_enter Try.func84, Try.ntmps84
 go_wp2_with (first | ((with_reducible refine gate_callee (f := 113) rfl ?_); refine goesL_ (some 8) rfl rfl Try.func113 (by kernel_rfl) rfl #[.int .i64 (l0.length : Int)] rfl (by (try simp only [List.map_toArray, List.map_cons, List.map_nil]); first | done | rfl | (simp only [List.length_drop, List.length_take]; rfl)) ?_; (with_reducible refine (impl_PutNum.calls k (l0.length : Int) t744 _ A2.out).mono ?_); rintro e w3 ⟨rfl, hb⟩; refine ⟨_, rfl, ?_⟩; have n0_ := Aside0.mk (below_step (by repeat (first | (with_reducible first | exact HB.out | apply below_alloc | apply pw_below_drewN | apply below_drew1) | exact HB.out)) hb); clear HB; have HB := n0_; clear n0_; (try clear hb); (try clear hb2); (try clear hk); (try clear hi)))
 go_loopg [3, 11] k (fun kq v3 v11 w' => ∃ (x3_1 : ByteArray) (x11_1 : Int), v3 = .string x3_1 ∧ v11 = .int .i64 x11_1 ∧ Aside0 (impl_seenBytes.l0 kq x3_1 l0 (l0.length : Int) x11_1 = some r) ∧ Aside0 (kq ≤ k) ∧ Aside0 (Below w.heap.size w w'))
 case atStart => exact ⟨(t744), (0), (by first | rfl | (simp; done) | (simp [*]; done)), (by first | rfl | (simp; done) | (simp [*]; done)), H', ⟨Nat.le_refl _⟩, ⟨by repeat (first | (with_reducible first | exact HB.out | apply below_alloc | apply pw_below_drewN | apply below_drew1) | exact HB.out)⟩⟩
 case round =>
  clear H'
  try clear c1
  try clear p2
  obtain ⟨x3_1, x11_1, rfl, rfl, HA, HK1, HB⟩ := hrel
  cases gk with
  | zero => exact absurd HA.out (by simp [impl_seenBytes.l0])
  | succ k1 =>
   have H := HA.out
   clear HA
   simp only [impl_seenBytes.l0] at H
   by_cases c4 : x11_1 < (l0.length : Int)
   ·rw [if_pos c4] at H
    have c4b0 : decide (x11_1 < (l0.length : Int)) = true := decide_eq_true c4
    clear c4
    by_cases c5 : 0 ≤ x11_1
    ·rw [if_pos c5] at H
     have c5b0 : decide (0 ≤ x11_1) = true := decide_eq_true c5
     clear c5
     by_cases c6 : x11_1 < (l0.length : Int)
     ·rw [if_pos c6] at H
      have c6b0 : decide (x11_1 < (l0.length : Int)) = true := decide_eq_true c6
      clear c6
      replace H := Option.bind_eq_some_iff.mp H
      obtain ⟨t747, A70, H⟩ := H
      replace H : ((impl_PutNum.f k1 ((rd_T30 l0 x11_1).f1)).bind fun t748 => (if t747.size + t748.size ≤ 9223372036854775807 then (if x3_1.size + (t747.size + t748.size) ≤ 9223372036854775807 then (impl_seenBytes.l0 k1 (x3_1 ++ (t747 ++ t748)) l0 (l0.length : Int) (wrap64 (x11_1 + 1))) else (none)) else (none))) = some r := H
      have A7 := Aside0.mk A70
      clear A70
      replace H := Option.bind_eq_some_iff.mp H
      obtain ⟨t748, A80, H⟩ := H
      replace H : (if t747.size + t748.size ≤ 9223372036854775807 then (if x3_1.size + (t747.size + t748.size) ≤ 9223372036854775807 then (impl_seenBytes.l0 k1 (x3_1 ++ (t747 ++ t748)) l0 (l0.length : Int) (wrap64 (x11_1 + 1))) else (none)) else (none)) = some r := H
      have A8 := Aside0.mk A80
      clear A80
      by_cases c9 : t747.size + t748.size ≤ 9223372036854775807
      ·rw [if_pos c9] at H
       have c9b0 := eq_true c9
       have c9b1 : decide (t747.size + t748.size ≤ 9223372036854775807) = true := decide_eq_true c9
       try have c9b2 : (9223372036854775807 < t747.size + t748.size) = False := eq_false (Nat.not_lt.2 c9)
       by_cases c10 : x3_1.size + (t747.size + t748.size) ≤ 9223372036854775807
       ·rw [if_pos c10] at H
        have c10b0 := eq_true c10
        have c10b1 : decide (x3_1.size + (t747.size + t748.size) ≤ 9223372036854775807) = true := decide_eq_true c10
        try have c10b2 : (9223372036854775807 < x3_1.size + (t747.size + t748.size)) = False := eq_false (Nat.not_lt.2 c10)
        have H' := Aside0.mk H
        clear H
        have p745 : 0 ≤ (x11_1 : Int) := of_decide_eq_true (by first | (with_reducible assumption) | assumption)
        have q745 : x11_1 < (l0.length : Int) := of_decide_eq_true (by first | (with_reducible assumption) | assumption)
        obtain ⟨ad745, e745, hx745_0, hx745_1⟩ := at_T30 HR0.out x11_1 p745 q745
        cases e745
        replace hx745_0 := (HB.out.cell (World.block_lt_of_cell? w _ hx745_0)).trans hx745_0
        replace hx745_1 := (HB.out.cell (World.block_lt_of_cell? w _ hx745_1)).trans hx745_1
        replace p745 := eq_true p745
        replace q745 := eq_true q745
        try go_wp2_with (first | ((with_reducible refine gate_dst (N := 5) rfl ?_); refine box_event ?hg (N := 5) ?hd (cs := #[.int .i64 0, .int .i64 0]) (t := 30) ?hr ?_; (case hd => rfl); (case hg => rfl); (case hr => first | (go_simp; done) | (go_simp; rfl)); intro gb746 hg w11 hbox hb; have n0_ := Aside0.mk (below_step (by repeat (first | (with_reducible first | exact HB.out | apply below_alloc | apply pw_below_drewN | apply below_drew1) | exact HB.out)) hb); have n1_ := Aside0.mk (hbox); have n2_ := Aside0.mk ((by rw [hg]; exact (below_size (by repeat (first | (with_reducible first | exact HB.out | apply below_alloc | apply pw_below_drewN | apply below_drew1) | exact HB.out))) : w.heap.size ≤ gb746)); have n3_ := Aside0.mk ((by rw [hg]; exact (below_size (by repeat (first | (with_reducible first | exact HB.out | apply below_alloc | apply pw_below_drewN | apply below_drew1) | exact HB.out))) : w.heap.size ≤ gb746)); clear HB; have HB := n0_; have BK746 := n1_; have GW746 := n2_; have GE746 := n3_; clear n0_ n1_ n2_ n3_; clear hb hbox hg; have hcz12_0 : w11.cell? ⟨gb746, 0, none⟩ = some (.int .i64 0) := (blk_cell BK746.out 0).trans rfl; have hcz12_1 : w11.cell? ⟨gb746, 1, none⟩ = some (.int .i64 0) := (blk_cell BK746.out 1).trans rfl; have hfz12_0 := blk_frozen BK746.out 0; have hfz12_1 := blk_frozen BK746.out 1))
        have n0_ : Aside0 (((w11.setCell ⟨gb746, 0, none⟩ (.int .i64 ((rd_T30 l0 x11_1).f0))).setCell ⟨gb746, 1, none⟩ (.int .i64 ((rd_T30 l0 x11_1).f1))).heap[gb746]? = some (.cells #[.int .i64 ((rd_T30 l0 x11_1).f0), .int .i64 ((rd_T30 l0 x11_1).f1)] 30 (0, 0))) := ⟨by (with_reducible repeat (first | refine blk_drewN ?_ _ | refine blk_drew ?_ | refine blk_alloc ?_ _)); refine blk_put (cs := #[.int .i64 ((rd_T30 l0 x11_1).f0), .int .i64 0]) ?_ 1 _ rfl; (with_reducible repeat (first | refine blk_drewN ?_ _ | refine blk_drew ?_ | refine blk_alloc ?_ _)); refine blk_put (cs := #[.int .i64 0, .int .i64 0]) ?_ 0 _ rfl; (with_reducible repeat (first | refine blk_drewN ?_ _ | refine blk_drew ?_ | refine blk_alloc ?_ _)); exact BK746.out⟩
        have n1_ : Aside0 (Below w.heap.size w ((w11.setCell ⟨gb746, 0, none⟩ (.int .i64 ((rd_T30 l0 x11_1).f0))).setCell ⟨gb746, 1, none⟩ (.int .i64 ((rd_T30 l0 x11_1).f1)))) := ⟨by repeat (first | (with_reducible first | exact HB.out | apply below_alloc | apply pw_below_drewN | apply below_drew1 | refine below_set ?_ GE746.out) | exact HB.out)⟩
        (try clear BK746)
        (try clear HB)
        generalize ((w11.setCell ⟨gb746, 0, none⟩ (.int .i64 ((rd_T30 l0 x11_1).f0))).setCell ⟨gb746, 1, none⟩ (.int .i64 ((rd_T30 l0 x11_1).f1))) = w13 at n0_ n1_ ⊢
        have BK746 := n0_
        have HB := n1_
        clear n0_ n1_
        have n0_ := Aside0.mk (blk_drew BK746.out)
        have n1_ := Aside0.mk (below_drew1 HB.out)
        clear BK746
        clear HB
        have BK746 := n0_
        have HB := n1_
        clear n0_ n1_
        refine start_ (n := 10) (S := fun w' => w'.cell? ⟨gb746, 0, none⟩ = some (.int .i64 ((rd_T30 l0 x11_1).f0)) ∧ w'.cell? ⟨gb746, 1, none⟩ = some (.int .i64 ((rd_T30 l0 x11_1).f1))) (ds := []) #[false, false, false, false, false, false, false, false, false, false] (by kernel_rfl) rfl rfl ⟨(blk_cell BK746.out 0).trans rfl, (blk_cell BK746.out 1).trans rfl⟩ (fun hHeld => ?_); refine with_tabW impl_seenBytes.tab5 impl_seenBytes.bits5 (fun HT_ HW_ => ?_)
        generalize w13.drew = w14 at BK746 HB hHeld ⊢
        refine pure_ (i := 0) (N := some 15) (v := ?_) (a' := ?_) #[true, false, false, false, false, false, false, false, false, false] rfl rfl (any_of HT_.out (by kernel_rfl)) (fun _ _ _ h => h) (Or.inl ⟨by rfl, ?_⟩) ?_ ?_
        rotate_left
        ·intro w'
         go_simp
         with_reducible rfl
        rotate_left
        ·simp only [Act.put, sa_, s0_, ss_, i64_w, i32_w]
         rfl
        refine pure_ (i := 1) (N := some 16) (v := ?_) (a' := ?_) #[true, true, false, false, false, false, false, false, false, false] rfl rfl (any_of HT_.out (by kernel_rfl)) (fun _ _ _ h => h) (Or.inl ⟨by rfl, ?_⟩) ?_ ?_
        rotate_left
        ·intro w'
         go_simp
         with_reducible rfl
        rotate_left
        ·simp only [Act.put, sa_, s0_, ss_, i64_w, i32_w]
         rfl
        refine pure_ (i := 4) (N := some 19) (v := ?_) (a' := ?_) #[true, true, false, false, true, false, false, false, false, false] rfl rfl (any_of HT_.out (by kernel_rfl)) (fun _ _ _ h => h) (Or.inl ⟨by rfl, ?_⟩) ?_ ?_
        rotate_left
        ·intro w'
         go_simp
         with_reducible rfl
        rotate_left
        ·simp only [Act.put, sa_, s0_, ss_, i64_w, i32_w]
         rfl
        refine take_ (i := 2) (N := some 17) (v := ?_) (a' := ?_) #[true, true, true, false, true, false, false, false, false, false] rfl rfl (take_ofW HT_.out HW_.out (by kernel_rfl)) (fun _ _ _ h => h) (Or.inl ⟨by rfl, ?_⟩) hHeld ?_ ?_
        rotate_left
        ·rintro w' ⟨s0, s1⟩
         go_simp
         with_reducible rfl
        rotate_left
        ·simp only [Act.put, sa_, s0_, ss_, i64_w, i32_w]
         rfl
        refine take_ (i := 5) (N := some 20) (v := ?_) (a' := ?_) #[true, true, true, false, true, true, false, false, false, false] rfl rfl (take_ofW HT_.out HW_.out (by kernel_rfl)) (fun _ _ _ h => h) (Or.inl ⟨by rfl, ?_⟩) hHeld ?_ ?_
        rotate_left
        ·rintro w' ⟨s0, s1⟩
         go_simp
         with_reducible rfl
        rotate_left
        ·simp only [Act.put, sa_, s0_, ss_, i64_w, i32_w]
         rfl
        refine one_ (i := 3) (N := some 18) #[true, true, true, true, true, true, false, false, false, false] rfl rfl (one_of HT_.out (by kernel_rfl)) (by decide) (fun K hK => ?_)
        refine goes_ Try.func113 (by kernel_rfl) rfl #[.int .i64 ((rd_T30 l0 x11_1).f0)] (by rfl) rfl rfl (by (try simp only [List.map_toArray, List.map_cons, List.map_nil]); first | done | rfl | (simp only [List.length_drop, List.length_take]; rfl)) ?_
        with_reducible refine (impl_PutNum.calls k1 ((rd_T30 l0 x11_1).f0) t747 _ A7.out).mono ?_
        rintro e w15 ⟨rfl, hb⟩
        refine ⟨_, rfl, ?_⟩
        have n0_ := Aside0.mk (blk_below (g := gb746) (o := .cells #[.int .i64 ((rd_T30 l0 x11_1).f0), .int .i64 ((rd_T30 l0 x11_1).f1)] 30 (0, 0)) (by (with_reducible repeat (first | refine blk_drewN ?_ _ | refine blk_drew ?_ | refine blk_alloc ?_ _)); exact BK746.out) hb)
        have n1_ := Aside0.mk (below_step (by repeat (first | (with_reducible first | exact HB.out | apply below_alloc | apply pw_below_drewN | apply below_drew1 | refine below_set ?_ GE746.out) | exact HB.out)) hb)
        clear BK746
        clear HB
        have BK746 := n0_
        have HB := n1_
        clear n0_ n1_
        (try clear hb)
        (try clear hb2)
        (try clear hk)
        (try clear hi)
        refine hK.out _ _ ⟨(blk_cell BK746.out 0).trans rfl, (blk_cell BK746.out 1).trans rfl⟩ (fun hHeld => ?_)
        clear hK K
        refine norm_ (a' := ?_) ?_ ?_
        rotate_left
        ·show Act.put _ (some 18) _ = _
         simp only [Act.put, sa_, s0_, ss_, i64_w, i32_w]
         rfl
        refine one_ (i := 6) (N := some 21) #[true, true, true, true, true, true, true, false, false, false] rfl rfl (one_of HT_.out (by kernel_rfl)) (by decide) (fun K hK => ?_)
        refine goes_ Try.func113 (by kernel_rfl) rfl #[.int .i64 ((rd_T30 l0 x11_1).f1)] (by rfl) rfl rfl (by (try simp only [List.map_toArray, List.map_cons, List.map_nil]); first | done | rfl | (simp only [List.length_drop, List.length_take]; rfl)) ?_
        with_reducible refine (impl_PutNum.calls k1 ((rd_T30 l0 x11_1).f1) t748 _ A8.out).mono ?_
        rintro e w16 ⟨rfl, hb⟩
        refine ⟨_, rfl, ?_⟩
        have n0_ := Aside0.mk (blk_below (g := gb746) (o := .cells #[.int .i64 ((rd_T30 l0 x11_1).f0), .int .i64 ((rd_T30 l0 x11_1).f1)] 30 (0, 0)) (by (with_reducible repeat (first | refine blk_drewN ?_ _ | refine blk_drew ?_ | refine blk_alloc ?_ _)); exact BK746.out) hb)
        have n1_ := Aside0.mk (below_step (by repeat (first | (with_reducible first | exact HB.out | apply below_alloc | apply pw_below_drewN | apply below_drew1 | refine below_set ?_ GE746.out) | exact HB.out)) hb)
        clear BK746
        clear HB
        have BK746 := n0_
        have HB := n1_
        clear n0_ n1_
        (try clear hb)
        (try clear hb2)
        (try clear hk)
        (try clear hi)
        refine hK.out _ _ ⟨(blk_cell BK746.out 0).trans rfl, (blk_cell BK746.out 1).trans rfl⟩ (fun hHeld => ?_)
        clear hK K
        refine norm_ (a' := ?_) ?_ ?_
        rotate_left
        ·show Act.put _ (some 21) _ = _
         simp only [Act.put, sa_, s0_, ss_, i64_w, i32_w]
         rfl
        refine pure_ (i := 7) (N := some 22) (v := ?_) (a' := ?_) #[true, true, true, true, true, true, true, true, false, false] rfl rfl (any_of HT_.out (by kernel_rfl)) (fun _ _ _ h => h) (Or.inl ⟨by rfl, ?_⟩) ?_ ?_
        rotate_left
        ·intro w'
         go_simp
         with_reducible rfl
        rotate_left
        ·simp only [Act.put, sa_, s0_, ss_, i64_w, i32_w]
         rfl
        refine pure_ (i := 8) (N := some 23) (v := ?_) (a' := ?_) #[true, true, true, true, true, true, true, true, true, false] rfl rfl (any_of HT_.out (by kernel_rfl)) (fun _ _ _ h => h) (Or.inl ⟨by rfl, ?_⟩) ?_ ?_
        rotate_left
        ·intro w'
         go_simp
         with_reducible rfl
        rotate_left
        ·simp only [Act.put, sa_, s0_, ss_, i64_w, i32_w]
         rfl
        refine pure_ (i := 9) (N := some 3) (v := ?_) (a' := ?_) #[true, true, true, true, true, true, true, true, true, true] rfl rfl (any_of HT_.out (by kernel_rfl)) (fun _ _ _ h => h) (Or.inl ⟨by rfl, ?_⟩) ?_ ?_
        rotate_left
        ·intro w'
         go_simp
         with_reducible rfl
        rotate_left
        ·simp only [Act.put, sa_, s0_, ss_, i64_w, i32_w]
         rfl
        refine done_ (done_of HT_.out (by kernel_rfl)) ?_
        try go_wp2
        go_roundg k1
        case measure => have := HK1.out; omega
        case rel => exact ⟨(x3_1 ++ (t747 ++ t748)), (wrap64 (x11_1 + 1)), (by first | rfl | (simp; done) | (simp [*]; done)), (by first | rfl | (simp; done) | (simp [*]; done)), H', ⟨by have := HK1.out; omega⟩, ⟨by repeat (first | (with_reducible first | exact HB.out | apply below_alloc | apply pw_below_drewN | apply below_drew1 | refine below_set ?_ GE746.out) | exact HB.out)⟩⟩
       ·rw [if_neg c10] at H
        exact absurd H (by simp)
      ·rw [if_neg c9] at H
       exact absurd H (by simp)
     ·rw [if_neg c6] at H
      exact absurd H (by simp)
    ·rw [if_neg c5] at H
     exact absurd H (by simp)
   ·rw [if_neg c4] at H
    have c4b0 : decide (x11_1 < (l0.length : Int)) = false := decide_eq_false c4
    clear c4
    obtain rfl := Option.some.inj H
    go_wp2
    go_ret
    exact ⟨by first | rfl | (simp [errW_none, errW_some] <;> rfl) | (simp [*, errW_none, errW_some] <;> rfl), by repeat (first | (with_reducible first | exact HB.out | apply below_alloc | apply pw_below_drewN | apply below_drew1) | exact HB.out)⟩

end Go.Proofs.Ythebelmpachdbaa.P

namespace Go.Proofs.Ythebelmpachdbaa.P
open Go.RowKit Go.Proofs.YthebelmpachdbaaW.PrintWords Go.Proofs.YthebelmpachdbaaW.PrintLast Go.Proofs.YthebelmpachdbaaW.PrintMore
attribute [local go_sem] max2_int min2_int max_two min_two max_three min_three max_four min_four   -- for this text's walks alone
set_option linter.unusedVariables false
set_option linter.unusedSimpArgs false

/-! ### spec_SeenBytes: function 46 -/
def spec_SeenBytes.f (k : Nat) (l0 : List (S30)) : Option (ByteArray) := (spec_SeenRight.f k l0).bind fun t736 => (if t736 = true then ((spec_l02Bytes.f k l0).bind fun t737 => (some t737)) else (some (⟨#[]⟩ : ByteArray)))
theorem spec_SeenBytes.mono : ∀ a0 k, LeO (spec_SeenBytes.f k a0) (spec_SeenBytes.f (k + 1) a0) := by
 intro a0 k
 unfold spec_SeenBytes.f
 repeat' first
   | (with_reducible exact spec_SeenRight.mono _ _)
   | (with_reducible exact spec_l02Bytes.mono _ _)
   | (with_reducible exact LeO.refl _)
   | (with_reducible exact LeO.none _)
   | (with_reducible refine LeO.ite ?_ ?_)
   | (with_reducible refine LeO.bind ?_ (fun _ => ?_))
   | exact spec_SeenRight.mono _ _
   | exact spec_l02Bytes.mono _ _
   | exact LeO.none _
   | refine LeO.ite ?_ ?_
   | refine LeO.bind ?_ (fun _ => ?_)
set_option maxHeartbeats 8000000 in
set_option maxRecDepth 100000 in
theorem spec_SeenBytes.calls (k : Nat) (A0 : Option Addr) (c0 : Nat) (l0 : List (S30)) (r : ByteArray) (w : World) (hr0 : Kd.C k30 w A0 l0.length l0) (hc0 : l0.length ≤ c0) (h : spec_SeenBytes.f k l0 = some r) :
  Calls Try.prog 46 #[.slice A0 l0.length c0] w fun e w' => e = .returned (.string r) ∧ Below w.heap.size w w' := by
 have HR0 := Aside0.mk hr0
 have HC0 := Aside0.mk hc0
 clear hr0 hc0
 have HB := Aside0.mk (Below.refl w.heap.size w)
 have H : ((spec_SeenRight.f k l0).bind fun t736 => (if t736 = true then ((spec_l02Bytes.f k l0).bind fun t737 => (some t737)) else (some (⟨#[]⟩ : ByteArray)))) = some r := h
 clear h
 replace H := Option.bind_eq_some_iff.mp H
 obtain ⟨t736, A20, H⟩ := H
 replace H : (if t736 = true then ((spec_l02Bytes.f k l0).bind fun t737 => (some t737)) else (some (⟨#[]⟩ : ByteArray))) = some r := H
 have A2 := Aside0.mk A20
 clear A20
 by_cases c3 : t736 = true
 ·subst c3
  have H1 : ((spec_l02Bytes.f k l0).bind fun t737 => (some t737)) = some r := by rw [if_pos rfl] at H; exact H
  clear H
  have H := H1
  clear H1
  replace H := Option.bind_eq_some_iff.mp H
  obtain ⟨t737, A40, H⟩ := H
  replace H : (some t737) = some r := H
  have A4 := Aside0.mk A40
  clear A40
  obtain rfl := Option.some.inj H
  go_enter Try.func46, Try.ntmps46
  go_wp2_with (first | ((with_reducible refine gate_callee (f := 74) rfl ?_); refine goesL_ (some 4) rfl rfl Try.func74 (by kernel_rfl) rfl #[.slice A0 l0.length c0] rfl (by (try simp only [List.map_toArray, List.map_cons, List.map_nil]); first | done | rfl | (simp only [List.length_drop, List.length_take]; rfl)) ?_; (with_reducible refine (spec_SeenRight.calls k _ _ l0 true _ ?side1 ?side2 A2.out).mono ?_); (case side1 => repeat (first | exact HR0.out | (with_reducible refine Kd.C_alloc ?_ _) | (with_reducible refine Kd.C_drewN ?_ _) | (with_reducible refine Kd.C_drew ?_))); (case side2 => exact HC0.out); rintro e w5 ⟨rfl, hb⟩; refine ⟨_, rfl, ?_⟩; have n0_ := Aside0.mk (below_step (by repeat (first | (with_reducible first | exact HB.out | apply below_alloc | apply pw_below_drewN | apply below_drew1) | exact HB.out)) hb); clear HB; have HB := n0_; clear n0_; (try clear hb); (try clear hb2); (try clear hk); (try clear hi)) | ((with_reducible refine gate_callee (f := 83) rfl ?_); refine goesL_ (some 7) rfl rfl Try.func83 (by kernel_rfl) rfl #[.slice A0 l0.length c0] rfl (by (try simp only [List.map_toArray, List.map_cons, List.map_nil]); first | done | rfl | (simp only [List.length_drop, List.length_take]; rfl)) ?_; (with_reducible refine (spec_l02Bytes.calls k _ _ l0 t737 _ ?side1 ?side2 A4.out).mono ?_); (case side1 => repeat (first | exact (Kd.C_below HR0.out HB.out) | (with_reducible refine Kd.C_alloc ?_ _) | (with_reducible refine Kd.C_drewN ?_ _) | (with_reducible refine Kd.C_drew ?_))); (case side2 => exact HC0.out); rintro e w6 ⟨rfl, hb⟩; refine ⟨_, rfl, ?_⟩; have n0_ := Aside0.mk (below_step (by repeat (first | (with_reducible first | exact HB.out | apply below_alloc | apply pw_below_drewN | apply below_drew1) | exact HB.out)) hb); clear HB; have HB := n0_; clear n0_; (try clear hb); (try clear hb2); (try clear hk); (try clear hi)))
  go_ret
  exact ⟨by first | rfl | (simp [errW_none, errW_some] <;> rfl) | (simp [*, errW_none, errW_some] <;> rfl), by repeat (first | (with_reducible first | exact HB.out | apply below_alloc | apply pw_below_drewN | apply below_drew1) | exact HB.out)⟩
 ·replace c3 := Bool.eq_false_iff.mpr c3
  subst c3
  have H1 : (some (⟨#[]⟩ : ByteArray)) = some r := by rw [if_neg (show ¬ (false = true) by decide)] at H; exact H
  clear H
  have H := H1
  clear H1
  obtain rfl := Option.some.inj H
  go_enter Try.func46, Try.ntmps46
  go_wp2_with (first | ((with_reducible refine gate_callee (f := 74) rfl ?_); refine goesL_ (some 4) rfl rfl Try.func74 (by kernel_rfl) rfl #[.slice A0 l0.length c0] rfl (by (try simp only [List.map_toArray, List.map_cons, List.map_nil]); first | done | rfl | (simp only [List.length_drop, List.length_take]; rfl)) ?_; (with_reducible refine (spec_SeenRight.calls k _ _ l0 false _ ?side1 ?side2 A2.out).mono ?_); (case side1 => repeat (first | exact HR0.out | (with_reducible refine Kd.C_alloc ?_ _) | (with_reducible refine Kd.C_drewN ?_ _) | (with_reducible refine Kd.C_drew ?_))); (case side2 => exact HC0.out); rintro e w7 ⟨rfl, hb⟩; refine ⟨_, rfl, ?_⟩; have n0_ := Aside0.mk (below_step (by repeat (first | (with_reducible first | exact HB.out | apply below_alloc | apply pw_below_drewN | apply below_drew1) | exact HB.out)) hb); clear HB; have HB := n0_; clear n0_; (try clear hb); (try clear hb2); (try clear hk); (try clear hi)))
  go_ret
  exact ⟨by first | rfl | (simp [errW_none, errW_some] <;> rfl) | (simp [*, errW_none, errW_some] <;> rfl), by repeat (first | (with_reducible first | exact HB.out | apply below_alloc | apply pw_below_drewN | apply below_drew1) | exact HB.out)⟩

end Go.Proofs.Ythebelmpachdbaa.P

namespace Go.Proofs.Ythebelmpachdbaa.P
open Go.RowKit Go.Proofs.YthebelmpachdbaaW.PrintWords Go.Proofs.YthebelmpachdbaaW.PrintLast Go.Proofs.YthebelmpachdbaaW.PrintMore
attribute [local go_sem] max2_int min2_int max_two min_two max_three min_three max_four min_four   -- for this text's walks alone
set_option linter.unusedVariables false
set_option linter.unusedSimpArgs false

/-! ### impl_SeenBytes: function 47 -/
def impl_SeenBytes.f (k : Nat) (l0 : List (S30)) : Option (ByteArray) := (impl_SeenRight.f k l0).bind fun t749 => (if t749 = true then ((impl_seenBytes.f k l0).bind fun t750 => (some t750)) else (some (⟨#[]⟩ : ByteArray)))
theorem impl_SeenBytes.mono : ∀ a0 k, LeO (impl_SeenBytes.f k a0) (impl_SeenBytes.f (k + 1) a0) := by
 intro a0 k
 unfold impl_SeenBytes.f
 repeat' first
   | (with_reducible exact impl_SeenRight.mono _ _)
   | (with_reducible exact impl_seenBytes.mono _ _)
   | (with_reducible exact LeO.refl _)
   | (with_reducible exact LeO.none _)
   | (with_reducible refine LeO.ite ?_ ?_)
   | (with_reducible refine LeO.bind ?_ (fun _ => ?_))
   | exact impl_SeenRight.mono _ _
   | exact impl_seenBytes.mono _ _
   | exact LeO.none _
   | refine LeO.ite ?_ ?_
   | refine LeO.bind ?_ (fun _ => ?_)
set_option maxHeartbeats 8000000 in
set_option maxRecDepth 100000 in
theorem impl_SeenBytes.calls (k : Nat) (A0 : Option Addr) (c0 : Nat) (l0 : List (S30)) (r : ByteArray) (w : World) (hr0 : Kd.C k30 w A0 l0.length l0) (hc0 : l0.length ≤ c0) (h : impl_SeenBytes.f k l0 = some r) :
  Calls Try.prog 47 #[.slice A0 l0.length c0] w fun e w' => e = .returned (.string r) ∧ Below w.heap.size w w' := by
 have HR0 := Aside0.mk hr0
 have HC0 := Aside0.mk hc0
 clear hr0 hc0
 have HB := Aside0.mk (Below.refl w.heap.size w)
 have H : ((impl_SeenRight.f k l0).bind fun t749 => (if t749 = true then ((impl_seenBytes.f k l0).bind fun t750 => (some t750)) else (some (⟨#[]⟩ : ByteArray)))) = some r := h
 clear h
 replace H := Option.bind_eq_some_iff.mp H
 obtain ⟨t749, A20, H⟩ := H
 replace H : (if t749 = true then ((impl_seenBytes.f k l0).bind fun t750 => (some t750)) else (some (⟨#[]⟩ : ByteArray))) = some r := H
 have A2 := Aside0.mk A20
 clear A20
 by_cases c3 : t749 = true
 ·subst c3
  have H1 : ((impl_seenBytes.f k l0).bind fun t750 => (some t750)) = some r := by rw [if_pos rfl] at H; exact H
  clear H
  have H := H1
  clear H1
  replace H := Option.bind_eq_some_iff.mp H
  obtain ⟨t750, A40, H⟩ := H
  replace H : (some t750) = some r := H
  have A4 := Aside0.mk A40
  clear A40
  obtain rfl := Option.some.inj H
  go_enter Try.func47, Try.ntmps47
  go_wp2_with (first | ((with_reducible refine gate_callee (f := 77) rfl ?_); refine goesL_ (some 4) rfl rfl Try.func77 (by kernel_rfl) rfl #[.slice A0 l0.length c0] rfl (by (try simp only [List.map_toArray, List.map_cons, List.map_nil]); first | done | rfl | (simp only [List.length_drop, List.length_take]; rfl)) ?_; (with_reducible refine (impl_SeenRight.calls k _ _ l0 true _ ?side1 ?side2 A2.out).mono ?_); (case side1 => repeat (first | exact HR0.out | (with_reducible refine Kd.C_alloc ?_ _) | (with_reducible refine Kd.C_drewN ?_ _) | (with_reducible refine Kd.C_drew ?_))); (case side2 => exact HC0.out); rintro e w5 ⟨rfl, hb⟩; refine ⟨_, rfl, ?_⟩; have n0_ := Aside0.mk (below_step (by repeat (first | (with_reducible first | exact HB.out | apply below_alloc | apply pw_below_drewN | apply below_drew1) | exact HB.out)) hb); clear HB; have HB := n0_; clear n0_; (try clear hb); (try clear hb2); (try clear hk); (try clear hi)) | ((with_reducible refine gate_callee (f := 84) rfl ?_); refine goesL_ (some 7) rfl rfl Try.func84 (by kernel_rfl) rfl #[.slice A0 l0.length c0] rfl (by (try simp only [List.map_toArray, List.map_cons, List.map_nil]); first | done | rfl | (simp only [List.length_drop, List.length_take]; rfl)) ?_; (with_reducible refine (impl_seenBytes.calls k _ _ l0 t750 _ ?side1 ?side2 A4.out).mono ?_); (case side1 => repeat (first | exact (Kd.C_below HR0.out HB.out) | (with_reducible refine Kd.C_alloc ?_ _) | (with_reducible refine Kd.C_drewN ?_ _) | (with_reducible refine Kd.C_drew ?_))); (case side2 => exact HC0.out); rintro e w6 ⟨rfl, hb⟩; refine ⟨_, rfl, ?_⟩; have n0_ := Aside0.mk (below_step (by repeat (first | (with_reducible first | exact HB.out | apply below_alloc | apply pw_below_drewN | apply below_drew1) | exact HB.out)) hb); clear HB; have HB := n0_; clear n0_; (try clear hb); (try clear hb2); (try clear hk); (try clear hi)))
  go_ret
  exact ⟨by first | rfl | (simp [errW_none, errW_some] <;> rfl) | (simp [*, errW_none, errW_some] <;> rfl), by repeat (first | (with_reducible first | exact HB.out | apply below_alloc | apply pw_below_drewN | apply below_drew1) | exact HB.out)⟩
 ·replace c3 := Bool.eq_false_iff.mpr c3
  subst c3
  have H1 : (some (⟨#[]⟩ : ByteArray)) = some r := by rw [if_neg (show ¬ (false = true) by decide)] at H; exact H
  clear H
  have H := H1
  clear H1
  obtain rfl := Option.some.inj H
  go_enter Try.func47, Try.ntmps47
  go_wp2_with (first | ((with_reducible refine gate_callee (f := 77) rfl ?_); refine goesL_ (some 4) rfl rfl Try.func77 (by kernel_rfl) rfl #[.slice A0 l0.length c0] rfl (by (try simp only [List.map_toArray, List.map_cons, List.map_nil]); first | done | rfl | (simp only [List.length_drop, List.length_take]; rfl)) ?_; (with_reducible refine (impl_SeenRight.calls k _ _ l0 false _ ?side1 ?side2 A2.out).mono ?_); (case side1 => repeat (first | exact HR0.out | (with_reducible refine Kd.C_alloc ?_ _) | (with_reducible refine Kd.C_drewN ?_ _) | (with_reducible refine Kd.C_drew ?_))); (case side2 => exact HC0.out); rintro e w7 ⟨rfl, hb⟩; refine ⟨_, rfl, ?_⟩; have n0_ := Aside0.mk (below_step (by repeat (first | (with_reducible first | exact HB.out | apply below_alloc | apply pw_below_drewN | apply below_drew1) | exact HB.out)) hb); clear HB; have HB := n0_; clear n0_; (try clear hb); (try clear hb2); (try clear hk); (try clear hi)))
  go_ret
  exact ⟨by first | rfl | (simp [errW_none, errW_some] <;> rfl) | (simp [*, errW_none, errW_some] <;> rfl), by repeat (first | (with_reducible first | exact HB.out | apply below_alloc | apply pw_below_drewN | apply below_drew1) | exact HB.out)⟩

end Go.Proofs.Ythebelmpachdbaa.P

namespace Go.Proofs.Ythebelmpachdbaa.Q
open Go.RowKit Go.Proofs.Ythebelmpachdbaa.P Go.Proofs.YthebelmpachdbaaW.PrintWords Go.Proofs.YthebelmpachdbaaW.PrintMore

def seenOf : List Mark → Int → Int
  | [], _ => 0
  | m :: r, n => if m.f0 = n then m.f1 else seenOf r n
theorem l02Of_l0 (l : List Mark) (n : Int) (hl : l.length ≤ 4611686018427387904) : ∀ (s : List Mark) (i : Nat), l.drop i = s → i ≤ l.length → Ev (fun k => spec_l02Of.l0 k l n (i : Int)) (seenOf s n)
  | [], i, h, hi => by
    have := dropNil' h hi
    refine Ev.step (f := fun _ => some 0) (fun k => ?_) (Ev.now _)
    simp only [spec_l02Of.l0]
    rw [if_neg (by omega)]
  | m :: s, i, h, hi => by
    obtain ⟨h1, h2, h3⟩ := dropCons h z30
    have hr : rd_T30 l (i : Int) = m := by simpa [rd_T30] using h2
    refine Ev.step (f := fun k => if m.f0 = n then some m.f1 else spec_l02Of.l0 k l n ((i + 1 : Nat) : Int)) (fun k => ?_) ?_
    · simp only [spec_l02Of.l0, hr]
      rw [if_pos (by omega), if_pos (by omega), w64 (by omega) (by omega)]
      rfl
    · simp only [seenOf]
      refine evIte (fun h => ?_) (fun h => ?_)
      · rw [if_pos h]; exact Ev.now _
      · rw [if_neg h]; exact l02Of_l0 l n hl s (i + 1) h3 (by omega)
theorem l02Of_ev (l : List Mark) (n : Int) (hl : l.length ≤ 4611686018427387904) : Ev (fun k => spec_l02Of.f k l n) (seenOf l n) := l02Of_l0 l n hl l 0 rfl (by omega)
theorem seenOf_l0 (l : List Mark) (n : Int) (hl : l.length ≤ 4611686018427387904) : ∀ (s : List Mark) (i : Nat), l.drop i = s → i ≤ l.length → Ev (fun k => impl_seenOf.l0 k n l (l.length : Int) (i : Int)) (seenOf s n)
  | [], i, h, hi => by
    have := dropNil' h hi
    refine Ev.step (f := fun _ => some 0) (fun k => ?_) (Ev.now _)
    simp only [impl_seenOf.l0]
    rw [if_neg (by omega)]
  | m :: s, i, h, hi => by
    obtain ⟨h1, h2, h3⟩ := dropCons h z30
    have hr : rd_T30 l (i : Int) = m := by simpa [rd_T30] using h2
    refine Ev.step (f := fun k => if m.f0 = n then some m.f1 else impl_seenOf.l0 k n l (l.length : Int) ((i + 1 : Nat) : Int)) (fun k => ?_) ?_
    · simp only [impl_seenOf.l0, hr]
      rw [if_pos (by omega), if_pos (by omega), if_pos (by omega), w64 (by omega) (by omega)]
      rfl
    · simp only [seenOf]
      refine evIte (fun h => ?_) (fun h => ?_)
      · rw [if_pos h]; exact Ev.now _
      · rw [if_neg h]; exact seenOf_l0 l n hl s (i + 1) h3 (by omega)
theorem seenOf_ev (l : List Mark) (n : Int) (hl : l.length ≤ 4611686018427387904) : Ev (fun k => impl_seenOf.f k l n) (seenOf l n) := seenOf_l0 l n hl l 0 rfl (by omega)
def seenOfOut (l : List Mark) (n : Int) : Int := if seenOk l = true then seenOf l n else 0
theorem spec_SeenOf_ev (l : List Mark) (n : Int) (hl : l.length ≤ 4611686018427387904) : Ev (fun k => spec_SeenOf.f k l n) (seenOfOut l n) := by
  unfold spec_SeenOf.f seenOfOut
  refine Ev.bind (spec_SeenRight_ev l hl) (evIte (fun h => ?_) (fun h => ?_))
  · rw [if_pos h]; exact Ev.bind (l02Of_ev l n hl) (Ev.now _)
  · rw [if_neg h]; exact Ev.now _
theorem impl_SeenOf_ev (l : List Mark) (n : Int) (hl : l.length ≤ 4611686018427387904) : Ev (fun k => impl_SeenOf.f k l n) (seenOfOut l n) := by
  unfold impl_SeenOf.f seenOfOut
  refine Ev.bind (impl_SeenRight_ev l hl) (evIte (fun h => ?_) (fun h => ?_))
  · rw [if_pos h]; exact Ev.bind (seenOf_ev l n hl) (Ev.now _)
  · rw [if_neg h]; exact Ev.now _
def seenHas (l : List Mark) (a b : Int) : Bool := decide (b ≤ seenOf l a)
def seenHasOut (l : List Mark) (a b : Int) : Bool := seenOk l && (isDot a b && seenHas l a b)
theorem seenHas_ev (l : List Mark) (a b : Int) (hl : l.length ≤ 4611686018427387904) : Ev (fun k => impl_seenHas.f k l a b) (seenHas l a b) := Ev.bind (seenOf_ev l a hl) (Ev.now _)
theorem spec_SeenHas_ev (l : List Mark) (a b : Int) (hl : l.length ≤ 4611686018427387904) : Ev (fun k => spec_SeenHas.f k l a b) (seenHasOut l a b) := by
  unfold spec_SeenHas.f seenHasOut
  refine Ev.bind (spec_SeenRight_ev l hl) ?_
  cases seenOk l with
  | false => exact evNeg (by simp) (Ev.now _)
  | true =>
    refine evPos rfl (evBind1 (l02Dot_is a b) ?_)
    cases isDot a b with
    | false => exact evNeg (by simp) (Ev.now _)
    | true => exact evPos rfl (Ev.bind (l02Of_ev l a hl) (Ev.now _))
theorem impl_SeenHas_ev (l : List Mark) (a b : Int) (hl : l.length ≤ 4611686018427387904) : Ev (fun k => impl_SeenHas.f k l a b) (seenHasOut l a b) := by
  unfold impl_SeenHas.f seenHasOut
  refine Ev.bind (impl_SeenRight_ev l hl) ?_
  cases seenOk l with
  | false => exact evNeg (by simp) (Ev.now _)
  | true =>
    refine evPos rfl (evBind1 (isDot_is a b) ?_)
    cases isDot a b with
    | false => exact evNeg (by simp) (Ev.now _)
    | true => exact evPos rfl (Ev.bind (seenHas_ev l a b hl) (Ev.now _))
/-- The join at the nodes from one on. -/
def joinFrom (a b : List Mark) : Nat → Int → List Mark
  | 0, _ => []
  | f + 1, n => (if mx (seenOf a n) (seenOf b n) > 0 then [⟨n, mx (seenOf a n) (seenOf b n)⟩] else []) ++ joinFrom a b f (n + 1)
def seenJoin (a b : List Mark) : List Mark := joinFrom a b 5 1
theorem l01Max_is (a b : Int) : spec_l01Max.f a b = some (mx a b) := by
  unfold spec_l01Max.f mx
  by_cases h : a > b
  · rw [if_pos h, if_neg (by omega)]
  · rw [if_neg h]
    by_cases h2 : a < b
    · rw [if_pos h2]
    · rw [if_neg h2, show a = b from by omega]
theorem l02Join_l0 (a b : List Mark) (ha : a.length ≤ 4611686018427387904) (hb : b.length ≤ 4611686018427387904) : ∀ (f : Nat) (n : Int), n + f = 6 → f ≤ 5 → ∀ acc : List Mark, acc.length + f ≤ 5 → Ev (fun k => spec_l02Join.l0 k a b acc n) (acc ++ joinFrom a b f n)
  | 0, n, hn, hf, acc, hacc => by
    refine Ev.step (f := fun _ => some acc) (fun k => ?_) (by simp only [joinFrom, List.append_nil]; exact Ev.now _)
    simp only [spec_l02Join.l0]
    rw [if_neg (by omega)]
  | f + 1, n, hn, hf, acc, hacc => by
    refine Ev.step (fun k => by simp only [spec_l02Join.l0]; rw [if_pos (show n ≤ 5 by omega), w64 (x := n + 1) (by omega) (by omega)]) (Ev.bind (l02Of_ev a n ha) (Ev.bind (l02Of_ev b n hb) (evBind1 (l01Max_is _ _) ?_)))
    simp only [joinFrom]
    refine evIte (fun h => ?_) (fun h => ?_)
    · rw [if_pos h, ← List.append_assoc]
      exact evPos (by omega) (l02Join_l0 a b ha hb f (n + 1) (by omega) (by omega) _ (by simp; omega))
    · rw [if_neg h, List.nil_append]
      exact l02Join_l0 a b ha hb f (n + 1) (by omega) (by omega) _ (by omega)
theorem l02Join_ev (a b : List Mark) (ha : a.length ≤ 4611686018427387904) (hb : b.length ≤ 4611686018427387904) : Ev (fun k => spec_l02Join.f k a b) (seenJoin a b) := by
  have := l02Join_l0 a b ha hb 5 1 (by omega) (by omega) [] (by simp)
  simpa [spec_l02Join.f, seenJoin] using this
theorem seenJoin_l0 (a b : List Mark) (ha : a.length ≤ 4611686018427387904) (hb : b.length ≤ 4611686018427387904) : ∀ (f : Nat) (n : Int), n + f = 6 → f ≤ 5 → ∀ acc : List Mark, acc.length + f ≤ 5 → Ev (fun k => impl_seenJoin.l0 k a b acc n) (acc ++ joinFrom a b f n)
  | 0, n, hn, hf, acc, hacc => by
    refine Ev.step (f := fun _ => some acc) (fun k => ?_) (by simp only [joinFrom, List.append_nil]; exact Ev.now _)
    simp only [impl_seenJoin.l0]
    rw [if_neg (by omega)]
  | f + 1, n, hn, hf, acc, hacc => by
    refine Ev.step (fun k => by simp only [impl_seenJoin.l0]; rw [if_pos (show n ≤ 5 by omega), w64 (x := n + 1) (by omega) (by omega)]) (Ev.bind (seenOf_ev a n ha) (Ev.bind (seenOf_ev b n hb) ?_))
    simp only [joinFrom]
    refine evIte (fun h => ?_) (fun h => ?_)
    · rw [if_pos h, ← List.append_assoc]
      exact evPos (by omega) (seenJoin_l0 a b ha hb f (n + 1) (by omega) (by omega) _ (by simp; omega))
    · rw [if_neg h, List.nil_append]
      exact seenJoin_l0 a b ha hb f (n + 1) (by omega) (by omega) _ (by omega)
theorem seenJoin_ev (a b : List Mark) (ha : a.length ≤ 4611686018427387904) (hb : b.length ≤ 4611686018427387904) : Ev (fun k => impl_seenJoin.f k a b) (seenJoin a b) := by
  have := seenJoin_l0 a b ha hb 5 1 (by omega) (by omega) [] (by simp)
  simpa [impl_seenJoin.f, seenJoin] using this
theorem joinFrom_length (a b : List Mark) : ∀ (f : Nat) (n : Int), (joinFrom a b f n).length ≤ f
  | 0, n => by simp [joinFrom]
  | f + 1, n => by
    have := joinFrom_length a b f (n + 1)
    simp only [joinFrom]
    split <;> simp <;> omega
theorem seenJoin_length (a b : List Mark) : (seenJoin a b).length ≤ 5 := joinFrom_length a b 5 1
def seenJoinOut (a b : List Mark) : List Mark := if seenOk a = true then (if seenOk b = true then seenJoin a b else []) else []
theorem seenJoinOut_length (a b : List Mark) : (seenJoinOut a b).length ≤ 5 := by
  unfold seenJoinOut
  split
  · split
    · exact seenJoin_length a b
    · simp
  · simp
theorem spec_SeenJoin_ev (a b : List Mark) (ha : a.length ≤ 4611686018427387904) (hb : b.length ≤ 4611686018427387904) : Ev (fun k => spec_SeenJoin.f k a b) (seenJoinOut a b) := by
  unfold spec_SeenJoin.f seenJoinOut
  refine Ev.bind (spec_SeenRight_ev a ha) (evIte (fun h => ?_) (fun h => ?_))
  · rw [if_pos h]
    refine Ev.bind (spec_SeenRight_ev b hb) (evIte (fun h => ?_) (fun h => ?_))
    · rw [if_pos h]; exact Ev.bind (l02Join_ev a b ha hb) (Ev.now _)
    · rw [if_neg h]; exact Ev.now _
  · rw [if_neg h]; exact Ev.now _
theorem impl_SeenJoin_ev (a b : List Mark) (ha : a.length ≤ 4611686018427387904) (hb : b.length ≤ 4611686018427387904) : Ev (fun k => impl_SeenJoin.f k a b) (seenJoinOut a b) := by
  unfold impl_SeenJoin.f seenJoinOut
  refine Ev.bind (impl_SeenRight_ev a ha) (evIte (fun h => ?_) (fun h => ?_))
  · rw [if_pos h]
    refine Ev.bind (impl_SeenRight_ev b hb) (evIte (fun h => ?_) (fun h => ?_))
    · rw [if_pos h]; exact Ev.bind (seenJoin_ev a b ha hb) (Ev.now _)
    · rw [if_neg h]; exact Ev.now _
  · rw [if_neg h]; exact Ev.now _
theorem okFrom_mem : ∀ (s : List Mark) (p : Int), okFrom p s = true → ∀ m ∈ s, isDot m.f0 m.f1 = true ∧ p < m.f0
  | [], _, _, m, hm => by simp at hm
  | x :: r, p, h, m, hm => by
    simp only [okFrom, Bool.and_eq_true, decide_eq_true_eq] at h
    rcases List.mem_cons.1 hm with rfl | hm
    · exact ⟨h.1, h.2.1⟩
    · have := okFrom_mem r x.f0 h.2.2 m hm
      exact ⟨this.1, by omega⟩
/-- Marks whose numbers are small. -/
def Small (v : List Mark) : Prop := ∀ m ∈ v, (0 ≤ m.f0 ∧ m.f0 ≤ 4294967295) ∧ 0 ≤ m.f1 ∧ m.f1 ≤ 4294967295
theorem seenOk_small {v : List Mark} (h : seenOk v = true) : Small v := fun m hm => by
  have := (isDot_iff _ _).1 (okFrom_mem v 0 h m hm).1
  omega
def markBytes (m : Mark) : ByteArray := putNum m.f0 ++ putNum m.f1
def seenBytes (v : List Mark) : ByteArray := v.foldl (fun t m => t ++ markBytes m) (putNum (v.length : Int))
theorem l02Bytes_l0 (l : List Mark) (hl : l.length ≤ 1048576) (hsm : Small l) : ∀ (s : List Mark) (i : Nat), l.drop i = s → i ≤ l.length → ∀ t : ByteArray, t.size ≤ 10 + 20 * i → Ev (fun k => spec_l02Bytes.l0 k l t (i : Int)) (s.foldl (fun t m => t ++ markBytes m) t)
  | [], i, h, hi, t, ht => by
    have := dropNil' h hi
    refine Ev.step (f := fun _ => some t) (fun k => ?_) (Ev.now _)
    simp only [spec_l02Bytes.l0]
    rw [if_neg (by omega)]
  | m :: s, i, h, hi, t, ht => by
    obtain ⟨h1, h2, h3⟩ := dropCons h z30
    have hr : rd_T30 l (i : Int) = m := by simpa [rd_T30] using h2
    have hm : m ∈ l := List.mem_of_mem_drop (by rw [h]; exact List.mem_cons_self)
    have hb := hsm m hm
    have p0 := putNum_size m.f0
    have p1 := putNum_size m.f1
    refine Ev.step (fun k => by simp only [spec_l02Bytes.l0, hr]; rw [if_pos (show (i : Int) < l.length by omega), if_pos (show (0 : Int) ≤ i by omega), w64 (x := (i : Int) + 1) (by omega) (by omega)]) ?_
    refine Ev.bind (spec_PutNum_ev (by omega) (by omega)) (evPos (by omega) (Ev.bind (spec_PutNum_ev (by omega) (by omega)) (evPos (by omega) ?_)))
    rw [ByteArray.append_assoc]
    exact l02Bytes_l0 l hl hsm s (i + 1) h3 (by omega) _ (by simp only [ByteArray.size_append]; omega)
theorem l02Bytes_ev (l : List Mark) (hl : l.length ≤ 1048576) (hsm : Small l) : Ev (fun k => spec_l02Bytes.f k l) (seenBytes l) := by
  unfold spec_l02Bytes.f
  exact Ev.bind (spec_PutNum_ev (by omega) (by omega)) (l02Bytes_l0 l hl hsm l 0 rfl (by omega) _ (by have := putNum_size (l.length : Int); omega))
theorem seenBytes_l0 (l : List Mark) (hl : l.length ≤ 1048576) (hsm : Small l) : ∀ (s : List Mark) (i : Nat), l.drop i = s → i ≤ l.length → ∀ t : ByteArray, t.size ≤ 10 + 20 * i → Ev (fun k => impl_seenBytes.l0 k t l (l.length : Int) (i : Int)) (s.foldl (fun t m => t ++ markBytes m) t)
  | [], i, h, hi, t, ht => by
    have := dropNil' h hi
    refine Ev.step (f := fun _ => some t) (fun k => ?_) (Ev.now _)
    simp only [impl_seenBytes.l0]
    rw [if_neg (by omega)]
  | m :: s, i, h, hi, t, ht => by
    obtain ⟨h1, h2, h3⟩ := dropCons h z30
    have hr : rd_T30 l (i : Int) = m := by simpa [rd_T30] using h2
    have hm : m ∈ l := List.mem_of_mem_drop (by rw [h]; exact List.mem_cons_self)
    have hb := hsm m hm
    have p0 := putNum_size m.f0
    have p1 := putNum_size m.f1
    refine Ev.step (fun k => by simp only [impl_seenBytes.l0, hr]; rw [if_pos (show (i : Int) < l.length by omega), if_pos (show (0 : Int) ≤ i by omega), if_pos (show (i : Int) < l.length by omega), w64 (x := (i : Int) + 1) (by omega) (by omega)]) ?_
    refine Ev.bind (impl_PutNum_ev (by omega) (by omega)) (Ev.bind (impl_PutNum_ev (by omega) (by omega)) (evPos (by omega) (evPos (by omega) ?_)))
    exact seenBytes_l0 l hl hsm s (i + 1) h3 (by omega) _ (by simp only [ByteArray.size_append]; omega)
theorem seenBytes_ev (l : List Mark) (hl : l.length ≤ 1048576) (hsm : Small l) : Ev (fun k => impl_seenBytes.f k l) (seenBytes l) := by
  unfold impl_seenBytes.f
  exact Ev.bind (impl_PutNum_ev (by omega) (by omega)) (seenBytes_l0 l hl hsm l 0 rfl (by omega) _ (by have := putNum_size (l.length : Int); omega))
def seenBytesOut (l : List Mark) : ByteArray := if seenOk l = true then seenBytes l else ⟨#[]⟩
theorem spec_SeenBytes_ev (l : List Mark) (hl : l.length ≤ 1048576) : Ev (fun k => spec_SeenBytes.f k l) (seenBytesOut l) := by
  unfold spec_SeenBytes.f seenBytesOut
  refine Ev.bind (spec_SeenRight_ev l (by omega)) (evIte (fun h => ?_) (fun h => ?_))
  · rw [if_pos h]; exact Ev.bind (l02Bytes_ev l hl (seenOk_small h)) (Ev.now _)
  · rw [if_neg h]; exact Ev.now _
theorem impl_SeenBytes_ev (l : List Mark) (hl : l.length ≤ 1048576) : Ev (fun k => impl_SeenBytes.f k l) (seenBytesOut l) := by
  unfold impl_SeenBytes.f seenBytesOut
  refine Ev.bind (impl_SeenRight_ev l (by omega)) (evIte (fun h => ?_) (fun h => ?_))
  · rw [if_pos h]; exact Ev.bind (seenBytes_ev l hl (seenOk_small h)) (Ev.now _)
  · rw [if_neg h]; exact Ev.now _
end Go.Proofs.Ythebelmpachdbaa.Q

namespace Go.Proofs.Ythebelmpachdbaa.Pure
open Go.RowKit Go.Proofs.Ythebelmpachdbaa.P Go.Proofs.Ythebelmpachdbaa.Q Go.Proofs.YthebelmpachdbaaW.PrintWords Go.Proofs.YthebelmpachdbaaW.PrintMore
theorem FnExactSeenJoin : laws_FnExactSeenJoin.Pure := by
  intro a b ha hb
  have hl_a : a.length ≤ 9223372036854775807 := ha.1
  have hl_b : b.length ≤ 9223372036854775807 := hb.1
  refine Ev.rounds ?_
  unfold laws_FnExactSeenJoin.f
  refine evBind1 (szMarkS_is a _ (by omega) (by omega) hl_a) ?_
  refine evIte (fun _ => Ev.now _) (fun h => ?_)
  have ha' : a.length ≤ 1048576 := by
    split at h <;> omega
  rw [if_neg (by omega)]
  refine evBind1 (szMarkS_is b _ (by omega) (by omega) hl_b) ?_
  refine evIte (fun _ => Ev.now _) (fun h2 => ?_)
  have hb' : b.length ≤ 1048576 := by
    split at h2 <;> omega
  have hm : (a.map toMark).length ≤ 1048576 := by simpa using ha'
  have hn : (b.map toMark).length ≤ 1048576 := by simpa using hb'
  have hj := seenJoinOut_length (a.map toMark) (b.map toMark)
  have e1 := spec_SeenJoin_ev (a.map toMark) (b.map toMark) (by omega) (by omega)
  have e2 := impl_SeenJoin_ev (a.map toMark) (b.map toMark) (by omega) (by omega)
  generalize seenJoinOut (a.map toMark) (b.map toMark) = r at hj e1 e2
  refine Ev.bind (toMarkS_ev a ha') (Ev.bind (toMarkS_ev b hb') (Ev.bind e1 (Ev.bind (toMarkS_ev a ha') (Ev.bind (toMarkS_ev b hb') (Ev.bind e2 (Ev.bind (eqMarkS_ev r (by omega)) (evPos rfl ?_)))))))
  refine Ev.bind (toMarkS_ev a ha') (Ev.bind (eqMarkS_ev _ (by omega)) (evPos rfl (Ev.bind (toMarkS_ev b hb') (Ev.bind (eqMarkS_ev _ (by omega)) (evPos rfl ?_)))))
  refine Ev.bind (markMarkS_ev _ 1 (by omega) (by omega)) (Ev.bind (markMarkS_ev _ _ (by omega) (by omega)) (evNeg (by omega) (Ev.bind (eqMarkS_ev r (by omega)) ?_)))
  refine Ev.step (fun k => by simp only [laws_FnExactSeenJoin.j0]; rw [if_neg (by simp)]) ?_
  refine Ev.bind (markMarkS_ev r 1 (by omega) (by omega)) (Ev.bind (heldMarkS_ev r 1 (by omega) (by omega)) (evNeg (by omega) (evPos rfl ?_)))
  refine Ev.bind (toMarkS_ev a ha') (Ev.bind (toMarkS_ev b hb') (Ev.bind e2 (Ev.bind (eqMarkS_ev r (by omega)) (evPos rfl ?_))))
  exact Ev.bind (heldMarkS_ev r 1 (by omega) (by omega)) (evNeg (by omega) (evPos rfl (Ev.now _)))
end Go.Proofs.Ythebelmpachdbaa.Pure

namespace Go.Proofs.Ythebelmpachdbaa.fnExactSeenJoin
open Go.ChangeShapes Go.WideShapes Go.ChangeAt Go.RowKit Go.Proofs.Ythebelmpachdbaa.P Go.Proofs.Ythebelmpachdbaa.RO Go.Proofs.Ythebelmpachdbaa.Open Go.Proofs.YthebelmpachdbaaW.PrintWords
open Go.ChangeMaps (open_string shut_string)
set_option linter.unusedVariables false
theorem own : ownKnob Try.prog.godebug = none := by kernel_rfl
theorem laidOut : laidOutB Try.prog = true := by kernel_rfl
set_option maxRecDepth 100000 in
theorem lifted (os : Os) (started : os.Started) (H : Type) (enc : TypeId × Value → H) :
    ReturnsInHanded {} Try.checked os 13 .any (Rows.fnExactSeenJoinSpec.pre6 enc Try.prog Try.f13 Rows.fnExactSeenJoinRow.domain false) (Rows.fnExactSeenJoinSpec.post enc Try.prog Try.f13 false true false false) := by
  refine returnsInHanded_of_change_sized (C := Try.checked) own started (by kernel_rfl) Try.func13
    (ChangeSpec.witness6 (enc := enc) (C := Try.checked) false ⟨#[], #[.slice none 0 0, .slice none 0 0], []⟩ 8 (by kernel_rfl) (by kernel_rfl) (by kernel_rfl) (by kernel_rfl)) ?_
  intro W base args ds gs before hval0 hW hcnd hsz0 _
  have hsz : (DataW.weightsEach Try.prog (Try.f13.params.toList ++ Rows.fnExactSeenJoinSpec.plain.varTypes Try.prog) (ds ++ gs)).all (· ≤ reachBytes) = true := hsz0
  have hval : ∀ (j : Nat) t v, Try.f13.params[j]? = some t → args[j]? = some v → Value.okWide Try.prog W .any base t v := hval0
  have hW' := hW
  obtain ⟨p, q, hA0, hV, rfl, hfz, hnd⟩ := hW
  have hA : DataW.TrodAll enc Try.prog W 0 (fun _ => true) true Try.f13.params.toList args.toList ds p := hA0
  rw [Try.params13] at hA hval hsz
  obtain ⟨v0, vs0, d0, ds0, p0, q0, hargs, rfl, rfl, h0, r0⟩ := trodAll_cons hA
  obtain ⟨v1, vs1, d1, ds1, p1, q1, rfl, rfl, rfl, h1, r1⟩ := trodAll_cons r0
  obtain ⟨rfl, rfl, rfl⟩ := trodAll_nil r1
  obtain rfl : args = #[v0, v1] := by cases args; simp_all
  obtain ⟨rfl, rfl⟩ := trodVars_none hV
  have k0 := h0
  have lt0 : ∀ x ∈ p0, x.block < W.heap.size := by obtain ⟨m, hm⟩ := k0; exact DataW.trod_lt m _ _ _ hm
  obtain ⟨a0, len0, cap0, rfl⟩ := okWide_slice Try.underlying51 (hval 0 51 v0 rfl rfl)
  obtain ⟨fuel0, hf0⟩ := h0
  obtain ⟨x0, hk0, w0⟩ := (opens_slice Try.underlying51 (by kernel_rfl) op_T52) hf0
  obtain ⟨A0, c0, hcs0, hl0, hr0⟩ := hk0
  simp only [Value.cells] at hcs0
  injection hcs0 with hcs0 _
  injection hcs0 with e1_0 e2_0 e3_0
  subst e1_0 e2_0 e3_0
  have k1 := h1
  have lt1 : ∀ x ∈ p1, x.block < W.heap.size := by obtain ⟨m, hm⟩ := k1; exact DataW.trod_lt m _ _ _ hm
  obtain ⟨a1, len1, cap1, rfl⟩ := okWide_slice Try.underlying51 (hval 1 51 v1 rfl rfl)
  obtain ⟨fuel1, hf1⟩ := h1
  obtain ⟨x1, hk1, w1⟩ := (opens_slice Try.underlying51 (by kernel_rfl) op_T52) hf1
  obtain ⟨A1, c1, hcs1, hl1, hr1⟩ := hk1
  simp only [Value.cells] at hcs1
  injection hcs1 with hcs1 _
  injection hcs1 with e1_1 e2_1 e3_1
  subst e1_1 e2_1 e3_1
  clear hA0 hval0 hsz0 hsz
  obtain ⟨k, hp⟩ := Pure.FnExactSeenJoin x0 x1 w0 w1
  refine (P.laws_FnExactSeenJoin.calls k _ _ x0 _ _ x1 true W hr0 hl0 hr1 hl1 hp).mono fun e W' ⟨he, bel0⟩ => ?_
  have bel : Below W.heap.size W W' := bel0
  subst he
  exact ⟨_, rfl, _, _, _, [], _, [], hW', trodAll_mk1 (shut_bool Try.underlying4 _), (trodAll_cons_mk (Below.trod laidOut (by kernel_rfl) (of_decide_eq_true (by kernel_rfl)) k0 bel lt0) (trodAll_cons_mk (Below.trod laidOut (by kernel_rfl) (of_decide_eq_true (by kernel_rfl)) k1 bel lt1) trodAll_mk0)), rfl, bel.frame _, fun h => by cases h⟩
theorem over : Rows.fnExactSeenJoinRow.holds Try.pinned (OpenSpec.ofChange Rows.fnExactSeenJoinSpec) :=
  OpenClaim.holds_of_wide 13 Try.f13 rfl rfl rfl rfl rfl rfl rfl ⟨rfl, rfl, rfl, rfl, rfl⟩ rfl rfl rfl rfl rfl (by kernel_rfl) Try.func13 (by kernel_rfl)
    (of_decide_eq_true (by kernel_rfl)) (by unfold Func.isWrapper; first | (rw [if_pos (by decide +kernel)]; kernel_rfl) | (rw [if_neg (by decide +kernel)]; exact ⟨rfl, rfl⟩))
    (fun os started H enc _ => lifted os started H enc)
theorem proved : Rows.FnExactSeenJoinSaid := over
#print axioms proved
end Go.Proofs.Ythebelmpachdbaa.fnExactSeenJoin
namespace Go.Proofs.Ythebelmpachdbaa
/-- The row, under a short name, for the claim. -/
theorem fnExactSeenJoin_holds : Rows.FnExactSeenJoinSaid := fnExactSeenJoin.proved
end Go.Proofs.Ythebelmpachdbaa
