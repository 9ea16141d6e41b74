/- For every message the program's MsgRight and the reference's return the same answer, and the message stays as it was. No condition. (Part 4 of 5: written by programs of this workplace and by hand, merged.) -/
import Derived.Test.YtdjhclgkkklajaaMFnExactMsgRighta
import Derived.Test.YtdjhclgkkklajaaMFnExactMsgRightc
set_option linter.unusedVariables false
set_option linter.unusedSimpArgs false

namespace Go.Proofs.Ytdjhclgkkklajaa.P
open Go.RowKit Go.Proofs.YtdjhclgkkklajaaW.PrintWords Go.Proofs.YtdjhclgkkklajaaW.PrintLast Go.Proofs.YtdjhclgkkklajaaW.PrintMore
attribute [local go_sem] max2_int min2_int max_two min_two max_three min_three max_four min_four   -- for this text's walks alone
set_option linter.unusedVariables false
set_option linter.unusedSimpArgs false

/-! ### cmp_Compare_int64: function 148 -/
def cmp_Compare_int64.f (a0 : Int) (a1 : Int) : Option (Int) := (cmp_isNaN_int64.f a0).bind fun t451 => ((cmp_isNaN_int64.f a1).bind fun t452 => (if t451 = true then (if t452 = true then (some 0) else (some (-1))) else (if t452 = true then (some 1) else (if a0 < a1 then (some (-1)) else (if a0 > a1 then (some 1) else (some 0))))))
set_option maxHeartbeats 8000000 in
set_option maxRecDepth 100000 in
theorem cmp_Compare_int64.calls (a0 : Int) (a1 : Int) (r : Int) (w : World) (h : cmp_Compare_int64.f a0 a1 = some r) :
  Calls Try.prog 148 #[.int .i64 a0, .int .i64 a1] w fun e w' => e = .returned (.int .i64 r) ∧ Drawn0 w w' := by
 have H : ((cmp_isNaN_int64.f a0).bind fun t451 => ((cmp_isNaN_int64.f a1).bind fun t452 => (if t451 = true then (if t452 = true then (some 0) else (some (-1))) else (if t452 = true then (some 1) else (if a0 < a1 then (some (-1)) else (if a0 > a1 then (some 1) else (some 0))))))) = some r := h
 clear h
 replace H := Option.bind_eq_some_iff.mp H
 obtain ⟨t451, A30, H⟩ := H
 replace H : ((cmp_isNaN_int64.f a1).bind fun t452 => (if t451 = true then (if t452 = true then (some 0) else (some (-1))) else (if t452 = true then (some 1) else (if a0 < a1 then (some (-1)) else (if a0 > a1 then (some 1) else (some 0)))))) = some r := H
 have A3 := Aside0.mk A30
 clear A30
 replace H := Option.bind_eq_some_iff.mp H
 obtain ⟨t452, A40, H⟩ := H
 replace H : (if t451 = true then (if t452 = true then (some 0) else (some (-1))) else (if t452 = true then (some 1) else (if a0 < a1 then (some (-1)) else (if a0 > a1 then (some 1) else (some 0))))) = some r := H
 have A4 := Aside0.mk A40
 clear A40
 by_cases c5 : t451 = true
 ·subst c5
  have H1 : (if t452 = true then (some 0) else (some (-1))) = some r := by rw [if_pos rfl] at H; exact H
  clear H
  have H := H1
  clear H1
  by_cases c6 : t452 = true
  ·subst c6
   have H1 : (some 0) = some r := by rw [if_pos rfl] at H; exact H
   clear H
   have H := H1
   clear H1
   obtain rfl := Option.some.inj H
   go_enter Try.func148, Try.ntmps148
   go_wp2_with (first | ((with_reducible refine gate_callee (f := 165) rfl ?_); refine goesL_ (some 8) rfl rfl Try.func165 (by kernel_rfl) rfl #[.int .i64 a0] rfl (by (try simp only [List.map_toArray, List.map_cons, List.map_nil]); first | done | rfl | (simp only [List.length_drop, List.length_take]; rfl)) ?_; (with_reducible refine (cmp_isNaN_int64.calls a0 true _ A3.out).mono ?_); rintro e w' ⟨rfl, ⟨nd, rfl⟩⟩; refine ⟨_, rfl, ?_⟩) | ((with_reducible refine gate_callee (f := 165) rfl ?_); refine goesL_ (some 10) rfl rfl Try.func165 (by kernel_rfl) rfl #[.int .i64 a1] rfl (by (try simp only [List.map_toArray, List.map_cons, List.map_nil]); first | done | rfl | (simp only [List.length_drop, List.length_take]; rfl)) ?_; (with_reducible refine (cmp_isNaN_int64.calls a1 true _ A4.out).mono ?_); rintro e w' ⟨rfl, ⟨nd, rfl⟩⟩; refine ⟨_, rfl, ?_⟩))
   go_ret
   exact ⟨by first | rfl | (simp; done) | (simp [*]; done), by repeat (first | exact Drawn0.refl _ | apply Drawn0.step)⟩
  ·replace c6 := Bool.eq_false_iff.mpr c6
   subst c6
   have H1 : (some (-1)) = some r := by rw [if_neg (show ¬ (false = true) by decide)] at H; exact H
   clear H
   have H := H1
   clear H1
   obtain rfl := Option.some.inj H
   go_enter Try.func148, Try.ntmps148
   go_wp2_with (first | ((with_reducible refine gate_callee (f := 165) rfl ?_); refine goesL_ (some 8) rfl rfl Try.func165 (by kernel_rfl) rfl #[.int .i64 a0] rfl (by (try simp only [List.map_toArray, List.map_cons, List.map_nil]); first | done | rfl | (simp only [List.length_drop, List.length_take]; rfl)) ?_; (with_reducible refine (cmp_isNaN_int64.calls a0 true _ A3.out).mono ?_); rintro e w' ⟨rfl, ⟨nd, rfl⟩⟩; refine ⟨_, rfl, ?_⟩) | ((with_reducible refine gate_callee (f := 165) rfl ?_); refine goesL_ (some 10) rfl rfl Try.func165 (by kernel_rfl) rfl #[.int .i64 a1] rfl (by (try simp only [List.map_toArray, List.map_cons, List.map_nil]); first | done | rfl | (simp only [List.length_drop, List.length_take]; rfl)) ?_; (with_reducible refine (cmp_isNaN_int64.calls a1 false _ A4.out).mono ?_); rintro e w' ⟨rfl, ⟨nd, rfl⟩⟩; refine ⟨_, rfl, ?_⟩))
   go_ret
   exact ⟨by first | rfl | (simp; done) | (simp [*]; done), by repeat (first | exact Drawn0.refl _ | apply Drawn0.step)⟩
 ·replace c5 := Bool.eq_false_iff.mpr c5
  subst c5
  have H1 : (if t452 = true then (some 1) else (if a0 < a1 then (some (-1)) else (if a0 > a1 then (some 1) else (some 0)))) = some r := by rw [if_neg (show ¬ (false = true) by decide)] at H; exact H
  clear H
  have H := H1
  clear H1
  by_cases c7 : t452 = true
  ·subst c7
   have H1 : (some 1) = some r := by rw [if_pos rfl] at H; exact H
   clear H
   have H := H1
   clear H1
   obtain rfl := Option.some.inj H
   go_enter Try.func148, Try.ntmps148
   go_wp2_with (first | ((with_reducible refine gate_callee (f := 165) rfl ?_); refine goesL_ (some 8) rfl rfl Try.func165 (by kernel_rfl) rfl #[.int .i64 a0] rfl (by (try simp only [List.map_toArray, List.map_cons, List.map_nil]); first | done | rfl | (simp only [List.length_drop, List.length_take]; rfl)) ?_; (with_reducible refine (cmp_isNaN_int64.calls a0 false _ A3.out).mono ?_); rintro e w' ⟨rfl, ⟨nd, rfl⟩⟩; refine ⟨_, rfl, ?_⟩) | ((with_reducible refine gate_callee (f := 165) rfl ?_); refine goesL_ (some 10) rfl rfl Try.func165 (by kernel_rfl) rfl #[.int .i64 a1] rfl (by (try simp only [List.map_toArray, List.map_cons, List.map_nil]); first | done | rfl | (simp only [List.length_drop, List.length_take]; rfl)) ?_; (with_reducible refine (cmp_isNaN_int64.calls a1 true _ A4.out).mono ?_); rintro e w' ⟨rfl, ⟨nd, rfl⟩⟩; refine ⟨_, rfl, ?_⟩))
   go_ret
   exact ⟨by first | rfl | (simp; done) | (simp [*]; done), by repeat (first | exact Drawn0.refl _ | apply Drawn0.step)⟩
  ·replace c7 := Bool.eq_false_iff.mpr c7
   subst c7
   have H1 : (if a0 < a1 then (some (-1)) else (if a0 > a1 then (some 1) else (some 0))) = some r := by rw [if_neg (show ¬ (false = true) by decide)] at H; exact H
   clear H
   have H := H1
   clear H1
   by_cases c8 : a0 < a1
   ·rw [if_pos c8] at H
    have c8b0 : decide (a0 < a1) = true := decide_eq_true c8
    clear c8
    obtain rfl := Option.some.inj H
    go_enter Try.func148, Try.ntmps148
    go_wp2_with (first | ((with_reducible refine gate_callee (f := 165) rfl ?_); refine goesL_ (some 8) rfl rfl Try.func165 (by kernel_rfl) rfl #[.int .i64 a0] rfl (by (try simp only [List.map_toArray, List.map_cons, List.map_nil]); first | done | rfl | (simp only [List.length_drop, List.length_take]; rfl)) ?_; (with_reducible refine (cmp_isNaN_int64.calls a0 false _ A3.out).mono ?_); rintro e w' ⟨rfl, ⟨nd, rfl⟩⟩; refine ⟨_, rfl, ?_⟩) | ((with_reducible refine gate_callee (f := 165) rfl ?_); refine goesL_ (some 10) rfl rfl Try.func165 (by kernel_rfl) rfl #[.int .i64 a1] rfl (by (try simp only [List.map_toArray, List.map_cons, List.map_nil]); first | done | rfl | (simp only [List.length_drop, List.length_take]; rfl)) ?_; (with_reducible refine (cmp_isNaN_int64.calls a1 false _ A4.out).mono ?_); rintro e w' ⟨rfl, ⟨nd, rfl⟩⟩; refine ⟨_, rfl, ?_⟩))
    go_ret
    exact ⟨by first | rfl | (simp; done) | (simp [*]; done), by repeat (first | exact Drawn0.refl _ | apply Drawn0.step)⟩
   ·rw [if_neg c8] at H
    have c8b0 : decide (a0 < a1) = false := decide_eq_false c8
    clear c8
    by_cases c9 : a0 > a1
    ·rw [if_pos c9] at H
     have c9b0 : decide (a1 < a0) = true := decide_eq_true c9
     clear c9
     obtain rfl := Option.some.inj H
     go_enter Try.func148, Try.ntmps148
     go_wp2_with (first | ((with_reducible refine gate_callee (f := 165) rfl ?_); refine goesL_ (some 8) rfl rfl Try.func165 (by kernel_rfl) rfl #[.int .i64 a0] rfl (by (try simp only [List.map_toArray, List.map_cons, List.map_nil]); first | done | rfl | (simp only [List.length_drop, List.length_take]; rfl)) ?_; (with_reducible refine (cmp_isNaN_int64.calls a0 false _ A3.out).mono ?_); rintro e w' ⟨rfl, ⟨nd, rfl⟩⟩; refine ⟨_, rfl, ?_⟩) | ((with_reducible refine gate_callee (f := 165) rfl ?_); refine goesL_ (some 10) rfl rfl Try.func165 (by kernel_rfl) rfl #[.int .i64 a1] rfl (by (try simp only [List.map_toArray, List.map_cons, List.map_nil]); first | done | rfl | (simp only [List.length_drop, List.length_take]; rfl)) ?_; (with_reducible refine (cmp_isNaN_int64.calls a1 false _ A4.out).mono ?_); rintro e w' ⟨rfl, ⟨nd, rfl⟩⟩; refine ⟨_, rfl, ?_⟩))
     go_ret
     exact ⟨by first | rfl | (simp; done) | (simp [*]; done), by repeat (first | exact Drawn0.refl _ | apply Drawn0.step)⟩
    ·rw [if_neg c9] at H
     have c9b0 : decide (a1 < a0) = false := decide_eq_false c9
     clear c9
     obtain rfl := Option.some.inj H
     go_enter Try.func148, Try.ntmps148
     go_wp2_with (first | ((with_reducible refine gate_callee (f := 165) rfl ?_); refine goesL_ (some 8) rfl rfl Try.func165 (by kernel_rfl) rfl #[.int .i64 a0] rfl (by (try simp only [List.map_toArray, List.map_cons, List.map_nil]); first | done | rfl | (simp only [List.length_drop, List.length_take]; rfl)) ?_; (with_reducible refine (cmp_isNaN_int64.calls a0 false _ A3.out).mono ?_); rintro e w' ⟨rfl, ⟨nd, rfl⟩⟩; refine ⟨_, rfl, ?_⟩) | ((with_reducible refine gate_callee (f := 165) rfl ?_); refine goesL_ (some 10) rfl rfl Try.func165 (by kernel_rfl) rfl #[.int .i64 a1] rfl (by (try simp only [List.map_toArray, List.map_cons, List.map_nil]); first | done | rfl | (simp only [List.length_drop, List.length_take]; rfl)) ?_; (with_reducible refine (cmp_isNaN_int64.calls a1 false _ A4.out).mono ?_); rintro e w' ⟨rfl, ⟨nd, rfl⟩⟩; refine ⟨_, rfl, ?_⟩))
     go_ret
     exact ⟨by first | rfl | (simp; done) | (simp [*]; done), by repeat (first | exact Drawn0.refl _ | apply Drawn0.step)⟩

end Go.Proofs.Ytdjhclgkkklajaa.P

namespace Go.Proofs.Ytdjhclgkkklajaa.P
open Go.RowKit Go.Proofs.YtdjhclgkkklajaaW.PrintWords Go.Proofs.YtdjhclgkkklajaaW.PrintLast Go.Proofs.YtdjhclgkkklajaaW.PrintMore
attribute [local go_sem] max2_int min2_int max_two min_two max_three min_three max_four min_four   -- for this text's walks alone
set_option linter.unusedVariables false
set_option linter.unusedSimpArgs false

/-! ### impl_compareDots: function 112 -/
def impl_compareDots.f (k : Nat) (a0_0 : Int) (a0_1 : Int) (a1_0 : Int) (a1_1 : Int) : Option (Int) := (cmp_Compare_int64.f a0_0 a1_0).bind fun t455 => ((cmp_Compare_int64.f a0_1 a1_1).bind fun t456 => ((cmp_Or_int.f k (([t455, t456] : List Int))).bind fun t460 => (some t460)))
theorem impl_compareDots.mono : ∀ a0 a1 a2 a3 k, LeO (impl_compareDots.f k a0 a1 a2 a3) (impl_compareDots.f (k + 1) a0 a1 a2 a3) := by
 intro a0 a1 a2 a3 k
 unfold impl_compareDots.f
 repeat' first
   | (with_reducible exact cmp_Or_int.mono _ _)
   | (with_reducible exact LeO.refl _)
   | (with_reducible exact LeO.none _)
   | (with_reducible refine LeO.ite ?_ ?_)
   | (with_reducible refine LeO.bind ?_ (fun _ => ?_))
   | exact cmp_Or_int.mono _ _
   | exact LeO.none _
   | refine LeO.ite ?_ ?_
   | refine LeO.bind ?_ (fun _ => ?_)
def impl_compareDots.T1 : Bool × List (List Nat × List Nat) := (true, [([], []), ([0], [0]), ([], []), ([2], [2]), ([1, 3], [1, 3]), ([], []), ([5], [5]), ([], []), ([7], [7]), ([6, 8, 4], [6, 8]), ([4, 9], [4, 9]), ([10, 9], [10]), ([11, 11, 0, 1, 2, 3, 4, 5, 6, 7, 8, 9, 10, 11], [11])])
def impl_compareDots.B1 : List Nat := [0, 1, 0, 4, 15, 0, 32, 0, 128, 511, 1023, 2047, 4095]
theorem impl_compareDots.tab1 : rtab .any (opsOf Try.f112 1) = impl_compareDots.T1 := by kernel_rfl
theorem impl_compareDots.bits1 : waitsOk impl_compareDots.T1.2 impl_compareDots.B1 = true := by kernel_rfl
set_option maxHeartbeats 8000000 in
set_option maxRecDepth 100000 in
theorem impl_compareDots.calls (k : Nat) (a0_0 : Int) (a0_1 : Int) (a1_0 : Int) (a1_1 : Int) (r : Int) (w : World) (h : impl_compareDots.f k a0_0 a0_1 a1_0 a1_1 = some r) :
  Calls Try.prog 112 #[.agg #[.int .i64 a0_0, .int .i64 a0_1], .agg #[.int .i64 a1_0, .int .i64 a1_1]] w fun e w' => e = .returned (.int .i64 r) ∧ Below w.heap.size w w' := by
 have hu43 := Try.underlying43
 have HB := Aside0.mk (Below.refl w.heap.size w)
 have H : ((cmp_Compare_int64.f a0_0 a1_0).bind fun t455 => ((cmp_Compare_int64.f a0_1 a1_1).bind fun t456 => ((cmp_Or_int.f k (([t455, t456] : List Int))).bind fun t460 => (some t460)))) = some r := h
 clear h
 replace H := Option.bind_eq_some_iff.mp H
 obtain ⟨t455, A30, H⟩ := H
 replace H : ((cmp_Compare_int64.f a0_1 a1_1).bind fun t456 => ((cmp_Or_int.f k (([t455, t456] : List Int))).bind fun t460 => (some t460))) = some r := H
 have A3 := Aside0.mk A30
 clear A30
 replace H := Option.bind_eq_some_iff.mp H
 obtain ⟨t456, A40, H⟩ := H
 replace H : ((cmp_Or_int.f k (([t455, t456] : List Int))).bind fun t460 => (some t460)) = some r := H
 have A4 := Aside0.mk A40
 clear A40
 obtain ⟨y457, hy457⟩ : ∃ y_ : List Int, y_ = (([t455, t456] : List Int)) := ⟨_, rfl⟩
 replace H : ((cmp_Or_int.f k y457).bind fun t460 => (some t460)) = some r := by first | (rw [hy457]; with_reducible exact H) | (have H2_ := (Option.bind_some _ _).symm.trans H; rw [hy457]; with_reducible exact H2_) | (have H2_ := (Option.bind_some _ _).symm.trans H; with_reducible exact H2_) | with_reducible exact H | (rw [hy457]; exact H) | exact H
 have Ny457 := Aside0.mk hy457
 clear hy457
 replace H := Option.bind_eq_some_iff.mp H
 obtain ⟨t460, A50, H⟩ := H
 replace H : (some t460) = some r := H
 have A5 := Aside0.mk A50
 clear A50
 obtain rfl := Option.some.inj H
 go_enter Try.func112, Try.ntmps112
 try go_wp2_with (first | ((with_reducible refine gate_dst (N := 2) rfl ?_); refine box_event ?hg (N := 2) ?hd (cs := #[.int .i64 a0_0, .int .i64 a0_1]) (t := 43) ?hr ?_; (case hd => rfl); (case hg => rfl); (case hr => first | (go_simp; done) | (go_simp; rfl)); intro gb453 hg w6 hbox hb; have n0_ := Aside0.mk (below_step (by repeat (first | (with_reducible first | exact HB.out | apply below_alloc | apply pw_below_drewN | apply below_drew1) | exact HB.out)) hb); have n1_ := Aside0.mk (hbox); have n2_ := Aside0.mk ((by rw [hg]; exact (below_size (by repeat (first | (with_reducible first | exact HB.out | apply below_alloc | apply pw_below_drewN | apply below_drew1) | exact HB.out))) : w.heap.size ≤ gb453)); have n3_ := Aside0.mk ((by rw [hg]; exact (below_size (by repeat (first | (with_reducible first | exact HB.out | apply below_alloc | apply pw_below_drewN | apply below_drew1) | exact HB.out))) : w.heap.size ≤ gb453)); clear HB; have HB := n0_; have BK453 := n1_; have GW453 := n2_; have GE453 := n3_; clear n0_ n1_ n2_ n3_; clear hb hbox hg) | ((with_reducible refine gate_dst (N := 3) rfl ?_); refine box_event ?hg (N := 3) ?hd (cs := #[.int .i64 a1_0, .int .i64 a1_1]) (t := 43) ?hr ?_; (case hd => rfl); (case hg => rfl); (case hr => first | (go_simp; done) | (go_simp; rfl)); intro gb454 hg w7 hbox hb; have n0_ := Aside0.mk (blk_below (g := gb453) (o := .cells #[.int .i64 a0_0, .int .i64 a0_1] 43 (0, 0)) (by (with_reducible repeat (first | refine blk_drewN ?_ _ | refine blk_drew ?_ | refine blk_alloc ?_ _)); exact BK453.out) hb); have n1_ := Aside0.mk (below_step (by repeat (first | (with_reducible first | exact HB.out | apply below_alloc | apply pw_below_drewN | apply below_drew1 | refine below_set ?_ GE453.out) | exact HB.out)) hb); have n2_ := Aside0.mk (hbox); have n3_ := Aside0.mk ((by rw [hg]; exact (below_size (by repeat (first | (with_reducible first | exact HB.out | apply below_alloc | apply pw_below_drewN | apply below_drew1 | refine below_set ?_ GE453.out) | exact HB.out))) : w.heap.size ≤ gb454)); have n4_ := Aside0.mk ((by rw [hg]; exact (below_size (by repeat (first | (with_reducible first | exact HB.out | apply below_alloc | apply pw_below_drewN | apply below_drew1 | refine below_set ?_ GE453.out) | exact HB.out))) : w.heap.size ≤ gb454)); have n5_ := Aside0.mk ((by rw [hg]; exact Nat.ne_of_lt (blk_lt (g := gb453) (o := .cells #[.int .i64 a0_0, .int .i64 a0_1] 43 (0, 0)) (by (with_reducible repeat (first | refine blk_drewN ?_ _ | refine blk_drew ?_ | refine blk_alloc ?_ _)); exact BK453.out)) : gb453 ≠ gb454)); have n6_ := Aside0.mk ((by rw [hg]; exact Nat.ne_of_gt (blk_lt (g := gb453) (o := .cells #[.int .i64 a0_0, .int .i64 a0_1] 43 (0, 0)) (by (with_reducible repeat (first | refine blk_drewN ?_ _ | refine blk_drew ?_ | refine blk_alloc ?_ _)); exact BK453.out)) : gb454 ≠ gb453)); clear BK453; clear HB; have BK453 := n0_; have HB := n1_; have BK454 := n2_; have GW454 := n3_; have GE454 := n4_; have NB453_454 := n5_; have NB454_453 := n6_; clear n0_ n1_ n2_ n3_ n4_ n5_ n6_; clear hb hbox hg))
 have n0_ := Aside0.mk (blk_drew BK453.out)
 have n1_ := Aside0.mk (blk_drew BK454.out)
 have n2_ := Aside0.mk (below_drew1 HB.out)
 clear BK453
 clear BK454
 clear HB
 have BK453 := n0_
 have BK454 := n1_
 have HB := n2_
 clear n0_ n1_ n2_
 refine start_ (n := 13) (S := fun w' => w'.cell? ⟨gb453, 0, none⟩ = some (.int .i64 a0_0) ∧ w'.cell? ⟨gb453, 1, none⟩ = some (.int .i64 a0_1) ∧ w'.cell? ⟨gb454, 0, none⟩ = some (.int .i64 a1_0) ∧ w'.cell? ⟨gb454, 1, none⟩ = some (.int .i64 a1_1)) (ds := []) #[false, false, false, false, false, false, false, false, false, false, false, false, false] (by kernel_rfl) rfl rfl ⟨(blk_cell BK453.out 0).trans rfl, (blk_cell BK453.out 1).trans rfl, (blk_cell BK454.out 0).trans rfl, (blk_cell BK454.out 1).trans rfl⟩ (fun hHeld => ?_); refine with_tabW impl_compareDots.tab1 impl_compareDots.bits1 (fun HT_ HW_ => ?_)
 generalize w7.drew = w8 at BK453 BK454 HB hHeld ⊢
 refine pure_ (i := 0) (N := some 5) (v := ?_) (a' := ?_) #[true, false, false, false, false, false, false, false, false, false, false, false, false] rfl rfl (any_of HT_.out (by kernel_rfl)) (fun _ _ _ h => h) (Or.inl ⟨by rfl, ?_⟩) ?_ ?_
 rotate_left
 ·intro w'
  go_simp
  with_reducible rfl
 rotate_left
 ·simp only [Act.put, sa_, s0_, ss_, i64_w, i32_w]
  rfl
 refine pure_ (i := 2) (N := some 7) (v := ?_) (a' := ?_) #[true, false, true, false, false, false, false, false, false, false, false, false, false] rfl rfl (any_of HT_.out (by kernel_rfl)) (fun _ _ _ h => h) (Or.inl ⟨by rfl, ?_⟩) ?_ ?_
 rotate_left
 ·intro w'
  go_simp
  with_reducible rfl
 rotate_left
 ·simp only [Act.put, sa_, s0_, ss_, i64_w, i32_w]
  rfl
 refine pure_ (i := 5) (N := some 10) (v := ?_) (a' := ?_) #[true, false, true, false, false, true, false, false, false, false, false, false, false] rfl rfl (any_of HT_.out (by kernel_rfl)) (fun _ _ _ h => h) (Or.inl ⟨by rfl, ?_⟩) ?_ ?_
 rotate_left
 ·intro w'
  go_simp
  with_reducible rfl
 rotate_left
 ·simp only [Act.put, sa_, s0_, ss_, i64_w, i32_w]
  rfl
 refine pure_ (i := 7) (N := some 12) (v := ?_) (a' := ?_) #[true, false, true, false, false, true, false, true, false, false, false, false, false] rfl rfl (any_of HT_.out (by kernel_rfl)) (fun _ _ _ h => h) (Or.inl ⟨by rfl, ?_⟩) ?_ ?_
 rotate_left
 ·intro w'
  go_simp
  with_reducible rfl
 rotate_left
 ·simp only [Act.put, sa_, s0_, ss_, i64_w, i32_w]
  rfl
 refine take_ (i := 1) (N := some 6) (v := ?_) (a' := ?_) #[true, true, true, false, false, true, false, true, false, false, false, false, false] rfl rfl (take_ofW HT_.out HW_.out (by kernel_rfl)) (fun _ _ _ h => h) (Or.inl ⟨by rfl, ?_⟩) hHeld ?_ ?_
 rotate_left
 ·rintro w' ⟨s0, s1, s2, s3⟩
  go_simp
  with_reducible rfl
 rotate_left
 ·simp only [Act.put, sa_, s0_, ss_, i64_w, i32_w]
  rfl
 refine take_ (i := 3) (N := some 8) (v := ?_) (a' := ?_) #[true, true, true, true, false, true, false, true, false, false, false, false, false] rfl rfl (take_ofW HT_.out HW_.out (by kernel_rfl)) (fun _ _ _ h => h) (Or.inl ⟨by rfl, ?_⟩) hHeld ?_ ?_
 rotate_left
 ·rintro w' ⟨s0, s1, s2, s3⟩
  go_simp
  with_reducible rfl
 rotate_left
 ·simp only [Act.put, sa_, s0_, ss_, i64_w, i32_w]
  rfl
 refine take_ (i := 6) (N := some 11) (v := ?_) (a' := ?_) #[true, true, true, true, false, true, true, true, false, false, false, false, false] rfl rfl (take_ofW HT_.out HW_.out (by kernel_rfl)) (fun _ _ _ h => h) (Or.inl ⟨by rfl, ?_⟩) hHeld ?_ ?_
 rotate_left
 ·rintro w' ⟨s0, s1, s2, s3⟩
  go_simp
  with_reducible rfl
 rotate_left
 ·simp only [Act.put, sa_, s0_, ss_, i64_w, i32_w]
  rfl
 refine take_ (i := 8) (N := some 13) (v := ?_) (a' := ?_) #[true, true, true, true, false, true, true, true, true, false, false, false, false] rfl rfl (take_ofW HT_.out HW_.out (by kernel_rfl)) (fun _ _ _ h => h) (Or.inl ⟨by rfl, ?_⟩) hHeld ?_ ?_
 rotate_left
 ·rintro w' ⟨s0, s1, s2, s3⟩
  go_simp
  with_reducible rfl
 rotate_left
 ·simp only [Act.put, sa_, s0_, ss_, i64_w, i32_w]
  rfl
 refine one_ (i := 4) (N := some 9) #[true, true, true, true, true, true, true, true, true, false, false, false, false] rfl rfl (one_of HT_.out (by kernel_rfl)) (by decide) (fun K hK => ?_)
 refine goes_ Try.func148 (by kernel_rfl) rfl #[.int .i64 a0_0, .int .i64 a1_0] (by rfl) rfl rfl (by (try simp only [List.map_toArray, List.map_cons, List.map_nil]); first | done | rfl | (simp only [List.length_drop, List.length_take]; rfl)) ?_
 with_reducible refine (cmp_Compare_int64.calls a0_0 a1_0 t455 _ A3.out).mono ?_
 rintro e w' ⟨rfl, ⟨nd, rfl⟩⟩
 refine ⟨_, rfl, ?_⟩
 refine hK.out _ _ ⟨(blk_cell BK453.out 0).trans rfl, (blk_cell BK453.out 1).trans rfl, (blk_cell BK454.out 0).trans rfl, (blk_cell BK454.out 1).trans rfl⟩ (fun hHeld => ?_)
 clear hK K
 refine norm_ (a' := ?_) ?_ ?_
 rotate_left
 ·show Act.put _ (some 9) _ = _
  simp only [Act.put, sa_, s0_, ss_, i64_w, i32_w]
  rfl
 refine one_ (i := 9) (N := some 14) #[true, true, true, true, true, true, true, true, true, true, false, false, false] rfl rfl (one_of HT_.out (by kernel_rfl)) (by decide) (fun K hK => ?_)
 refine goes_ Try.func148 (by kernel_rfl) rfl #[.int .i64 a0_1, .int .i64 a1_1] (by rfl) rfl rfl (by (try simp only [List.map_toArray, List.map_cons, List.map_nil]); first | done | rfl | (simp only [List.length_drop, List.length_take]; rfl)) ?_
 with_reducible refine (cmp_Compare_int64.calls a0_1 a1_1 t456 _ A4.out).mono ?_
 rintro e w' ⟨rfl, ⟨nd, rfl⟩⟩
 refine ⟨_, rfl, ?_⟩
 refine hK.out _ _ ⟨(blk_cell BK453.out 0).trans rfl, (blk_cell BK453.out 1).trans rfl, (blk_cell BK454.out 0).trans rfl, (blk_cell BK454.out 1).trans rfl⟩ (fun hHeld => ?_)
 clear hK K
 refine norm_ (a' := ?_) ?_ ?_
 rotate_left
 ·show Act.put _ (some 14) _ = _
  simp only [Act.put, sa_, s0_, ss_, i64_w, i32_w]
  rfl
 refine one_ (i := 10) (N := some 15) #[true, true, true, true, true, true, true, true, true, true, true, false, false] rfl rfl (one_of HT_.out (by kernel_rfl)) (by decide) (fun K hK => ?_)
 refine Kd.R_lit_step (Kd.int .i64) _ 3 ?hg (N := 15) ?hd (xs := ([t455, t456] : List Int)) (inner := [.int .i64 t455, .int .i64 t456]) (ok := fun _ => True) (okp := fun _ => True) ?hr ?hp (fun _ hk => hk) trivial (Below.refl _ _) (Nat.le_refl _) (by simp) ?_; (case hd => rfl); (case hg => rfl); (case hr => first | (go_simp; done) | (go_simp; rfl)); (case hp => exact (Reps.one (show Kd.M (Kd.int .i64) _ _ _ t455 [.int .i64 t455] from rfl) (Reps.one (show Kd.M (Kd.int .i64) _ _ _ t456 [.int .i64 t456] from rfl) (Reps.none _ _))))
 intro v458 w9 ho10 hb hg_ hnew_
 clear hg_ hnew_
 (first | rw [← Ny457.out] at ho10 | (simp only [Int.reduceToNat] at ho10; rw [← Ny457.out] at ho10))
 have n0_ := Aside0.mk (Kd.R_lower ho10 (below_size (by repeat (first | (with_reducible first | exact HB.out | apply below_alloc | apply pw_below_drewN | apply below_drew1 | refine below_set ?_ GE453.out | refine below_set ?_ GE454.out) | exact HB.out))))
 have n1_ := Aside0.mk (blk_below (g := gb453) (o := .cells #[.int .i64 a0_0, .int .i64 a0_1] 43 (0, 0)) (by (with_reducible repeat (first | refine blk_drewN ?_ _ | refine blk_drew ?_ | refine blk_alloc ?_ _)); exact BK453.out) hb)
 have n2_ := Aside0.mk (blk_below (g := gb454) (o := .cells #[.int .i64 a1_0, .int .i64 a1_1] 43 (0, 0)) (by (with_reducible repeat (first | refine blk_drewN ?_ _ | refine blk_drew ?_ | refine blk_alloc ?_ _)); exact BK454.out) hb)
 have n3_ := Aside0.mk (below_step (by repeat (first | (with_reducible first | exact HB.out | apply below_alloc | apply pw_below_drewN | apply below_drew1 | refine below_set ?_ GE453.out | refine below_set ?_ GE454.out) | exact HB.out)) hb)
 clear BK453
 clear BK454
 clear HB
 have HO459 := n0_
 have BK453 := n1_
 have BK454 := n2_
 have HB := n3_
 clear n0_ n1_ n2_ n3_
 clear hb ho10
 obtain ⟨Ao11, co11, eo11⟩ := Kd.R_slice HO459.out
 (first | subst eo11 | (injection eo11 with f1_ f2_ f3_; have f4_ := f1_.symm; have f5_ := f3_.symm; clear f1_ f2_ f3_; subst f4_; subst f5_))
 refine hK.out _ _ ⟨(blk_cell BK453.out 0).trans rfl, (blk_cell BK453.out 1).trans rfl, (blk_cell BK454.out 0).trans rfl, (blk_cell BK454.out 1).trans rfl⟩ (fun hHeld => ?_)
 clear hK K
 refine norm_ (a' := ?_) ?_ ?_
 rotate_left
 ·show Act.put _ (some 15) _ = _
  simp only [Act.put, sa_, s0_, ss_, i64_w, i32_w]
  rfl
 refine one_ (i := 11) (N := some 16) #[true, true, true, true, true, true, true, true, true, true, true, true, false] rfl rfl (one_of HT_.out (by kernel_rfl)) (by decide) (fun K hK => ?_)
 refine goes_ Try.func147 (by kernel_rfl) rfl #[.slice Ao11 y457.length co11] (by rfl) rfl rfl (by (try simp only [List.map_toArray, List.map_cons, List.map_nil]); first | done | rfl | (simp only [List.length_drop, List.length_take]; rfl)) ?_
 with_reducible refine (cmp_Or_int.calls k _ _ y457 t460 _ ?side1 ?side2 A5.out).mono ?_
 (case side1 => repeat (first | exact (Kd.R_reads' HO459.out).2.2 | (with_reducible refine Kd.C_alloc ?_ _) | (with_reducible refine Kd.C_drewN ?_ _) | (with_reducible refine Kd.C_drew ?_)))
 (case side2 => exact (Kd.R_reads' HO459.out).2.1)
 rintro e w' ⟨rfl, ⟨nd, rfl⟩⟩
 refine ⟨_, rfl, ?_⟩
 refine hK.out _ _ ⟨(blk_cell BK453.out 0).trans rfl, (blk_cell BK453.out 1).trans rfl, (blk_cell BK454.out 0).trans rfl, (blk_cell BK454.out 1).trans rfl⟩ (fun hHeld => ?_)
 clear hK K
 refine norm_ (a' := ?_) ?_ ?_
 rotate_left
 ·show Act.put _ (some 16) _ = _
  simp only [Act.put, sa_, s0_, ss_, i64_w, i32_w]
  rfl
 refine pure_ (i := 12) (N := some 4) (v := ?_) (a' := ?_) #[true, true, true, true, true, true, true, true, true, true, true, true, true] rfl rfl (any_of HT_.out (by kernel_rfl)) (fun _ _ _ h => h) (Or.inl ⟨by rfl, ?_⟩) ?_ ?_
 rotate_left
 ·intro w'
  go_simp
  with_reducible rfl
 rotate_left
 ·simp only [Act.put, sa_, s0_, ss_, i64_w, i32_w]
  rfl
 refine done_ (done_of HT_.out (by kernel_rfl)) ?_
 try go_wp2
 go_ret
 exact ⟨by first | rfl | (simp [errW_none, errW_some] <;> rfl) | (simp [*, errW_none, errW_some] <;> rfl), by repeat (first | (with_reducible first | exact HB.out | apply below_alloc | apply pw_below_drewN | apply below_drew1 | refine below_set ?_ GE453.out | refine below_set ?_ GE454.out) | exact HB.out)⟩

end Go.Proofs.Ytdjhclgkkklajaa.P

namespace Go.Proofs.Ytdjhclgkkklajaa.P
open Go.RowKit Go.Proofs.YtdjhclgkkklajaaW.PrintWords Go.Proofs.YtdjhclgkkklajaaW.PrintLast Go.Proofs.YtdjhclgkkklajaaW.PrintMore
attribute [local go_sem] max2_int min2_int max_two min_two max_three min_three max_four min_four   -- for this text's walks alone
set_option linter.unusedVariables false
set_option linter.unusedSimpArgs false

/-! ### impl_SetRight: function 45 -/
mutual
def impl_SetRight.j0 : Nat → Bool → List (S43) → List (S139) → Option (Bool)
 | 0, _, _, _ => none
 | k + 1, x14, x462000, x462001 => if x14 = true then (some false) else (impl_SetRight.l0 k x462001 (x462001.length : Int) 0 x462000 x462001)
def impl_SetRight.l0 : Nat → List (S139) → Int → Int → List (S43) → List (S139) → Option (Bool)
 | 0, _, _, _, _, _ => none
 | k + 1, x16, x17, x18, x462000, x462001 => if x18 < x17 then (if 0 ≤ x18 then (if x18 < (x16.length : Int) then ((impl_isDot.f ((rd_T139 x16 x18).f0.f0) ((rd_T139 x16 x18).f0.f1)).bind fun t465 => (if t465 = true then ((impl_seenHas.f k x462000 ((rd_T139 x16 x18).f0.f0) ((rd_T139 x16 x18).f0.f1)).bind fun t466 => (if t466 = true then ((impl_isData.f ((rd_T139 x16 x18).f2) ((rd_T139 x16 x18).f1)).bind fun t467 => (if t467 = true then (if x18 > 0 then (if 0 ≤ (wrap64 (x18 - 1)) then (if (wrap64 (x18 - 1)) < (x462001.length : Int) then ((impl_compareDots.f k ((rd_T139 x462001 (wrap64 (x18 - 1))).f0.f0) ((rd_T139 x462001 (wrap64 (x18 - 1))).f0.f1) ((rd_T139 x16 x18).f0.f0) ((rd_T139 x16 x18).f0.f1)).bind fun t469 => (impl_SetRight.j2 k x16 x17 x18 (decide (t469 ≥ 0)) x462000 x462001)) else (none)) else (none)) else (impl_SetRight.j2 k x16 x17 x18 false x462000 x462001)) else (impl_SetRight.j2 k x16 x17 x18 true x462000 x462001))) else (impl_SetRight.j2 k x16 x17 x18 true x462000 x462001))) else (impl_SetRight.j2 k x16 x17 x18 true x462000 x462001))) else (none)) else (none)) else (some true)
def impl_SetRight.j2 : Nat → List (S139) → Int → Int → Bool → List (S43) → List (S139) → Option (Bool)
 | 0, _, _, _, _, _, _ => none
 | k + 1, x16, x17, x18, x59, x462000, x462001 => if x59 = true then (some false) else (impl_SetRight.l0 k x16 x17 (wrap64 (x18 + 1)) x462000 x462001)
end
def impl_SetRight.f (k : Nat) (l0_0 : List (S43)) (l0_1 : List (S139)) : Option (Bool) := (impl_seenRight.f k l0_0).bind fun t462 => (if t462 = true then (impl_SetRight.j0 k (decide ((l0_1.length : Int) > 8)) l0_0 l0_1) else (impl_SetRight.j0 k true l0_0 l0_1))
theorem impl_SetRight.mono_l : ∀ k, (∀ y0 y1 y2, LeO (impl_SetRight.j0 k y0 y1 y2) (impl_SetRight.j0 (k + 1) y0 y1 y2)) ∧ (∀ y0 y1 y2 y3 y4, LeO (impl_SetRight.l0 k y0 y1 y2 y3 y4) (impl_SetRight.l0 (k + 1) y0 y1 y2 y3 y4)) ∧ (∀ y0 y1 y2 y3 y4 y5, LeO (impl_SetRight.j2 k y0 y1 y2 y3 y4 y5) (impl_SetRight.j2 (k + 1) y0 y1 y2 y3 y4 y5))
 | 0 => ⟨fun _ _ _ r h => by simp [impl_SetRight.j0] at h, fun _ _ _ _ _ r h => by simp [impl_SetRight.l0] at h, fun _ _ _ _ _ _ r h => by simp [impl_SetRight.j2] at h⟩
 | k + 1 => by
  obtain ⟨ih0, ih1, ih2⟩ := impl_SetRight.mono_l k
  refine ⟨?_, ?_, ?_⟩
  ·intro y0 y1 y2
   unfold impl_SetRight.j0
   repeat' first
   | (with_reducible exact ih0 _ _ _)
   | (with_reducible exact ih1 _ _ _ _ _)
   | (with_reducible exact ih2 _ _ _ _ _ _)
   | (with_reducible exact impl_compareDots.mono _ _ _ _ _)
   | (with_reducible exact impl_seenHas.mono _ _ _ _)
   | (with_reducible exact impl_seenRight.mono _ _)
   | (with_reducible exact LeO.refl _)
   | (with_reducible exact LeO.none _)
   | (with_reducible refine LeO.ite ?_ ?_)
   | (with_reducible refine LeO.bind ?_ (fun _ => ?_))
   | exact ih0 _ _ _
   | exact ih1 _ _ _ _ _
   | exact ih2 _ _ _ _ _ _
   | exact impl_compareDots.mono _ _ _ _ _
   | exact impl_seenHas.mono _ _ _ _
   | exact impl_seenRight.mono _ _
   | exact LeO.none _
   | refine LeO.ite ?_ ?_
   | refine LeO.bind ?_ (fun _ => ?_)
  ·intro y0 y1 y2 y3 y4
   unfold impl_SetRight.l0
   repeat' first
   | (with_reducible exact ih0 _ _ _)
   | (with_reducible exact ih1 _ _ _ _ _)
   | (with_reducible exact ih2 _ _ _ _ _ _)
   | (with_reducible exact impl_compareDots.mono _ _ _ _ _)
   | (with_reducible exact impl_seenHas.mono _ _ _ _)
   | (with_reducible exact impl_seenRight.mono _ _)
   | (with_reducible exact LeO.refl _)
   | (with_reducible exact LeO.none _)
   | (with_reducible refine LeO.ite ?_ ?_)
   | (with_reducible refine LeO.bind ?_ (fun _ => ?_))
   | exact ih0 _ _ _
   | exact ih1 _ _ _ _ _
   | exact ih2 _ _ _ _ _ _
   | exact impl_compareDots.mono _ _ _ _ _
   | exact impl_seenHas.mono _ _ _ _
   | exact impl_seenRight.mono _ _
   | exact LeO.none _
   | refine LeO.ite ?_ ?_
   | refine LeO.bind ?_ (fun _ => ?_)
  ·intro y0 y1 y2 y3 y4 y5
   unfold impl_SetRight.j2
   repeat' first
   | (with_reducible exact ih0 _ _ _)
   | (with_reducible exact ih1 _ _ _ _ _)
   | (with_reducible exact ih2 _ _ _ _ _ _)
   | (with_reducible exact impl_compareDots.mono _ _ _ _ _)
   | (with_reducible exact impl_seenHas.mono _ _ _ _)
   | (with_reducible exact impl_seenRight.mono _ _)
   | (with_reducible exact LeO.refl _)
   | (with_reducible exact LeO.none _)
   | (with_reducible refine LeO.ite ?_ ?_)
   | (with_reducible refine LeO.bind ?_ (fun _ => ?_))
   | exact ih0 _ _ _
   | exact ih1 _ _ _ _ _
   | exact ih2 _ _ _ _ _ _
   | exact impl_compareDots.mono _ _ _ _ _
   | exact impl_seenHas.mono _ _ _ _
   | exact impl_seenRight.mono _ _
   | exact LeO.none _
   | refine LeO.ite ?_ ?_
   | refine LeO.bind ?_ (fun _ => ?_)
theorem impl_SetRight.mono : ∀ a0 a1 k, LeO (impl_SetRight.f k a0 a1) (impl_SetRight.f (k + 1) a0 a1) := by
 intro a0 a1 k
 obtain ⟨ih0, ih1, ih2⟩ := impl_SetRight.mono_l k
 unfold impl_SetRight.f
 repeat' first
   | (with_reducible exact ih0 _ _ _)
   | (with_reducible exact ih1 _ _ _ _ _)
   | (with_reducible exact ih2 _ _ _ _ _ _)
   | (with_reducible exact impl_compareDots.mono _ _ _ _ _)
   | (with_reducible exact impl_seenHas.mono _ _ _ _)
   | (with_reducible exact impl_seenRight.mono _ _)
   | (with_reducible exact LeO.refl _)
   | (with_reducible exact LeO.none _)
   | (with_reducible refine LeO.ite ?_ ?_)
   | (with_reducible refine LeO.bind ?_ (fun _ => ?_))
   | exact ih0 _ _ _
   | exact ih1 _ _ _ _ _
   | exact ih2 _ _ _ _ _ _
   | exact impl_compareDots.mono _ _ _ _ _
   | exact impl_seenHas.mono _ _ _ _
   | exact impl_seenRight.mono _ _
   | exact LeO.none _
   | refine LeO.ite ?_ ?_
   | refine LeO.bind ?_ (fun _ => ?_)
def impl_SetRight.T6 : Bool × List (List Nat × List Nat) := (true, [([], []), ([0], [0]), ([1], [1]), ([2], [2]), ([3, 2], [3]), ([4], [4]), ([5, 4], [4, 5]), ([4], [4]), ([7, 4], [4, 7]), ([6, 8, 4, 4], [4, 6, 8]), ([9, 4], [4, 9]), ([4, 10], [4, 10]), ([11, 9], [11]), ([12], [12]), ([13, 12], [12, 13]), ([12], [12]), ([15, 12], [12, 15]), ([14, 16, 12, 12], [12, 14, 16]), ([17, 12], [12, 17]), ([12, 18], [12, 18]), ([19, 17], [19]), ([20], [20]), ([21, 20], [20, 21]), ([22, 20, 20], [20, 22]), ([23], [23]), ([24, 23], [23, 24]), ([23], [23]), ([26, 23], [23, 26]), ([25, 27, 23], [23, 25, 27]), ([28, 23], [23, 28]), ([29, 23], [23, 29]), ([23], [23]), ([31, 23], [23, 31]), ([30, 32, 23, 23], [23, 30, 32]), ([33, 23], [23, 33]), ([23, 34, 20], [20, 23, 34]), ([20, 35], [20, 35])])
def impl_SetRight.B6 : List Nat := [0, 1, 3, 7, 15, 31, 63, 31, 159, 511, 1023, 2047, 4095, 8191, 16383, 8191, 40959, 131071, 262143, 524287, 1048575, 2097151, 4194303, 8388607, 16777215, 33554431, 16777215, 83886079, 268435455, 536870911, 1073741823, 16777215, 2164260863, 8589934591, 17179869183, 34359738367, 68719476735]
theorem impl_SetRight.tab6 : rtab .any (opsOf Try.f45 6) = impl_SetRight.T6 := by kernel_rfl
theorem impl_SetRight.bits6 : waitsOk impl_SetRight.T6.2 impl_SetRight.B6 = true := by kernel_rfl
abbrev impl_SetRight.q0 : Array Bool := #[false, false, false, false, false, false, false, false, false, false, false, false, false, false, false, false, false, false, false, false, false, false, false, false, false, false, false, false, false, false, false, false, false, false, false, false, false]
abbrev impl_SetRight.q1 : Array Bool := #[true, false, false, false, false, false, false, false, false, false, false, false, false, false, false, false, false, false, false, false, false, false, false, false, false, false, false, false, false, false, false, false, false, false, false, false, false]
abbrev impl_SetRight.q2 : Array Bool := #[true, true, false, false, false, false, false, false, false, false, false, false, false, false, false, false, false, false, false, false, false, false, false, false, false, false, false, false, false, false, false, false, false, false, false, false, false]
abbrev impl_SetRight.q3 : Array Bool := #[true, true, true, false, false, false, false, false, false, false, false, false, false, false, false, false, false, false, false, false, false, false, false, false, false, false, false, false, false, false, false, false, false, false, false, false, false]
abbrev impl_SetRight.q4 : Array Bool := #[true, true, true, true, false, false, false, false, false, false, false, false, false, false, false, false, false, false, false, false, false, false, false, false, false, false, false, false, false, false, false, false, false, false, false, false, false]
abbrev impl_SetRight.q5 : Array Bool := #[true, true, true, true, true, false, false, false, false, false, false, false, false, false, false, false, false, false, false, false, false, false, false, false, false, false, false, false, false, false, false, false, false, false, false, false, false]
abbrev impl_SetRight.q6 : Array Bool := #[true, true, true, true, true, true, false, false, false, false, false, false, false, false, false, false, false, false, false, false, false, false, false, false, false, false, false, false, false, false, false, false, false, false, false, false, false]
abbrev impl_SetRight.q7 : Array Bool := #[true, true, true, true, true, true, false, true, false, false, false, false, false, false, false, false, false, false, false, false, false, false, false, false, false, false, false, false, false, false, false, false, false, false, false, false, false]
abbrev impl_SetRight.q8 : Array Bool := #[true, true, true, true, true, true, true, true, false, false, false, false, false, false, false, false, false, false, false, false, false, false, false, false, false, false, false, false, false, false, false, false, false, false, false, false, false]
abbrev impl_SetRight.q9 : Array Bool := #[true, true, true, true, true, true, true, true, true, false, false, false, false, false, false, false, false, false, false, false, false, false, false, false, false, false, false, false, false, false, false, false, false, false, false, false, false]
abbrev impl_SetRight.q10 : Array Bool := #[true, true, true, true, true, true, true, true, true, true, false, false, false, false, false, false, false, false, false, false, false, false, false, false, false, false, false, false, false, false, false, false, false, false, false, false, false]
abbrev impl_SetRight.q11 : Array Bool := #[true, true, true, true, true, true, true, true, true, true, true, false, false, false, false, false, false, false, false, false, false, false, false, false, false, false, false, false, false, false, false, false, false, false, false, false, false]
abbrev impl_SetRight.q12 : Array Bool := #[true, true, true, true, true, true, true, true, true, true, true, true, false, false, false, false, false, false, false, false, false, false, false, false, false, false, false, false, false, false, false, false, false, false, false, false, false]
abbrev impl_SetRight.q13 : Array Bool := #[true, true, true, true, true, true, true, true, true, true, true, true, true, false, false, false, false, false, false, false, false, false, false, false, false, false, false, false, false, false, false, false, false, false, false, false, false]
abbrev impl_SetRight.q14 : Array Bool := #[true, true, true, true, true, true, true, true, true, true, true, true, true, true, false, false, false, false, false, false, false, false, false, false, false, false, false, false, false, false, false, false, false, false, false, false, false]
abbrev impl_SetRight.q15 : Array Bool := #[true, true, true, true, true, true, true, true, true, true, true, true, true, true, false, true, false, false, false, false, false, false, false, false, false, false, false, false, false, false, false, false, false, false, false, false, false]
abbrev impl_SetRight.q16 : Array Bool := #[true, true, true, true, true, true, true, true, true, true, true, true, true, true, true, true, false, false, false, false, false, false, false, false, false, false, false, false, false, false, false, false, false, false, false, false, false]
abbrev impl_SetRight.q17 : Array Bool := #[true, true, true, true, true, true, true, true, true, true, true, true, true, true, true, true, true, false, false, false, false, false, false, false, false, false, false, false, false, false, false, false, false, false, false, false, false]
abbrev impl_SetRight.q18 : Array Bool := #[true, true, true, true, true, true, true, true, true, true, true, true, true, true, true, true, true, true, false, false, false, false, false, false, false, false, false, false, false, false, false, false, false, false, false, false, false]
abbrev impl_SetRight.q19 : Array Bool := #[true, true, true, true, true, true, true, true, true, true, true, true, true, true, true, true, true, true, true, false, false, false, false, false, false, false, false, false, false, false, false, false, false, false, false, false, false]
abbrev impl_SetRight.q20 : Array Bool := #[true, true, true, true, true, true, true, true, true, true, true, true, true, true, true, true, true, true, true, true, false, false, false, false, false, false, false, false, false, false, false, false, false, false, false, false, false]
abbrev impl_SetRight.q21 : Array Bool := #[true, true, true, true, true, true, true, true, true, true, true, true, true, true, true, true, true, true, true, true, true, false, false, false, false, false, false, false, false, false, false, false, false, false, false, false, false]
abbrev impl_SetRight.q22 : Array Bool := #[true, true, true, true, true, true, true, true, true, true, true, true, true, true, true, true, true, true, true, true, true, true, false, false, false, false, false, false, false, false, false, false, false, false, false, false, false]
abbrev impl_SetRight.q23 : Array Bool := #[true, true, true, true, true, true, true, true, true, true, true, true, true, true, true, true, true, true, true, true, true, true, true, false, false, false, false, false, false, false, false, false, false, false, false, false, false]
abbrev impl_SetRight.q24 : Array Bool := #[true, true, true, true, true, true, true, true, true, true, true, true, true, true, true, true, true, true, true, true, true, true, true, true, false, false, false, false, false, false, false, false, false, false, false, false, false]
abbrev impl_SetRight.q25 : Array Bool := #[true, true, true, true, true, true, true, true, true, true, true, true, true, true, true, true, true, true, true, true, true, true, true, true, true, false, false, false, false, false, false, false, false, false, false, false, false]
abbrev impl_SetRight.q26 : Array Bool := #[true, true, true, true, true, true, true, true, true, true, true, true, true, true, true, true, true, true, true, true, true, true, true, true, true, true, true, true, true, true, true, true, false, false, false, false, false]
abbrev impl_SetRight.q27 : Array Bool := #[true, true, true, true, true, true, true, true, true, true, true, true, true, true, true, true, true, true, true, true, true, true, true, true, true, true, true, true, true, true, true, true, true, false, false, false, false]
abbrev impl_SetRight.q28 : Array Bool := #[true, true, true, true, true, true, true, true, true, true, true, true, true, true, true, true, true, true, true, true, true, true, true, true, true, true, true, true, true, true, true, true, true, true, false, false, false]
abbrev impl_SetRight.q29 : Array Bool := #[true, true, true, true, true, true, true, true, true, true, true, true, true, true, true, true, true, true, true, true, true, true, true, true, true, true, true, true, true, true, true, true, true, true, true, false, false]
abbrev impl_SetRight.q30 : Array Bool := #[true, true, true, true, true, true, true, true, true, true, true, true, true, true, true, true, true, true, true, true, true, true, true, true, true, true, true, true, true, true, true, true, true, true, true, true, false]
abbrev impl_SetRight.q31 : Array Bool := #[true, true, true, true, true, true, true, true, true, true, true, true, true, true, true, true, true, true, true, true, true, true, true, true, true, true, true, true, true, true, true, true, true, true, true, true, true]
abbrev impl_SetRight.q32 : Array Bool := #[true, true, true, true, true, true, true, true, true, true, true, true, true, true, true, true, true, true, true, true, true, true, true, true, true, true, false, false, false, false, false, false, false, false, false, false, false]
abbrev impl_SetRight.q33 : Array Bool := #[true, true, true, true, true, true, true, true, true, true, true, true, true, true, true, true, true, true, true, true, true, true, true, true, true, true, true, false, false, false, false, false, false, false, false, false, false]
abbrev impl_SetRight.q34 : Array Bool := #[true, true, true, true, true, true, true, true, true, true, true, true, true, true, true, true, true, true, true, true, true, true, true, true, true, true, true, true, false, false, false, false, false, false, false, false, false]
abbrev impl_SetRight.q35 : Array Bool := #[true, true, true, true, true, true, true, true, true, true, true, true, true, true, true, true, true, true, true, true, true, true, true, true, true, true, true, true, true, false, false, false, false, false, false, false, false]
abbrev impl_SetRight.q36 : Array Bool := #[true, true, true, true, true, true, true, true, true, true, true, true, true, true, true, true, true, true, true, true, true, true, true, true, true, true, true, true, true, true, false, false, false, false, false, false, false]
abbrev impl_SetRight.q37 : Array Bool := #[true, true, true, true, true, true, true, true, true, true, true, true, true, true, true, true, true, true, true, true, true, true, true, true, true, true, true, true, true, true, true, false, false, false, false, false, false]
abbrev impl_SetRight.q38 : Array Bool := #[true, true, true, true, true, true, true, true, true, true, true, true, true, true, true, false, false, false, false, false, false, false, false, false, false, false, false, false, false, false, false, false, false, false, false, false, false]
set_option maxHeartbeats 8000000 in
set_option maxRecDepth 100000 in
theorem impl_SetRight.calls (k : Nat) (A0_0 : Option Addr) (c0_0 : Nat) (l0_0 : List (S43)) (A0_1 : Option Addr) (c0_1 : Nat) (l0_1 : List (S139)) (r : Bool) (w : World) (hr0_0 : Kd.C k43 w A0_0 l0_0.length l0_0) (hc0_0 : l0_0.length ≤ c0_0) (hr0_1 : Kd.C k139 w A0_1 l0_1.length l0_1) (hc0_1 : l0_1.length ≤ c0_1) (h : impl_SetRight.f k l0_0 l0_1 = some r) :
  Calls Try.prog 45 #[.agg #[.slice A0_0 l0_0.length c0_0, .slice A0_1 l0_1.length c0_1]] w fun e w' => e = .returned (.bool r) ∧ Below w.heap.size w w' := by
 have hu75 := Try.underlying75
 have hu139 := Try.underlying139
 have hu43 := Try.underlying43
 have HR0_0 := Aside0.mk hr0_0
 have HC0_0 := Aside0.mk hc0_0
 clear hr0_0 hc0_0
 have HR0_1 := Aside0.mk hr0_1
 have HC0_1 := Aside0.mk hc0_1
 clear hr0_1 hc0_1
 have HB := Aside0.mk (Below.refl w.heap.size w)
 have H : ((impl_seenRight.f k l0_0).bind fun t462 => (if t462 = true then (impl_SetRight.j0 k (decide ((l0_1.length : Int) > 8)) l0_0 l0_1) else (impl_SetRight.j0 k true l0_0 l0_1))) = some r := h
 clear h
 have HC2 := Aside0.mk H
 clear H
 go_enter Try.func45, Try.ntmps45
 go_upto_region 1 with (first | ((with_reducible refine gate_dst (N := 1) rfl ?_); (try (refine gate_guard (by rfl) ?_; dsimp only)); refine box_event ?hg (N := 1) ?hd (cs := #[.slice A0_0 l0_0.length c0_0, .slice A0_1 l0_1.length c0_1]) (t := 75) ?hr ?_; (case hd => rfl); (case hg => rfl); (case hr => first | (go_simp; done) | (go_simp; rfl)); intro gb461 hg w3 hbox hb; have n0_ := Aside0.mk (below_step (by repeat (first | (with_reducible first | exact HB.out | apply below_alloc | apply pw_below_drewN | apply below_drew1) | exact HB.out)) hb); have n1_ := Aside0.mk (hbox); have n2_ := Aside0.mk ((by rw [hg]; exact (below_size (by repeat (first | (with_reducible first | exact HB.out | apply below_alloc | apply pw_below_drewN | apply below_drew1) | exact HB.out))) : w.heap.size ≤ gb461)); have n3_ := Aside0.mk ((by rw [hg]; exact (below_size (by repeat (first | (with_reducible first | exact HB.out | apply below_alloc | apply pw_below_drewN | apply below_drew1) | exact HB.out))) : w.heap.size ≤ gb461)); clear HB; have HB := n0_; have BK461 := n1_; have GW461 := n2_; have GE461 := n3_; clear n0_ n1_ n2_ n3_; clear hb hbox hg))
 (try simp only [Act.put, sa_, s0_, ss_])
 go_cut [14] (fun v14 wc => ∃ (kq : Nat) (x14_1 : Bool), v14 = .bool x14_1 ∧ Aside0 (impl_SetRight.j0 kq x14_1 l0_0 l0_1 = some r) ∧ Aside0 (kq ≤ k) ∧ Aside0 (wc.heap[gb461]? = some (.cells #[(.slice A0_0 l0_0.length c0_0), (.slice A0_1 l0_1.length c0_1)] 75 (0, 0))) ∧ Aside0 (Below w.heap.size w wc))
 case first =>
  have H := HC2.out
  clear HC2
  replace H := Option.bind_eq_some_iff.mp H
  obtain ⟨t462, A40, H⟩ := H
  replace H : (if t462 = true then (impl_SetRight.j0 k (decide ((l0_1.length : Int) > 8)) l0_0 l0_1) else (impl_SetRight.j0 k true l0_0 l0_1)) = some r := H
  have A4 := Aside0.mk A40
  clear A40
  by_cases c5 : t462 = true
  ·subst c5
   have H1 : (impl_SetRight.j0 k (decide ((l0_1.length : Int) > 8)) l0_0 l0_1) = some r := by rw [if_pos rfl] at H; exact H
   clear H
   have H := H1
   clear H1
   have H' := Aside0.mk H
   clear H
   have hcz6_0 : w3.cell? ⟨gb461, 0, none⟩ = some (.slice A0_0 l0_0.length c0_0) := (blk_cell BK461.out 0).trans rfl
   have hcz6_1 : w3.cell? ⟨gb461, 1, none⟩ = some (.slice A0_1 l0_1.length c0_1) := (blk_cell BK461.out 1).trans rfl
   have hfz6_0 := blk_frozen BK461.out 0
   have hfz6_1 := blk_frozen BK461.out 1
   go_wp2_with (first | ((with_reducible refine gate_callee (f := 86) rfl ?_); refine goesL_ (some 7) rfl rfl Try.func86 (by kernel_rfl) rfl #[.slice A0_0 l0_0.length c0_0] rfl (by (try simp only [List.map_toArray, List.map_cons, List.map_nil]); first | done | rfl | (simp only [List.length_drop, List.length_take]; rfl)) ?_; (with_reducible refine (impl_seenRight.calls k _ _ l0_0 true _ ?side1 ?side2 A4.out).mono ?_); (case side1 => repeat (first | exact (Kd.C_below HR0_0.out HB.out) | (with_reducible refine Kd.C_alloc ?_ _) | (with_reducible refine Kd.C_drewN ?_ _) | (with_reducible refine Kd.C_drew ?_))); (case side2 => exact HC0_0.out); rintro e w7 ⟨rfl, hb⟩; refine ⟨_, rfl, ?_⟩; have n0_ := Aside0.mk (blk_below (g := gb461) (o := .cells #[.slice A0_0 l0_0.length c0_0, .slice A0_1 l0_1.length c0_1] 75 (0, 0)) (by (with_reducible repeat (first | refine blk_drewN ?_ _ | refine blk_drew ?_ | refine blk_alloc ?_ _)); exact BK461.out) hb); have n1_ := Aside0.mk (below_step (by repeat (first | (with_reducible first | exact HB.out | apply below_alloc | apply pw_below_drewN | apply below_drew1 | refine below_set ?_ GE461.out) | exact HB.out)) hb); clear BK461; clear HB; have BK461 := n0_; have HB := n1_; clear n0_ n1_; (try clear hb); (try clear hb2); (try clear hk); (try clear hi); have hcz8_0 : w7.cell? ⟨gb461, 0, none⟩ = some (.slice A0_0 l0_0.length c0_0) := (blk_cell BK461.out 0).trans rfl; have hcz8_1 : w7.cell? ⟨gb461, 1, none⟩ = some (.slice A0_1 l0_1.length c0_1) := (blk_cell BK461.out 1).trans rfl; have hfz8_0 := blk_frozen BK461.out 0; have hfz8_1 := blk_frozen BK461.out 1))
   go_meet
   case rel => exact ⟨_, (decide ((l0_1.length : Int) > 8)), (by first | rfl | (simp; done) | (simp [*]; done)), H', ⟨by first | omega | exact Nat.le_refl _⟩, ⟨by (with_reducible repeat (first | refine blk_drewN ?_ _ | refine blk_drew ?_ | refine blk_alloc ?_ _)); exact BK461.out⟩, ⟨by repeat (first | (with_reducible first | exact HB.out | apply below_alloc | apply pw_below_drewN | apply below_drew1 | refine below_set ?_ GE461.out) | exact HB.out)⟩⟩
  ·replace c5 := Bool.eq_false_iff.mpr c5
   subst c5
   have H1 : (impl_SetRight.j0 k true l0_0 l0_1) = some r := by rw [if_neg (show ¬ (false = true) by decide)] at H; exact H
   clear H
   have H := H1
   clear H1
   have H' := Aside0.mk H
   clear H
   have hcz9_0 : w3.cell? ⟨gb461, 0, none⟩ = some (.slice A0_0 l0_0.length c0_0) := (blk_cell BK461.out 0).trans rfl
   have hcz9_1 : w3.cell? ⟨gb461, 1, none⟩ = some (.slice A0_1 l0_1.length c0_1) := (blk_cell BK461.out 1).trans rfl
   have hfz9_0 := blk_frozen BK461.out 0
   have hfz9_1 := blk_frozen BK461.out 1
   go_wp2_with (first | ((with_reducible refine gate_callee (f := 86) rfl ?_); refine goesL_ (some 7) rfl rfl Try.func86 (by kernel_rfl) rfl #[.slice A0_0 l0_0.length c0_0] rfl (by (try simp only [List.map_toArray, List.map_cons, List.map_nil]); first | done | rfl | (simp only [List.length_drop, List.length_take]; rfl)) ?_; (with_reducible refine (impl_seenRight.calls k _ _ l0_0 false _ ?side1 ?side2 A4.out).mono ?_); (case side1 => repeat (first | exact (Kd.C_below HR0_0.out HB.out) | (with_reducible refine Kd.C_alloc ?_ _) | (with_reducible refine Kd.C_drewN ?_ _) | (with_reducible refine Kd.C_drew ?_))); (case side2 => exact HC0_0.out); rintro e w10 ⟨rfl, hb⟩; refine ⟨_, rfl, ?_⟩; have n0_ := Aside0.mk (blk_below (g := gb461) (o := .cells #[.slice A0_0 l0_0.length c0_0, .slice A0_1 l0_1.length c0_1] 75 (0, 0)) (by (with_reducible repeat (first | refine blk_drewN ?_ _ | refine blk_drew ?_ | refine blk_alloc ?_ _)); exact BK461.out) hb); have n1_ := Aside0.mk (below_step (by repeat (first | (with_reducible first | exact HB.out | apply below_alloc | apply pw_below_drewN | apply below_drew1 | refine below_set ?_ GE461.out) | exact HB.out)) hb); clear BK461; clear HB; have BK461 := n0_; have HB := n1_; clear n0_ n1_; (try clear hb); (try clear hb2); (try clear hk); (try clear hi)))
   go_meet
   case rel => exact ⟨_, (true), (by first | rfl | (simp; done) | (simp [*]; done)), H', ⟨by first | omega | exact Nat.le_refl _⟩, ⟨by (with_reducible repeat (first | refine blk_drewN ?_ _ | refine blk_drew ?_ | refine blk_alloc ?_ _)); exact BK461.out⟩, ⟨by repeat (first | (with_reducible first | exact HB.out | apply below_alloc | apply pw_below_drewN | apply below_drew1 | refine below_set ?_ GE461.out) | exact HB.out)⟩⟩
 case rest =>
  clear HC2
  try clear p2
  try clear c4
  try clear c5
  try clear c8
  try clear hcz6_0
  try clear hcz6_1
  try clear hcz8_0
  try clear hcz8_1
  try clear hcz9_0
  try clear hcz9_1
  try clear hfz6_0
  try clear hfz6_1
  try clear hfz8_0
  try clear hfz8_1
  try clear hfz9_0
  try clear hfz9_1
  obtain ⟨kq, x14_1, rfl, HA, HJ1, BK461, HB⟩ := hcut
  cases kq with
  | zero => exact absurd HA.out (by simp [impl_SetRight.j0])
  | succ kj1 =>
   have H := HA.out
   clear HA
   simp only [impl_SetRight.j0] at H
   by_cases c11 : x14_1 = true
   ·subst c11
    have H1 : (some false) = some r := by rw [if_pos rfl] at H; exact H
    clear H
    have H := H1
    clear H1
    obtain rfl := Option.some.inj H
    go_wp2
    go_ret
    exact ⟨by first | rfl | (simp [errW_none, errW_some] <;> rfl) | (simp [*, errW_none, errW_some] <;> rfl), by repeat (first | (with_reducible first | exact HB.out | apply below_alloc | apply pw_below_drewN | apply below_drew1 | refine below_set ?_ GE461.out) | exact HB.out)⟩
   ·replace c11 := Bool.eq_false_iff.mpr c11
    subst c11
    have H1 : (impl_SetRight.l0 kj1 l0_1 (l0_1.length : Int) 0 l0_0 l0_1) = some r := by rw [if_neg (show ¬ (false = true) by decide)] at H; exact H
    clear H
    have H := H1
    clear H1
    have H' := Aside0.mk H
    clear H
    have hcz12_0 : wc.cell? ⟨gb461, 0, none⟩ = some (.slice A0_0 l0_0.length c0_0) := (blk_cell BK461.out 0).trans rfl
    have hcz12_1 : wc.cell? ⟨gb461, 1, none⟩ = some (.slice A0_1 l0_1.length c0_1) := (blk_cell BK461.out 1).trans rfl
    have hfz12_0 := blk_frozen BK461.out 0
    have hfz12_1 := blk_frozen BK461.out 1
    go_wp2
    go_loopg [18] kj1 (fun kq v18 w' => ∃ (x18_2 : Int), v18 = .int .i64 x18_2 ∧ Aside0 (impl_SetRight.l0 kq l0_1 (l0_1.length : Int) x18_2 l0_0 l0_1 = some r) ∧ Aside0 (kq ≤ kj1) ∧ Aside0 (w'.heap[gb461]? = some (.cells #[(.slice A0_0 l0_0.length c0_0), (.slice A0_1 l0_1.length c0_1)] 75 (0, 0))) ∧ Aside0 (Below w.heap.size w w'))
    case atStart => exact ⟨(0), (by first | rfl | (simp; done) | (simp [*]; done)), H', ⟨Nat.le_refl _⟩, ⟨by (with_reducible repeat (first | refine blk_drewN ?_ _ | refine blk_drew ?_ | refine blk_alloc ?_ _)); exact BK461.out⟩, ⟨by repeat (first | (with_reducible first | exact HB.out | apply below_alloc | apply pw_below_drewN | apply below_drew1 | refine below_set ?_ GE461.out) | exact HB.out)⟩⟩
    case round =>
     clear H'
     try clear c1
     try clear p2
     try clear c4
     try clear c5
     try clear c8
     try clear c11
     try clear hcz12_0
     try clear hcz12_1
     try clear hcz6_0
     try clear hcz6_1
     try clear hcz8_0
     try clear hcz8_1
     try clear hcz9_0
     try clear hcz9_1
     try clear hfz12_0
     try clear hfz12_1
     try clear hfz6_0
     try clear hfz6_1
     try clear hfz8_0
     try clear hfz8_1
     try clear hfz9_0
     try clear hfz9_1
     try clear p2
     obtain ⟨x18_2, rfl, HA, HK2, BK461, HB⟩ := hrel
     cases gk with
     | zero => exact absurd HA.out (by simp [impl_SetRight.l0])
     | succ k2 =>
      have H := HA.out
      clear HA
      simp only [impl_SetRight.l0] at H
      by_cases c13 : x18_2 < (l0_1.length : Int)
      ·rw [if_pos c13] at H
       have c13b0 : decide (x18_2 < (l0_1.length : Int)) = true := decide_eq_true c13
       clear c13
       by_cases c14 : 0 ≤ x18_2
       ·rw [if_pos c14] at H
        have c14b0 : decide (0 ≤ x18_2) = true := decide_eq_true c14
        clear c14
        by_cases c15 : x18_2 < (l0_1.length : Int)
        ·rw [if_pos c15] at H
         have c15b0 : decide (x18_2 < (l0_1.length : Int)) = true := decide_eq_true c15
         clear c15
         have HC16 := Aside0.mk H
         clear H
         have p463 : 0 ≤ (x18_2 : Int) := of_decide_eq_true (by first | (with_reducible assumption) | assumption)
         have q463 : x18_2 < (l0_1.length : Int) := of_decide_eq_true (by first | (with_reducible assumption) | assumption)
         obtain ⟨ad463, e463, hx463_0, hx463_1, hx463_2, hx463_3⟩ := at_T139 HR0_1.out x18_2 p463 q463
         cases e463
         replace hx463_0 := (HB.out.cell (World.block_lt_of_cell? w _ hx463_0)).trans hx463_0
         replace hx463_1 := (HB.out.cell (World.block_lt_of_cell? w _ hx463_1)).trans hx463_1
         replace hx463_2 := (HB.out.cell (World.block_lt_of_cell? w _ hx463_2)).trans hx463_2
         replace hx463_3 := (HB.out.cell (World.block_lt_of_cell? w _ hx463_3)).trans hx463_3
         replace p463 := eq_true p463
         replace q463 := eq_true q463
         go_upto_region 6 with (first | ((with_reducible refine gate_dst (N := 4) rfl ?_); (try (refine gate_guard (by rfl) ?_; dsimp only)); refine box_event ?hg (N := 4) ?hd (cs := #[.int .i64 0, .int .i64 0, .bool false, .string (⟨#[]⟩ : ByteArray)]) (t := 139) ?hr ?_; (case hd => rfl); (case hg => rfl); (case hr => first | (go_simp; done) | (go_simp; rfl)); intro gb464 hg w17 hbox hb; have n0_ := Aside0.mk (blk_below (g := gb461) (o := .cells #[.slice A0_0 l0_0.length c0_0, .slice (some ad463) l0_1.length c0_1] 75 (0, 0)) (by (with_reducible repeat (first | refine blk_drewN ?_ _ | refine blk_drew ?_ | refine blk_alloc ?_ _)); exact BK461.out) hb); have n1_ := Aside0.mk (below_step (by repeat (first | (with_reducible first | exact HB.out | apply below_alloc | apply pw_below_drewN | apply below_drew1 | refine below_set ?_ GE461.out) | exact HB.out)) hb); have n2_ := Aside0.mk (hbox); have n3_ := Aside0.mk ((by rw [hg]; exact (below_size (by repeat (first | (with_reducible first | exact HB.out | apply below_alloc | apply pw_below_drewN | apply below_drew1 | refine below_set ?_ GE461.out) | exact HB.out))) : w.heap.size ≤ gb464)); have n4_ := Aside0.mk ((by rw [hg]; exact (below_size (by repeat (first | (with_reducible first | exact HB.out | apply below_alloc | apply pw_below_drewN | apply below_drew1 | refine below_set ?_ GE461.out) | exact HB.out))) : w.heap.size ≤ gb464)); have n5_ := Aside0.mk ((by rw [hg]; exact Nat.ne_of_lt (blk_lt (g := gb461) (o := .cells #[.slice A0_0 l0_0.length c0_0, .slice (some ad463) l0_1.length c0_1] 75 (0, 0)) (by (with_reducible repeat (first | refine blk_drewN ?_ _ | refine blk_drew ?_ | refine blk_alloc ?_ _)); exact BK461.out)) : gb461 ≠ gb464)); have n6_ := Aside0.mk ((by rw [hg]; exact Nat.ne_of_gt (blk_lt (g := gb461) (o := .cells #[.slice A0_0 l0_0.length c0_0, .slice (some ad463) l0_1.length c0_1] 75 (0, 0)) (by (with_reducible repeat (first | refine blk_drewN ?_ _ | refine blk_drew ?_ | refine blk_alloc ?_ _)); exact BK461.out)) : gb464 ≠ gb461)); clear BK461; clear HB; have BK461 := n0_; have HB := n1_; have BK464 := n2_; have GW464 := n3_; have GE464 := n4_; have NB461_464 := n5_; have NB464_461 := n6_; clear n0_ n1_ n2_ n3_ n4_ n5_ n6_; clear hb hbox hg; have hnb18 := NB464_461.out; have hnc18 := NB461_464.out; have hcz19_0 : w17.cell? ⟨gb464, 0, none⟩ = some (.int .i64 0) := (blk_cell BK464.out 0).trans rfl; have hcz19_1 : w17.cell? ⟨gb464, 1, none⟩ = some (.int .i64 0) := (blk_cell BK464.out 1).trans rfl; have hcz19_2 : w17.cell? ⟨gb464, 2, none⟩ = some (.bool false) := (blk_cell BK464.out 2).trans rfl; have hcz19_3 : w17.cell? ⟨gb464, 3, none⟩ = some (.string (⟨#[]⟩ : ByteArray)) := (blk_cell BK464.out 3).trans rfl; have hfz19_0 := blk_frozen BK464.out 0; have hfz19_1 := blk_frozen BK464.out 1; have hfz19_2 := blk_frozen BK464.out 2; have hfz19_3 := blk_frozen BK464.out 3))
         (try simp only [Act.put, sa_, s0_, ss_])
         go_cut [59] (fun v59 wc => ∃ (kq : Nat) (x59_15 : Bool), v59 = .bool x59_15 ∧ Aside0 (impl_SetRight.j2 kq l0_1 (l0_1.length : Int) x18_2 x59_15 l0_0 l0_1 = some r) ∧ Aside0 (kq ≤ k2) ∧ Aside0 (wc.heap[gb461]? = some (.cells #[(.slice A0_0 l0_0.length c0_0), (.slice (some ad463) l0_1.length c0_1)] 75 (0, 0))) ∧ Aside0 (wc.heap[gb464]? = some (.cells #[.int .i64 ((rd_T139 l0_1 x18_2).f0.f0), .int .i64 ((rd_T139 l0_1 x18_2).f0.f1), .bool ((rd_T139 l0_1 x18_2).f1), .string ((rd_T139 l0_1 x18_2).f2)] 139 (0, 0))) ∧ Aside0 (Below w.heap.size w wc))
         case first =>
          have H := HC16.out
          clear HC16
          replace H := Option.bind_eq_some_iff.mp H
          obtain ⟨t465, A200, H⟩ := H
          replace H : (if t465 = true then ((impl_seenHas.f k2 l0_0 ((rd_T139 l0_1 x18_2).f0.f0) ((rd_T139 l0_1 x18_2).f0.f1)).bind fun t466 => (if t466 = true then ((impl_isData.f ((rd_T139 l0_1 x18_2).f2) ((rd_T139 l0_1 x18_2).f1)).bind fun t467 => (if t467 = true then (if x18_2 > 0 then (if 0 ≤ (wrap64 (x18_2 - 1)) then (if (wrap64 (x18_2 - 1)) < (l0_1.length : Int) then ((impl_compareDots.f k2 ((rd_T139 l0_1 (wrap64 (x18_2 - 1))).f0.f0) ((rd_T139 l0_1 (wrap64 (x18_2 - 1))).f0.f1) ((rd_T139 l0_1 x18_2).f0.f0) ((rd_T139 l0_1 x18_2).f0.f1)).bind fun t469 => (impl_SetRight.j2 k2 l0_1 (l0_1.length : Int) x18_2 (decide (t469 ≥ 0)) l0_0 l0_1)) else (none)) else (none)) else (impl_SetRight.j2 k2 l0_1 (l0_1.length : Int) x18_2 false l0_0 l0_1)) else (impl_SetRight.j2 k2 l0_1 (l0_1.length : Int) x18_2 true l0_0 l0_1))) else (impl_SetRight.j2 k2 l0_1 (l0_1.length : Int) x18_2 true l0_0 l0_1))) else (impl_SetRight.j2 k2 l0_1 (l0_1.length : Int) x18_2 true l0_0 l0_1)) = some r := H
          have A20 := Aside0.mk A200
          clear A200
          by_cases c21 : t465 = true
          ·subst c21
           have H1 : ((impl_seenHas.f k2 l0_0 ((rd_T139 l0_1 x18_2).f0.f0) ((rd_T139 l0_1 x18_2).f0.f1)).bind fun t466 => (if t466 = true then ((impl_isData.f ((rd_T139 l0_1 x18_2).f2) ((rd_T139 l0_1 x18_2).f1)).bind fun t467 => (if t467 = true then (if x18_2 > 0 then (if 0 ≤ (wrap64 (x18_2 - 1)) then (if (wrap64 (x18_2 - 1)) < (l0_1.length : Int) then ((impl_compareDots.f k2 ((rd_T139 l0_1 (wrap64 (x18_2 - 1))).f0.f0) ((rd_T139 l0_1 (wrap64 (x18_2 - 1))).f0.f1) ((rd_T139 l0_1 x18_2).f0.f0) ((rd_T139 l0_1 x18_2).f0.f1)).bind fun t469 => (impl_SetRight.j2 k2 l0_1 (l0_1.length : Int) x18_2 (decide (t469 ≥ 0)) l0_0 l0_1)) else (none)) else (none)) else (impl_SetRight.j2 k2 l0_1 (l0_1.length : Int) x18_2 false l0_0 l0_1)) else (impl_SetRight.j2 k2 l0_1 (l0_1.length : Int) x18_2 true l0_0 l0_1))) else (impl_SetRight.j2 k2 l0_1 (l0_1.length : Int) x18_2 true l0_0 l0_1))) = some r := by rw [if_pos rfl] at H; exact H
           clear H
           have H := H1
           clear H1
           replace H := Option.bind_eq_some_iff.mp H
           obtain ⟨t466, A220, H⟩ := H
           replace H : (if t466 = true then ((impl_isData.f ((rd_T139 l0_1 x18_2).f2) ((rd_T139 l0_1 x18_2).f1)).bind fun t467 => (if t467 = true then (if x18_2 > 0 then (if 0 ≤ (wrap64 (x18_2 - 1)) then (if (wrap64 (x18_2 - 1)) < (l0_1.length : Int) then ((impl_compareDots.f k2 ((rd_T139 l0_1 (wrap64 (x18_2 - 1))).f0.f0) ((rd_T139 l0_1 (wrap64 (x18_2 - 1))).f0.f1) ((rd_T139 l0_1 x18_2).f0.f0) ((rd_T139 l0_1 x18_2).f0.f1)).bind fun t469 => (impl_SetRight.j2 k2 l0_1 (l0_1.length : Int) x18_2 (decide (t469 ≥ 0)) l0_0 l0_1)) else (none)) else (none)) else (impl_SetRight.j2 k2 l0_1 (l0_1.length : Int) x18_2 false l0_0 l0_1)) else (impl_SetRight.j2 k2 l0_1 (l0_1.length : Int) x18_2 true l0_0 l0_1))) else (impl_SetRight.j2 k2 l0_1 (l0_1.length : Int) x18_2 true l0_0 l0_1)) = some r := H
           have A22 := Aside0.mk A220
           clear A220
           by_cases c23 : t466 = true
           ·subst c23
            have H1 : ((impl_isData.f ((rd_T139 l0_1 x18_2).f2) ((rd_T139 l0_1 x18_2).f1)).bind fun t467 => (if t467 = true then (if x18_2 > 0 then (if 0 ≤ (wrap64 (x18_2 - 1)) then (if (wrap64 (x18_2 - 1)) < (l0_1.length : Int) then ((impl_compareDots.f k2 ((rd_T139 l0_1 (wrap64 (x18_2 - 1))).f0.f0) ((rd_T139 l0_1 (wrap64 (x18_2 - 1))).f0.f1) ((rd_T139 l0_1 x18_2).f0.f0) ((rd_T139 l0_1 x18_2).f0.f1)).bind fun t469 => (impl_SetRight.j2 k2 l0_1 (l0_1.length : Int) x18_2 (decide (t469 ≥ 0)) l0_0 l0_1)) else (none)) else (none)) else (impl_SetRight.j2 k2 l0_1 (l0_1.length : Int) x18_2 false l0_0 l0_1)) else (impl_SetRight.j2 k2 l0_1 (l0_1.length : Int) x18_2 true l0_0 l0_1))) = some r := by rw [if_pos rfl] at H; exact H
            clear H
            have H := H1
            clear H1
            replace H := Option.bind_eq_some_iff.mp H
            obtain ⟨t467, A240, H⟩ := H
            replace H : (if t467 = true then (if x18_2 > 0 then (if 0 ≤ (wrap64 (x18_2 - 1)) then (if (wrap64 (x18_2 - 1)) < (l0_1.length : Int) then ((impl_compareDots.f k2 ((rd_T139 l0_1 (wrap64 (x18_2 - 1))).f0.f0) ((rd_T139 l0_1 (wrap64 (x18_2 - 1))).f0.f1) ((rd_T139 l0_1 x18_2).f0.f0) ((rd_T139 l0_1 x18_2).f0.f1)).bind fun t469 => (impl_SetRight.j2 k2 l0_1 (l0_1.length : Int) x18_2 (decide (t469 ≥ 0)) l0_0 l0_1)) else (none)) else (none)) else (impl_SetRight.j2 k2 l0_1 (l0_1.length : Int) x18_2 false l0_0 l0_1)) else (impl_SetRight.j2 k2 l0_1 (l0_1.length : Int) x18_2 true l0_0 l0_1)) = some r := H
            have A24 := Aside0.mk A240
            clear A240
            by_cases c25 : t467 = true
            ·subst c25
             have H1 : (if x18_2 > 0 then (if 0 ≤ (wrap64 (x18_2 - 1)) then (if (wrap64 (x18_2 - 1)) < (l0_1.length : Int) then ((impl_compareDots.f k2 ((rd_T139 l0_1 (wrap64 (x18_2 - 1))).f0.f0) ((rd_T139 l0_1 (wrap64 (x18_2 - 1))).f0.f1) ((rd_T139 l0_1 x18_2).f0.f0) ((rd_T139 l0_1 x18_2).f0.f1)).bind fun t469 => (impl_SetRight.j2 k2 l0_1 (l0_1.length : Int) x18_2 (decide (t469 ≥ 0)) l0_0 l0_1)) else (none)) else (none)) else (impl_SetRight.j2 k2 l0_1 (l0_1.length : Int) x18_2 false l0_0 l0_1)) = some r := by rw [if_pos rfl] at H; exact H
             clear H
             have H := H1
             clear H1
             by_cases c26 : x18_2 > 0
             ·rw [if_pos c26] at H
              have c26b0 : decide (0 < x18_2) = true := decide_eq_true c26
              clear c26
              (first | rw [c26b0] | (simp only [i64_w, i32_w]; rw [c26b0]) | skip)
              obtain ⟨ji27, hji27⟩ : ∃ j_ : Int, (wrap64 (x18_2 - 1)) = j_ := ⟨_, rfl⟩
              replace H : (if 0 ≤ (ji27) then (if (ji27) < (l0_1.length : Int) then ((impl_compareDots.f k2 ((rd_T139 l0_1 (ji27)).f0.f0) ((rd_T139 l0_1 (ji27)).f0.f1) ((rd_T139 l0_1 x18_2).f0.f0) ((rd_T139 l0_1 x18_2).f0.f1)).bind fun t469 => (impl_SetRight.j2 k2 l0_1 (l0_1.length : Int) x18_2 (decide (t469 ≥ 0)) l0_0 l0_1)) else (none)) else (none)) = some r := by first | (rw [hji27] at H; exact H) | (simp only [hji27] at H ⊢; exact H)
              (try rw [hji27] at A20)
              (try rw [hji27] at A22)
              (try rw [hji27] at A24)
              have hji27w : (IntKind.i64.wrap (x18_2 - 1)) = ji27 := (i64_w _).trans hji27
              by_cases c28 : 0 ≤ (ji27)
              ·rw [if_pos c28] at H
               have c28b0 : decide (0 ≤ (ji27)) = true := decide_eq_true c28
               clear c28
               by_cases c29 : (ji27) < (l0_1.length : Int)
               ·rw [if_pos c29] at H
                have c29b0 : decide ((ji27) < (l0_1.length : Int)) = true := decide_eq_true c29
                clear c29
                replace H := Option.bind_eq_some_iff.mp H
                obtain ⟨t469, A300, H⟩ := H
                replace H : (impl_SetRight.j2 k2 l0_1 (l0_1.length : Int) x18_2 (decide (t469 ≥ 0)) l0_0 l0_1) = some r := H
                have A30 := Aside0.mk A300
                clear A300
                have H' := Aside0.mk H
                clear H
                try go_wp2
                have n0_ : Aside0 (((((w17.setCell ⟨gb464, 0, none⟩ (.int .i64 ((rd_T139 l0_1 x18_2).f0.f0))).setCell ⟨gb464, 1, none⟩ (.int .i64 ((rd_T139 l0_1 x18_2).f0.f1))).setCell ⟨gb464, 2, none⟩ (.bool ((rd_T139 l0_1 x18_2).f1))).setCell ⟨gb464, 3, none⟩ (.string ((rd_T139 l0_1 x18_2).f2))).heap[gb461]? = some (.cells #[.slice A0_0 l0_0.length c0_0, .slice (some ad463) l0_1.length c0_1] 75 (0, 0))) := ⟨by (with_reducible repeat (first | refine blk_drewN ?_ _ | refine blk_drew ?_ | refine blk_alloc ?_ _)); refine blk_far ?_ NB461_464.out _; (with_reducible repeat (first | refine blk_drewN ?_ _ | refine blk_drew ?_ | refine blk_alloc ?_ _)); refine blk_far ?_ NB461_464.out _; (with_reducible repeat (first | refine blk_drewN ?_ _ | refine blk_drew ?_ | refine blk_alloc ?_ _)); refine blk_far ?_ NB461_464.out _; (with_reducible repeat (first | refine blk_drewN ?_ _ | refine blk_drew ?_ | refine blk_alloc ?_ _)); refine blk_far ?_ NB461_464.out _; (with_reducible repeat (first | refine blk_drewN ?_ _ | refine blk_drew ?_ | refine blk_alloc ?_ _)); exact BK461.out⟩
                have n1_ : Aside0 (((((w17.setCell ⟨gb464, 0, none⟩ (.int .i64 ((rd_T139 l0_1 x18_2).f0.f0))).setCell ⟨gb464, 1, none⟩ (.int .i64 ((rd_T139 l0_1 x18_2).f0.f1))).setCell ⟨gb464, 2, none⟩ (.bool ((rd_T139 l0_1 x18_2).f1))).setCell ⟨gb464, 3, none⟩ (.string ((rd_T139 l0_1 x18_2).f2))).heap[gb464]? = some (.cells #[.int .i64 ((rd_T139 l0_1 x18_2).f0.f0), .int .i64 ((rd_T139 l0_1 x18_2).f0.f1), .bool ((rd_T139 l0_1 x18_2).f1), .string ((rd_T139 l0_1 x18_2).f2)] 139 (0, 0))) := ⟨by (with_reducible repeat (first | refine blk_drewN ?_ _ | refine blk_drew ?_ | refine blk_alloc ?_ _)); refine blk_put (cs := #[.int .i64 ((rd_T139 l0_1 x18_2).f0.f0), .int .i64 ((rd_T139 l0_1 x18_2).f0.f1), .bool ((rd_T139 l0_1 x18_2).f1), .string (⟨#[]⟩ : ByteArray)]) ?_ 3 _ rfl; (with_reducible repeat (first | refine blk_drewN ?_ _ | refine blk_drew ?_ | refine blk_alloc ?_ _)); refine blk_put (cs := #[.int .i64 ((rd_T139 l0_1 x18_2).f0.f0), .int .i64 ((rd_T139 l0_1 x18_2).f0.f1), .bool false, .string (⟨#[]⟩ : ByteArray)]) ?_ 2 _ rfl; (with_reducible repeat (first | refine blk_drewN ?_ _ | refine blk_drew ?_ | refine blk_alloc ?_ _)); refine blk_put (cs := #[.int .i64 ((rd_T139 l0_1 x18_2).f0.f0), .int .i64 0, .bool false, .string (⟨#[]⟩ : ByteArray)]) ?_ 1 _ rfl; (with_reducible repeat (first | refine blk_drewN ?_ _ | refine blk_drew ?_ | refine blk_alloc ?_ _)); refine blk_put (cs := #[.int .i64 0, .int .i64 0, .bool false, .string (⟨#[]⟩ : ByteArray)]) ?_ 0 _ rfl; (with_reducible repeat (first | refine blk_drewN ?_ _ | refine blk_drew ?_ | refine blk_alloc ?_ _)); exact BK464.out⟩
                have n2_ : Aside0 (Below w.heap.size w ((((w17.setCell ⟨gb464, 0, none⟩ (.int .i64 ((rd_T139 l0_1 x18_2).f0.f0))).setCell ⟨gb464, 1, none⟩ (.int .i64 ((rd_T139 l0_1 x18_2).f0.f1))).setCell ⟨gb464, 2, none⟩ (.bool ((rd_T139 l0_1 x18_2).f1))).setCell ⟨gb464, 3, none⟩ (.string ((rd_T139 l0_1 x18_2).f2)))) := ⟨by repeat (first | (with_reducible first | exact HB.out | apply below_alloc | apply pw_below_drewN | apply below_drew1 | refine below_set ?_ GE461.out | refine below_set ?_ GE464.out) | exact HB.out)⟩
                (try clear BK461)
                (try clear BK464)
                (try clear HB)
                generalize ((((w17.setCell ⟨gb464, 0, none⟩ (.int .i64 ((rd_T139 l0_1 x18_2).f0.f0))).setCell ⟨gb464, 1, none⟩ (.int .i64 ((rd_T139 l0_1 x18_2).f0.f1))).setCell ⟨gb464, 2, none⟩ (.bool ((rd_T139 l0_1 x18_2).f1))).setCell ⟨gb464, 3, none⟩ (.string ((rd_T139 l0_1 x18_2).f2))) = w31 at n0_ n1_ n2_ ⊢
                have BK461 := n0_
                have BK464 := n1_
                have HB := n2_
                clear n0_ n1_ n2_
                have n0_ := Aside0.mk (blk_drew BK461.out)
                have n1_ := Aside0.mk (blk_drew BK464.out)
                have n2_ := Aside0.mk (below_drew1 HB.out)
                clear BK461
                clear BK464
                clear HB
                have BK461 := n0_
                have BK464 := n1_
                have HB := n2_
                clear n0_ n1_ n2_
                have p468 : 0 ≤ ((ji27) : Int) := of_decide_eq_true (by first | (with_reducible assumption) | assumption)
                have q468 : (ji27) < (l0_1.length : Int) := of_decide_eq_true (by first | (with_reducible assumption) | assumption)
                obtain ⟨ad468, e468, hx468_0, hx468_1, hx468_2, hx468_3⟩ := at_T139 HR0_1.out (ji27) p468 q468
                have hw468_3 := hx468_3
                have hw468_2 := hx468_2
                have hw468_1 := hx468_1
                have hw468_0 := hx468_0
                obtain rfl : ad463 = ad468 := (by injection e468)
                replace hx468_0 := (HB.out.cell (World.block_lt_of_cell? w _ hx468_0)).trans hx468_0
                replace hx468_1 := (HB.out.cell (World.block_lt_of_cell? w _ hx468_1)).trans hx468_1
                replace hx468_2 := (HB.out.cell (World.block_lt_of_cell? w _ hx468_2)).trans hx468_2
                replace hx468_3 := (HB.out.cell (World.block_lt_of_cell? w _ hx468_3)).trans hx468_3
                replace p468 := eq_true p468
                replace q468 := eq_true q468
                refine start_ (n := 37) (S := fun w' => w'.cell? ⟨gb464, 0, none⟩ = some (.int .i64 ((rd_T139 l0_1 x18_2).f0.f0)) ∧ w'.cell? ⟨gb464, 1, none⟩ = some (.int .i64 ((rd_T139 l0_1 x18_2).f0.f1)) ∧ w'.cell? ⟨gb464, 2, none⟩ = some (.bool ((rd_T139 l0_1 x18_2).f1)) ∧ w'.cell? ⟨gb464, 3, none⟩ = some (.string ((rd_T139 l0_1 x18_2).f2)) ∧ w'.cell? ⟨gb461, 0, none⟩ = some (.slice A0_0 l0_0.length c0_0) ∧ w'.cell? ⟨gb461, 1, none⟩ = some (.slice (some ad463) l0_1.length c0_1) ∧ w'.cell? (ad463.add (((ji27)).toNat * 4)) = some (.int .i64 ((rd_T139 l0_1 (ji27)).f0.f0)) ∧ w'.cell? ⟨(ad463.add (((ji27)).toNat * 4)).block, (ad463.add (((ji27)).toNat * 4)).off + 1, none⟩ = some (.int .i64 ((rd_T139 l0_1 (ji27)).f0.f1)) ∧ w'.cell? ⟨(ad463.add (((ji27)).toNat * 4)).block, (ad463.add (((ji27)).toNat * 4)).off + 2, none⟩ = some (.bool ((rd_T139 l0_1 (ji27)).f1)) ∧ w'.cell? ⟨(ad463.add (((ji27)).toNat * 4)).block, (ad463.add (((ji27)).toNat * 4)).off + 3, none⟩ = some (.string ((rd_T139 l0_1 (ji27)).f2))) (ds := []) impl_SetRight.q0 (by kernel_rfl) rfl rfl ⟨(blk_cell BK464.out 0).trans rfl, (blk_cell BK464.out 1).trans rfl, (blk_cell BK464.out 2).trans rfl, (blk_cell BK464.out 3).trans rfl, (blk_cell BK461.out 0).trans rfl, (blk_cell BK461.out 1).trans rfl, ((HB.out.cell (World.block_lt_of_cell? w _ hw468_0)).trans hw468_0), ((HB.out.cell (World.block_lt_of_cell? w _ hw468_1)).trans hw468_1), ((HB.out.cell (World.block_lt_of_cell? w _ hw468_2)).trans hw468_2), ((HB.out.cell (World.block_lt_of_cell? w _ hw468_3)).trans hw468_3)⟩ (fun hHeld => ?_); refine with_tabW impl_SetRight.tab6 impl_SetRight.bits6 (fun HT_ HW_ => ?_)
                generalize w31.drew = w32 at BK461 BK464 HB hx468_0 hx468_1 hx468_2 hx468_3 hHeld ⊢
                refine pure_ (i := 0) (N := some 23) (v := ?_) (a' := ?_) impl_SetRight.q1 rfl rfl (any_of HT_.out (by kernel_rfl)) (fun _ _ _ h => h) (Or.inl ⟨by rfl, ?_⟩) ?_ ?_
                rotate_left
                ·intro w'
                 go_simp
                 with_reducible rfl
                rotate_left
                ·simp only [Act.put, sa_, s0_, ss_, i64_w, i32_w]
                 rfl
                refine take_ (i := 1) (N := some 24) (v := ?_) (a' := ?_) impl_SetRight.q2 rfl rfl (take_ofW HT_.out HW_.out (by kernel_rfl)) (fun _ _ _ h => h) (Or.inl ⟨by rfl, ?_⟩) hHeld ?_ ?_
                rotate_left
                ·rintro w' ⟨s0, s1, s2, s3, s4, s5, s6, s7, s8, s9⟩
                 go_simp
                 with_reducible rfl
                rotate_left
                ·simp only [Act.put, sa_, s0_, ss_, i64_w, i32_w]
                 rfl
                refine one_ (i := 2) (N := some 25) impl_SetRight.q3 rfl rfl (one_of HT_.out (by kernel_rfl)) (by decide) (fun K hK => ?_)
                refine goes_ Try.func87 (by kernel_rfl) rfl #[.agg #[.int .i64 ((rd_T139 l0_1 x18_2).f0.f0), .int .i64 ((rd_T139 l0_1 x18_2).f0.f1)]] (by rfl) rfl rfl (by (try simp only [List.map_toArray, List.map_cons, List.map_nil]); first | done | rfl | (simp only [List.length_drop, List.length_take]; rfl)) ?_
                with_reducible refine (impl_isDot.calls ((rd_T139 l0_1 x18_2).f0.f0) ((rd_T139 l0_1 x18_2).f0.f1) true _ A20.out).mono ?_
                rintro e w33 ⟨rfl, hb⟩
                refine ⟨_, rfl, ?_⟩
                have n0_ := Aside0.mk (blk_below (g := gb461) (o := .cells #[.slice A0_0 l0_0.length c0_0, .slice (some ad463) l0_1.length c0_1] 75 (0, 0)) (by (with_reducible repeat (first | refine blk_drewN ?_ _ | refine blk_drew ?_ | refine blk_alloc ?_ _)); exact BK461.out) hb)
                have n1_ := Aside0.mk (blk_below (g := gb464) (o := .cells #[.int .i64 ((rd_T139 l0_1 x18_2).f0.f0), .int .i64 ((rd_T139 l0_1 x18_2).f0.f1), .bool ((rd_T139 l0_1 x18_2).f1), .string ((rd_T139 l0_1 x18_2).f2)] 139 (0, 0)) (by (with_reducible repeat (first | refine blk_drewN ?_ _ | refine blk_drew ?_ | refine blk_alloc ?_ _)); exact BK464.out) hb)
                have n2_ := Aside0.mk (below_step (by repeat (first | (with_reducible first | exact HB.out | apply below_alloc | apply pw_below_drewN | apply below_drew1 | refine below_set ?_ GE461.out | refine below_set ?_ GE464.out) | exact HB.out)) hb)
                clear BK461
                clear BK464
                clear HB
                have BK461 := n0_
                have BK464 := n1_
                have HB := n2_
                clear n0_ n1_ n2_
                (try clear hb)
                (try clear hb2)
                (try clear hk)
                (try clear hi)
                refine hK.out _ _ ⟨(blk_cell BK464.out 0).trans rfl, (blk_cell BK464.out 1).trans rfl, (blk_cell BK464.out 2).trans rfl, (blk_cell BK464.out 3).trans rfl, (blk_cell BK461.out 0).trans rfl, (blk_cell BK461.out 1).trans rfl, ((HB.out.cell (World.block_lt_of_cell? w _ hw468_0)).trans hw468_0), ((HB.out.cell (World.block_lt_of_cell? w _ hw468_1)).trans hw468_1), ((HB.out.cell (World.block_lt_of_cell? w _ hw468_2)).trans hw468_2), ((HB.out.cell (World.block_lt_of_cell? w _ hw468_3)).trans hw468_3)⟩ (fun hHeld => ?_)
                clear hK K
                refine norm_ (a' := ?_) ?_ ?_
                rotate_left
                ·show Act.put _ (some 25) _ = _
                 simp only [Act.put, sa_, s0_, ss_, i64_w, i32_w]
                 rfl
                refine pure_ (i := 3) (N := some 26) (v := ?_) (a' := ?_) impl_SetRight.q4 rfl rfl (any_of HT_.out (by kernel_rfl)) (fun _ _ _ h => h) (Or.inl ⟨by rfl, ?_⟩) ?_ ?_
                rotate_left
                ·intro w'
                 go_simp
                 with_reducible rfl
                rotate_left
                ·simp only [Act.put, sa_, s0_, ss_, i64_w, i32_w]
                 rfl
                refine pure_ (i := 4) (N := some 27) (v := ?_) (a' := ?_) impl_SetRight.q5 rfl rfl (any_of HT_.out (by kernel_rfl)) (fun _ _ _ h => h) (Or.inl ⟨by rfl, ?_⟩) ?_ ?_
                rotate_left
                ·intro w'
                 go_simp
                 with_reducible rfl
                rotate_left
                ·simp only [Act.put, sa_, s0_, ss_, i64_w, i32_w]
                 rfl
                refine pure_ (i := 5) (N := some 28) (v := ?_) (a' := ?_) impl_SetRight.q6 rfl rfl (any_of HT_.out (by kernel_rfl)) (fun _ _ _ h => h) (Or.inl ⟨by rfl, ?_⟩) ?_ ?_
                rotate_left
                ·intro w'
                 go_simp
                 with_reducible rfl
                rotate_left
                ·simp only [Act.put, sa_, s0_, ss_, i64_w, i32_w]
                 rfl
                refine pure_ (i := 7) (N := some 30) (v := ?_) (a' := ?_) impl_SetRight.q7 rfl rfl (any_of HT_.out (by kernel_rfl)) (fun _ _ _ h => h) (Or.inl ⟨by rfl, ?_⟩) ?_ ?_
                rotate_left
                ·intro w'
                 go_simp
                 with_reducible rfl
                rotate_left
                ·simp only [Act.put, sa_, s0_, ss_, i64_w, i32_w]
                 rfl
                refine take_ (i := 6) (N := some 29) (v := ?_) (a' := ?_) impl_SetRight.q8 rfl rfl (take_ofW HT_.out HW_.out (by kernel_rfl)) (fun _ _ _ h => h) (Or.inl ⟨by rfl, ?_⟩) hHeld ?_ ?_
                rotate_left
                ·rintro w' ⟨s0, s1, s2, s3, s4, s5, s6, s7, s8, s9⟩
                 go_simp
                 with_reducible rfl
                rotate_left
                ·simp only [Act.put, sa_, s0_, ss_, i64_w, i32_w]
                 rfl
                refine take_ (i := 8) (N := some 31) (v := ?_) (a' := ?_) impl_SetRight.q9 rfl rfl (take_ofW HT_.out HW_.out (by kernel_rfl)) (fun _ _ _ h => h) (Or.inl ⟨by rfl, ?_⟩) hHeld ?_ ?_
                rotate_left
                ·rintro w' ⟨s0, s1, s2, s3, s4, s5, s6, s7, s8, s9⟩
                 go_simp
                 with_reducible rfl
                rotate_left
                ·simp only [Act.put, sa_, s0_, ss_, i64_w, i32_w]
                 rfl
                refine one_ (i := 9) (N := some 32) impl_SetRight.q10 rfl rfl (one_of HT_.out (by kernel_rfl)) (by decide) (fun K hK => ?_)
                refine goes_ Try.func110 (by kernel_rfl) rfl #[.slice A0_0 l0_0.length c0_0, .agg #[.int .i64 ((rd_T139 l0_1 x18_2).f0.f0), .int .i64 ((rd_T139 l0_1 x18_2).f0.f1)]] (by rfl) rfl rfl (by (try simp only [List.map_toArray, List.map_cons, List.map_nil]); first | done | rfl | (simp only [List.length_drop, List.length_take]; rfl)) ?_
                with_reducible refine (impl_seenHas.calls k2 _ _ l0_0 ((rd_T139 l0_1 x18_2).f0.f0) ((rd_T139 l0_1 x18_2).f0.f1) true _ ?side1 ?side2 A22.out).mono ?_
                (case side1 => repeat (first | exact (Kd.C_below HR0_0.out HB.out) | (with_reducible refine Kd.C_alloc ?_ _) | (with_reducible refine Kd.C_drewN ?_ _) | (with_reducible refine Kd.C_drew ?_)))
                (case side2 => exact HC0_0.out)
                rintro e w34 ⟨rfl, hb⟩
                refine ⟨_, rfl, ?_⟩
                have n0_ := Aside0.mk (blk_below (g := gb461) (o := .cells #[.slice A0_0 l0_0.length c0_0, .slice (some ad463) l0_1.length c0_1] 75 (0, 0)) (by (with_reducible repeat (first | refine blk_drewN ?_ _ | refine blk_drew ?_ | refine blk_alloc ?_ _)); exact BK461.out) hb)
                have n1_ := Aside0.mk (blk_below (g := gb464) (o := .cells #[.int .i64 ((rd_T139 l0_1 x18_2).f0.f0), .int .i64 ((rd_T139 l0_1 x18_2).f0.f1), .bool ((rd_T139 l0_1 x18_2).f1), .string ((rd_T139 l0_1 x18_2).f2)] 139 (0, 0)) (by (with_reducible repeat (first | refine blk_drewN ?_ _ | refine blk_drew ?_ | refine blk_alloc ?_ _)); exact BK464.out) hb)
                have n2_ := Aside0.mk (below_step (by repeat (first | (with_reducible first | exact HB.out | apply below_alloc | apply pw_below_drewN | apply below_drew1 | refine below_set ?_ GE461.out | refine below_set ?_ GE464.out) | exact HB.out)) hb)
                clear BK461
                clear BK464
                clear HB
                have BK461 := n0_
                have BK464 := n1_
                have HB := n2_
                clear n0_ n1_ n2_
                (try clear hb)
                (try clear hb2)
                (try clear hk)
                (try clear hi)
                refine hK.out _ _ ⟨(blk_cell BK464.out 0).trans rfl, (blk_cell BK464.out 1).trans rfl, (blk_cell BK464.out 2).trans rfl, (blk_cell BK464.out 3).trans rfl, (blk_cell BK461.out 0).trans rfl, (blk_cell BK461.out 1).trans rfl, ((HB.out.cell (World.block_lt_of_cell? w _ hw468_0)).trans hw468_0), ((HB.out.cell (World.block_lt_of_cell? w _ hw468_1)).trans hw468_1), ((HB.out.cell (World.block_lt_of_cell? w _ hw468_2)).trans hw468_2), ((HB.out.cell (World.block_lt_of_cell? w _ hw468_3)).trans hw468_3)⟩ (fun hHeld => ?_)
                clear hK K
                refine norm_ (a' := ?_) ?_ ?_
                rotate_left
                ·show Act.put _ (some 32) _ = _
                 simp only [Act.put, sa_, s0_, ss_, i64_w, i32_w]
                 rfl
                refine pure_ (i := 10) (N := some 33) (v := ?_) (a' := ?_) impl_SetRight.q11 rfl rfl (any_of HT_.out (by kernel_rfl)) (fun _ _ _ h => h) (Or.inl ⟨by rfl, ?_⟩) ?_ ?_
                rotate_left
                ·intro w'
                 go_simp
                 with_reducible rfl
                rotate_left
                ·simp only [Act.put, sa_, s0_, ss_, i64_w, i32_w]
                 rfl
                refine pure_ (i := 11) (N := some 34) (v := ?_) (a' := ?_) impl_SetRight.q12 rfl rfl (any_of HT_.out (by kernel_rfl)) (fun _ _ _ h => h) (Or.inl ⟨by rfl, ?_⟩) ?_ ?_
                rotate_left
                ·intro w'
                 go_simp
                 with_reducible rfl
                rotate_left
                ·simp only [Act.put, sa_, s0_, ss_, i64_w, i32_w]
                 rfl
                refine pure_ (i := 12) (N := some 35) (v := ?_) (a' := ?_) impl_SetRight.q13 rfl rfl (any_of HT_.out (by kernel_rfl)) (fun _ _ _ h => h) (Or.inl ⟨by rfl, ?_⟩) ?_ ?_
                rotate_left
                ·intro w'
                 go_simp
                 with_reducible rfl
                rotate_left
                ·simp only [Act.put, sa_, s0_, ss_, i64_w, i32_w]
                 rfl
                refine pure_ (i := 13) (N := some 36) (v := ?_) (a' := ?_) impl_SetRight.q14 rfl rfl (any_of HT_.out (by kernel_rfl)) (fun _ _ _ h => h) (Or.inl ⟨by rfl, ?_⟩) ?_ ?_
                rotate_left
                ·intro w'
                 go_simp
                 with_reducible rfl
                rotate_left
                ·simp only [Act.put, sa_, s0_, ss_, i64_w, i32_w]
                 rfl
                refine pure_ (i := 15) (N := some 38) (v := ?_) (a' := ?_) impl_SetRight.q15 rfl rfl (any_of HT_.out (by kernel_rfl)) (fun _ _ _ h => h) (Or.inl ⟨by rfl, ?_⟩) ?_ ?_
                rotate_left
                ·intro w'
                 go_simp
                 with_reducible rfl
                rotate_left
                ·simp only [Act.put, sa_, s0_, ss_, i64_w, i32_w]
                 rfl
                refine take_ (i := 14) (N := some 37) (v := ?_) (a' := ?_) impl_SetRight.q16 rfl rfl (take_ofW HT_.out HW_.out (by kernel_rfl)) (fun _ _ _ h => h) (Or.inl ⟨by rfl, ?_⟩) hHeld ?_ ?_
                rotate_left
                ·rintro w' ⟨s0, s1, s2, s3, s4, s5, s6, s7, s8, s9⟩
                 go_simp
                 with_reducible rfl
                rotate_left
                ·simp only [Act.put, sa_, s0_, ss_, i64_w, i32_w]
                 rfl
                refine take_ (i := 16) (N := some 39) (v := ?_) (a' := ?_) impl_SetRight.q17 rfl rfl (take_ofW HT_.out HW_.out (by kernel_rfl)) (fun _ _ _ h => h) (Or.inl ⟨by rfl, ?_⟩) hHeld ?_ ?_
                rotate_left
                ·rintro w' ⟨s0, s1, s2, s3, s4, s5, s6, s7, s8, s9⟩
                 go_simp
                 with_reducible rfl
                rotate_left
                ·simp only [Act.put, sa_, s0_, ss_, i64_w, i32_w]
                 rfl
                refine one_ (i := 17) (N := some 40) impl_SetRight.q18 rfl rfl (one_of HT_.out (by kernel_rfl)) (by decide) (fun K hK => ?_)
                refine goes_ Try.func111 (by kernel_rfl) rfl #[.string ((rd_T139 l0_1 x18_2).f2), .bool ((rd_T139 l0_1 x18_2).f1)] (by rfl) rfl rfl (by (try simp only [List.map_toArray, List.map_cons, List.map_nil]); first | done | rfl | (simp only [List.length_drop, List.length_take]; rfl)) ?_
                with_reducible refine (impl_isData.calls ((rd_T139 l0_1 x18_2).f2) ((rd_T139 l0_1 x18_2).f1) true _ A24.out).mono ?_
                rintro e w' ⟨rfl, ⟨nd, rfl⟩⟩
                refine ⟨_, rfl, ?_⟩
                refine hK.out _ _ ⟨(blk_cell BK464.out 0).trans rfl, (blk_cell BK464.out 1).trans rfl, (blk_cell BK464.out 2).trans rfl, (blk_cell BK464.out 3).trans rfl, (blk_cell BK461.out 0).trans rfl, (blk_cell BK461.out 1).trans rfl, ((HB.out.cell (World.block_lt_of_cell? w _ hw468_0)).trans hw468_0), ((HB.out.cell (World.block_lt_of_cell? w _ hw468_1)).trans hw468_1), ((HB.out.cell (World.block_lt_of_cell? w _ hw468_2)).trans hw468_2), ((HB.out.cell (World.block_lt_of_cell? w _ hw468_3)).trans hw468_3)⟩ (fun hHeld => ?_)
                clear hK K
                refine norm_ (a' := ?_) ?_ ?_
                rotate_left
                ·show Act.put _ (some 40) _ = _
                 simp only [Act.put, sa_, s0_, ss_, i64_w, i32_w]
                 rfl
                refine pure_ (i := 18) (N := some 41) (v := ?_) (a' := ?_) impl_SetRight.q19 rfl rfl (any_of HT_.out (by kernel_rfl)) (fun _ _ _ h => h) (Or.inl ⟨by rfl, ?_⟩) ?_ ?_
                rotate_left
                ·intro w'
                 go_simp
                 with_reducible rfl
                rotate_left
                ·simp only [Act.put, sa_, s0_, ss_, i64_w, i32_w]
                 rfl
                refine pure_ (i := 19) (N := some 42) (v := ?_) (a' := ?_) impl_SetRight.q20 rfl rfl (any_of HT_.out (by kernel_rfl)) (fun _ _ _ h => h) (Or.inl ⟨by rfl, ?_⟩) ?_ ?_
                rotate_left
                ·intro w'
                 go_simp
                 with_reducible rfl
                rotate_left
                ·simp only [Act.put, sa_, s0_, ss_, i64_w, i32_w]
                 rfl
                refine pure_ (i := 20) (N := some 43) (v := ?_) (a' := ?_) impl_SetRight.q21 rfl rfl (any_of HT_.out (by kernel_rfl)) (fun _ _ _ h => h) (Or.inl ⟨by rfl, ?_⟩) ?_ ?_
                rotate_left
                ·intro w'
                 go_simp
                 with_reducible rfl
                rotate_left
                ·simp only [Act.put, sa_, s0_, ss_, i64_w, i32_w]
                 rfl
                refine pure_ (i := 21) (N := some 44) (v := ?_) (a' := ?_) impl_SetRight.q22 rfl rfl (any_of HT_.out (by kernel_rfl)) (fun _ _ _ h => h) (Or.inl ⟨by rfl, ?_⟩) ?_ ?_
                rotate_left
                ·intro w'
                 go_simp
                 with_reducible rfl
                rotate_left
                ·simp only [Act.put, sa_, s0_, ss_, i64_w, i32_w]
                 rfl
                refine pure_ (i := 22) (N := some 45) (v := ?_) (a' := ?_) impl_SetRight.q23 rfl rfl (any_of HT_.out (by kernel_rfl)) (fun _ _ _ h => h) (Or.inl ⟨by rfl, ?_⟩) ?_ ?_
                rotate_left
                ·intro w'
                 go_simp
                 with_reducible rfl
                rotate_left
                ·simp only [Act.put, sa_, s0_, ss_, i64_w, i32_w]
                 rfl
                refine pure_ (i := 23) (N := some 46) (v := ?_) (a' := ?_) impl_SetRight.q24 rfl rfl (any_of HT_.out (by kernel_rfl)) (fun _ _ _ h => h) (Or.inl ⟨by rfl, ?_⟩) ?_ ?_
                rotate_left
                ·intro w'
                 go_simp
                 with_reducible rfl
                rotate_left
                ·simp only [Act.put, sa_, s0_, ss_, i64_w, i32_w]
                 rfl
                refine pure_ (i := 24) (N := some 47) (v := ?_) (a' := ?_) impl_SetRight.q25 rfl rfl (any_of HT_.out (by kernel_rfl)) (fun _ _ _ h => h) (Or.inl ⟨by rfl, ?_⟩) ?_ ?_
                rotate_left
                ·intro w'
                 go_simp
                 with_reducible rfl
                rotate_left
                ·simp only [Act.put, sa_, s0_, ss_, i64_w, i32_w]
                 rfl
                refine pure_ (i := 26) (N := some 49) (v := ?_) (a' := ?_) #[true, true, true, true, true, true, true, true, true, true, true, true, true, true, true, true, true, true, true, true, true, true, true, true, true, false, true, false, false, false, false, false, false, false, false, false, false] rfl rfl (any_of HT_.out (by kernel_rfl)) (fun _ _ _ h => h) (Or.inl ⟨by rfl, ?_⟩) ?_ ?_
                rotate_left
                ·intro w'
                 go_simp
                 with_reducible rfl
                rotate_left
                ·simp only [Act.put, sa_, s0_, ss_, i64_w, i32_w]
                 rfl
                refine pure_ (i := 27) (N := some 50) (v := ?_) (a' := ?_) #[true, true, true, true, true, true, true, true, true, true, true, true, true, true, true, true, true, true, true, true, true, true, true, true, true, false, true, true, false, false, false, false, false, false, false, false, false] rfl rfl (any_of HT_.out (by kernel_rfl)) (fun _ _ _ h => h) (Or.inl ⟨by rfl, ?_⟩) ?_ ?_
                rotate_left
                ·intro w'
                 go_simp
                 with_reducible rfl
                rotate_left
                ·simp only [Act.put, sa_, s0_, ss_, i64_w, i32_w]
                 rfl
                refine pure_ (i := 31) (N := some 54) (v := ?_) (a' := ?_) #[true, true, true, true, true, true, true, true, true, true, true, true, true, true, true, true, true, true, true, true, true, true, true, true, true, false, true, true, false, false, false, true, false, false, false, false, false] rfl rfl (any_of HT_.out (by kernel_rfl)) (fun _ _ _ h => h) (Or.inl ⟨by rfl, ?_⟩) ?_ ?_
                rotate_left
                ·intro w'
                 go_simp
                 with_reducible rfl
                rotate_left
                ·simp only [Act.put, sa_, s0_, ss_, i64_w, i32_w]
                 rfl
                refine take_ (i := 25) (N := some 48) (v := ?_) (a' := ?_) #[true, true, true, true, true, true, true, true, true, true, true, true, true, true, true, true, true, true, true, true, true, true, true, true, true, true, true, true, false, false, false, true, false, false, false, false, false] rfl rfl (take_ofW HT_.out HW_.out (by kernel_rfl)) (fun _ _ _ h => h) (Or.inl ⟨by rfl, ?_⟩) hHeld ?_ ?_
                rotate_left
                ·rintro w' ⟨s0, s1, s2, s3, s4, s5, s6, s7, s8, s9⟩
                 go_simp
                 with_reducible rfl
                rotate_left
                ·simp only [Act.put, sa_, s0_, ss_, i64_w, i32_w]
                 rfl
                refine pure_ (i := 28) (N := some 51) (v := ?_) (a' := ?_) #[true, true, true, true, true, true, true, true, true, true, true, true, true, true, true, true, true, true, true, true, true, true, true, true, true, true, true, true, true, false, false, true, false, false, false, false, false] rfl rfl (any_of HT_.out (by kernel_rfl)) (fun _ _ _ h => h) (Or.inl ⟨by rfl, ?_⟩) ?_ ?_
                rotate_left
                ·intro w'
                 go_simp
                 with_reducible rfl
                rotate_left
                ·simp only [Act.put, sa_, s0_, ss_, i64_w, i32_w]
                 rfl
                refine pure_ (i := 29) (N := some 52) (v := ?_) (a' := ?_) #[true, true, true, true, true, true, true, true, true, true, true, true, true, true, true, true, true, true, true, true, true, true, true, true, true, true, true, true, true, true, false, true, false, false, false, false, false] rfl rfl (any_of HT_.out (by kernel_rfl)) (fun _ _ _ h => h) (Or.inl ⟨by rfl, ?_⟩) ?_ ?_
                rotate_left
                ·intro w'
                 go_simp
                 with_reducible rfl
                rotate_left
                ·simp only [Act.put, sa_, s0_, ss_, i64_w, i32_w]
                 rfl
                refine take_ (i := 30) (N := some 53) (v := ?_) (a' := ?_) impl_SetRight.q26 rfl rfl (take_ofW HT_.out HW_.out (by kernel_rfl)) (fun _ _ _ h => h) (Or.inl ⟨by rfl, ?_⟩) hHeld ?_ ?_
                rotate_left
                ·rintro w' ⟨s0, s1, s2, s3, s4, s5, s6, s7, s8, s9⟩
                 go_simp
                 with_reducible rfl
                rotate_left
                ·simp only [Act.put, sa_, s0_, ss_, i64_w, i32_w]
                 rfl
                refine take_ (i := 32) (N := some 55) (v := ?_) (a' := ?_) impl_SetRight.q27 rfl rfl (take_ofW HT_.out HW_.out (by kernel_rfl)) (fun _ _ _ h => h) (Or.inl ⟨by rfl, ?_⟩) hHeld ?_ ?_
                rotate_left
                ·rintro w' ⟨s0, s1, s2, s3, s4, s5, s6, s7, s8, s9⟩
                 go_simp
                 with_reducible rfl
                rotate_left
                ·simp only [Act.put, sa_, s0_, ss_, i64_w, i32_w]
                 rfl
                refine one_ (i := 33) (N := some 56) impl_SetRight.q28 rfl rfl (one_of HT_.out (by kernel_rfl)) (by decide) (fun K hK => ?_)
                refine goes_ Try.func112 (by kernel_rfl) rfl #[.agg #[.int .i64 ((rd_T139 l0_1 (ji27)).f0.f0), .int .i64 ((rd_T139 l0_1 (ji27)).f0.f1)], .agg #[.int .i64 ((rd_T139 l0_1 x18_2).f0.f0), .int .i64 ((rd_T139 l0_1 x18_2).f0.f1)]] (by rfl) rfl rfl (by (try simp only [List.map_toArray, List.map_cons, List.map_nil]); first | done | (simp only [hji27]; rfl) | rfl | (simp only [List.length_drop, List.length_take]; rfl)) ?_
                with_reducible refine (impl_compareDots.calls k2 ((rd_T139 l0_1 (ji27)).f0.f0) ((rd_T139 l0_1 (ji27)).f0.f1) ((rd_T139 l0_1 x18_2).f0.f0) ((rd_T139 l0_1 x18_2).f0.f1) t469 _ A30.out).mono ?_
                rintro e w35 ⟨rfl, hb⟩
                refine ⟨_, rfl, ?_⟩
                have n0_ := Aside0.mk (blk_below (g := gb461) (o := .cells #[.slice A0_0 l0_0.length c0_0, .slice (some ad463) l0_1.length c0_1] 75 (0, 0)) (by (with_reducible repeat (first | refine blk_drewN ?_ _ | refine blk_drew ?_ | refine blk_alloc ?_ _)); exact BK461.out) hb)
                have n1_ := Aside0.mk (blk_below (g := gb464) (o := .cells #[.int .i64 ((rd_T139 l0_1 x18_2).f0.f0), .int .i64 ((rd_T139 l0_1 x18_2).f0.f1), .bool ((rd_T139 l0_1 x18_2).f1), .string ((rd_T139 l0_1 x18_2).f2)] 139 (0, 0)) (by (with_reducible repeat (first | refine blk_drewN ?_ _ | refine blk_drew ?_ | refine blk_alloc ?_ _)); exact BK464.out) hb)
                have n2_ := Aside0.mk (below_step (by repeat (first | (with_reducible first | exact HB.out | apply below_alloc | apply pw_below_drewN | apply below_drew1 | refine below_set ?_ GE461.out | refine below_set ?_ GE464.out) | exact HB.out)) hb)
                clear BK461
                clear BK464
                clear HB
                have BK461 := n0_
                have BK464 := n1_
                have HB := n2_
                clear n0_ n1_ n2_
                (try clear hb)
                (try clear hb2)
                (try clear hk)
                (try clear hi)
                refine hK.out _ _ ⟨(blk_cell BK464.out 0).trans rfl, (blk_cell BK464.out 1).trans rfl, (blk_cell BK464.out 2).trans rfl, (blk_cell BK464.out 3).trans rfl, (blk_cell BK461.out 0).trans rfl, (blk_cell BK461.out 1).trans rfl, ((HB.out.cell (World.block_lt_of_cell? w _ hw468_0)).trans hw468_0), ((HB.out.cell (World.block_lt_of_cell? w _ hw468_1)).trans hw468_1), ((HB.out.cell (World.block_lt_of_cell? w _ hw468_2)).trans hw468_2), ((HB.out.cell (World.block_lt_of_cell? w _ hw468_3)).trans hw468_3)⟩ (fun hHeld => ?_)
                clear hK K
                refine norm_ (a' := ?_) ?_ ?_
                rotate_left
                ·show Act.put _ (some 56) _ = _
                 simp only [Act.put, sa_, s0_, ss_, i64_w, i32_w]
                 rfl
                refine pure_ (i := 34) (N := some 57) (v := ?_) (a' := ?_) impl_SetRight.q29 rfl rfl (any_of HT_.out (by kernel_rfl)) (fun _ _ _ h => h) (Or.inl ⟨by rfl, ?_⟩) ?_ ?_
                rotate_left
                ·intro w'
                 go_simp
                 with_reducible rfl
                rotate_left
                ·simp only [Act.put, sa_, s0_, ss_, i64_w, i32_w]
                 rfl
                refine pure_ (i := 35) (N := some 58) (v := ?_) (a' := ?_) impl_SetRight.q30 rfl rfl (any_of HT_.out (by kernel_rfl)) (fun _ _ _ h => h) (Or.inl ⟨by rfl, ?_⟩) ?_ ?_
                rotate_left
                ·intro w'
                 go_simp
                 with_reducible rfl
                rotate_left
                ·simp only [Act.put, sa_, s0_, ss_, i64_w, i32_w]
                 rfl
                refine pure_ (i := 36) (N := some 59) (v := ?_) (a' := ?_) impl_SetRight.q31 rfl rfl (any_of HT_.out (by kernel_rfl)) (fun _ _ _ h => h) (Or.inl ⟨by rfl, ?_⟩) ?_ ?_
                rotate_left
                ·intro w'
                 go_simp
                 with_reducible rfl
                rotate_left
                ·simp only [Act.put, sa_, s0_, ss_, i64_w, i32_w]
                 rfl
                refine done_ (done_of HT_.out (by kernel_rfl)) ?_
                try go_wp2
                go_meet
                case rel => exact ⟨_, (decide (t469 ≥ 0)), (by first | rfl | (simp; done) | (simp [*]; done)), H', ⟨by have := HJ1.out; have := HK2.out; first | omega | exact Nat.le_refl _⟩, ⟨by (with_reducible repeat (first | refine blk_drewN ?_ _ | refine blk_drew ?_ | refine blk_alloc ?_ _)); exact BK461.out⟩, ⟨by (with_reducible repeat (first | refine blk_drewN ?_ _ | refine blk_drew ?_ | refine blk_alloc ?_ _)); exact BK464.out⟩, ⟨by repeat (first | (with_reducible first | exact HB.out | apply below_alloc | apply pw_below_drewN | apply below_drew1 | refine below_set ?_ GE461.out | refine below_set ?_ GE464.out) | exact HB.out)⟩⟩
               ·rw [if_neg c29] at H
                exact absurd H (by simp)
              ·rw [if_neg c28] at H
               exact absurd H (by simp)
             ·rw [if_neg c26] at H
              have c26b0 : decide (0 < x18_2) = false := decide_eq_false c26
              clear c26
              (first | rw [c26b0] | (simp only [i64_w, i32_w]; rw [c26b0]) | skip)
              have H' := Aside0.mk H
              clear H
              try go_wp2
              have n0_ : Aside0 (((((w17.setCell ⟨gb464, 0, none⟩ (.int .i64 ((rd_T139 l0_1 x18_2).f0.f0))).setCell ⟨gb464, 1, none⟩ (.int .i64 ((rd_T139 l0_1 x18_2).f0.f1))).setCell ⟨gb464, 2, none⟩ (.bool ((rd_T139 l0_1 x18_2).f1))).setCell ⟨gb464, 3, none⟩ (.string ((rd_T139 l0_1 x18_2).f2))).heap[gb461]? = some (.cells #[.slice A0_0 l0_0.length c0_0, .slice (some ad463) l0_1.length c0_1] 75 (0, 0))) := ⟨by (with_reducible repeat (first | refine blk_drewN ?_ _ | refine blk_drew ?_ | refine blk_alloc ?_ _)); refine blk_far ?_ NB461_464.out _; (with_reducible repeat (first | refine blk_drewN ?_ _ | refine blk_drew ?_ | refine blk_alloc ?_ _)); refine blk_far ?_ NB461_464.out _; (with_reducible repeat (first | refine blk_drewN ?_ _ | refine blk_drew ?_ | refine blk_alloc ?_ _)); refine blk_far ?_ NB461_464.out _; (with_reducible repeat (first | refine blk_drewN ?_ _ | refine blk_drew ?_ | refine blk_alloc ?_ _)); refine blk_far ?_ NB461_464.out _; (with_reducible repeat (first | refine blk_drewN ?_ _ | refine blk_drew ?_ | refine blk_alloc ?_ _)); exact BK461.out⟩
              have n1_ : Aside0 (((((w17.setCell ⟨gb464, 0, none⟩ (.int .i64 ((rd_T139 l0_1 x18_2).f0.f0))).setCell ⟨gb464, 1, none⟩ (.int .i64 ((rd_T139 l0_1 x18_2).f0.f1))).setCell ⟨gb464, 2, none⟩ (.bool ((rd_T139 l0_1 x18_2).f1))).setCell ⟨gb464, 3, none⟩ (.string ((rd_T139 l0_1 x18_2).f2))).heap[gb464]? = some (.cells #[.int .i64 ((rd_T139 l0_1 x18_2).f0.f0), .int .i64 ((rd_T139 l0_1 x18_2).f0.f1), .bool ((rd_T139 l0_1 x18_2).f1), .string ((rd_T139 l0_1 x18_2).f2)] 139 (0, 0))) := ⟨by (with_reducible repeat (first | refine blk_drewN ?_ _ | refine blk_drew ?_ | refine blk_alloc ?_ _)); refine blk_put (cs := #[.int .i64 ((rd_T139 l0_1 x18_2).f0.f0), .int .i64 ((rd_T139 l0_1 x18_2).f0.f1), .bool ((rd_T139 l0_1 x18_2).f1), .string (⟨#[]⟩ : ByteArray)]) ?_ 3 _ rfl; (with_reducible repeat (first | refine blk_drewN ?_ _ | refine blk_drew ?_ | refine blk_alloc ?_ _)); refine blk_put (cs := #[.int .i64 ((rd_T139 l0_1 x18_2).f0.f0), .int .i64 ((rd_T139 l0_1 x18_2).f0.f1), .bool false, .string (⟨#[]⟩ : ByteArray)]) ?_ 2 _ rfl; (with_reducible repeat (first | refine blk_drewN ?_ _ | refine blk_drew ?_ | refine blk_alloc ?_ _)); refine blk_put (cs := #[.int .i64 ((rd_T139 l0_1 x18_2).f0.f0), .int .i64 0, .bool false, .string (⟨#[]⟩ : ByteArray)]) ?_ 1 _ rfl; (with_reducible repeat (first | refine blk_drewN ?_ _ | refine blk_drew ?_ | refine blk_alloc ?_ _)); refine blk_put (cs := #[.int .i64 0, .int .i64 0, .bool false, .string (⟨#[]⟩ : ByteArray)]) ?_ 0 _ rfl; (with_reducible repeat (first | refine blk_drewN ?_ _ | refine blk_drew ?_ | refine blk_alloc ?_ _)); exact BK464.out⟩
              have n2_ : Aside0 (Below w.heap.size w ((((w17.setCell ⟨gb464, 0, none⟩ (.int .i64 ((rd_T139 l0_1 x18_2).f0.f0))).setCell ⟨gb464, 1, none⟩ (.int .i64 ((rd_T139 l0_1 x18_2).f0.f1))).setCell ⟨gb464, 2, none⟩ (.bool ((rd_T139 l0_1 x18_2).f1))).setCell ⟨gb464, 3, none⟩ (.string ((rd_T139 l0_1 x18_2).f2)))) := ⟨by repeat (first | (with_reducible first | exact HB.out | apply below_alloc | apply pw_below_drewN | apply below_drew1 | refine below_set ?_ GE461.out | refine below_set ?_ GE464.out) | exact HB.out)⟩
              (try clear BK461)
              (try clear BK464)
              (try clear HB)
              generalize ((((w17.setCell ⟨gb464, 0, none⟩ (.int .i64 ((rd_T139 l0_1 x18_2).f0.f0))).setCell ⟨gb464, 1, none⟩ (.int .i64 ((rd_T139 l0_1 x18_2).f0.f1))).setCell ⟨gb464, 2, none⟩ (.bool ((rd_T139 l0_1 x18_2).f1))).setCell ⟨gb464, 3, none⟩ (.string ((rd_T139 l0_1 x18_2).f2))) = w36 at n0_ n1_ n2_ ⊢
              have BK461 := n0_
              have BK464 := n1_
              have HB := n2_
              clear n0_ n1_ n2_
              have n0_ := Aside0.mk (blk_drew BK461.out)
              have n1_ := Aside0.mk (blk_drew BK464.out)
              have n2_ := Aside0.mk (below_drew1 HB.out)
              clear BK461
              clear BK464
              clear HB
              have BK461 := n0_
              have BK464 := n1_
              have HB := n2_
              clear n0_ n1_ n2_
              refine start_ (n := 37) (S := fun w' => w'.cell? ⟨gb464, 0, none⟩ = some (.int .i64 ((rd_T139 l0_1 x18_2).f0.f0)) ∧ w'.cell? ⟨gb464, 1, none⟩ = some (.int .i64 ((rd_T139 l0_1 x18_2).f0.f1)) ∧ w'.cell? ⟨gb464, 2, none⟩ = some (.bool ((rd_T139 l0_1 x18_2).f1)) ∧ w'.cell? ⟨gb464, 3, none⟩ = some (.string ((rd_T139 l0_1 x18_2).f2)) ∧ w'.cell? ⟨gb461, 0, none⟩ = some (.slice A0_0 l0_0.length c0_0) ∧ w'.cell? ⟨gb461, 1, none⟩ = some (.slice (some ad463) l0_1.length c0_1)) (ds := []) impl_SetRight.q0 (by kernel_rfl) rfl rfl ⟨(blk_cell BK464.out 0).trans rfl, (blk_cell BK464.out 1).trans rfl, (blk_cell BK464.out 2).trans rfl, (blk_cell BK464.out 3).trans rfl, (blk_cell BK461.out 0).trans rfl, (blk_cell BK461.out 1).trans rfl⟩ (fun hHeld => ?_); refine with_tabW impl_SetRight.tab6 impl_SetRight.bits6 (fun HT_ HW_ => ?_)
              generalize w36.drew = w37 at BK461 BK464 HB hHeld ⊢
              refine pure_ (i := 0) (N := some 23) (v := ?_) (a' := ?_) impl_SetRight.q1 rfl rfl (any_of HT_.out (by kernel_rfl)) (fun _ _ _ h => h) (Or.inl ⟨by rfl, ?_⟩) ?_ ?_
              rotate_left
              ·intro w'
               go_simp
               with_reducible rfl
              rotate_left
              ·simp only [Act.put, sa_, s0_, ss_, i64_w, i32_w]
               rfl
              refine take_ (i := 1) (N := some 24) (v := ?_) (a' := ?_) impl_SetRight.q2 rfl rfl (take_ofW HT_.out HW_.out (by kernel_rfl)) (fun _ _ _ h => h) (Or.inl ⟨by rfl, ?_⟩) hHeld ?_ ?_
              rotate_left
              ·rintro w' ⟨s0, s1, s2, s3, s4, s5⟩
               go_simp
               with_reducible rfl
              rotate_left
              ·simp only [Act.put, sa_, s0_, ss_, i64_w, i32_w]
               rfl
              refine one_ (i := 2) (N := some 25) impl_SetRight.q3 rfl rfl (one_of HT_.out (by kernel_rfl)) (by decide) (fun K hK => ?_)
              refine goes_ Try.func87 (by kernel_rfl) rfl #[.agg #[.int .i64 ((rd_T139 l0_1 x18_2).f0.f0), .int .i64 ((rd_T139 l0_1 x18_2).f0.f1)]] (by rfl) rfl rfl (by (try simp only [List.map_toArray, List.map_cons, List.map_nil]); first | done | rfl | (simp only [List.length_drop, List.length_take]; rfl)) ?_
              with_reducible refine (impl_isDot.calls ((rd_T139 l0_1 x18_2).f0.f0) ((rd_T139 l0_1 x18_2).f0.f1) true _ A20.out).mono ?_
              rintro e w38 ⟨rfl, hb⟩
              refine ⟨_, rfl, ?_⟩
              have n0_ := Aside0.mk (blk_below (g := gb461) (o := .cells #[.slice A0_0 l0_0.length c0_0, .slice (some ad463) l0_1.length c0_1] 75 (0, 0)) (by (with_reducible repeat (first | refine blk_drewN ?_ _ | refine blk_drew ?_ | refine blk_alloc ?_ _)); exact BK461.out) hb)
              have n1_ := Aside0.mk (blk_below (g := gb464) (o := .cells #[.int .i64 ((rd_T139 l0_1 x18_2).f0.f0), .int .i64 ((rd_T139 l0_1 x18_2).f0.f1), .bool ((rd_T139 l0_1 x18_2).f1), .string ((rd_T139 l0_1 x18_2).f2)] 139 (0, 0)) (by (with_reducible repeat (first | refine blk_drewN ?_ _ | refine blk_drew ?_ | refine blk_alloc ?_ _)); exact BK464.out) hb)
              have n2_ := Aside0.mk (below_step (by repeat (first | (with_reducible first | exact HB.out | apply below_alloc | apply pw_below_drewN | apply below_drew1 | refine below_set ?_ GE461.out | refine below_set ?_ GE464.out) | exact HB.out)) hb)
              clear BK461
              clear BK464
              clear HB
              have BK461 := n0_
              have BK464 := n1_
              have HB := n2_
              clear n0_ n1_ n2_
              (try clear hb)
              (try clear hb2)
              (try clear hk)
              (try clear hi)
              refine hK.out _ _ ⟨(blk_cell BK464.out 0).trans rfl, (blk_cell BK464.out 1).trans rfl, (blk_cell BK464.out 2).trans rfl, (blk_cell BK464.out 3).trans rfl, (blk_cell BK461.out 0).trans rfl, (blk_cell BK461.out 1).trans rfl⟩ (fun hHeld => ?_)
              clear hK K
              refine norm_ (a' := ?_) ?_ ?_
              rotate_left
              ·show Act.put _ (some 25) _ = _
               simp only [Act.put, sa_, s0_, ss_, i64_w, i32_w]
               rfl
              refine pure_ (i := 3) (N := some 26) (v := ?_) (a' := ?_) impl_SetRight.q4 rfl rfl (any_of HT_.out (by kernel_rfl)) (fun _ _ _ h => h) (Or.inl ⟨by rfl, ?_⟩) ?_ ?_
              rotate_left
              ·intro w'
               go_simp
               with_reducible rfl
              rotate_left
              ·simp only [Act.put, sa_, s0_, ss_, i64_w, i32_w]
               rfl
              refine pure_ (i := 4) (N := some 27) (v := ?_) (a' := ?_) impl_SetRight.q5 rfl rfl (any_of HT_.out (by kernel_rfl)) (fun _ _ _ h => h) (Or.inl ⟨by rfl, ?_⟩) ?_ ?_
              rotate_left
              ·intro w'
               go_simp
               with_reducible rfl
              rotate_left
              ·simp only [Act.put, sa_, s0_, ss_, i64_w, i32_w]
               rfl
              refine pure_ (i := 5) (N := some 28) (v := ?_) (a' := ?_) impl_SetRight.q6 rfl rfl (any_of HT_.out (by kernel_rfl)) (fun _ _ _ h => h) (Or.inl ⟨by rfl, ?_⟩) ?_ ?_
              rotate_left
              ·intro w'
               go_simp
               with_reducible rfl
              rotate_left
              ·simp only [Act.put, sa_, s0_, ss_, i64_w, i32_w]
               rfl
              refine pure_ (i := 7) (N := some 30) (v := ?_) (a' := ?_) impl_SetRight.q7 rfl rfl (any_of HT_.out (by kernel_rfl)) (fun _ _ _ h => h) (Or.inl ⟨by rfl, ?_⟩) ?_ ?_
              rotate_left
              ·intro w'
               go_simp
               with_reducible rfl
              rotate_left
              ·simp only [Act.put, sa_, s0_, ss_, i64_w, i32_w]
               rfl
              refine take_ (i := 6) (N := some 29) (v := ?_) (a' := ?_) impl_SetRight.q8 rfl rfl (take_ofW HT_.out HW_.out (by kernel_rfl)) (fun _ _ _ h => h) (Or.inl ⟨by rfl, ?_⟩) hHeld ?_ ?_
              rotate_left
              ·rintro w' ⟨s0, s1, s2, s3, s4, s5⟩
               go_simp
               with_reducible rfl
              rotate_left
              ·simp only [Act.put, sa_, s0_, ss_, i64_w, i32_w]
               rfl
              refine take_ (i := 8) (N := some 31) (v := ?_) (a' := ?_) impl_SetRight.q9 rfl rfl (take_ofW HT_.out HW_.out (by kernel_rfl)) (fun _ _ _ h => h) (Or.inl ⟨by rfl, ?_⟩) hHeld ?_ ?_
              rotate_left
              ·rintro w' ⟨s0, s1, s2, s3, s4, s5⟩
               go_simp
               with_reducible rfl
              rotate_left
              ·simp only [Act.put, sa_, s0_, ss_, i64_w, i32_w]
               rfl
              refine one_ (i := 9) (N := some 32) impl_SetRight.q10 rfl rfl (one_of HT_.out (by kernel_rfl)) (by decide) (fun K hK => ?_)
              refine goes_ Try.func110 (by kernel_rfl) rfl #[.slice A0_0 l0_0.length c0_0, .agg #[.int .i64 ((rd_T139 l0_1 x18_2).f0.f0), .int .i64 ((rd_T139 l0_1 x18_2).f0.f1)]] (by rfl) rfl rfl (by (try simp only [List.map_toArray, List.map_cons, List.map_nil]); first | done | rfl | (simp only [List.length_drop, List.length_take]; rfl)) ?_
              with_reducible refine (impl_seenHas.calls k2 _ _ l0_0 ((rd_T139 l0_1 x18_2).f0.f0) ((rd_T139 l0_1 x18_2).f0.f1) true _ ?side1 ?side2 A22.out).mono ?_
              (case side1 => repeat (first | exact (Kd.C_below HR0_0.out HB.out) | (with_reducible refine Kd.C_alloc ?_ _) | (with_reducible refine Kd.C_drewN ?_ _) | (with_reducible refine Kd.C_drew ?_)))
              (case side2 => exact HC0_0.out)
              rintro e w39 ⟨rfl, hb⟩
              refine ⟨_, rfl, ?_⟩
              have n0_ := Aside0.mk (blk_below (g := gb461) (o := .cells #[.slice A0_0 l0_0.length c0_0, .slice (some ad463) l0_1.length c0_1] 75 (0, 0)) (by (with_reducible repeat (first | refine blk_drewN ?_ _ | refine blk_drew ?_ | refine blk_alloc ?_ _)); exact BK461.out) hb)
              have n1_ := Aside0.mk (blk_below (g := gb464) (o := .cells #[.int .i64 ((rd_T139 l0_1 x18_2).f0.f0), .int .i64 ((rd_T139 l0_1 x18_2).f0.f1), .bool ((rd_T139 l0_1 x18_2).f1), .string ((rd_T139 l0_1 x18_2).f2)] 139 (0, 0)) (by (with_reducible repeat (first | refine blk_drewN ?_ _ | refine blk_drew ?_ | refine blk_alloc ?_ _)); exact BK464.out) hb)
              have n2_ := Aside0.mk (below_step (by repeat (first | (with_reducible first | exact HB.out | apply below_alloc | apply pw_below_drewN | apply below_drew1 | refine below_set ?_ GE461.out | refine below_set ?_ GE464.out) | exact HB.out)) hb)
              clear BK461
              clear BK464
              clear HB
              have BK461 := n0_
              have BK464 := n1_
              have HB := n2_
              clear n0_ n1_ n2_
              (try clear hb)
              (try clear hb2)
              (try clear hk)
              (try clear hi)
              refine hK.out _ _ ⟨(blk_cell BK464.out 0).trans rfl, (blk_cell BK464.out 1).trans rfl, (blk_cell BK464.out 2).trans rfl, (blk_cell BK464.out 3).trans rfl, (blk_cell BK461.out 0).trans rfl, (blk_cell BK461.out 1).trans rfl⟩ (fun hHeld => ?_)
              clear hK K
              refine norm_ (a' := ?_) ?_ ?_
              rotate_left
              ·show Act.put _ (some 32) _ = _
               simp only [Act.put, sa_, s0_, ss_, i64_w, i32_w]
               rfl
              refine pure_ (i := 10) (N := some 33) (v := ?_) (a' := ?_) impl_SetRight.q11 rfl rfl (any_of HT_.out (by kernel_rfl)) (fun _ _ _ h => h) (Or.inl ⟨by rfl, ?_⟩) ?_ ?_
              rotate_left
              ·intro w'
               go_simp
               with_reducible rfl
              rotate_left
              ·simp only [Act.put, sa_, s0_, ss_, i64_w, i32_w]
               rfl
              refine pure_ (i := 11) (N := some 34) (v := ?_) (a' := ?_) impl_SetRight.q12 rfl rfl (any_of HT_.out (by kernel_rfl)) (fun _ _ _ h => h) (Or.inl ⟨by rfl, ?_⟩) ?_ ?_
              rotate_left
              ·intro w'
               go_simp
               with_reducible rfl
              rotate_left
              ·simp only [Act.put, sa_, s0_, ss_, i64_w, i32_w]
               rfl
              refine pure_ (i := 12) (N := some 35) (v := ?_) (a' := ?_) impl_SetRight.q13 rfl rfl (any_of HT_.out (by kernel_rfl)) (fun _ _ _ h => h) (Or.inl ⟨by rfl, ?_⟩) ?_ ?_
              rotate_left
              ·intro w'
               go_simp
               with_reducible rfl
              rotate_left
              ·simp only [Act.put, sa_, s0_, ss_, i64_w, i32_w]
               rfl
              refine pure_ (i := 13) (N := some 36) (v := ?_) (a' := ?_) impl_SetRight.q14 rfl rfl (any_of HT_.out (by kernel_rfl)) (fun _ _ _ h => h) (Or.inl ⟨by rfl, ?_⟩) ?_ ?_
              rotate_left
              ·intro w'
               go_simp
               with_reducible rfl
              rotate_left
              ·simp only [Act.put, sa_, s0_, ss_, i64_w, i32_w]
               rfl
              refine pure_ (i := 15) (N := some 38) (v := ?_) (a' := ?_) impl_SetRight.q15 rfl rfl (any_of HT_.out (by kernel_rfl)) (fun _ _ _ h => h) (Or.inl ⟨by rfl, ?_⟩) ?_ ?_
              rotate_left
              ·intro w'
               go_simp
               with_reducible rfl
              rotate_left
              ·simp only [Act.put, sa_, s0_, ss_, i64_w, i32_w]
               rfl
              refine take_ (i := 14) (N := some 37) (v := ?_) (a' := ?_) impl_SetRight.q16 rfl rfl (take_ofW HT_.out HW_.out (by kernel_rfl)) (fun _ _ _ h => h) (Or.inl ⟨by rfl, ?_⟩) hHeld ?_ ?_
              rotate_left
              ·rintro w' ⟨s0, s1, s2, s3, s4, s5⟩
               go_simp
               with_reducible rfl
              rotate_left
              ·simp only [Act.put, sa_, s0_, ss_, i64_w, i32_w]
               rfl
              refine take_ (i := 16) (N := some 39) (v := ?_) (a' := ?_) impl_SetRight.q17 rfl rfl (take_ofW HT_.out HW_.out (by kernel_rfl)) (fun _ _ _ h => h) (Or.inl ⟨by rfl, ?_⟩) hHeld ?_ ?_
              rotate_left
              ·rintro w' ⟨s0, s1, s2, s3, s4, s5⟩
               go_simp
               with_reducible rfl
              rotate_left
              ·simp only [Act.put, sa_, s0_, ss_, i64_w, i32_w]
               rfl
              refine one_ (i := 17) (N := some 40) impl_SetRight.q18 rfl rfl (one_of HT_.out (by kernel_rfl)) (by decide) (fun K hK => ?_)
              refine goes_ Try.func111 (by kernel_rfl) rfl #[.string ((rd_T139 l0_1 x18_2).f2), .bool ((rd_T139 l0_1 x18_2).f1)] (by rfl) rfl rfl (by (try simp only [List.map_toArray, List.map_cons, List.map_nil]); first | done | rfl | (simp only [List.length_drop, List.length_take]; rfl)) ?_
              with_reducible refine (impl_isData.calls ((rd_T139 l0_1 x18_2).f2) ((rd_T139 l0_1 x18_2).f1) true _ A24.out).mono ?_
              rintro e w' ⟨rfl, ⟨nd, rfl⟩⟩
              refine ⟨_, rfl, ?_⟩
              refine hK.out _ _ ⟨(blk_cell BK464.out 0).trans rfl, (blk_cell BK464.out 1).trans rfl, (blk_cell BK464.out 2).trans rfl, (blk_cell BK464.out 3).trans rfl, (blk_cell BK461.out 0).trans rfl, (blk_cell BK461.out 1).trans rfl⟩ (fun hHeld => ?_)
              clear hK K
              refine norm_ (a' := ?_) ?_ ?_
              rotate_left
              ·show Act.put _ (some 40) _ = _
               simp only [Act.put, sa_, s0_, ss_, i64_w, i32_w]
               rfl
              refine pure_ (i := 18) (N := some 41) (v := ?_) (a' := ?_) impl_SetRight.q19 rfl rfl (any_of HT_.out (by kernel_rfl)) (fun _ _ _ h => h) (Or.inl ⟨by rfl, ?_⟩) ?_ ?_
              rotate_left
              ·intro w'
               go_simp
               with_reducible rfl
              rotate_left
              ·simp only [Act.put, sa_, s0_, ss_, i64_w, i32_w]
               rfl
              refine pure_ (i := 19) (N := some 42) (v := ?_) (a' := ?_) impl_SetRight.q20 rfl rfl (any_of HT_.out (by kernel_rfl)) (fun _ _ _ h => h) (Or.inl ⟨by rfl, ?_⟩) ?_ ?_
              rotate_left
              ·intro w'
               go_simp
               with_reducible rfl
              rotate_left
              ·simp only [Act.put, sa_, s0_, ss_, i64_w, i32_w]
               rfl
              refine pure_ (i := 20) (N := some 43) (v := ?_) (a' := ?_) impl_SetRight.q21 rfl rfl (any_of HT_.out (by kernel_rfl)) (fun _ _ _ h => h) (Or.inl ⟨by rfl, ?_⟩) ?_ ?_
              rotate_left
              ·intro w'
               go_simp
               with_reducible rfl
              rotate_left
              ·simp only [Act.put, sa_, s0_, ss_, i64_w, i32_w]
               rfl
              refine pure_ (i := 21) (N := some 44) (v := ?_) (a' := ?_) impl_SetRight.q22 rfl rfl (any_of HT_.out (by kernel_rfl)) (fun _ _ _ h => h) (Or.inl ⟨by rfl, ?_⟩) ?_ ?_
              rotate_left
              ·intro w'
               go_simp
               with_reducible rfl
              rotate_left
              ·simp only [Act.put, sa_, s0_, ss_, i64_w, i32_w]
               rfl
              refine pure_ (i := 22) (N := some 45) (v := ?_) (a' := ?_) impl_SetRight.q23 rfl rfl (any_of HT_.out (by kernel_rfl)) (fun _ _ _ h => h) (Or.inl ⟨by rfl, ?_⟩) ?_ ?_
              rotate_left
              ·intro w'
               go_simp
               with_reducible rfl
              rotate_left
              ·simp only [Act.put, sa_, s0_, ss_, i64_w, i32_w]
               rfl
              refine pure_ (i := 23) (N := some 46) (v := ?_) (a' := ?_) impl_SetRight.q24 rfl rfl (any_of HT_.out (by kernel_rfl)) (fun _ _ _ h => h) (Or.inl ⟨by rfl, ?_⟩) ?_ ?_
              rotate_left
              ·intro w'
               go_simp
               with_reducible rfl
              rotate_left
              ·simp only [Act.put, sa_, s0_, ss_, i64_w, i32_w]
               rfl
              refine pure_ (i := 24) (N := some 47) (v := undef) (a' := ?_) impl_SetRight.q25 rfl rfl (any_of HT_.out (by kernel_rfl)) (fun _ _ _ h => h) (Or.inr ⟨by rfl, rfl⟩) ?_ ?_
              rotate_left
              ·simp only [Act.put, sa_, s0_, ss_, i64_w, i32_w]
               rfl
              refine pure_ (i := 25) (N := some 48) (v := undef) (a' := ?_) impl_SetRight.q32 rfl rfl (any_of HT_.out (by kernel_rfl)) (fun _ _ _ h => h) (Or.inr ⟨by rfl, rfl⟩) ?_ ?_
              rotate_left
              ·simp only [Act.put, sa_, s0_, ss_, i64_w, i32_w]
               rfl
              refine pure_ (i := 26) (N := some 49) (v := undef) (a' := ?_) impl_SetRight.q33 rfl rfl (any_of HT_.out (by kernel_rfl)) (fun _ _ _ h => h) (Or.inr ⟨by rfl, rfl⟩) ?_ ?_
              rotate_left
              ·simp only [Act.put, sa_, s0_, ss_, i64_w, i32_w]
               rfl
              refine pure_ (i := 27) (N := some 50) (v := undef) (a' := ?_) impl_SetRight.q34 rfl rfl (any_of HT_.out (by kernel_rfl)) (fun _ _ _ h => h) (Or.inr ⟨by rfl, rfl⟩) ?_ ?_
              rotate_left
              ·simp only [Act.put, sa_, s0_, ss_, i64_w, i32_w]
               rfl
              refine pure_ (i := 28) (N := some 51) (v := undef) (a' := ?_) impl_SetRight.q35 rfl rfl (any_of HT_.out (by kernel_rfl)) (fun _ _ _ h => h) (Or.inr ⟨by rfl, rfl⟩) ?_ ?_
              rotate_left
              ·simp only [Act.put, sa_, s0_, ss_, i64_w, i32_w]
               rfl
              refine pure_ (i := 29) (N := some 52) (v := undef) (a' := ?_) impl_SetRight.q36 rfl rfl (any_of HT_.out (by kernel_rfl)) (fun _ _ _ h => h) (Or.inr ⟨by rfl, rfl⟩) ?_ ?_
              rotate_left
              ·simp only [Act.put, sa_, s0_, ss_, i64_w, i32_w]
               rfl
              refine pure_ (i := 30) (N := some 53) (v := undef) (a' := ?_) impl_SetRight.q37 rfl rfl (any_of HT_.out (by kernel_rfl)) (fun _ _ _ h => h) (Or.inr ⟨by rfl, rfl⟩) ?_ ?_
              rotate_left
              ·simp only [Act.put, sa_, s0_, ss_, i64_w, i32_w]
               rfl
              refine pure_ (i := 31) (N := some 54) (v := undef) (a' := ?_) impl_SetRight.q26 rfl rfl (any_of HT_.out (by kernel_rfl)) (fun _ _ _ h => h) (Or.inr ⟨by rfl, rfl⟩) ?_ ?_
              rotate_left
              ·simp only [Act.put, sa_, s0_, ss_, i64_w, i32_w]
               rfl
              refine pure_ (i := 32) (N := some 55) (v := undef) (a' := ?_) impl_SetRight.q27 rfl rfl (any_of HT_.out (by kernel_rfl)) (fun _ _ _ h => h) (Or.inr ⟨by rfl, rfl⟩) ?_ ?_
              rotate_left
              ·simp only [Act.put, sa_, s0_, ss_, i64_w, i32_w]
               rfl
              refine pure_ (i := 33) (N := some 56) (v := undef) (a' := ?_) impl_SetRight.q28 rfl rfl (any_of HT_.out (by kernel_rfl)) (fun _ _ _ h => h) (Or.inr ⟨by rfl, rfl⟩) ?_ ?_
              rotate_left
              ·simp only [Act.put, sa_, s0_, ss_, i64_w, i32_w]
               rfl
              refine pure_ (i := 34) (N := some 57) (v := undef) (a' := ?_) impl_SetRight.q29 rfl rfl (any_of HT_.out (by kernel_rfl)) (fun _ _ _ h => h) (Or.inr ⟨by rfl, rfl⟩) ?_ ?_
              rotate_left
              ·simp only [Act.put, sa_, s0_, ss_, i64_w, i32_w]
               rfl
              refine pure_ (i := 35) (N := some 58) (v := ?_) (a' := ?_) impl_SetRight.q30 rfl rfl (any_of HT_.out (by kernel_rfl)) (fun _ _ _ h => h) (Or.inl ⟨by rfl, ?_⟩) ?_ ?_
              rotate_left
              ·intro w'
               go_simp
               with_reducible rfl
              rotate_left
              ·simp only [Act.put, sa_, s0_, ss_, i64_w, i32_w]
               rfl
              refine pure_ (i := 36) (N := some 59) (v := ?_) (a' := ?_) impl_SetRight.q31 rfl rfl (any_of HT_.out (by kernel_rfl)) (fun _ _ _ h => h) (Or.inl ⟨by rfl, ?_⟩) ?_ ?_
              rotate_left
              ·intro w'
               go_simp
               with_reducible rfl
              rotate_left
              ·simp only [Act.put, sa_, s0_, ss_, i64_w, i32_w]
               rfl
              refine done_ (done_of HT_.out (by kernel_rfl)) ?_
              try go_wp2
              go_meet
              case rel => exact ⟨_, (false), (by first | rfl | (simp; done) | (simp [*]; done)), H', ⟨by have := HJ1.out; have := HK2.out; first | omega | exact Nat.le_refl _⟩, ⟨by (with_reducible repeat (first | refine blk_drewN ?_ _ | refine blk_drew ?_ | refine blk_alloc ?_ _)); exact BK461.out⟩, ⟨by (with_reducible repeat (first | refine blk_drewN ?_ _ | refine blk_drew ?_ | refine blk_alloc ?_ _)); exact BK464.out⟩, ⟨by repeat (first | (with_reducible first | exact HB.out | apply below_alloc | apply pw_below_drewN | apply below_drew1 | refine below_set ?_ GE461.out | refine below_set ?_ GE464.out) | exact HB.out)⟩⟩
            ·replace c25 := Bool.eq_false_iff.mpr c25
             subst c25
             have H1 : (impl_SetRight.j2 k2 l0_1 (l0_1.length : Int) x18_2 true l0_0 l0_1) = some r := by rw [if_neg (show ¬ (false = true) by decide)] at H; exact H
             clear H
             have H := H1
             clear H1
             have H' := Aside0.mk H
             clear H
             try go_wp2
             have n0_ : Aside0 (((((w17.setCell ⟨gb464, 0, none⟩ (.int .i64 ((rd_T139 l0_1 x18_2).f0.f0))).setCell ⟨gb464, 1, none⟩ (.int .i64 ((rd_T139 l0_1 x18_2).f0.f1))).setCell ⟨gb464, 2, none⟩ (.bool ((rd_T139 l0_1 x18_2).f1))).setCell ⟨gb464, 3, none⟩ (.string ((rd_T139 l0_1 x18_2).f2))).heap[gb461]? = some (.cells #[.slice A0_0 l0_0.length c0_0, .slice (some ad463) l0_1.length c0_1] 75 (0, 0))) := ⟨by (with_reducible repeat (first | refine blk_drewN ?_ _ | refine blk_drew ?_ | refine blk_alloc ?_ _)); refine blk_far ?_ NB461_464.out _; (with_reducible repeat (first | refine blk_drewN ?_ _ | refine blk_drew ?_ | refine blk_alloc ?_ _)); refine blk_far ?_ NB461_464.out _; (with_reducible repeat (first | refine blk_drewN ?_ _ | refine blk_drew ?_ | refine blk_alloc ?_ _)); refine blk_far ?_ NB461_464.out _; (with_reducible repeat (first | refine blk_drewN ?_ _ | refine blk_drew ?_ | refine blk_alloc ?_ _)); refine blk_far ?_ NB461_464.out _; (with_reducible repeat (first | refine blk_drewN ?_ _ | refine blk_drew ?_ | refine blk_alloc ?_ _)); exact BK461.out⟩
             have n1_ : Aside0 (((((w17.setCell ⟨gb464, 0, none⟩ (.int .i64 ((rd_T139 l0_1 x18_2).f0.f0))).setCell ⟨gb464, 1, none⟩ (.int .i64 ((rd_T139 l0_1 x18_2).f0.f1))).setCell ⟨gb464, 2, none⟩ (.bool ((rd_T139 l0_1 x18_2).f1))).setCell ⟨gb464, 3, none⟩ (.string ((rd_T139 l0_1 x18_2).f2))).heap[gb464]? = some (.cells #[.int .i64 ((rd_T139 l0_1 x18_2).f0.f0), .int .i64 ((rd_T139 l0_1 x18_2).f0.f1), .bool ((rd_T139 l0_1 x18_2).f1), .string ((rd_T139 l0_1 x18_2).f2)] 139 (0, 0))) := ⟨by (with_reducible repeat (first | refine blk_drewN ?_ _ | refine blk_drew ?_ | refine blk_alloc ?_ _)); refine blk_put (cs := #[.int .i64 ((rd_T139 l0_1 x18_2).f0.f0), .int .i64 ((rd_T139 l0_1 x18_2).f0.f1), .bool ((rd_T139 l0_1 x18_2).f1), .string (⟨#[]⟩ : ByteArray)]) ?_ 3 _ rfl; (with_reducible repeat (first | refine blk_drewN ?_ _ | refine blk_drew ?_ | refine blk_alloc ?_ _)); refine blk_put (cs := #[.int .i64 ((rd_T139 l0_1 x18_2).f0.f0), .int .i64 ((rd_T139 l0_1 x18_2).f0.f1), .bool false, .string (⟨#[]⟩ : ByteArray)]) ?_ 2 _ rfl; (with_reducible repeat (first | refine blk_drewN ?_ _ | refine blk_drew ?_ | refine blk_alloc ?_ _)); refine blk_put (cs := #[.int .i64 ((rd_T139 l0_1 x18_2).f0.f0), .int .i64 0, .bool false, .string (⟨#[]⟩ : ByteArray)]) ?_ 1 _ rfl; (with_reducible repeat (first | refine blk_drewN ?_ _ | refine blk_drew ?_ | refine blk_alloc ?_ _)); refine blk_put (cs := #[.int .i64 0, .int .i64 0, .bool false, .string (⟨#[]⟩ : ByteArray)]) ?_ 0 _ rfl; (with_reducible repeat (first | refine blk_drewN ?_ _ | refine blk_drew ?_ | refine blk_alloc ?_ _)); exact BK464.out⟩
             have n2_ : Aside0 (Below w.heap.size w ((((w17.setCell ⟨gb464, 0, none⟩ (.int .i64 ((rd_T139 l0_1 x18_2).f0.f0))).setCell ⟨gb464, 1, none⟩ (.int .i64 ((rd_T139 l0_1 x18_2).f0.f1))).setCell ⟨gb464, 2, none⟩ (.bool ((rd_T139 l0_1 x18_2).f1))).setCell ⟨gb464, 3, none⟩ (.string ((rd_T139 l0_1 x18_2).f2)))) := ⟨by repeat (first | (with_reducible first | exact HB.out | apply below_alloc | apply pw_below_drewN | apply below_drew1 | refine below_set ?_ GE461.out | refine below_set ?_ GE464.out) | exact HB.out)⟩
             (try clear BK461)
             (try clear BK464)
             (try clear HB)
             generalize ((((w17.setCell ⟨gb464, 0, none⟩ (.int .i64 ((rd_T139 l0_1 x18_2).f0.f0))).setCell ⟨gb464, 1, none⟩ (.int .i64 ((rd_T139 l0_1 x18_2).f0.f1))).setCell ⟨gb464, 2, none⟩ (.bool ((rd_T139 l0_1 x18_2).f1))).setCell ⟨gb464, 3, none⟩ (.string ((rd_T139 l0_1 x18_2).f2))) = w40 at n0_ n1_ n2_ ⊢
             have BK461 := n0_
             have BK464 := n1_
             have HB := n2_
             clear n0_ n1_ n2_
             have n0_ := Aside0.mk (blk_drew BK461.out)
             have n1_ := Aside0.mk (blk_drew BK464.out)
             have n2_ := Aside0.mk (below_drew1 HB.out)
             clear BK461
             clear BK464
             clear HB
             have BK461 := n0_
             have BK464 := n1_
             have HB := n2_
             clear n0_ n1_ n2_
             refine start_ (n := 37) (S := fun w' => w'.cell? ⟨gb464, 0, none⟩ = some (.int .i64 ((rd_T139 l0_1 x18_2).f0.f0)) ∧ w'.cell? ⟨gb464, 1, none⟩ = some (.int .i64 ((rd_T139 l0_1 x18_2).f0.f1)) ∧ w'.cell? ⟨gb464, 2, none⟩ = some (.bool ((rd_T139 l0_1 x18_2).f1)) ∧ w'.cell? ⟨gb464, 3, none⟩ = some (.string ((rd_T139 l0_1 x18_2).f2)) ∧ w'.cell? ⟨gb461, 0, none⟩ = some (.slice A0_0 l0_0.length c0_0) ∧ w'.cell? ⟨gb461, 1, none⟩ = some (.slice (some ad463) l0_1.length c0_1)) (ds := []) impl_SetRight.q0 (by kernel_rfl) rfl rfl ⟨(blk_cell BK464.out 0).trans rfl, (blk_cell BK464.out 1).trans rfl, (blk_cell BK464.out 2).trans rfl, (blk_cell BK464.out 3).trans rfl, (blk_cell BK461.out 0).trans rfl, (blk_cell BK461.out 1).trans rfl⟩ (fun hHeld => ?_); refine with_tabW impl_SetRight.tab6 impl_SetRight.bits6 (fun HT_ HW_ => ?_)
             generalize w40.drew = w41 at BK461 BK464 HB hHeld ⊢
             refine pure_ (i := 0) (N := some 23) (v := ?_) (a' := ?_) impl_SetRight.q1 rfl rfl (any_of HT_.out (by kernel_rfl)) (fun _ _ _ h => h) (Or.inl ⟨by rfl, ?_⟩) ?_ ?_
             rotate_left
             ·intro w'
              go_simp
              with_reducible rfl
             rotate_left
             ·simp only [Act.put, sa_, s0_, ss_, i64_w, i32_w]
              rfl
             refine take_ (i := 1) (N := some 24) (v := ?_) (a' := ?_) impl_SetRight.q2 rfl rfl (take_ofW HT_.out HW_.out (by kernel_rfl)) (fun _ _ _ h => h) (Or.inl ⟨by rfl, ?_⟩) hHeld ?_ ?_
             rotate_left
             ·rintro w' ⟨s0, s1, s2, s3, s4, s5⟩
              go_simp
              with_reducible rfl
             rotate_left
             ·simp only [Act.put, sa_, s0_, ss_, i64_w, i32_w]
              rfl
             refine one_ (i := 2) (N := some 25) impl_SetRight.q3 rfl rfl (one_of HT_.out (by kernel_rfl)) (by decide) (fun K hK => ?_)
             refine goes_ Try.func87 (by kernel_rfl) rfl #[.agg #[.int .i64 ((rd_T139 l0_1 x18_2).f0.f0), .int .i64 ((rd_T139 l0_1 x18_2).f0.f1)]] (by rfl) rfl rfl (by (try simp only [List.map_toArray, List.map_cons, List.map_nil]); first | done | rfl | (simp only [List.length_drop, List.length_take]; rfl)) ?_
             with_reducible refine (impl_isDot.calls ((rd_T139 l0_1 x18_2).f0.f0) ((rd_T139 l0_1 x18_2).f0.f1) true _ A20.out).mono ?_
             rintro e w42 ⟨rfl, hb⟩
             refine ⟨_, rfl, ?_⟩
             have n0_ := Aside0.mk (blk_below (g := gb461) (o := .cells #[.slice A0_0 l0_0.length c0_0, .slice (some ad463) l0_1.length c0_1] 75 (0, 0)) (by (with_reducible repeat (first | refine blk_drewN ?_ _ | refine blk_drew ?_ | refine blk_alloc ?_ _)); exact BK461.out) hb)
             have n1_ := Aside0.mk (blk_below (g := gb464) (o := .cells #[.int .i64 ((rd_T139 l0_1 x18_2).f0.f0), .int .i64 ((rd_T139 l0_1 x18_2).f0.f1), .bool ((rd_T139 l0_1 x18_2).f1), .string ((rd_T139 l0_1 x18_2).f2)] 139 (0, 0)) (by (with_reducible repeat (first | refine blk_drewN ?_ _ | refine blk_drew ?_ | refine blk_alloc ?_ _)); exact BK464.out) hb)
             have n2_ := Aside0.mk (below_step (by repeat (first | (with_reducible first | exact HB.out | apply below_alloc | apply pw_below_drewN | apply below_drew1 | refine below_set ?_ GE461.out | refine below_set ?_ GE464.out) | exact HB.out)) hb)
             clear BK461
             clear BK464
             clear HB
             have BK461 := n0_
             have BK464 := n1_
             have HB := n2_
             clear n0_ n1_ n2_
             (try clear hb)
             (try clear hb2)
             (try clear hk)
             (try clear hi)
             refine hK.out _ _ ⟨(blk_cell BK464.out 0).trans rfl, (blk_cell BK464.out 1).trans rfl, (blk_cell BK464.out 2).trans rfl, (blk_cell BK464.out 3).trans rfl, (blk_cell BK461.out 0).trans rfl, (blk_cell BK461.out 1).trans rfl⟩ (fun hHeld => ?_)
             clear hK K
             refine norm_ (a' := ?_) ?_ ?_
             rotate_left
             ·show Act.put _ (some 25) _ = _
              simp only [Act.put, sa_, s0_, ss_, i64_w, i32_w]
              rfl
             refine pure_ (i := 3) (N := some 26) (v := ?_) (a' := ?_) impl_SetRight.q4 rfl rfl (any_of HT_.out (by kernel_rfl)) (fun _ _ _ h => h) (Or.inl ⟨by rfl, ?_⟩) ?_ ?_
             rotate_left
             ·intro w'
              go_simp
              with_reducible rfl
             rotate_left
             ·simp only [Act.put, sa_, s0_, ss_, i64_w, i32_w]
              rfl
             refine pure_ (i := 4) (N := some 27) (v := ?_) (a' := ?_) impl_SetRight.q5 rfl rfl (any_of HT_.out (by kernel_rfl)) (fun _ _ _ h => h) (Or.inl ⟨by rfl, ?_⟩) ?_ ?_
             rotate_left
             ·intro w'
              go_simp
              with_reducible rfl
             rotate_left
             ·simp only [Act.put, sa_, s0_, ss_, i64_w, i32_w]
              rfl
             refine pure_ (i := 5) (N := some 28) (v := ?_) (a' := ?_) impl_SetRight.q6 rfl rfl (any_of HT_.out (by kernel_rfl)) (fun _ _ _ h => h) (Or.inl ⟨by rfl, ?_⟩) ?_ ?_
             rotate_left
             ·intro w'
              go_simp
              with_reducible rfl
             rotate_left
             ·simp only [Act.put, sa_, s0_, ss_, i64_w, i32_w]
              rfl
             refine pure_ (i := 7) (N := some 30) (v := ?_) (a' := ?_) impl_SetRight.q7 rfl rfl (any_of HT_.out (by kernel_rfl)) (fun _ _ _ h => h) (Or.inl ⟨by rfl, ?_⟩) ?_ ?_
             rotate_left
             ·intro w'
              go_simp
              with_reducible rfl
             rotate_left
             ·simp only [Act.put, sa_, s0_, ss_, i64_w, i32_w]
              rfl
             refine take_ (i := 6) (N := some 29) (v := ?_) (a' := ?_) impl_SetRight.q8 rfl rfl (take_ofW HT_.out HW_.out (by kernel_rfl)) (fun _ _ _ h => h) (Or.inl ⟨by rfl, ?_⟩) hHeld ?_ ?_
             rotate_left
             ·rintro w' ⟨s0, s1, s2, s3, s4, s5⟩
              go_simp
              with_reducible rfl
             rotate_left
             ·simp only [Act.put, sa_, s0_, ss_, i64_w, i32_w]
              rfl
             refine take_ (i := 8) (N := some 31) (v := ?_) (a' := ?_) impl_SetRight.q9 rfl rfl (take_ofW HT_.out HW_.out (by kernel_rfl)) (fun _ _ _ h => h) (Or.inl ⟨by rfl, ?_⟩) hHeld ?_ ?_
             rotate_left
             ·rintro w' ⟨s0, s1, s2, s3, s4, s5⟩
              go_simp
              with_reducible rfl
             rotate_left
             ·simp only [Act.put, sa_, s0_, ss_, i64_w, i32_w]
              rfl
             refine one_ (i := 9) (N := some 32) impl_SetRight.q10 rfl rfl (one_of HT_.out (by kernel_rfl)) (by decide) (fun K hK => ?_)
             refine goes_ Try.func110 (by kernel_rfl) rfl #[.slice A0_0 l0_0.length c0_0, .agg #[.int .i64 ((rd_T139 l0_1 x18_2).f0.f0), .int .i64 ((rd_T139 l0_1 x18_2).f0.f1)]] (by rfl) rfl rfl (by (try simp only [List.map_toArray, List.map_cons, List.map_nil]); first | done | rfl | (simp only [List.length_drop, List.length_take]; rfl)) ?_
             with_reducible refine (impl_seenHas.calls k2 _ _ l0_0 ((rd_T139 l0_1 x18_2).f0.f0) ((rd_T139 l0_1 x18_2).f0.f1) true _ ?side1 ?side2 A22.out).mono ?_
             (case side1 => repeat (first | exact (Kd.C_below HR0_0.out HB.out) | (with_reducible refine Kd.C_alloc ?_ _) | (with_reducible refine Kd.C_drewN ?_ _) | (with_reducible refine Kd.C_drew ?_)))
             (case side2 => exact HC0_0.out)
             rintro e w43 ⟨rfl, hb⟩
             refine ⟨_, rfl, ?_⟩
             have n0_ := Aside0.mk (blk_below (g := gb461) (o := .cells #[.slice A0_0 l0_0.length c0_0, .slice (some ad463) l0_1.length c0_1] 75 (0, 0)) (by (with_reducible repeat (first | refine blk_drewN ?_ _ | refine blk_drew ?_ | refine blk_alloc ?_ _)); exact BK461.out) hb)
             have n1_ := Aside0.mk (blk_below (g := gb464) (o := .cells #[.int .i64 ((rd_T139 l0_1 x18_2).f0.f0), .int .i64 ((rd_T139 l0_1 x18_2).f0.f1), .bool ((rd_T139 l0_1 x18_2).f1), .string ((rd_T139 l0_1 x18_2).f2)] 139 (0, 0)) (by (with_reducible repeat (first | refine blk_drewN ?_ _ | refine blk_drew ?_ | refine blk_alloc ?_ _)); exact BK464.out) hb)
             have n2_ := Aside0.mk (below_step (by repeat (first | (with_reducible first | exact HB.out | apply below_alloc | apply pw_below_drewN | apply below_drew1 | refine below_set ?_ GE461.out | refine below_set ?_ GE464.out) | exact HB.out)) hb)
             clear BK461
             clear BK464
             clear HB
             have BK461 := n0_
             have BK464 := n1_
             have HB := n2_
             clear n0_ n1_ n2_
             (try clear hb)
             (try clear hb2)
             (try clear hk)
             (try clear hi)
             refine hK.out _ _ ⟨(blk_cell BK464.out 0).trans rfl, (blk_cell BK464.out 1).trans rfl, (blk_cell BK464.out 2).trans rfl, (blk_cell BK464.out 3).trans rfl, (blk_cell BK461.out 0).trans rfl, (blk_cell BK461.out 1).trans rfl⟩ (fun hHeld => ?_)
             clear hK K
             refine norm_ (a' := ?_) ?_ ?_
             rotate_left
             ·show Act.put _ (some 32) _ = _
              simp only [Act.put, sa_, s0_, ss_, i64_w, i32_w]
              rfl
             refine pure_ (i := 10) (N := some 33) (v := ?_) (a' := ?_) impl_SetRight.q11 rfl rfl (any_of HT_.out (by kernel_rfl)) (fun _ _ _ h => h) (Or.inl ⟨by rfl, ?_⟩) ?_ ?_
             rotate_left
             ·intro w'
              go_simp
              with_reducible rfl
             rotate_left
             ·simp only [Act.put, sa_, s0_, ss_, i64_w, i32_w]
              rfl
             refine pure_ (i := 11) (N := some 34) (v := ?_) (a' := ?_) impl_SetRight.q12 rfl rfl (any_of HT_.out (by kernel_rfl)) (fun _ _ _ h => h) (Or.inl ⟨by rfl, ?_⟩) ?_ ?_
             rotate_left
             ·intro w'
              go_simp
              with_reducible rfl
             rotate_left
             ·simp only [Act.put, sa_, s0_, ss_, i64_w, i32_w]
              rfl
             refine pure_ (i := 12) (N := some 35) (v := ?_) (a' := ?_) impl_SetRight.q13 rfl rfl (any_of HT_.out (by kernel_rfl)) (fun _ _ _ h => h) (Or.inl ⟨by rfl, ?_⟩) ?_ ?_
             rotate_left
             ·intro w'
              go_simp
              with_reducible rfl
             rotate_left
             ·simp only [Act.put, sa_, s0_, ss_, i64_w, i32_w]
              rfl
             refine pure_ (i := 13) (N := some 36) (v := ?_) (a' := ?_) impl_SetRight.q14 rfl rfl (any_of HT_.out (by kernel_rfl)) (fun _ _ _ h => h) (Or.inl ⟨by rfl, ?_⟩) ?_ ?_
             rotate_left
             ·intro w'
              go_simp
              with_reducible rfl
             rotate_left
             ·simp only [Act.put, sa_, s0_, ss_, i64_w, i32_w]
              rfl
             refine pure_ (i := 15) (N := some 38) (v := ?_) (a' := ?_) impl_SetRight.q15 rfl rfl (any_of HT_.out (by kernel_rfl)) (fun _ _ _ h => h) (Or.inl ⟨by rfl, ?_⟩) ?_ ?_
             rotate_left
             ·intro w'
              go_simp
              with_reducible rfl
             rotate_left
             ·simp only [Act.put, sa_, s0_, ss_, i64_w, i32_w]
              rfl
             refine take_ (i := 14) (N := some 37) (v := ?_) (a' := ?_) impl_SetRight.q16 rfl rfl (take_ofW HT_.out HW_.out (by kernel_rfl)) (fun _ _ _ h => h) (Or.inl ⟨by rfl, ?_⟩) hHeld ?_ ?_
             rotate_left
             ·rintro w' ⟨s0, s1, s2, s3, s4, s5⟩
              go_simp
              with_reducible rfl
             rotate_left
             ·simp only [Act.put, sa_, s0_, ss_, i64_w, i32_w]
              rfl
             refine take_ (i := 16) (N := some 39) (v := ?_) (a' := ?_) impl_SetRight.q17 rfl rfl (take_ofW HT_.out HW_.out (by kernel_rfl)) (fun _ _ _ h => h) (Or.inl ⟨by rfl, ?_⟩) hHeld ?_ ?_
             rotate_left
             ·rintro w' ⟨s0, s1, s2, s3, s4, s5⟩
              go_simp
              with_reducible rfl
             rotate_left
             ·simp only [Act.put, sa_, s0_, ss_, i64_w, i32_w]
              rfl
             refine one_ (i := 17) (N := some 40) impl_SetRight.q18 rfl rfl (one_of HT_.out (by kernel_rfl)) (by decide) (fun K hK => ?_)
             refine goes_ Try.func111 (by kernel_rfl) rfl #[.string ((rd_T139 l0_1 x18_2).f2), .bool ((rd_T139 l0_1 x18_2).f1)] (by rfl) rfl rfl (by (try simp only [List.map_toArray, List.map_cons, List.map_nil]); first | done | rfl | (simp only [List.length_drop, List.length_take]; rfl)) ?_
             with_reducible refine (impl_isData.calls ((rd_T139 l0_1 x18_2).f2) ((rd_T139 l0_1 x18_2).f1) false _ A24.out).mono ?_
             rintro e w' ⟨rfl, ⟨nd, rfl⟩⟩
             refine ⟨_, rfl, ?_⟩
             refine hK.out _ _ ⟨(blk_cell BK464.out 0).trans rfl, (blk_cell BK464.out 1).trans rfl, (blk_cell BK464.out 2).trans rfl, (blk_cell BK464.out 3).trans rfl, (blk_cell BK461.out 0).trans rfl, (blk_cell BK461.out 1).trans rfl⟩ (fun hHeld => ?_)
             clear hK K
             refine norm_ (a' := ?_) ?_ ?_
             rotate_left
             ·show Act.put _ (some 40) _ = _
              simp only [Act.put, sa_, s0_, ss_, i64_w, i32_w]
              rfl
             refine pure_ (i := 18) (N := some 41) (v := ?_) (a' := ?_) impl_SetRight.q19 rfl rfl (any_of HT_.out (by kernel_rfl)) (fun _ _ _ h => h) (Or.inl ⟨by rfl, ?_⟩) ?_ ?_
             rotate_left
             ·intro w'
              go_simp
              with_reducible rfl
             rotate_left
             ·simp only [Act.put, sa_, s0_, ss_, i64_w, i32_w]
              rfl
             refine pure_ (i := 19) (N := some 42) (v := ?_) (a' := ?_) impl_SetRight.q20 rfl rfl (any_of HT_.out (by kernel_rfl)) (fun _ _ _ h => h) (Or.inl ⟨by rfl, ?_⟩) ?_ ?_
             rotate_left
             ·intro w'
              go_simp
              with_reducible rfl
             rotate_left
             ·simp only [Act.put, sa_, s0_, ss_, i64_w, i32_w]
              rfl
             refine pure_ (i := 20) (N := some 43) (v := ?_) (a' := ?_) impl_SetRight.q21 rfl rfl (any_of HT_.out (by kernel_rfl)) (fun _ _ _ h => h) (Or.inl ⟨by rfl, ?_⟩) ?_ ?_
             rotate_left
             ·intro w'
              go_simp
              with_reducible rfl
             rotate_left
             ·simp only [Act.put, sa_, s0_, ss_, i64_w, i32_w]
              rfl
             refine pure_ (i := 21) (N := some 44) (v := undef) (a' := ?_) impl_SetRight.q22 rfl rfl (any_of HT_.out (by kernel_rfl)) (fun _ _ _ h => h) (Or.inr ⟨by rfl, rfl⟩) ?_ ?_
             rotate_left
             ·simp only [Act.put, sa_, s0_, ss_, i64_w, i32_w]
              rfl
             refine pure_ (i := 22) (N := some 45) (v := undef) (a' := ?_) impl_SetRight.q23 rfl rfl (any_of HT_.out (by kernel_rfl)) (fun _ _ _ h => h) (Or.inr ⟨by rfl, rfl⟩) ?_ ?_
             rotate_left
             ·simp only [Act.put, sa_, s0_, ss_, i64_w, i32_w]
              rfl
             refine pure_ (i := 23) (N := some 46) (v := undef) (a' := ?_) impl_SetRight.q24 rfl rfl (any_of HT_.out (by kernel_rfl)) (fun _ _ _ h => h) (Or.inr ⟨by rfl, rfl⟩) ?_ ?_
             rotate_left
             ·simp only [Act.put, sa_, s0_, ss_, i64_w, i32_w]
              rfl
             refine pure_ (i := 24) (N := some 47) (v := undef) (a' := ?_) impl_SetRight.q25 rfl rfl (any_of HT_.out (by kernel_rfl)) (fun _ _ _ h => h) (Or.inr ⟨by rfl, rfl⟩) ?_ ?_
             rotate_left
             ·simp only [Act.put, sa_, s0_, ss_, i64_w, i32_w]
              rfl
             refine pure_ (i := 25) (N := some 48) (v := undef) (a' := ?_) impl_SetRight.q32 rfl rfl (any_of HT_.out (by kernel_rfl)) (fun _ _ _ h => h) (Or.inr ⟨by rfl, rfl⟩) ?_ ?_
             rotate_left
             ·simp only [Act.put, sa_, s0_, ss_, i64_w, i32_w]
              rfl
             refine pure_ (i := 26) (N := some 49) (v := undef) (a' := ?_) impl_SetRight.q33 rfl rfl (any_of HT_.out (by kernel_rfl)) (fun _ _ _ h => h) (Or.inr ⟨by rfl, rfl⟩) ?_ ?_
             rotate_left
             ·simp only [Act.put, sa_, s0_, ss_, i64_w, i32_w]
              rfl
             refine pure_ (i := 27) (N := some 50) (v := undef) (a' := ?_) impl_SetRight.q34 rfl rfl (any_of HT_.out (by kernel_rfl)) (fun _ _ _ h => h) (Or.inr ⟨by rfl, rfl⟩) ?_ ?_
             rotate_left
             ·simp only [Act.put, sa_, s0_, ss_, i64_w, i32_w]
              rfl
             refine pure_ (i := 28) (N := some 51) (v := undef) (a' := ?_) impl_SetRight.q35 rfl rfl (any_of HT_.out (by kernel_rfl)) (fun _ _ _ h => h) (Or.inr ⟨by rfl, rfl⟩) ?_ ?_
             rotate_left
             ·simp only [Act.put, sa_, s0_, ss_, i64_w, i32_w]
              rfl
             refine pure_ (i := 29) (N := some 52) (v := undef) (a' := ?_) impl_SetRight.q36 rfl rfl (any_of HT_.out (by kernel_rfl)) (fun _ _ _ h => h) (Or.inr ⟨by rfl, rfl⟩) ?_ ?_
             rotate_left
             ·simp only [Act.put, sa_, s0_, ss_, i64_w, i32_w]
              rfl
             refine pure_ (i := 30) (N := some 53) (v := undef) (a' := ?_) impl_SetRight.q37 rfl rfl (any_of HT_.out (by kernel_rfl)) (fun _ _ _ h => h) (Or.inr ⟨by rfl, rfl⟩) ?_ ?_
             rotate_left
             ·simp only [Act.put, sa_, s0_, ss_, i64_w, i32_w]
              rfl
             refine pure_ (i := 31) (N := some 54) (v := undef) (a' := ?_) impl_SetRight.q26 rfl rfl (any_of HT_.out (by kernel_rfl)) (fun _ _ _ h => h) (Or.inr ⟨by rfl, rfl⟩) ?_ ?_
             rotate_left
             ·simp only [Act.put, sa_, s0_, ss_, i64_w, i32_w]
              rfl
             refine pure_ (i := 32) (N := some 55) (v := undef) (a' := ?_) impl_SetRight.q27 rfl rfl (any_of HT_.out (by kernel_rfl)) (fun _ _ _ h => h) (Or.inr ⟨by rfl, rfl⟩) ?_ ?_
             rotate_left
             ·simp only [Act.put, sa_, s0_, ss_, i64_w, i32_w]
              rfl
             refine pure_ (i := 33) (N := some 56) (v := undef) (a' := ?_) impl_SetRight.q28 rfl rfl (any_of HT_.out (by kernel_rfl)) (fun _ _ _ h => h) (Or.inr ⟨by rfl, rfl⟩) ?_ ?_
             rotate_left
             ·simp only [Act.put, sa_, s0_, ss_, i64_w, i32_w]
              rfl
             refine pure_ (i := 34) (N := some 57) (v := undef) (a' := ?_) impl_SetRight.q29 rfl rfl (any_of HT_.out (by kernel_rfl)) (fun _ _ _ h => h) (Or.inr ⟨by rfl, rfl⟩) ?_ ?_
             rotate_left
             ·simp only [Act.put, sa_, s0_, ss_, i64_w, i32_w]
              rfl
             refine pure_ (i := 35) (N := some 58) (v := undef) (a' := ?_) impl_SetRight.q30 rfl rfl (any_of HT_.out (by kernel_rfl)) (fun _ _ _ h => h) (Or.inr ⟨by rfl, rfl⟩) ?_ ?_
             rotate_left
             ·simp only [Act.put, sa_, s0_, ss_, i64_w, i32_w]
              rfl
             refine pure_ (i := 36) (N := some 59) (v := ?_) (a' := ?_) impl_SetRight.q31 rfl rfl (any_of HT_.out (by kernel_rfl)) (fun _ _ _ h => h) (Or.inl ⟨by rfl, ?_⟩) ?_ ?_
             rotate_left
             ·intro w'
              go_simp
              with_reducible rfl
             rotate_left
             ·simp only [Act.put, sa_, s0_, ss_, i64_w, i32_w]
              rfl
             refine done_ (done_of HT_.out (by kernel_rfl)) ?_
             try go_wp2
             go_meet
             case rel => exact ⟨_, (true), (by first | rfl | (simp; done) | (simp [*]; done)), H', ⟨by have := HJ1.out; have := HK2.out; first | omega | exact Nat.le_refl _⟩, ⟨by (with_reducible repeat (first | refine blk_drewN ?_ _ | refine blk_drew ?_ | refine blk_alloc ?_ _)); exact BK461.out⟩, ⟨by (with_reducible repeat (first | refine blk_drewN ?_ _ | refine blk_drew ?_ | refine blk_alloc ?_ _)); exact BK464.out⟩, ⟨by repeat (first | (with_reducible first | exact HB.out | apply below_alloc | apply pw_below_drewN | apply below_drew1 | refine below_set ?_ GE461.out | refine below_set ?_ GE464.out) | exact HB.out)⟩⟩
           ·replace c23 := Bool.eq_false_iff.mpr c23
            subst c23
            have H1 : (impl_SetRight.j2 k2 l0_1 (l0_1.length : Int) x18_2 true l0_0 l0_1) = some r := by rw [if_neg (show ¬ (false = true) by decide)] at H; exact H
            clear H
            have H := H1
            clear H1
            have H' := Aside0.mk H
            clear H
            try go_wp2
            have n0_ : Aside0 (((((w17.setCell ⟨gb464, 0, none⟩ (.int .i64 ((rd_T139 l0_1 x18_2).f0.f0))).setCell ⟨gb464, 1, none⟩ (.int .i64 ((rd_T139 l0_1 x18_2).f0.f1))).setCell ⟨gb464, 2, none⟩ (.bool ((rd_T139 l0_1 x18_2).f1))).setCell ⟨gb464, 3, none⟩ (.string ((rd_T139 l0_1 x18_2).f2))).heap[gb461]? = some (.cells #[.slice A0_0 l0_0.length c0_0, .slice (some ad463) l0_1.length c0_1] 75 (0, 0))) := ⟨by (with_reducible repeat (first | refine blk_drewN ?_ _ | refine blk_drew ?_ | refine blk_alloc ?_ _)); refine blk_far ?_ NB461_464.out _; (with_reducible repeat (first | refine blk_drewN ?_ _ | refine blk_drew ?_ | refine blk_alloc ?_ _)); refine blk_far ?_ NB461_464.out _; (with_reducible repeat (first | refine blk_drewN ?_ _ | refine blk_drew ?_ | refine blk_alloc ?_ _)); refine blk_far ?_ NB461_464.out _; (with_reducible repeat (first | refine blk_drewN ?_ _ | refine blk_drew ?_ | refine blk_alloc ?_ _)); refine blk_far ?_ NB461_464.out _; (with_reducible repeat (first | refine blk_drewN ?_ _ | refine blk_drew ?_ | refine blk_alloc ?_ _)); exact BK461.out⟩
            have n1_ : Aside0 (((((w17.setCell ⟨gb464, 0, none⟩ (.int .i64 ((rd_T139 l0_1 x18_2).f0.f0))).setCell ⟨gb464, 1, none⟩ (.int .i64 ((rd_T139 l0_1 x18_2).f0.f1))).setCell ⟨gb464, 2, none⟩ (.bool ((rd_T139 l0_1 x18_2).f1))).setCell ⟨gb464, 3, none⟩ (.string ((rd_T139 l0_1 x18_2).f2))).heap[gb464]? = some (.cells #[.int .i64 ((rd_T139 l0_1 x18_2).f0.f0), .int .i64 ((rd_T139 l0_1 x18_2).f0.f1), .bool ((rd_T139 l0_1 x18_2).f1), .string ((rd_T139 l0_1 x18_2).f2)] 139 (0, 0))) := ⟨by (with_reducible repeat (first | refine blk_drewN ?_ _ | refine blk_drew ?_ | refine blk_alloc ?_ _)); refine blk_put (cs := #[.int .i64 ((rd_T139 l0_1 x18_2).f0.f0), .int .i64 ((rd_T139 l0_1 x18_2).f0.f1), .bool ((rd_T139 l0_1 x18_2).f1), .string (⟨#[]⟩ : ByteArray)]) ?_ 3 _ rfl; (with_reducible repeat (first | refine blk_drewN ?_ _ | refine blk_drew ?_ | refine blk_alloc ?_ _)); refine blk_put (cs := #[.int .i64 ((rd_T139 l0_1 x18_2).f0.f0), .int .i64 ((rd_T139 l0_1 x18_2).f0.f1), .bool false, .string (⟨#[]⟩ : ByteArray)]) ?_ 2 _ rfl; (with_reducible repeat (first | refine blk_drewN ?_ _ | refine blk_drew ?_ | refine blk_alloc ?_ _)); refine blk_put (cs := #[.int .i64 ((rd_T139 l0_1 x18_2).f0.f0), .int .i64 0, .bool false, .string (⟨#[]⟩ : ByteArray)]) ?_ 1 _ rfl; (with_reducible repeat (first | refine blk_drewN ?_ _ | refine blk_drew ?_ | refine blk_alloc ?_ _)); refine blk_put (cs := #[.int .i64 0, .int .i64 0, .bool false, .string (⟨#[]⟩ : ByteArray)]) ?_ 0 _ rfl; (with_reducible repeat (first | refine blk_drewN ?_ _ | refine blk_drew ?_ | refine blk_alloc ?_ _)); exact BK464.out⟩
            have n2_ : Aside0 (Below w.heap.size w ((((w17.setCell ⟨gb464, 0, none⟩ (.int .i64 ((rd_T139 l0_1 x18_2).f0.f0))).setCell ⟨gb464, 1, none⟩ (.int .i64 ((rd_T139 l0_1 x18_2).f0.f1))).setCell ⟨gb464, 2, none⟩ (.bool ((rd_T139 l0_1 x18_2).f1))).setCell ⟨gb464, 3, none⟩ (.string ((rd_T139 l0_1 x18_2).f2)))) := ⟨by repeat (first | (with_reducible first | exact HB.out | apply below_alloc | apply pw_below_drewN | apply below_drew1 | refine below_set ?_ GE461.out | refine below_set ?_ GE464.out) | exact HB.out)⟩
            (try clear BK461)
            (try clear BK464)
            (try clear HB)
            generalize ((((w17.setCell ⟨gb464, 0, none⟩ (.int .i64 ((rd_T139 l0_1 x18_2).f0.f0))).setCell ⟨gb464, 1, none⟩ (.int .i64 ((rd_T139 l0_1 x18_2).f0.f1))).setCell ⟨gb464, 2, none⟩ (.bool ((rd_T139 l0_1 x18_2).f1))).setCell ⟨gb464, 3, none⟩ (.string ((rd_T139 l0_1 x18_2).f2))) = w44 at n0_ n1_ n2_ ⊢
            have BK461 := n0_
            have BK464 := n1_
            have HB := n2_
            clear n0_ n1_ n2_
            have n0_ := Aside0.mk (blk_drew BK461.out)
            have n1_ := Aside0.mk (blk_drew BK464.out)
            have n2_ := Aside0.mk (below_drew1 HB.out)
            clear BK461
            clear BK464
            clear HB
            have BK461 := n0_
            have BK464 := n1_
            have HB := n2_
            clear n0_ n1_ n2_
            refine start_ (n := 37) (S := fun w' => w'.cell? ⟨gb464, 0, none⟩ = some (.int .i64 ((rd_T139 l0_1 x18_2).f0.f0)) ∧ w'.cell? ⟨gb464, 1, none⟩ = some (.int .i64 ((rd_T139 l0_1 x18_2).f0.f1)) ∧ w'.cell? ⟨gb464, 2, none⟩ = some (.bool ((rd_T139 l0_1 x18_2).f1)) ∧ w'.cell? ⟨gb464, 3, none⟩ = some (.string ((rd_T139 l0_1 x18_2).f2)) ∧ w'.cell? ⟨gb461, 0, none⟩ = some (.slice A0_0 l0_0.length c0_0) ∧ w'.cell? ⟨gb461, 1, none⟩ = some (.slice (some ad463) l0_1.length c0_1)) (ds := []) impl_SetRight.q0 (by kernel_rfl) rfl rfl ⟨(blk_cell BK464.out 0).trans rfl, (blk_cell BK464.out 1).trans rfl, (blk_cell BK464.out 2).trans rfl, (blk_cell BK464.out 3).trans rfl, (blk_cell BK461.out 0).trans rfl, (blk_cell BK461.out 1).trans rfl⟩ (fun hHeld => ?_); refine with_tabW impl_SetRight.tab6 impl_SetRight.bits6 (fun HT_ HW_ => ?_)
            generalize w44.drew = w45 at BK461 BK464 HB hHeld ⊢
            refine pure_ (i := 0) (N := some 23) (v := ?_) (a' := ?_) impl_SetRight.q1 rfl rfl (any_of HT_.out (by kernel_rfl)) (fun _ _ _ h => h) (Or.inl ⟨by rfl, ?_⟩) ?_ ?_
            rotate_left
            ·intro w'
             go_simp
             with_reducible rfl
            rotate_left
            ·simp only [Act.put, sa_, s0_, ss_, i64_w, i32_w]
             rfl
            refine take_ (i := 1) (N := some 24) (v := ?_) (a' := ?_) impl_SetRight.q2 rfl rfl (take_ofW HT_.out HW_.out (by kernel_rfl)) (fun _ _ _ h => h) (Or.inl ⟨by rfl, ?_⟩) hHeld ?_ ?_
            rotate_left
            ·rintro w' ⟨s0, s1, s2, s3, s4, s5⟩
             go_simp
             with_reducible rfl
            rotate_left
            ·simp only [Act.put, sa_, s0_, ss_, i64_w, i32_w]
             rfl
            refine one_ (i := 2) (N := some 25) impl_SetRight.q3 rfl rfl (one_of HT_.out (by kernel_rfl)) (by decide) (fun K hK => ?_)
            refine goes_ Try.func87 (by kernel_rfl) rfl #[.agg #[.int .i64 ((rd_T139 l0_1 x18_2).f0.f0), .int .i64 ((rd_T139 l0_1 x18_2).f0.f1)]] (by rfl) rfl rfl (by (try simp only [List.map_toArray, List.map_cons, List.map_nil]); first | done | rfl | (simp only [List.length_drop, List.length_take]; rfl)) ?_
            with_reducible refine (impl_isDot.calls ((rd_T139 l0_1 x18_2).f0.f0) ((rd_T139 l0_1 x18_2).f0.f1) true _ A20.out).mono ?_
            rintro e w46 ⟨rfl, hb⟩
            refine ⟨_, rfl, ?_⟩
            have n0_ := Aside0.mk (blk_below (g := gb461) (o := .cells #[.slice A0_0 l0_0.length c0_0, .slice (some ad463) l0_1.length c0_1] 75 (0, 0)) (by (with_reducible repeat (first | refine blk_drewN ?_ _ | refine blk_drew ?_ | refine blk_alloc ?_ _)); exact BK461.out) hb)
            have n1_ := Aside0.mk (blk_below (g := gb464) (o := .cells #[.int .i64 ((rd_T139 l0_1 x18_2).f0.f0), .int .i64 ((rd_T139 l0_1 x18_2).f0.f1), .bool ((rd_T139 l0_1 x18_2).f1), .string ((rd_T139 l0_1 x18_2).f2)] 139 (0, 0)) (by (with_reducible repeat (first | refine blk_drewN ?_ _ | refine blk_drew ?_ | refine blk_alloc ?_ _)); exact BK464.out) hb)
            have n2_ := Aside0.mk (below_step (by repeat (first | (with_reducible first | exact HB.out | apply below_alloc | apply pw_below_drewN | apply below_drew1 | refine below_set ?_ GE461.out | refine below_set ?_ GE464.out) | exact HB.out)) hb)
            clear BK461
            clear BK464
            clear HB
            have BK461 := n0_
            have BK464 := n1_
            have HB := n2_
            clear n0_ n1_ n2_
            (try clear hb)
            (try clear hb2)
            (try clear hk)
            (try clear hi)
            refine hK.out _ _ ⟨(blk_cell BK464.out 0).trans rfl, (blk_cell BK464.out 1).trans rfl, (blk_cell BK464.out 2).trans rfl, (blk_cell BK464.out 3).trans rfl, (blk_cell BK461.out 0).trans rfl, (blk_cell BK461.out 1).trans rfl⟩ (fun hHeld => ?_)
            clear hK K
            refine norm_ (a' := ?_) ?_ ?_
            rotate_left
            ·show Act.put _ (some 25) _ = _
             simp only [Act.put, sa_, s0_, ss_, i64_w, i32_w]
             rfl
            refine pure_ (i := 3) (N := some 26) (v := ?_) (a' := ?_) impl_SetRight.q4 rfl rfl (any_of HT_.out (by kernel_rfl)) (fun _ _ _ h => h) (Or.inl ⟨by rfl, ?_⟩) ?_ ?_
            rotate_left
            ·intro w'
             go_simp
             with_reducible rfl
            rotate_left
            ·simp only [Act.put, sa_, s0_, ss_, i64_w, i32_w]
             rfl
            refine pure_ (i := 4) (N := some 27) (v := ?_) (a' := ?_) impl_SetRight.q5 rfl rfl (any_of HT_.out (by kernel_rfl)) (fun _ _ _ h => h) (Or.inl ⟨by rfl, ?_⟩) ?_ ?_
            rotate_left
            ·intro w'
             go_simp
             with_reducible rfl
            rotate_left
            ·simp only [Act.put, sa_, s0_, ss_, i64_w, i32_w]
             rfl
            refine pure_ (i := 5) (N := some 28) (v := ?_) (a' := ?_) impl_SetRight.q6 rfl rfl (any_of HT_.out (by kernel_rfl)) (fun _ _ _ h => h) (Or.inl ⟨by rfl, ?_⟩) ?_ ?_
            rotate_left
            ·intro w'
             go_simp
             with_reducible rfl
            rotate_left
            ·simp only [Act.put, sa_, s0_, ss_, i64_w, i32_w]
             rfl
            refine pure_ (i := 7) (N := some 30) (v := ?_) (a' := ?_) impl_SetRight.q7 rfl rfl (any_of HT_.out (by kernel_rfl)) (fun _ _ _ h => h) (Or.inl ⟨by rfl, ?_⟩) ?_ ?_
            rotate_left
            ·intro w'
             go_simp
             with_reducible rfl
            rotate_left
            ·simp only [Act.put, sa_, s0_, ss_, i64_w, i32_w]
             rfl
            refine take_ (i := 6) (N := some 29) (v := ?_) (a' := ?_) impl_SetRight.q8 rfl rfl (take_ofW HT_.out HW_.out (by kernel_rfl)) (fun _ _ _ h => h) (Or.inl ⟨by rfl, ?_⟩) hHeld ?_ ?_
            rotate_left
            ·rintro w' ⟨s0, s1, s2, s3, s4, s5⟩
             go_simp
             with_reducible rfl
            rotate_left
            ·simp only [Act.put, sa_, s0_, ss_, i64_w, i32_w]
             rfl
            refine take_ (i := 8) (N := some 31) (v := ?_) (a' := ?_) impl_SetRight.q9 rfl rfl (take_ofW HT_.out HW_.out (by kernel_rfl)) (fun _ _ _ h => h) (Or.inl ⟨by rfl, ?_⟩) hHeld ?_ ?_
            rotate_left
            ·rintro w' ⟨s0, s1, s2, s3, s4, s5⟩
             go_simp
             with_reducible rfl
            rotate_left
            ·simp only [Act.put, sa_, s0_, ss_, i64_w, i32_w]
             rfl
            refine one_ (i := 9) (N := some 32) impl_SetRight.q10 rfl rfl (one_of HT_.out (by kernel_rfl)) (by decide) (fun K hK => ?_)
            refine goes_ Try.func110 (by kernel_rfl) rfl #[.slice A0_0 l0_0.length c0_0, .agg #[.int .i64 ((rd_T139 l0_1 x18_2).f0.f0), .int .i64 ((rd_T139 l0_1 x18_2).f0.f1)]] (by rfl) rfl rfl (by (try simp only [List.map_toArray, List.map_cons, List.map_nil]); first | done | rfl | (simp only [List.length_drop, List.length_take]; rfl)) ?_
            with_reducible refine (impl_seenHas.calls k2 _ _ l0_0 ((rd_T139 l0_1 x18_2).f0.f0) ((rd_T139 l0_1 x18_2).f0.f1) false _ ?side1 ?side2 A22.out).mono ?_
            (case side1 => repeat (first | exact (Kd.C_below HR0_0.out HB.out) | (with_reducible refine Kd.C_alloc ?_ _) | (with_reducible refine Kd.C_drewN ?_ _) | (with_reducible refine Kd.C_drew ?_)))
            (case side2 => exact HC0_0.out)
            rintro e w47 ⟨rfl, hb⟩
            refine ⟨_, rfl, ?_⟩
            have n0_ := Aside0.mk (blk_below (g := gb461) (o := .cells #[.slice A0_0 l0_0.length c0_0, .slice (some ad463) l0_1.length c0_1] 75 (0, 0)) (by (with_reducible repeat (first | refine blk_drewN ?_ _ | refine blk_drew ?_ | refine blk_alloc ?_ _)); exact BK461.out) hb)
            have n1_ := Aside0.mk (blk_below (g := gb464) (o := .cells #[.int .i64 ((rd_T139 l0_1 x18_2).f0.f0), .int .i64 ((rd_T139 l0_1 x18_2).f0.f1), .bool ((rd_T139 l0_1 x18_2).f1), .string ((rd_T139 l0_1 x18_2).f2)] 139 (0, 0)) (by (with_reducible repeat (first | refine blk_drewN ?_ _ | refine blk_drew ?_ | refine blk_alloc ?_ _)); exact BK464.out) hb)
            have n2_ := Aside0.mk (below_step (by repeat (first | (with_reducible first | exact HB.out | apply below_alloc | apply pw_below_drewN | apply below_drew1 | refine below_set ?_ GE461.out | refine below_set ?_ GE464.out) | exact HB.out)) hb)
            clear BK461
            clear BK464
            clear HB
            have BK461 := n0_
            have BK464 := n1_
            have HB := n2_
            clear n0_ n1_ n2_
            (try clear hb)
            (try clear hb2)
            (try clear hk)
            (try clear hi)
            refine hK.out _ _ ⟨(blk_cell BK464.out 0).trans rfl, (blk_cell BK464.out 1).trans rfl, (blk_cell BK464.out 2).trans rfl, (blk_cell BK464.out 3).trans rfl, (blk_cell BK461.out 0).trans rfl, (blk_cell BK461.out 1).trans rfl⟩ (fun hHeld => ?_)
            clear hK K
            refine norm_ (a' := ?_) ?_ ?_
            rotate_left
            ·show Act.put _ (some 32) _ = _
             simp only [Act.put, sa_, s0_, ss_, i64_w, i32_w]
             rfl
            refine pure_ (i := 10) (N := some 33) (v := ?_) (a' := ?_) impl_SetRight.q11 rfl rfl (any_of HT_.out (by kernel_rfl)) (fun _ _ _ h => h) (Or.inl ⟨by rfl, ?_⟩) ?_ ?_
            rotate_left
            ·intro w'
             go_simp
             with_reducible rfl
            rotate_left
            ·simp only [Act.put, sa_, s0_, ss_, i64_w, i32_w]
             rfl
            refine pure_ (i := 11) (N := some 34) (v := ?_) (a' := ?_) impl_SetRight.q12 rfl rfl (any_of HT_.out (by kernel_rfl)) (fun _ _ _ h => h) (Or.inl ⟨by rfl, ?_⟩) ?_ ?_
            rotate_left
            ·intro w'
             go_simp
             with_reducible rfl
            rotate_left
            ·simp only [Act.put, sa_, s0_, ss_, i64_w, i32_w]
             rfl
            refine pure_ (i := 12) (N := some 35) (v := ?_) (a' := ?_) impl_SetRight.q13 rfl rfl (any_of HT_.out (by kernel_rfl)) (fun _ _ _ h => h) (Or.inl ⟨by rfl, ?_⟩) ?_ ?_
            rotate_left
            ·intro w'
             go_simp
             with_reducible rfl
            rotate_left
            ·simp only [Act.put, sa_, s0_, ss_, i64_w, i32_w]
             rfl
            refine pure_ (i := 13) (N := some 36) (v := undef) (a' := ?_) impl_SetRight.q14 rfl rfl (any_of HT_.out (by kernel_rfl)) (fun _ _ _ h => h) (Or.inr ⟨by rfl, rfl⟩) ?_ ?_
            rotate_left
            ·simp only [Act.put, sa_, s0_, ss_, i64_w, i32_w]
             rfl
            refine pure_ (i := 14) (N := some 37) (v := undef) (a' := ?_) impl_SetRight.q38 rfl rfl (any_of HT_.out (by kernel_rfl)) (fun _ _ _ h => h) (Or.inr ⟨by rfl, rfl⟩) ?_ ?_
            rotate_left
            ·simp only [Act.put, sa_, s0_, ss_, i64_w, i32_w]
             rfl
            refine pure_ (i := 15) (N := some 38) (v := undef) (a' := ?_) impl_SetRight.q16 rfl rfl (any_of HT_.out (by kernel_rfl)) (fun _ _ _ h => h) (Or.inr ⟨by rfl, rfl⟩) ?_ ?_
            rotate_left
            ·simp only [Act.put, sa_, s0_, ss_, i64_w, i32_w]
             rfl
            refine pure_ (i := 16) (N := some 39) (v := undef) (a' := ?_) impl_SetRight.q17 rfl rfl (any_of HT_.out (by kernel_rfl)) (fun _ _ _ h => h) (Or.inr ⟨by rfl, rfl⟩) ?_ ?_
            rotate_left
            ·simp only [Act.put, sa_, s0_, ss_, i64_w, i32_w]
             rfl
            refine pure_ (i := 17) (N := some 40) (v := undef) (a' := ?_) impl_SetRight.q18 rfl rfl (any_of HT_.out (by kernel_rfl)) (fun _ _ _ h => h) (Or.inr ⟨by rfl, rfl⟩) ?_ ?_
            rotate_left
            ·simp only [Act.put, sa_, s0_, ss_, i64_w, i32_w]
             rfl
            refine pure_ (i := 18) (N := some 41) (v := undef) (a' := ?_) impl_SetRight.q19 rfl rfl (any_of HT_.out (by kernel_rfl)) (fun _ _ _ h => h) (Or.inr ⟨by rfl, rfl⟩) ?_ ?_
            rotate_left
            ·simp only [Act.put, sa_, s0_, ss_, i64_w, i32_w]
             rfl
            refine pure_ (i := 19) (N := some 42) (v := ?_) (a' := ?_) impl_SetRight.q20 rfl rfl (any_of HT_.out (by kernel_rfl)) (fun _ _ _ h => h) (Or.inl ⟨by rfl, ?_⟩) ?_ ?_
            rotate_left
            ·intro w'
             go_simp
             with_reducible rfl
            rotate_left
            ·simp only [Act.put, sa_, s0_, ss_, i64_w, i32_w]
             rfl
            refine pure_ (i := 20) (N := some 43) (v := ?_) (a' := ?_) impl_SetRight.q21 rfl rfl (any_of HT_.out (by kernel_rfl)) (fun _ _ _ h => h) (Or.inl ⟨by rfl, ?_⟩) ?_ ?_
            rotate_left
            ·intro w'
             go_simp
             with_reducible rfl
            rotate_left
            ·simp only [Act.put, sa_, s0_, ss_, i64_w, i32_w]
             rfl
            refine pure_ (i := 21) (N := some 44) (v := undef) (a' := ?_) impl_SetRight.q22 rfl rfl (any_of HT_.out (by kernel_rfl)) (fun _ _ _ h => h) (Or.inr ⟨by rfl, rfl⟩) ?_ ?_
            rotate_left
            ·simp only [Act.put, sa_, s0_, ss_, i64_w, i32_w]
             rfl
            refine pure_ (i := 22) (N := some 45) (v := undef) (a' := ?_) impl_SetRight.q23 rfl rfl (any_of HT_.out (by kernel_rfl)) (fun _ _ _ h => h) (Or.inr ⟨by rfl, rfl⟩) ?_ ?_
            rotate_left
            ·simp only [Act.put, sa_, s0_, ss_, i64_w, i32_w]
             rfl
            refine pure_ (i := 23) (N := some 46) (v := undef) (a' := ?_) impl_SetRight.q24 rfl rfl (any_of HT_.out (by kernel_rfl)) (fun _ _ _ h => h) (Or.inr ⟨by rfl, rfl⟩) ?_ ?_
            rotate_left
            ·simp only [Act.put, sa_, s0_, ss_, i64_w, i32_w]
             rfl
            refine pure_ (i := 24) (N := some 47) (v := undef) (a' := ?_) impl_SetRight.q25 rfl rfl (any_of HT_.out (by kernel_rfl)) (fun _ _ _ h => h) (Or.inr ⟨by rfl, rfl⟩) ?_ ?_
            rotate_left
            ·simp only [Act.put, sa_, s0_, ss_, i64_w, i32_w]
             rfl
            refine pure_ (i := 25) (N := some 48) (v := undef) (a' := ?_) impl_SetRight.q32 rfl rfl (any_of HT_.out (by kernel_rfl)) (fun _ _ _ h => h) (Or.inr ⟨by rfl, rfl⟩) ?_ ?_
            rotate_left
            ·simp only [Act.put, sa_, s0_, ss_, i64_w, i32_w]
             rfl
            refine pure_ (i := 26) (N := some 49) (v := undef) (a' := ?_) impl_SetRight.q33 rfl rfl (any_of HT_.out (by kernel_rfl)) (fun _ _ _ h => h) (Or.inr ⟨by rfl, rfl⟩) ?_ ?_
            rotate_left
            ·simp only [Act.put, sa_, s0_, ss_, i64_w, i32_w]
             rfl
            refine pure_ (i := 27) (N := some 50) (v := undef) (a' := ?_) impl_SetRight.q34 rfl rfl (any_of HT_.out (by kernel_rfl)) (fun _ _ _ h => h) (Or.inr ⟨by rfl, rfl⟩) ?_ ?_
            rotate_left
            ·simp only [Act.put, sa_, s0_, ss_, i64_w, i32_w]
             rfl
            refine pure_ (i := 28) (N := some 51) (v := undef) (a' := ?_) impl_SetRight.q35 rfl rfl (any_of HT_.out (by kernel_rfl)) (fun _ _ _ h => h) (Or.inr ⟨by rfl, rfl⟩) ?_ ?_
            rotate_left
            ·simp only [Act.put, sa_, s0_, ss_, i64_w, i32_w]
             rfl
            refine pure_ (i := 29) (N := some 52) (v := undef) (a' := ?_) impl_SetRight.q36 rfl rfl (any_of HT_.out (by kernel_rfl)) (fun _ _ _ h => h) (Or.inr ⟨by rfl, rfl⟩) ?_ ?_
            rotate_left
            ·simp only [Act.put, sa_, s0_, ss_, i64_w, i32_w]
             rfl
            refine pure_ (i := 30) (N := some 53) (v := undef) (a' := ?_) impl_SetRight.q37 rfl rfl (any_of HT_.out (by kernel_rfl)) (fun _ _ _ h => h) (Or.inr ⟨by rfl, rfl⟩) ?_ ?_
            rotate_left
            ·simp only [Act.put, sa_, s0_, ss_, i64_w, i32_w]
             rfl
            refine pure_ (i := 31) (N := some 54) (v := undef) (a' := ?_) impl_SetRight.q26 rfl rfl (any_of HT_.out (by kernel_rfl)) (fun _ _ _ h => h) (Or.inr ⟨by rfl, rfl⟩) ?_ ?_
            rotate_left
            ·simp only [Act.put, sa_, s0_, ss_, i64_w, i32_w]
             rfl
            refine pure_ (i := 32) (N := some 55) (v := undef) (a' := ?_) impl_SetRight.q27 rfl rfl (any_of HT_.out (by kernel_rfl)) (fun _ _ _ h => h) (Or.inr ⟨by rfl, rfl⟩) ?_ ?_
            rotate_left
            ·simp only [Act.put, sa_, s0_, ss_, i64_w, i32_w]
             rfl
            refine pure_ (i := 33) (N := some 56) (v := undef) (a' := ?_) impl_SetRight.q28 rfl rfl (any_of HT_.out (by kernel_rfl)) (fun _ _ _ h => h) (Or.inr ⟨by rfl, rfl⟩) ?_ ?_
            rotate_left
            ·simp only [Act.put, sa_, s0_, ss_, i64_w, i32_w]
             rfl
            refine pure_ (i := 34) (N := some 57) (v := undef) (a' := ?_) impl_SetRight.q29 rfl rfl (any_of HT_.out (by kernel_rfl)) (fun _ _ _ h => h) (Or.inr ⟨by rfl, rfl⟩) ?_ ?_
            rotate_left
            ·simp only [Act.put, sa_, s0_, ss_, i64_w, i32_w]
             rfl
            refine pure_ (i := 35) (N := some 58) (v := undef) (a' := ?_) impl_SetRight.q30 rfl rfl (any_of HT_.out (by kernel_rfl)) (fun _ _ _ h => h) (Or.inr ⟨by rfl, rfl⟩) ?_ ?_
            rotate_left
            ·simp only [Act.put, sa_, s0_, ss_, i64_w, i32_w]
             rfl
            refine pure_ (i := 36) (N := some 59) (v := ?_) (a' := ?_) impl_SetRight.q31 rfl rfl (any_of HT_.out (by kernel_rfl)) (fun _ _ _ h => h) (Or.inl ⟨by rfl, ?_⟩) ?_ ?_
            rotate_left
            ·intro w'
             go_simp
             with_reducible rfl
            rotate_left
            ·simp only [Act.put, sa_, s0_, ss_, i64_w, i32_w]
             rfl
            refine done_ (done_of HT_.out (by kernel_rfl)) ?_
            try go_wp2
            go_meet
            case rel => exact ⟨_, (true), (by first | rfl | (simp; done) | (simp [*]; done)), H', ⟨by have := HJ1.out; have := HK2.out; first | omega | exact Nat.le_refl _⟩, ⟨by (with_reducible repeat (first | refine blk_drewN ?_ _ | refine blk_drew ?_ | refine blk_alloc ?_ _)); exact BK461.out⟩, ⟨by (with_reducible repeat (first | refine blk_drewN ?_ _ | refine blk_drew ?_ | refine blk_alloc ?_ _)); exact BK464.out⟩, ⟨by repeat (first | (with_reducible first | exact HB.out | apply below_alloc | apply pw_below_drewN | apply below_drew1 | refine below_set ?_ GE461.out | refine below_set ?_ GE464.out) | exact HB.out)⟩⟩
          ·replace c21 := Bool.eq_false_iff.mpr c21
           subst c21
           have H1 : (impl_SetRight.j2 k2 l0_1 (l0_1.length : Int) x18_2 true l0_0 l0_1) = some r := by rw [if_neg (show ¬ (false = true) by decide)] at H; exact H
           clear H
           have H := H1
           clear H1
           have H' := Aside0.mk H
           clear H
           try go_wp2
           have n0_ : Aside0 (((((w17.setCell ⟨gb464, 0, none⟩ (.int .i64 ((rd_T139 l0_1 x18_2).f0.f0))).setCell ⟨gb464, 1, none⟩ (.int .i64 ((rd_T139 l0_1 x18_2).f0.f1))).setCell ⟨gb464, 2, none⟩ (.bool ((rd_T139 l0_1 x18_2).f1))).setCell ⟨gb464, 3, none⟩ (.string ((rd_T139 l0_1 x18_2).f2))).heap[gb461]? = some (.cells #[.slice A0_0 l0_0.length c0_0, .slice (some ad463) l0_1.length c0_1] 75 (0, 0))) := ⟨by (with_reducible repeat (first | refine blk_drewN ?_ _ | refine blk_drew ?_ | refine blk_alloc ?_ _)); refine blk_far ?_ NB461_464.out _; (with_reducible repeat (first | refine blk_drewN ?_ _ | refine blk_drew ?_ | refine blk_alloc ?_ _)); refine blk_far ?_ NB461_464.out _; (with_reducible repeat (first | refine blk_drewN ?_ _ | refine blk_drew ?_ | refine blk_alloc ?_ _)); refine blk_far ?_ NB461_464.out _; (with_reducible repeat (first | refine blk_drewN ?_ _ | refine blk_drew ?_ | refine blk_alloc ?_ _)); refine blk_far ?_ NB461_464.out _; (with_reducible repeat (first | refine blk_drewN ?_ _ | refine blk_drew ?_ | refine blk_alloc ?_ _)); exact BK461.out⟩
           have n1_ : Aside0 (((((w17.setCell ⟨gb464, 0, none⟩ (.int .i64 ((rd_T139 l0_1 x18_2).f0.f0))).setCell ⟨gb464, 1, none⟩ (.int .i64 ((rd_T139 l0_1 x18_2).f0.f1))).setCell ⟨gb464, 2, none⟩ (.bool ((rd_T139 l0_1 x18_2).f1))).setCell ⟨gb464, 3, none⟩ (.string ((rd_T139 l0_1 x18_2).f2))).heap[gb464]? = some (.cells #[.int .i64 ((rd_T139 l0_1 x18_2).f0.f0), .int .i64 ((rd_T139 l0_1 x18_2).f0.f1), .bool ((rd_T139 l0_1 x18_2).f1), .string ((rd_T139 l0_1 x18_2).f2)] 139 (0, 0))) := ⟨by (with_reducible repeat (first | refine blk_drewN ?_ _ | refine blk_drew ?_ | refine blk_alloc ?_ _)); refine blk_put (cs := #[.int .i64 ((rd_T139 l0_1 x18_2).f0.f0), .int .i64 ((rd_T139 l0_1 x18_2).f0.f1), .bool ((rd_T139 l0_1 x18_2).f1), .string (⟨#[]⟩ : ByteArray)]) ?_ 3 _ rfl; (with_reducible repeat (first | refine blk_drewN ?_ _ | refine blk_drew ?_ | refine blk_alloc ?_ _)); refine blk_put (cs := #[.int .i64 ((rd_T139 l0_1 x18_2).f0.f0), .int .i64 ((rd_T139 l0_1 x18_2).f0.f1), .bool false, .string (⟨#[]⟩ : ByteArray)]) ?_ 2 _ rfl; (with_reducible repeat (first | refine blk_drewN ?_ _ | refine blk_drew ?_ | refine blk_alloc ?_ _)); refine blk_put (cs := #[.int .i64 ((rd_T139 l0_1 x18_2).f0.f0), .int .i64 0, .bool false, .string (⟨#[]⟩ : ByteArray)]) ?_ 1 _ rfl; (with_reducible repeat (first | refine blk_drewN ?_ _ | refine blk_drew ?_ | refine blk_alloc ?_ _)); refine blk_put (cs := #[.int .i64 0, .int .i64 0, .bool false, .string (⟨#[]⟩ : ByteArray)]) ?_ 0 _ rfl; (with_reducible repeat (first | refine blk_drewN ?_ _ | refine blk_drew ?_ | refine blk_alloc ?_ _)); exact BK464.out⟩
           have n2_ : Aside0 (Below w.heap.size w ((((w17.setCell ⟨gb464, 0, none⟩ (.int .i64 ((rd_T139 l0_1 x18_2).f0.f0))).setCell ⟨gb464, 1, none⟩ (.int .i64 ((rd_T139 l0_1 x18_2).f0.f1))).setCell ⟨gb464, 2, none⟩ (.bool ((rd_T139 l0_1 x18_2).f1))).setCell ⟨gb464, 3, none⟩ (.string ((rd_T139 l0_1 x18_2).f2)))) := ⟨by repeat (first | (with_reducible first | exact HB.out | apply below_alloc | apply pw_below_drewN | apply below_drew1 | refine below_set ?_ GE461.out | refine below_set ?_ GE464.out) | exact HB.out)⟩
           (try clear BK461)
           (try clear BK464)
           (try clear HB)
           generalize ((((w17.setCell ⟨gb464, 0, none⟩ (.int .i64 ((rd_T139 l0_1 x18_2).f0.f0))).setCell ⟨gb464, 1, none⟩ (.int .i64 ((rd_T139 l0_1 x18_2).f0.f1))).setCell ⟨gb464, 2, none⟩ (.bool ((rd_T139 l0_1 x18_2).f1))).setCell ⟨gb464, 3, none⟩ (.string ((rd_T139 l0_1 x18_2).f2))) = w48 at n0_ n1_ n2_ ⊢
           have BK461 := n0_
           have BK464 := n1_
           have HB := n2_
           clear n0_ n1_ n2_
           have n0_ := Aside0.mk (blk_drew BK461.out)
           have n1_ := Aside0.mk (blk_drew BK464.out)
           have n2_ := Aside0.mk (below_drew1 HB.out)
           clear BK461
           clear BK464
           clear HB
           have BK461 := n0_
           have BK464 := n1_
           have HB := n2_
           clear n0_ n1_ n2_
           refine start_ (n := 37) (S := fun w' => w'.cell? ⟨gb464, 0, none⟩ = some (.int .i64 ((rd_T139 l0_1 x18_2).f0.f0)) ∧ w'.cell? ⟨gb464, 1, none⟩ = some (.int .i64 ((rd_T139 l0_1 x18_2).f0.f1)) ∧ w'.cell? ⟨gb464, 2, none⟩ = some (.bool ((rd_T139 l0_1 x18_2).f1)) ∧ w'.cell? ⟨gb464, 3, none⟩ = some (.string ((rd_T139 l0_1 x18_2).f2))) (ds := []) impl_SetRight.q0 (by kernel_rfl) rfl rfl ⟨(blk_cell BK464.out 0).trans rfl, (blk_cell BK464.out 1).trans rfl, (blk_cell BK464.out 2).trans rfl, (blk_cell BK464.out 3).trans rfl⟩ (fun hHeld => ?_); refine with_tabW impl_SetRight.tab6 impl_SetRight.bits6 (fun HT_ HW_ => ?_)
           generalize w48.drew = w49 at BK461 BK464 HB hHeld ⊢
           refine pure_ (i := 0) (N := some 23) (v := ?_) (a' := ?_) impl_SetRight.q1 rfl rfl (any_of HT_.out (by kernel_rfl)) (fun _ _ _ h => h) (Or.inl ⟨by rfl, ?_⟩) ?_ ?_
           rotate_left
           ·intro w'
            go_simp
            with_reducible rfl
           rotate_left
           ·simp only [Act.put, sa_, s0_, ss_, i64_w, i32_w]
            rfl
           refine take_ (i := 1) (N := some 24) (v := ?_) (a' := ?_) impl_SetRight.q2 rfl rfl (take_ofW HT_.out HW_.out (by kernel_rfl)) (fun _ _ _ h => h) (Or.inl ⟨by rfl, ?_⟩) hHeld ?_ ?_
           rotate_left
           ·rintro w' ⟨s0, s1, s2, s3⟩
            go_simp
            with_reducible rfl
           rotate_left
           ·simp only [Act.put, sa_, s0_, ss_, i64_w, i32_w]
            rfl
           refine one_ (i := 2) (N := some 25) impl_SetRight.q3 rfl rfl (one_of HT_.out (by kernel_rfl)) (by decide) (fun K hK => ?_)
           refine goes_ Try.func87 (by kernel_rfl) rfl #[.agg #[.int .i64 ((rd_T139 l0_1 x18_2).f0.f0), .int .i64 ((rd_T139 l0_1 x18_2).f0.f1)]] (by rfl) rfl rfl (by (try simp only [List.map_toArray, List.map_cons, List.map_nil]); first | done | rfl | (simp only [List.length_drop, List.length_take]; rfl)) ?_
           with_reducible refine (impl_isDot.calls ((rd_T139 l0_1 x18_2).f0.f0) ((rd_T139 l0_1 x18_2).f0.f1) false _ A20.out).mono ?_
           rintro e w50 ⟨rfl, hb⟩
           refine ⟨_, rfl, ?_⟩
           have n0_ := Aside0.mk (blk_below (g := gb461) (o := .cells #[.slice A0_0 l0_0.length c0_0, .slice (some ad463) l0_1.length c0_1] 75 (0, 0)) (by (with_reducible repeat (first | refine blk_drewN ?_ _ | refine blk_drew ?_ | refine blk_alloc ?_ _)); exact BK461.out) hb)
           have n1_ := Aside0.mk (blk_below (g := gb464) (o := .cells #[.int .i64 ((rd_T139 l0_1 x18_2).f0.f0), .int .i64 ((rd_T139 l0_1 x18_2).f0.f1), .bool ((rd_T139 l0_1 x18_2).f1), .string ((rd_T139 l0_1 x18_2).f2)] 139 (0, 0)) (by (with_reducible repeat (first | refine blk_drewN ?_ _ | refine blk_drew ?_ | refine blk_alloc ?_ _)); exact BK464.out) hb)
           have n2_ := Aside0.mk (below_step (by repeat (first | (with_reducible first | exact HB.out | apply below_alloc | apply pw_below_drewN | apply below_drew1 | refine below_set ?_ GE461.out | refine below_set ?_ GE464.out) | exact HB.out)) hb)
           clear BK461
           clear BK464
           clear HB
           have BK461 := n0_
           have BK464 := n1_
           have HB := n2_
           clear n0_ n1_ n2_
           (try clear hb)
           (try clear hb2)
           (try clear hk)
           (try clear hi)
           refine hK.out _ _ ⟨(blk_cell BK464.out 0).trans rfl, (blk_cell BK464.out 1).trans rfl, (blk_cell BK464.out 2).trans rfl, (blk_cell BK464.out 3).trans rfl⟩ (fun hHeld => ?_)
           clear hK K
           refine norm_ (a' := ?_) ?_ ?_
           rotate_left
           ·show Act.put _ (some 25) _ = _
            simp only [Act.put, sa_, s0_, ss_, i64_w, i32_w]
            rfl
           refine pure_ (i := 3) (N := some 26) (v := ?_) (a' := ?_) impl_SetRight.q4 rfl rfl (any_of HT_.out (by kernel_rfl)) (fun _ _ _ h => h) (Or.inl ⟨by rfl, ?_⟩) ?_ ?_
           rotate_left
           ·intro w'
            go_simp
            with_reducible rfl
           rotate_left
           ·simp only [Act.put, sa_, s0_, ss_, i64_w, i32_w]
            rfl
           refine pure_ (i := 4) (N := some 27) (v := ?_) (a' := ?_) impl_SetRight.q5 rfl rfl (any_of HT_.out (by kernel_rfl)) (fun _ _ _ h => h) (Or.inl ⟨by rfl, ?_⟩) ?_ ?_
           rotate_left
           ·intro w'
            go_simp
            with_reducible rfl
           rotate_left
           ·simp only [Act.put, sa_, s0_, ss_, i64_w, i32_w]
            rfl
           refine pure_ (i := 5) (N := some 28) (v := undef) (a' := ?_) impl_SetRight.q6 rfl rfl (any_of HT_.out (by kernel_rfl)) (fun _ _ _ h => h) (Or.inr ⟨by rfl, rfl⟩) ?_ ?_
           rotate_left
           ·simp only [Act.put, sa_, s0_, ss_, i64_w, i32_w]
            rfl
           refine pure_ (i := 6) (N := some 29) (v := undef) (a' := ?_) #[true, true, true, true, true, true, true, false, false, false, false, false, false, false, false, false, false, false, false, false, false, false, false, false, false, false, false, false, false, false, false, false, false, false, false, false, false] rfl rfl (any_of HT_.out (by kernel_rfl)) (fun _ _ _ h => h) (Or.inr ⟨by rfl, rfl⟩) ?_ ?_
           rotate_left
           ·simp only [Act.put, sa_, s0_, ss_, i64_w, i32_w]
            rfl
           refine pure_ (i := 7) (N := some 30) (v := undef) (a' := ?_) impl_SetRight.q8 rfl rfl (any_of HT_.out (by kernel_rfl)) (fun _ _ _ h => h) (Or.inr ⟨by rfl, rfl⟩) ?_ ?_
           rotate_left
           ·simp only [Act.put, sa_, s0_, ss_, i64_w, i32_w]
            rfl
           refine pure_ (i := 8) (N := some 31) (v := undef) (a' := ?_) impl_SetRight.q9 rfl rfl (any_of HT_.out (by kernel_rfl)) (fun _ _ _ h => h) (Or.inr ⟨by rfl, rfl⟩) ?_ ?_
           rotate_left
           ·simp only [Act.put, sa_, s0_, ss_, i64_w, i32_w]
            rfl
           refine pure_ (i := 9) (N := some 32) (v := undef) (a' := ?_) impl_SetRight.q10 rfl rfl (any_of HT_.out (by kernel_rfl)) (fun _ _ _ h => h) (Or.inr ⟨by rfl, rfl⟩) ?_ ?_
           rotate_left
           ·simp only [Act.put, sa_, s0_, ss_, i64_w, i32_w]
            rfl
           refine pure_ (i := 10) (N := some 33) (v := undef) (a' := ?_) impl_SetRight.q11 rfl rfl (any_of HT_.out (by kernel_rfl)) (fun _ _ _ h => h) (Or.inr ⟨by rfl, rfl⟩) ?_ ?_
           rotate_left
           ·simp only [Act.put, sa_, s0_, ss_, i64_w, i32_w]
            rfl
           refine pure_ (i := 11) (N := some 34) (v := ?_) (a' := ?_) impl_SetRight.q12 rfl rfl (any_of HT_.out (by kernel_rfl)) (fun _ _ _ h => h) (Or.inl ⟨by rfl, ?_⟩) ?_ ?_
           rotate_left
           ·intro w'
            go_simp
            with_reducible rfl
           rotate_left
           ·simp only [Act.put, sa_, s0_, ss_, i64_w, i32_w]
            rfl
           refine pure_ (i := 12) (N := some 35) (v := ?_) (a' := ?_) impl_SetRight.q13 rfl rfl (any_of HT_.out (by kernel_rfl)) (fun _ _ _ h => h) (Or.inl ⟨by rfl, ?_⟩) ?_ ?_
           rotate_left
           ·intro w'
            go_simp
            with_reducible rfl
           rotate_left
           ·simp only [Act.put, sa_, s0_, ss_, i64_w, i32_w]
            rfl
           refine pure_ (i := 13) (N := some 36) (v := undef) (a' := ?_) impl_SetRight.q14 rfl rfl (any_of HT_.out (by kernel_rfl)) (fun _ _ _ h => h) (Or.inr ⟨by rfl, rfl⟩) ?_ ?_
           rotate_left
           ·simp only [Act.put, sa_, s0_, ss_, i64_w, i32_w]
            rfl
           refine pure_ (i := 14) (N := some 37) (v := undef) (a' := ?_) impl_SetRight.q38 rfl rfl (any_of HT_.out (by kernel_rfl)) (fun _ _ _ h => h) (Or.inr ⟨by rfl, rfl⟩) ?_ ?_
           rotate_left
           ·simp only [Act.put, sa_, s0_, ss_, i64_w, i32_w]
            rfl
           refine pure_ (i := 15) (N := some 38) (v := undef) (a' := ?_) impl_SetRight.q16 rfl rfl (any_of HT_.out (by kernel_rfl)) (fun _ _ _ h => h) (Or.inr ⟨by rfl, rfl⟩) ?_ ?_
           rotate_left
           ·simp only [Act.put, sa_, s0_, ss_, i64_w, i32_w]
            rfl
           refine pure_ (i := 16) (N := some 39) (v := undef) (a' := ?_) impl_SetRight.q17 rfl rfl (any_of HT_.out (by kernel_rfl)) (fun _ _ _ h => h) (Or.inr ⟨by rfl, rfl⟩) ?_ ?_
           rotate_left
           ·simp only [Act.put, sa_, s0_, ss_, i64_w, i32_w]
            rfl
           refine pure_ (i := 17) (N := some 40) (v := undef) (a' := ?_) impl_SetRight.q18 rfl rfl (any_of HT_.out (by kernel_rfl)) (fun _ _ _ h => h) (Or.inr ⟨by rfl, rfl⟩) ?_ ?_
           rotate_left
           ·simp only [Act.put, sa_, s0_, ss_, i64_w, i32_w]
            rfl
           refine pure_ (i := 18) (N := some 41) (v := undef) (a' := ?_) impl_SetRight.q19 rfl rfl (any_of HT_.out (by kernel_rfl)) (fun _ _ _ h => h) (Or.inr ⟨by rfl, rfl⟩) ?_ ?_
           rotate_left
           ·simp only [Act.put, sa_, s0_, ss_, i64_w, i32_w]
            rfl
           refine pure_ (i := 19) (N := some 42) (v := ?_) (a' := ?_) impl_SetRight.q20 rfl rfl (any_of HT_.out (by kernel_rfl)) (fun _ _ _ h => h) (Or.inl ⟨by rfl, ?_⟩) ?_ ?_
           rotate_left
           ·intro w'
            go_simp
            with_reducible rfl
           rotate_left
           ·simp only [Act.put, sa_, s0_, ss_, i64_w, i32_w]
            rfl
           refine pure_ (i := 20) (N := some 43) (v := ?_) (a' := ?_) impl_SetRight.q21 rfl rfl (any_of HT_.out (by kernel_rfl)) (fun _ _ _ h => h) (Or.inl ⟨by rfl, ?_⟩) ?_ ?_
           rotate_left
           ·intro w'
            go_simp
            with_reducible rfl
           rotate_left
           ·simp only [Act.put, sa_, s0_, ss_, i64_w, i32_w]
            rfl
           refine pure_ (i := 21) (N := some 44) (v := undef) (a' := ?_) impl_SetRight.q22 rfl rfl (any_of HT_.out (by kernel_rfl)) (fun _ _ _ h => h) (Or.inr ⟨by rfl, rfl⟩) ?_ ?_
           rotate_left
           ·simp only [Act.put, sa_, s0_, ss_, i64_w, i32_w]
            rfl
           refine pure_ (i := 22) (N := some 45) (v := undef) (a' := ?_) impl_SetRight.q23 rfl rfl (any_of HT_.out (by kernel_rfl)) (fun _ _ _ h => h) (Or.inr ⟨by rfl, rfl⟩) ?_ ?_
           rotate_left
           ·simp only [Act.put, sa_, s0_, ss_, i64_w, i32_w]
            rfl
           refine pure_ (i := 23) (N := some 46) (v := undef) (a' := ?_) impl_SetRight.q24 rfl rfl (any_of HT_.out (by kernel_rfl)) (fun _ _ _ h => h) (Or.inr ⟨by rfl, rfl⟩) ?_ ?_
           rotate_left
           ·simp only [Act.put, sa_, s0_, ss_, i64_w, i32_w]
            rfl
           refine pure_ (i := 24) (N := some 47) (v := undef) (a' := ?_) impl_SetRight.q25 rfl rfl (any_of HT_.out (by kernel_rfl)) (fun _ _ _ h => h) (Or.inr ⟨by rfl, rfl⟩) ?_ ?_
           rotate_left
           ·simp only [Act.put, sa_, s0_, ss_, i64_w, i32_w]
            rfl
           refine pure_ (i := 25) (N := some 48) (v := undef) (a' := ?_) impl_SetRight.q32 rfl rfl (any_of HT_.out (by kernel_rfl)) (fun _ _ _ h => h) (Or.inr ⟨by rfl, rfl⟩) ?_ ?_
           rotate_left
           ·simp only [Act.put, sa_, s0_, ss_, i64_w, i32_w]
            rfl
           refine pure_ (i := 26) (N := some 49) (v := undef) (a' := ?_) impl_SetRight.q33 rfl rfl (any_of HT_.out (by kernel_rfl)) (fun _ _ _ h => h) (Or.inr ⟨by rfl, rfl⟩) ?_ ?_
           rotate_left
           ·simp only [Act.put, sa_, s0_, ss_, i64_w, i32_w]
            rfl
           refine pure_ (i := 27) (N := some 50) (v := undef) (a' := ?_) impl_SetRight.q34 rfl rfl (any_of HT_.out (by kernel_rfl)) (fun _ _ _ h => h) (Or.inr ⟨by rfl, rfl⟩) ?_ ?_
           rotate_left
           ·simp only [Act.put, sa_, s0_, ss_, i64_w, i32_w]
            rfl
           refine pure_ (i := 28) (N := some 51) (v := undef) (a' := ?_) impl_SetRight.q35 rfl rfl (any_of HT_.out (by kernel_rfl)) (fun _ _ _ h => h) (Or.inr ⟨by rfl, rfl⟩) ?_ ?_
           rotate_left
           ·simp only [Act.put, sa_, s0_, ss_, i64_w, i32_w]
            rfl
           refine pure_ (i := 29) (N := some 52) (v := undef) (a' := ?_) impl_SetRight.q36 rfl rfl (any_of HT_.out (by kernel_rfl)) (fun _ _ _ h => h) (Or.inr ⟨by rfl, rfl⟩) ?_ ?_
           rotate_left
           ·simp only [Act.put, sa_, s0_, ss_, i64_w, i32_w]
            rfl
           refine pure_ (i := 30) (N := some 53) (v := undef) (a' := ?_) impl_SetRight.q37 rfl rfl (any_of HT_.out (by kernel_rfl)) (fun _ _ _ h => h) (Or.inr ⟨by rfl, rfl⟩) ?_ ?_
           rotate_left
           ·simp only [Act.put, sa_, s0_, ss_, i64_w, i32_w]
            rfl
           refine pure_ (i := 31) (N := some 54) (v := undef) (a' := ?_) impl_SetRight.q26 rfl rfl (any_of HT_.out (by kernel_rfl)) (fun _ _ _ h => h) (Or.inr ⟨by rfl, rfl⟩) ?_ ?_
           rotate_left
           ·simp only [Act.put, sa_, s0_, ss_, i64_w, i32_w]
            rfl
           refine pure_ (i := 32) (N := some 55) (v := undef) (a' := ?_) impl_SetRight.q27 rfl rfl (any_of HT_.out (by kernel_rfl)) (fun _ _ _ h => h) (Or.inr ⟨by rfl, rfl⟩) ?_ ?_
           rotate_left
           ·simp only [Act.put, sa_, s0_, ss_, i64_w, i32_w]
            rfl
           refine pure_ (i := 33) (N := some 56) (v := undef) (a' := ?_) impl_SetRight.q28 rfl rfl (any_of HT_.out (by kernel_rfl)) (fun _ _ _ h => h) (Or.inr ⟨by rfl, rfl⟩) ?_ ?_
           rotate_left
           ·simp only [Act.put, sa_, s0_, ss_, i64_w, i32_w]
            rfl
           refine pure_ (i := 34) (N := some 57) (v := undef) (a' := ?_) impl_SetRight.q29 rfl rfl (any_of HT_.out (by kernel_rfl)) (fun _ _ _ h => h) (Or.inr ⟨by rfl, rfl⟩) ?_ ?_
           rotate_left
           ·simp only [Act.put, sa_, s0_, ss_, i64_w, i32_w]
            rfl
           refine pure_ (i := 35) (N := some 58) (v := undef) (a' := ?_) impl_SetRight.q30 rfl rfl (any_of HT_.out (by kernel_rfl)) (fun _ _ _ h => h) (Or.inr ⟨by rfl, rfl⟩) ?_ ?_
           rotate_left
           ·simp only [Act.put, sa_, s0_, ss_, i64_w, i32_w]
            rfl
           refine pure_ (i := 36) (N := some 59) (v := ?_) (a' := ?_) impl_SetRight.q31 rfl rfl (any_of HT_.out (by kernel_rfl)) (fun _ _ _ h => h) (Or.inl ⟨by rfl, ?_⟩) ?_ ?_
           rotate_left
           ·intro w'
            go_simp
            with_reducible rfl
           rotate_left
           ·simp only [Act.put, sa_, s0_, ss_, i64_w, i32_w]
            rfl
           refine done_ (done_of HT_.out (by kernel_rfl)) ?_
           try go_wp2
           go_meet
           case rel => exact ⟨_, (true), (by first | rfl | (simp; done) | (simp [*]; done)), H', ⟨by have := HJ1.out; have := HK2.out; first | omega | exact Nat.le_refl _⟩, ⟨by (with_reducible repeat (first | refine blk_drewN ?_ _ | refine blk_drew ?_ | refine blk_alloc ?_ _)); exact BK461.out⟩, ⟨by (with_reducible repeat (first | refine blk_drewN ?_ _ | refine blk_drew ?_ | refine blk_alloc ?_ _)); exact BK464.out⟩, ⟨by repeat (first | (with_reducible first | exact HB.out | apply below_alloc | apply pw_below_drewN | apply below_drew1 | refine below_set ?_ GE461.out | refine below_set ?_ GE464.out) | exact HB.out)⟩⟩
         case rest =>
          clear HC16
          try clear c1
          try clear c2
          try clear p2
          try clear c8
          try clear c11
          try clear c21
          try clear c23
          obtain ⟨kq, x59_15, rfl, HA, HJ15, BK461, BK464, HB⟩ := hcut
          cases kq with
          | zero => exact absurd HA.out (by simp [impl_SetRight.j2])
          | succ kj15 =>
           have H := HA.out
           clear HA
           simp only [impl_SetRight.j2] at H
           by_cases c51 : x59_15 = true
           ·subst c51
            have H1 : (some false) = some r := by rw [if_pos rfl] at H; exact H
            clear H
            have H := H1
            clear H1
            obtain rfl := Option.some.inj H
            go_wp2
            go_ret
            exact ⟨by first | rfl | (simp [errW_none, errW_some] <;> rfl) | (simp [*, errW_none, errW_some] <;> rfl), by repeat (first | (with_reducible first | exact HB.out | apply below_alloc | apply pw_below_drewN | apply below_drew1 | refine below_set ?_ GE461.out | refine below_set ?_ GE464.out) | exact HB.out)⟩
           ·replace c51 := Bool.eq_false_iff.mpr c51
            subst c51
            have H1 : (impl_SetRight.l0 kj15 l0_1 (l0_1.length : Int) (wrap64 (x18_2 + 1)) l0_0 l0_1) = some r := by rw [if_neg (show ¬ (false = true) by decide)] at H; exact H
            clear H
            have H := H1
            clear H1
            have H' := Aside0.mk H
            clear H
            go_wp2
            go_roundg kj15
            case measure => have := HJ1.out; have := HK2.out; have := HJ15.out; omega
            case rel => exact ⟨(wrap64 (x18_2 + 1)), (by first | rfl | (simp; done) | (simp [*]; done)), H', ⟨by have := HJ1.out; have := HK2.out; have := HJ15.out; omega⟩, ⟨by (with_reducible repeat (first | refine blk_drewN ?_ _ | refine blk_drew ?_ | refine blk_alloc ?_ _)); exact BK461.out⟩, ⟨by repeat (first | (with_reducible first | exact HB.out | apply below_alloc | apply pw_below_drewN | apply below_drew1 | refine below_set ?_ GE461.out | refine below_set ?_ GE464.out) | exact HB.out)⟩⟩
        ·rw [if_neg c15] at H
         exact absurd H (by simp)
       ·rw [if_neg c14] at H
        exact absurd H (by simp)
      ·rw [if_neg c13] at H
       have c13b0 : decide (x18_2 < (l0_1.length : Int)) = false := decide_eq_false c13
       clear c13
       obtain rfl := Option.some.inj H
       go_wp2
       go_ret
       exact ⟨by first | rfl | (simp [errW_none, errW_some] <;> rfl) | (simp [*, errW_none, errW_some] <;> rfl), by repeat (first | (with_reducible first | exact HB.out | apply below_alloc | apply pw_below_drewN | apply below_drew1 | refine below_set ?_ GE461.out) | exact HB.out)⟩

end Go.Proofs.Ytdjhclgkkklajaa.P

namespace Go.Proofs.Ytdjhclgkkklajaa.P
open Go.RowKit Go.Proofs.YtdjhclgkkklajaaW.PrintWords Go.Proofs.YtdjhclgkkklajaaW.PrintLast Go.Proofs.YtdjhclgkkklajaaW.PrintMore
attribute [local go_sem] max2_int min2_int max_two min_two max_three min_three max_four min_four   -- for this text's walks alone
set_option linter.unusedVariables false
set_option linter.unusedSimpArgs false

/-! ### impl_MsgRight: function 65 -/
mutual
def impl_MsgRight.j0 : Nat → Bool → Int → Int → Int → Int → ByteArray → Int → List (S43) → List (S139) → Option (Bool)
 | 0, _, _, _, _, _, _, _, _, _ => none
 | k + 1, x43, x717000, x717001, x717002, x717003, x717004, x717005, x717006, x717007 => if x43 = true then (some false) else (if x717000 = 3 then (impl_MsgRight.j1 k true x717000 x717001 x717002 x717003 x717004 x717005 x717006 x717007) else (impl_MsgRight.j1 k (x717000 == 4) x717000 x717001 x717002 x717003 x717004 x717005 x717006 x717007))
def impl_MsgRight.j1 : Nat → Bool → Int → Int → Int → Int → ByteArray → Int → List (S43) → List (S139) → Option (Bool)
 | 0, _, _, _, _, _, _, _, _, _ => none
 | k + 1, x3, x717000, x717001, x717002, x717003, x717004, x717005, x717006, x717007 => if x3 = true then (if (x717006.length : Int) = 0 then (impl_MsgRight.j2 k true x717000 x717001 x717002 x717003 x717004 x717005 x717006 x717007) else (if x717000 = 1 then (impl_MsgRight.j2 k (decide ((x717006.length : Int) > 0)) x717000 x717001 x717002 x717003 x717004 x717005 x717006 x717007) else (impl_MsgRight.j2 k false x717000 x717001 x717002 x717003 x717004 x717005 x717006 x717007))) else (if x717003 = 0 then (impl_MsgRight.j2 k true x717000 x717001 x717002 x717003 x717004 x717005 x717006 x717007) else (if x717000 = 1 then (impl_MsgRight.j2 k (decide ((x717006.length : Int) > 0)) x717000 x717001 x717002 x717003 x717004 x717005 x717006 x717007) else (impl_MsgRight.j2 k false x717000 x717001 x717002 x717003 x717004 x717005 x717006 x717007)))
def impl_MsgRight.j2 : Nat → Bool → Int → Int → Int → Int → ByteArray → Int → List (S43) → List (S139) → Option (Bool)
 | 0, _, _, _, _, _, _, _, _, _ => none
 | k + 1, x80, x717000, x717001, x717002, x717003, x717004, x717005, x717006, x717007 => if x80 = true then (some false) else (if x717000 = 1 then (some ((x717007.length : Int) == 0)) else (if x717000 = 4 then (some ((x717007.length : Int) == 0)) else (some true)))
end
def impl_MsgRight.f (k : Nat) (a0_0 : Int) (a0_1 : Int) (a0_2 : Int) (a0_3 : Int) (a0_4 : ByteArray) (a0_5 : Int) (l0_6 : List (S43)) (l0_7 : List (S139)) : Option (Bool) := (impl_within.f a0_0 1 4).bind fun t717 => (if t717 = true then ((impl_isNode.f a0_1).bind fun t718 => (if t718 = true then ((impl_isNode.f a0_2).bind fun t719 => (if t719 = true then ((impl_isNode.f a0_5).bind fun t720 => (if t720 = true then ((impl_within.f a0_3 0 1000000).bind fun t721 => (if t721 = true then ((impl_NameRight.f k a0_4).bind fun t722 => (if t722 = true then ((impl_SetRight.f k l0_6 l0_7).bind fun t723 => (impl_MsgRight.j0 k (!t723) a0_0 a0_1 a0_2 a0_3 a0_4 a0_5 l0_6 l0_7)) else (impl_MsgRight.j0 k true a0_0 a0_1 a0_2 a0_3 a0_4 a0_5 l0_6 l0_7))) else (impl_MsgRight.j0 k true a0_0 a0_1 a0_2 a0_3 a0_4 a0_5 l0_6 l0_7))) else (impl_MsgRight.j0 k true a0_0 a0_1 a0_2 a0_3 a0_4 a0_5 l0_6 l0_7))) else (impl_MsgRight.j0 k true a0_0 a0_1 a0_2 a0_3 a0_4 a0_5 l0_6 l0_7))) else (impl_MsgRight.j0 k true a0_0 a0_1 a0_2 a0_3 a0_4 a0_5 l0_6 l0_7))) else (impl_MsgRight.j0 k true a0_0 a0_1 a0_2 a0_3 a0_4 a0_5 l0_6 l0_7))
theorem impl_MsgRight.mono_l : ∀ k, (∀ y0 y1 y2 y3 y4 y5 y6 y7 y8, LeO (impl_MsgRight.j0 k y0 y1 y2 y3 y4 y5 y6 y7 y8) (impl_MsgRight.j0 (k + 1) y0 y1 y2 y3 y4 y5 y6 y7 y8)) ∧ (∀ y0 y1 y2 y3 y4 y5 y6 y7 y8, LeO (impl_MsgRight.j1 k y0 y1 y2 y3 y4 y5 y6 y7 y8) (impl_MsgRight.j1 (k + 1) y0 y1 y2 y3 y4 y5 y6 y7 y8)) ∧ (∀ y0 y1 y2 y3 y4 y5 y6 y7 y8, LeO (impl_MsgRight.j2 k y0 y1 y2 y3 y4 y5 y6 y7 y8) (impl_MsgRight.j2 (k + 1) y0 y1 y2 y3 y4 y5 y6 y7 y8))
 | 0 => ⟨fun _ _ _ _ _ _ _ _ _ r h => by simp [impl_MsgRight.j0] at h, fun _ _ _ _ _ _ _ _ _ r h => by simp [impl_MsgRight.j1] at h, fun _ _ _ _ _ _ _ _ _ r h => by simp [impl_MsgRight.j2] at h⟩
 | k + 1 => by
  obtain ⟨ih0, ih1, ih2⟩ := impl_MsgRight.mono_l k
  refine ⟨?_, ?_, ?_⟩
  ·intro y0 y1 y2 y3 y4 y5 y6 y7 y8
   unfold impl_MsgRight.j0
   repeat' first
   | (with_reducible exact ih0 _ _ _ _ _ _ _ _ _)
   | (with_reducible exact ih1 _ _ _ _ _ _ _ _ _)
   | (with_reducible exact ih2 _ _ _ _ _ _ _ _ _)
   | (with_reducible exact impl_NameRight.mono _ _)
   | (with_reducible exact impl_SetRight.mono _ _ _)
   | (with_reducible exact LeO.refl _)
   | (with_reducible exact LeO.none _)
   | (with_reducible refine LeO.ite ?_ ?_)
   | (with_reducible refine LeO.bind ?_ (fun _ => ?_))
   | exact ih0 _ _ _ _ _ _ _ _ _
   | exact ih1 _ _ _ _ _ _ _ _ _
   | exact ih2 _ _ _ _ _ _ _ _ _
   | exact impl_NameRight.mono _ _
   | exact impl_SetRight.mono _ _ _
   | exact LeO.none _
   | refine LeO.ite ?_ ?_
   | refine LeO.bind ?_ (fun _ => ?_)
  ·intro y0 y1 y2 y3 y4 y5 y6 y7 y8
   unfold impl_MsgRight.j1
   repeat' first
   | (with_reducible exact ih0 _ _ _ _ _ _ _ _ _)
   | (with_reducible exact ih1 _ _ _ _ _ _ _ _ _)
   | (with_reducible exact ih2 _ _ _ _ _ _ _ _ _)
   | (with_reducible exact impl_NameRight.mono _ _)
   | (with_reducible exact impl_SetRight.mono _ _ _)
   | (with_reducible exact LeO.refl _)
   | (with_reducible exact LeO.none _)
   | (with_reducible refine LeO.ite ?_ ?_)
   | (with_reducible refine LeO.bind ?_ (fun _ => ?_))
   | exact ih0 _ _ _ _ _ _ _ _ _
   | exact ih1 _ _ _ _ _ _ _ _ _
   | exact ih2 _ _ _ _ _ _ _ _ _
   | exact impl_NameRight.mono _ _
   | exact impl_SetRight.mono _ _ _
   | exact LeO.none _
   | refine LeO.ite ?_ ?_
   | refine LeO.bind ?_ (fun _ => ?_)
  ·intro y0 y1 y2 y3 y4 y5 y6 y7 y8
   unfold impl_MsgRight.j2
   repeat' first
   | (with_reducible exact ih0 _ _ _ _ _ _ _ _ _)
   | (with_reducible exact ih1 _ _ _ _ _ _ _ _ _)
   | (with_reducible exact ih2 _ _ _ _ _ _ _ _ _)
   | (with_reducible exact impl_NameRight.mono _ _)
   | (with_reducible exact impl_SetRight.mono _ _ _)
   | (with_reducible exact LeO.refl _)
   | (with_reducible exact LeO.none _)
   | (with_reducible refine LeO.ite ?_ ?_)
   | (with_reducible refine LeO.bind ?_ (fun _ => ?_))
   | exact ih0 _ _ _ _ _ _ _ _ _
   | exact ih1 _ _ _ _ _ _ _ _ _
   | exact ih2 _ _ _ _ _ _ _ _ _
   | exact impl_NameRight.mono _ _
   | exact impl_SetRight.mono _ _ _
   | exact LeO.none _
   | refine LeO.ite ?_ ?_
   | refine LeO.bind ?_ (fun _ => ?_)
theorem impl_MsgRight.mono : ∀ a0 a1 a2 a3 a4 a5 a6 a7 k, LeO (impl_MsgRight.f k a0 a1 a2 a3 a4 a5 a6 a7) (impl_MsgRight.f (k + 1) a0 a1 a2 a3 a4 a5 a6 a7) := by
 intro a0 a1 a2 a3 a4 a5 a6 a7 k
 obtain ⟨ih0, ih1, ih2⟩ := impl_MsgRight.mono_l k
 unfold impl_MsgRight.f
 repeat' first
   | (with_reducible exact ih0 _ _ _ _ _ _ _ _ _)
   | (with_reducible exact ih1 _ _ _ _ _ _ _ _ _)
   | (with_reducible exact ih2 _ _ _ _ _ _ _ _ _)
   | (with_reducible exact impl_NameRight.mono _ _)
   | (with_reducible exact impl_SetRight.mono _ _ _)
   | (with_reducible exact LeO.refl _)
   | (with_reducible exact LeO.none _)
   | (with_reducible refine LeO.ite ?_ ?_)
   | (with_reducible refine LeO.bind ?_ (fun _ => ?_))
   | exact ih0 _ _ _ _ _ _ _ _ _
   | exact ih1 _ _ _ _ _ _ _ _ _
   | exact ih2 _ _ _ _ _ _ _ _ _
   | exact impl_NameRight.mono _ _
   | exact impl_SetRight.mono _ _ _
   | exact LeO.none _
   | refine LeO.ite ?_ ?_
   | refine LeO.bind ?_ (fun _ => ?_)
set_option maxHeartbeats 8000000 in
set_option maxRecDepth 100000 in
theorem impl_MsgRight.calls (k : Nat) (a0_0 : Int) (a0_1 : Int) (a0_2 : Int) (a0_3 : Int) (a0_4 : ByteArray) (a0_5 : Int) (A0_6 : Option Addr) (c0_6 : Nat) (l0_6 : List (S43)) (A0_7 : Option Addr) (c0_7 : Nat) (l0_7 : List (S139)) (r : Bool) (w : World) (hr0_6 : Kd.C k43 w A0_6 l0_6.length l0_6) (hc0_6 : l0_6.length ≤ c0_6) (hr0_7 : Kd.C k139 w A0_7 l0_7.length l0_7) (hc0_7 : l0_7.length ≤ c0_7) (h : impl_MsgRight.f k a0_0 a0_1 a0_2 a0_3 a0_4 a0_5 l0_6 l0_7 = some r) :
  Calls Try.prog 65 #[.agg #[.int .i64 a0_0, .int .i64 a0_1, .int .i64 a0_2, .int .i64 a0_3, .string a0_4, .int .i64 a0_5, .slice A0_6 l0_6.length c0_6, .slice A0_7 l0_7.length c0_7]] w fun e w' => e = .returned (.bool r) ∧ Below w.heap.size w w' := by
 have hu102 := Try.underlying102
 have hu75 := Try.underlying75
 have HR0_6 := Aside0.mk hr0_6
 have HC0_6 := Aside0.mk hc0_6
 clear hr0_6 hc0_6
 have HR0_7 := Aside0.mk hr0_7
 have HC0_7 := Aside0.mk hc0_7
 clear hr0_7 hc0_7
 have HB := Aside0.mk (Below.refl w.heap.size w)
 have H : ((impl_within.f a0_0 1 4).bind fun t717 => (if t717 = true then ((impl_isNode.f a0_1).bind fun t718 => (if t718 = true then ((impl_isNode.f a0_2).bind fun t719 => (if t719 = true then ((impl_isNode.f a0_5).bind fun t720 => (if t720 = true then ((impl_within.f a0_3 0 1000000).bind fun t721 => (if t721 = true then ((impl_NameRight.f k a0_4).bind fun t722 => (if t722 = true then ((impl_SetRight.f k l0_6 l0_7).bind fun t723 => (impl_MsgRight.j0 k (!t723) a0_0 a0_1 a0_2 a0_3 a0_4 a0_5 l0_6 l0_7)) else (impl_MsgRight.j0 k true a0_0 a0_1 a0_2 a0_3 a0_4 a0_5 l0_6 l0_7))) else (impl_MsgRight.j0 k true a0_0 a0_1 a0_2 a0_3 a0_4 a0_5 l0_6 l0_7))) else (impl_MsgRight.j0 k true a0_0 a0_1 a0_2 a0_3 a0_4 a0_5 l0_6 l0_7))) else (impl_MsgRight.j0 k true a0_0 a0_1 a0_2 a0_3 a0_4 a0_5 l0_6 l0_7))) else (impl_MsgRight.j0 k true a0_0 a0_1 a0_2 a0_3 a0_4 a0_5 l0_6 l0_7))) else (impl_MsgRight.j0 k true a0_0 a0_1 a0_2 a0_3 a0_4 a0_5 l0_6 l0_7))) = some r := h
 clear h
 have HC2 := Aside0.mk H
 clear H
 go_enter Try.func65, Try.ntmps65
 go_upto_region 1 with (first | ((with_reducible refine gate_dst (N := 1) rfl ?_); (try (refine gate_guard (by rfl) ?_; dsimp only)); refine box_event ?hg (N := 1) ?hd (cs := #[.int .i64 a0_0, .int .i64 a0_1, .int .i64 a0_2, .int .i64 a0_3, .string a0_4, .int .i64 a0_5, .slice A0_6 l0_6.length c0_6, .slice A0_7 l0_7.length c0_7]) (t := 102) ?hr ?_; (case hd => rfl); (case hg => rfl); (case hr => first | (go_simp; done) | (go_simp; rfl)); intro gb716 hg w3 hbox hb; have n0_ := Aside0.mk (below_step (by repeat (first | (with_reducible first | exact HB.out | apply below_alloc | apply pw_below_drewN | apply below_drew1) | exact HB.out)) hb); have n1_ := Aside0.mk (hbox); have n2_ := Aside0.mk ((by rw [hg]; exact (below_size (by repeat (first | (with_reducible first | exact HB.out | apply below_alloc | apply pw_below_drewN | apply below_drew1) | exact HB.out))) : w.heap.size ≤ gb716)); have n3_ := Aside0.mk ((by rw [hg]; exact (below_size (by repeat (first | (with_reducible first | exact HB.out | apply below_alloc | apply pw_below_drewN | apply below_drew1) | exact HB.out))) : w.heap.size ≤ gb716)); clear HB; have HB := n0_; have BK716 := n1_; have GW716 := n2_; have GE716 := n3_; clear n0_ n1_ n2_ n3_; clear hb hbox hg))
 (try simp only [Act.put, sa_, s0_, ss_])
 go_cut [43] (fun v43 wc => ∃ (kq : Nat) (x43_1 : Bool), v43 = .bool x43_1 ∧ Aside0 (impl_MsgRight.j0 kq x43_1 a0_0 a0_1 a0_2 a0_3 a0_4 a0_5 l0_6 l0_7 = some r) ∧ Aside0 (kq ≤ k) ∧ Aside0 (wc.heap[gb716]? = some (.cells #[.int .i64 a0_0, .int .i64 a0_1, .int .i64 a0_2, .int .i64 a0_3, .string a0_4, .int .i64 a0_5, (.slice A0_6 l0_6.length c0_6), (.slice A0_7 l0_7.length c0_7)] 102 (0, 0))) ∧ Aside0 (Below w.heap.size w wc))
 case first =>
  have H := HC2.out
  clear HC2
  replace H := Option.bind_eq_some_iff.mp H
  obtain ⟨t717, A40, H⟩ := H
  replace H : (if t717 = true then ((impl_isNode.f a0_1).bind fun t718 => (if t718 = true then ((impl_isNode.f a0_2).bind fun t719 => (if t719 = true then ((impl_isNode.f a0_5).bind fun t720 => (if t720 = true then ((impl_within.f a0_3 0 1000000).bind fun t721 => (if t721 = true then ((impl_NameRight.f k a0_4).bind fun t722 => (if t722 = true then ((impl_SetRight.f k l0_6 l0_7).bind fun t723 => (impl_MsgRight.j0 k (!t723) a0_0 a0_1 a0_2 a0_3 a0_4 a0_5 l0_6 l0_7)) else (impl_MsgRight.j0 k true a0_0 a0_1 a0_2 a0_3 a0_4 a0_5 l0_6 l0_7))) else (impl_MsgRight.j0 k true a0_0 a0_1 a0_2 a0_3 a0_4 a0_5 l0_6 l0_7))) else (impl_MsgRight.j0 k true a0_0 a0_1 a0_2 a0_3 a0_4 a0_5 l0_6 l0_7))) else (impl_MsgRight.j0 k true a0_0 a0_1 a0_2 a0_3 a0_4 a0_5 l0_6 l0_7))) else (impl_MsgRight.j0 k true a0_0 a0_1 a0_2 a0_3 a0_4 a0_5 l0_6 l0_7))) else (impl_MsgRight.j0 k true a0_0 a0_1 a0_2 a0_3 a0_4 a0_5 l0_6 l0_7)) = some r := H
  have A4 := Aside0.mk A40
  clear A40
  by_cases c5 : t717 = true
  ·subst c5
   have H1 : ((impl_isNode.f a0_1).bind fun t718 => (if t718 = true then ((impl_isNode.f a0_2).bind fun t719 => (if t719 = true then ((impl_isNode.f a0_5).bind fun t720 => (if t720 = true then ((impl_within.f a0_3 0 1000000).bind fun t721 => (if t721 = true then ((impl_NameRight.f k a0_4).bind fun t722 => (if t722 = true then ((impl_SetRight.f k l0_6 l0_7).bind fun t723 => (impl_MsgRight.j0 k (!t723) a0_0 a0_1 a0_2 a0_3 a0_4 a0_5 l0_6 l0_7)) else (impl_MsgRight.j0 k true a0_0 a0_1 a0_2 a0_3 a0_4 a0_5 l0_6 l0_7))) else (impl_MsgRight.j0 k true a0_0 a0_1 a0_2 a0_3 a0_4 a0_5 l0_6 l0_7))) else (impl_MsgRight.j0 k true a0_0 a0_1 a0_2 a0_3 a0_4 a0_5 l0_6 l0_7))) else (impl_MsgRight.j0 k true a0_0 a0_1 a0_2 a0_3 a0_4 a0_5 l0_6 l0_7))) else (impl_MsgRight.j0 k true a0_0 a0_1 a0_2 a0_3 a0_4 a0_5 l0_6 l0_7))) = some r := by rw [if_pos rfl] at H; exact H
   clear H
   have H := H1
   clear H1
   replace H := Option.bind_eq_some_iff.mp H
   obtain ⟨t718, A60, H⟩ := H
   replace H : (if t718 = true then ((impl_isNode.f a0_2).bind fun t719 => (if t719 = true then ((impl_isNode.f a0_5).bind fun t720 => (if t720 = true then ((impl_within.f a0_3 0 1000000).bind fun t721 => (if t721 = true then ((impl_NameRight.f k a0_4).bind fun t722 => (if t722 = true then ((impl_SetRight.f k l0_6 l0_7).bind fun t723 => (impl_MsgRight.j0 k (!t723) a0_0 a0_1 a0_2 a0_3 a0_4 a0_5 l0_6 l0_7)) else (impl_MsgRight.j0 k true a0_0 a0_1 a0_2 a0_3 a0_4 a0_5 l0_6 l0_7))) else (impl_MsgRight.j0 k true a0_0 a0_1 a0_2 a0_3 a0_4 a0_5 l0_6 l0_7))) else (impl_MsgRight.j0 k true a0_0 a0_1 a0_2 a0_3 a0_4 a0_5 l0_6 l0_7))) else (impl_MsgRight.j0 k true a0_0 a0_1 a0_2 a0_3 a0_4 a0_5 l0_6 l0_7))) else (impl_MsgRight.j0 k true a0_0 a0_1 a0_2 a0_3 a0_4 a0_5 l0_6 l0_7)) = some r := H
   have A6 := Aside0.mk A60
   clear A60
   by_cases c7 : t718 = true
   ·subst c7
    have H1 : ((impl_isNode.f a0_2).bind fun t719 => (if t719 = true then ((impl_isNode.f a0_5).bind fun t720 => (if t720 = true then ((impl_within.f a0_3 0 1000000).bind fun t721 => (if t721 = true then ((impl_NameRight.f k a0_4).bind fun t722 => (if t722 = true then ((impl_SetRight.f k l0_6 l0_7).bind fun t723 => (impl_MsgRight.j0 k (!t723) a0_0 a0_1 a0_2 a0_3 a0_4 a0_5 l0_6 l0_7)) else (impl_MsgRight.j0 k true a0_0 a0_1 a0_2 a0_3 a0_4 a0_5 l0_6 l0_7))) else (impl_MsgRight.j0 k true a0_0 a0_1 a0_2 a0_3 a0_4 a0_5 l0_6 l0_7))) else (impl_MsgRight.j0 k true a0_0 a0_1 a0_2 a0_3 a0_4 a0_5 l0_6 l0_7))) else (impl_MsgRight.j0 k true a0_0 a0_1 a0_2 a0_3 a0_4 a0_5 l0_6 l0_7))) = some r := by rw [if_pos rfl] at H; exact H
    clear H
    have H := H1
    clear H1
    replace H := Option.bind_eq_some_iff.mp H
    obtain ⟨t719, A80, H⟩ := H
    replace H : (if t719 = true then ((impl_isNode.f a0_5).bind fun t720 => (if t720 = true then ((impl_within.f a0_3 0 1000000).bind fun t721 => (if t721 = true then ((impl_NameRight.f k a0_4).bind fun t722 => (if t722 = true then ((impl_SetRight.f k l0_6 l0_7).bind fun t723 => (impl_MsgRight.j0 k (!t723) a0_0 a0_1 a0_2 a0_3 a0_4 a0_5 l0_6 l0_7)) else (impl_MsgRight.j0 k true a0_0 a0_1 a0_2 a0_3 a0_4 a0_5 l0_6 l0_7))) else (impl_MsgRight.j0 k true a0_0 a0_1 a0_2 a0_3 a0_4 a0_5 l0_6 l0_7))) else (impl_MsgRight.j0 k true a0_0 a0_1 a0_2 a0_3 a0_4 a0_5 l0_6 l0_7))) else (impl_MsgRight.j0 k true a0_0 a0_1 a0_2 a0_3 a0_4 a0_5 l0_6 l0_7)) = some r := H
    have A8 := Aside0.mk A80
    clear A80
    by_cases c9 : t719 = true
    ·subst c9
     have H1 : ((impl_isNode.f a0_5).bind fun t720 => (if t720 = true then ((impl_within.f a0_3 0 1000000).bind fun t721 => (if t721 = true then ((impl_NameRight.f k a0_4).bind fun t722 => (if t722 = true then ((impl_SetRight.f k l0_6 l0_7).bind fun t723 => (impl_MsgRight.j0 k (!t723) a0_0 a0_1 a0_2 a0_3 a0_4 a0_5 l0_6 l0_7)) else (impl_MsgRight.j0 k true a0_0 a0_1 a0_2 a0_3 a0_4 a0_5 l0_6 l0_7))) else (impl_MsgRight.j0 k true a0_0 a0_1 a0_2 a0_3 a0_4 a0_5 l0_6 l0_7))) else (impl_MsgRight.j0 k true a0_0 a0_1 a0_2 a0_3 a0_4 a0_5 l0_6 l0_7))) = some r := by rw [if_pos rfl] at H; exact H
     clear H
     have H := H1
     clear H1
     replace H := Option.bind_eq_some_iff.mp H
     obtain ⟨t720, A100, H⟩ := H
     replace H : (if t720 = true then ((impl_within.f a0_3 0 1000000).bind fun t721 => (if t721 = true then ((impl_NameRight.f k a0_4).bind fun t722 => (if t722 = true then ((impl_SetRight.f k l0_6 l0_7).bind fun t723 => (impl_MsgRight.j0 k (!t723) a0_0 a0_1 a0_2 a0_3 a0_4 a0_5 l0_6 l0_7)) else (impl_MsgRight.j0 k true a0_0 a0_1 a0_2 a0_3 a0_4 a0_5 l0_6 l0_7))) else (impl_MsgRight.j0 k true a0_0 a0_1 a0_2 a0_3 a0_4 a0_5 l0_6 l0_7))) else (impl_MsgRight.j0 k true a0_0 a0_1 a0_2 a0_3 a0_4 a0_5 l0_6 l0_7)) = some r := H
     have A10 := Aside0.mk A100
     clear A100
     by_cases c11 : t720 = true
     ·subst c11
      have H1 : ((impl_within.f a0_3 0 1000000).bind fun t721 => (if t721 = true then ((impl_NameRight.f k a0_4).bind fun t722 => (if t722 = true then ((impl_SetRight.f k l0_6 l0_7).bind fun t723 => (impl_MsgRight.j0 k (!t723) a0_0 a0_1 a0_2 a0_3 a0_4 a0_5 l0_6 l0_7)) else (impl_MsgRight.j0 k true a0_0 a0_1 a0_2 a0_3 a0_4 a0_5 l0_6 l0_7))) else (impl_MsgRight.j0 k true a0_0 a0_1 a0_2 a0_3 a0_4 a0_5 l0_6 l0_7))) = some r := by rw [if_pos rfl] at H; exact H
      clear H
      have H := H1
      clear H1
      replace H := Option.bind_eq_some_iff.mp H
      obtain ⟨t721, A120, H⟩ := H
      replace H : (if t721 = true then ((impl_NameRight.f k a0_4).bind fun t722 => (if t722 = true then ((impl_SetRight.f k l0_6 l0_7).bind fun t723 => (impl_MsgRight.j0 k (!t723) a0_0 a0_1 a0_2 a0_3 a0_4 a0_5 l0_6 l0_7)) else (impl_MsgRight.j0 k true a0_0 a0_1 a0_2 a0_3 a0_4 a0_5 l0_6 l0_7))) else (impl_MsgRight.j0 k true a0_0 a0_1 a0_2 a0_3 a0_4 a0_5 l0_6 l0_7)) = some r := H
      have A12 := Aside0.mk A120
      clear A120
      by_cases c13 : t721 = true
      ·subst c13
       have H1 : ((impl_NameRight.f k a0_4).bind fun t722 => (if t722 = true then ((impl_SetRight.f k l0_6 l0_7).bind fun t723 => (impl_MsgRight.j0 k (!t723) a0_0 a0_1 a0_2 a0_3 a0_4 a0_5 l0_6 l0_7)) else (impl_MsgRight.j0 k true a0_0 a0_1 a0_2 a0_3 a0_4 a0_5 l0_6 l0_7))) = some r := by rw [if_pos rfl] at H; exact H
       clear H
       have H := H1
       clear H1
       replace H := Option.bind_eq_some_iff.mp H
       obtain ⟨t722, A140, H⟩ := H
       replace H : (if t722 = true then ((impl_SetRight.f k l0_6 l0_7).bind fun t723 => (impl_MsgRight.j0 k (!t723) a0_0 a0_1 a0_2 a0_3 a0_4 a0_5 l0_6 l0_7)) else (impl_MsgRight.j0 k true a0_0 a0_1 a0_2 a0_3 a0_4 a0_5 l0_6 l0_7)) = some r := H
       have A14 := Aside0.mk A140
       clear A140
       by_cases c15 : t722 = true
       ·subst c15
        have H1 : ((impl_SetRight.f k l0_6 l0_7).bind fun t723 => (impl_MsgRight.j0 k (!t723) a0_0 a0_1 a0_2 a0_3 a0_4 a0_5 l0_6 l0_7)) = some r := by rw [if_pos rfl] at H; exact H
        clear H
        have H := H1
        clear H1
        replace H := Option.bind_eq_some_iff.mp H
        obtain ⟨t723, A160, H⟩ := H
        replace H : (impl_MsgRight.j0 k (!t723) a0_0 a0_1 a0_2 a0_3 a0_4 a0_5 l0_6 l0_7) = some r := H
        have A16 := Aside0.mk A160
        clear A160
        have H' := Aside0.mk H
        clear H
        have hcz17_0 : w3.cell? ⟨gb716, 0, none⟩ = some (.int .i64 a0_0) := (blk_cell BK716.out 0).trans rfl
        have hcz17_1 : w3.cell? ⟨gb716, 1, none⟩ = some (.int .i64 a0_1) := (blk_cell BK716.out 1).trans rfl
        have hcz17_2 : w3.cell? ⟨gb716, 2, none⟩ = some (.int .i64 a0_2) := (blk_cell BK716.out 2).trans rfl
        have hcz17_3 : w3.cell? ⟨gb716, 3, none⟩ = some (.int .i64 a0_3) := (blk_cell BK716.out 3).trans rfl
        have hcz17_4 : w3.cell? ⟨gb716, 4, none⟩ = some (.string a0_4) := (blk_cell BK716.out 4).trans rfl
        have hcz17_5 : w3.cell? ⟨gb716, 5, none⟩ = some (.int .i64 a0_5) := (blk_cell BK716.out 5).trans rfl
        have hcz17_6 : w3.cell? ⟨gb716, 6, none⟩ = some (.slice A0_6 l0_6.length c0_6) := (blk_cell BK716.out 6).trans rfl
        have hcz17_7 : w3.cell? ⟨gb716, 7, none⟩ = some (.slice A0_7 l0_7.length c0_7) := (blk_cell BK716.out 7).trans rfl
        have hfz17_0 := blk_frozen BK716.out 0
        have hfz17_1 := blk_frozen BK716.out 1
        have hfz17_2 := blk_frozen BK716.out 2
        have hfz17_3 := blk_frozen BK716.out 3
        have hfz17_4 := blk_frozen BK716.out 4
        have hfz17_5 := blk_frozen BK716.out 5
        have hfz17_6 := blk_frozen BK716.out 6
        have hfz17_7 := blk_frozen BK716.out 7
        go_wp2_with (first | ((with_reducible refine gate_callee (f := 81) rfl ?_); refine goesL_ (some 6) rfl rfl Try.func81 (by kernel_rfl) rfl #[.int .i64 a0_0, .int .i64 1, .int .i64 4] rfl (by (try simp only [List.map_toArray, List.map_cons, List.map_nil]); first | done | rfl | (simp only [List.length_drop, List.length_take]; rfl)) ?_; (with_reducible refine (impl_within.calls a0_0 1 4 true _ A4.out).mono ?_); rintro e w' ⟨rfl, ⟨nd, rfl⟩⟩; refine ⟨_, rfl, ?_⟩) | (go_at_call 116; (with_reducible refine (impl_isNode.calls a0_1 true _ A6.out).mono ?_); rintro e w' ⟨rfl, ⟨nd, rfl⟩⟩) | (go_at_call 116; (with_reducible refine (impl_isNode.calls a0_2 true _ A8.out).mono ?_); rintro e w' ⟨rfl, ⟨nd, rfl⟩⟩) | (go_at_call 116; (with_reducible refine (impl_isNode.calls a0_5 true _ A10.out).mono ?_); rintro e w' ⟨rfl, ⟨nd, rfl⟩⟩) | (go_at_call 81; (with_reducible refine (impl_within.calls a0_3 0 1000000 true _ A12.out).mono ?_); rintro e w' ⟨rfl, ⟨nd, rfl⟩⟩) | (go_at_call 93; (with_reducible refine (impl_NameRight.calls k a0_4 true _ A14.out).mono ?_); rintro e w' ⟨rfl, ⟨nd, rfl⟩⟩) | (go_at_call 45; (with_reducible refine (impl_SetRight.calls k _ _ l0_6 _ _ l0_7 t723 _ ?side1 ?side2 ?side3 ?side4 A16.out).mono ?_); (case side1 => repeat (first | exact (Kd.C_below HR0_6.out (by repeat (first | (with_reducible first | exact HB.out | apply below_alloc | apply pw_below_drewN | apply below_drew1 | refine below_set ?_ GE716.out) | exact HB.out))) | (with_reducible refine Kd.C_alloc ?_ _) | (with_reducible refine Kd.C_drewN ?_ _) | (with_reducible refine Kd.C_drew ?_))); (case side2 => exact HC0_6.out); (case side3 => repeat (first | exact (Kd.C_below HR0_7.out (by repeat (first | (with_reducible first | exact HB.out | apply below_alloc | apply pw_below_drewN | apply below_drew1 | refine below_set ?_ GE716.out) | exact HB.out))) | (with_reducible refine Kd.C_alloc ?_ _) | (with_reducible refine Kd.C_drewN ?_ _) | (with_reducible refine Kd.C_drew ?_))); (case side4 => exact HC0_7.out); rintro e w18 ⟨rfl, hb⟩; have n0_ := Aside0.mk (blk_below (g := gb716) (o := .cells #[.int .i64 a0_0, .int .i64 a0_1, .int .i64 a0_2, .int .i64 a0_3, .string a0_4, .int .i64 a0_5, .slice A0_6 l0_6.length c0_6, .slice A0_7 l0_7.length c0_7] 102 (0, 0)) (by (with_reducible repeat (first | refine blk_drewN ?_ _ | refine blk_drew ?_ | refine blk_alloc ?_ _)); exact BK716.out) hb); have n1_ := Aside0.mk (below_step (by repeat (first | (with_reducible first | exact HB.out | apply below_alloc | apply pw_below_drewN | apply below_drew1 | refine below_set ?_ GE716.out) | exact HB.out)) hb); clear BK716; clear HB; have BK716 := n0_; have HB := n1_; clear n0_ n1_; (try clear hb); (try clear hb2); (try clear hk); (try clear hi)))
        go_meet
        case rel => exact ⟨_, (!t723), (by first | rfl | (simp; done) | (simp [*]; done)), H', ⟨by first | omega | exact Nat.le_refl _⟩, ⟨by (with_reducible repeat (first | refine blk_drewN ?_ _ | refine blk_drew ?_ | refine blk_alloc ?_ _)); exact BK716.out⟩, ⟨by repeat (first | (with_reducible first | exact HB.out | apply below_alloc | apply pw_below_drewN | apply below_drew1 | refine below_set ?_ GE716.out) | exact HB.out)⟩⟩
       ·replace c15 := Bool.eq_false_iff.mpr c15
        subst c15
        have H1 : (impl_MsgRight.j0 k true a0_0 a0_1 a0_2 a0_3 a0_4 a0_5 l0_6 l0_7) = some r := by rw [if_neg (show ¬ (false = true) by decide)] at H; exact H
        clear H
        have H := H1
        clear H1
        have H' := Aside0.mk H
        clear H
        have hcz19_0 : w3.cell? ⟨gb716, 0, none⟩ = some (.int .i64 a0_0) := (blk_cell BK716.out 0).trans rfl
        have hcz19_1 : w3.cell? ⟨gb716, 1, none⟩ = some (.int .i64 a0_1) := (blk_cell BK716.out 1).trans rfl
        have hcz19_2 : w3.cell? ⟨gb716, 2, none⟩ = some (.int .i64 a0_2) := (blk_cell BK716.out 2).trans rfl
        have hcz19_3 : w3.cell? ⟨gb716, 3, none⟩ = some (.int .i64 a0_3) := (blk_cell BK716.out 3).trans rfl
        have hcz19_4 : w3.cell? ⟨gb716, 4, none⟩ = some (.string a0_4) := (blk_cell BK716.out 4).trans rfl
        have hcz19_5 : w3.cell? ⟨gb716, 5, none⟩ = some (.int .i64 a0_5) := (blk_cell BK716.out 5).trans rfl
        have hcz19_6 : w3.cell? ⟨gb716, 6, none⟩ = some (.slice A0_6 l0_6.length c0_6) := (blk_cell BK716.out 6).trans rfl
        have hcz19_7 : w3.cell? ⟨gb716, 7, none⟩ = some (.slice A0_7 l0_7.length c0_7) := (blk_cell BK716.out 7).trans rfl
        have hfz19_0 := blk_frozen BK716.out 0
        have hfz19_1 := blk_frozen BK716.out 1
        have hfz19_2 := blk_frozen BK716.out 2
        have hfz19_3 := blk_frozen BK716.out 3
        have hfz19_4 := blk_frozen BK716.out 4
        have hfz19_5 := blk_frozen BK716.out 5
        have hfz19_6 := blk_frozen BK716.out 6
        have hfz19_7 := blk_frozen BK716.out 7
        go_wp2_with (first | ((with_reducible refine gate_callee (f := 81) rfl ?_); refine goesL_ (some 6) rfl rfl Try.func81 (by kernel_rfl) rfl #[.int .i64 a0_0, .int .i64 1, .int .i64 4] rfl (by (try simp only [List.map_toArray, List.map_cons, List.map_nil]); first | done | rfl | (simp only [List.length_drop, List.length_take]; rfl)) ?_; (with_reducible refine (impl_within.calls a0_0 1 4 true _ A4.out).mono ?_); rintro e w' ⟨rfl, ⟨nd, rfl⟩⟩; refine ⟨_, rfl, ?_⟩) | (go_at_call 116; (with_reducible refine (impl_isNode.calls a0_1 true _ A6.out).mono ?_); rintro e w' ⟨rfl, ⟨nd, rfl⟩⟩) | (go_at_call 116; (with_reducible refine (impl_isNode.calls a0_2 true _ A8.out).mono ?_); rintro e w' ⟨rfl, ⟨nd, rfl⟩⟩) | (go_at_call 116; (with_reducible refine (impl_isNode.calls a0_5 true _ A10.out).mono ?_); rintro e w' ⟨rfl, ⟨nd, rfl⟩⟩) | (go_at_call 81; (with_reducible refine (impl_within.calls a0_3 0 1000000 true _ A12.out).mono ?_); rintro e w' ⟨rfl, ⟨nd, rfl⟩⟩) | (go_at_call 93; (with_reducible refine (impl_NameRight.calls k a0_4 false _ A14.out).mono ?_); rintro e w' ⟨rfl, ⟨nd, rfl⟩⟩))
        go_meet
        case rel => exact ⟨_, (true), (by first | rfl | (simp; done) | (simp [*]; done)), H', ⟨by first | omega | exact Nat.le_refl _⟩, ⟨by (with_reducible repeat (first | refine blk_drewN ?_ _ | refine blk_drew ?_ | refine blk_alloc ?_ _)); exact BK716.out⟩, ⟨by repeat (first | (with_reducible first | exact HB.out | apply below_alloc | apply pw_below_drewN | apply below_drew1 | refine below_set ?_ GE716.out) | exact HB.out)⟩⟩
      ·replace c13 := Bool.eq_false_iff.mpr c13
       subst c13
       have H1 : (impl_MsgRight.j0 k true a0_0 a0_1 a0_2 a0_3 a0_4 a0_5 l0_6 l0_7) = some r := by rw [if_neg (show ¬ (false = true) by decide)] at H; exact H
       clear H
       have H := H1
       clear H1
       have H' := Aside0.mk H
       clear H
       have hcz20_0 : w3.cell? ⟨gb716, 0, none⟩ = some (.int .i64 a0_0) := (blk_cell BK716.out 0).trans rfl
       have hcz20_1 : w3.cell? ⟨gb716, 1, none⟩ = some (.int .i64 a0_1) := (blk_cell BK716.out 1).trans rfl
       have hcz20_2 : w3.cell? ⟨gb716, 2, none⟩ = some (.int .i64 a0_2) := (blk_cell BK716.out 2).trans rfl
       have hcz20_3 : w3.cell? ⟨gb716, 3, none⟩ = some (.int .i64 a0_3) := (blk_cell BK716.out 3).trans rfl
       have hcz20_4 : w3.cell? ⟨gb716, 4, none⟩ = some (.string a0_4) := (blk_cell BK716.out 4).trans rfl
       have hcz20_5 : w3.cell? ⟨gb716, 5, none⟩ = some (.int .i64 a0_5) := (blk_cell BK716.out 5).trans rfl
       have hcz20_6 : w3.cell? ⟨gb716, 6, none⟩ = some (.slice A0_6 l0_6.length c0_6) := (blk_cell BK716.out 6).trans rfl
       have hcz20_7 : w3.cell? ⟨gb716, 7, none⟩ = some (.slice A0_7 l0_7.length c0_7) := (blk_cell BK716.out 7).trans rfl
       have hfz20_0 := blk_frozen BK716.out 0
       have hfz20_1 := blk_frozen BK716.out 1
       have hfz20_2 := blk_frozen BK716.out 2
       have hfz20_3 := blk_frozen BK716.out 3
       have hfz20_4 := blk_frozen BK716.out 4
       have hfz20_5 := blk_frozen BK716.out 5
       have hfz20_6 := blk_frozen BK716.out 6
       have hfz20_7 := blk_frozen BK716.out 7
       go_wp2_with (first | ((with_reducible refine gate_callee (f := 81) rfl ?_); refine goesL_ (some 6) rfl rfl Try.func81 (by kernel_rfl) rfl #[.int .i64 a0_0, .int .i64 1, .int .i64 4] rfl (by (try simp only [List.map_toArray, List.map_cons, List.map_nil]); first | done | rfl | (simp only [List.length_drop, List.length_take]; rfl)) ?_; (with_reducible refine (impl_within.calls a0_0 1 4 true _ A4.out).mono ?_); rintro e w' ⟨rfl, ⟨nd, rfl⟩⟩; refine ⟨_, rfl, ?_⟩) | (go_at_call 116; (with_reducible refine (impl_isNode.calls a0_1 true _ A6.out).mono ?_); rintro e w' ⟨rfl, ⟨nd, rfl⟩⟩) | (go_at_call 116; (with_reducible refine (impl_isNode.calls a0_2 true _ A8.out).mono ?_); rintro e w' ⟨rfl, ⟨nd, rfl⟩⟩) | (go_at_call 116; (with_reducible refine (impl_isNode.calls a0_5 true _ A10.out).mono ?_); rintro e w' ⟨rfl, ⟨nd, rfl⟩⟩) | (go_at_call 81; (with_reducible refine (impl_within.calls a0_3 0 1000000 false _ A12.out).mono ?_); rintro e w' ⟨rfl, ⟨nd, rfl⟩⟩))
       go_meet
       case rel => exact ⟨_, (true), (by first | rfl | (simp; done) | (simp [*]; done)), H', ⟨by first | omega | exact Nat.le_refl _⟩, ⟨by (with_reducible repeat (first | refine blk_drewN ?_ _ | refine blk_drew ?_ | refine blk_alloc ?_ _)); exact BK716.out⟩, ⟨by repeat (first | (with_reducible first | exact HB.out | apply below_alloc | apply pw_below_drewN | apply below_drew1 | refine below_set ?_ GE716.out) | exact HB.out)⟩⟩
     ·replace c11 := Bool.eq_false_iff.mpr c11
      subst c11
      have H1 : (impl_MsgRight.j0 k true a0_0 a0_1 a0_2 a0_3 a0_4 a0_5 l0_6 l0_7) = some r := by rw [if_neg (show ¬ (false = true) by decide)] at H; exact H
      clear H
      have H := H1
      clear H1
      have H' := Aside0.mk H
      clear H
      have hcz21_0 : w3.cell? ⟨gb716, 0, none⟩ = some (.int .i64 a0_0) := (blk_cell BK716.out 0).trans rfl
      have hcz21_1 : w3.cell? ⟨gb716, 1, none⟩ = some (.int .i64 a0_1) := (blk_cell BK716.out 1).trans rfl
      have hcz21_2 : w3.cell? ⟨gb716, 2, none⟩ = some (.int .i64 a0_2) := (blk_cell BK716.out 2).trans rfl
      have hcz21_3 : w3.cell? ⟨gb716, 3, none⟩ = some (.int .i64 a0_3) := (blk_cell BK716.out 3).trans rfl
      have hcz21_4 : w3.cell? ⟨gb716, 4, none⟩ = some (.string a0_4) := (blk_cell BK716.out 4).trans rfl
      have hcz21_5 : w3.cell? ⟨gb716, 5, none⟩ = some (.int .i64 a0_5) := (blk_cell BK716.out 5).trans rfl
      have hcz21_6 : w3.cell? ⟨gb716, 6, none⟩ = some (.slice A0_6 l0_6.length c0_6) := (blk_cell BK716.out 6).trans rfl
      have hcz21_7 : w3.cell? ⟨gb716, 7, none⟩ = some (.slice A0_7 l0_7.length c0_7) := (blk_cell BK716.out 7).trans rfl
      have hfz21_0 := blk_frozen BK716.out 0
      have hfz21_1 := blk_frozen BK716.out 1
      have hfz21_2 := blk_frozen BK716.out 2
      have hfz21_3 := blk_frozen BK716.out 3
      have hfz21_4 := blk_frozen BK716.out 4
      have hfz21_5 := blk_frozen BK716.out 5
      have hfz21_6 := blk_frozen BK716.out 6
      have hfz21_7 := blk_frozen BK716.out 7
      go_wp2_with (first | ((with_reducible refine gate_callee (f := 81) rfl ?_); refine goesL_ (some 6) rfl rfl Try.func81 (by kernel_rfl) rfl #[.int .i64 a0_0, .int .i64 1, .int .i64 4] rfl (by (try simp only [List.map_toArray, List.map_cons, List.map_nil]); first | done | rfl | (simp only [List.length_drop, List.length_take]; rfl)) ?_; (with_reducible refine (impl_within.calls a0_0 1 4 true _ A4.out).mono ?_); rintro e w' ⟨rfl, ⟨nd, rfl⟩⟩; refine ⟨_, rfl, ?_⟩) | (go_at_call 116; (with_reducible refine (impl_isNode.calls a0_1 true _ A6.out).mono ?_); rintro e w' ⟨rfl, ⟨nd, rfl⟩⟩) | (go_at_call 116; (with_reducible refine (impl_isNode.calls a0_2 true _ A8.out).mono ?_); rintro e w' ⟨rfl, ⟨nd, rfl⟩⟩) | (go_at_call 116; (with_reducible refine (impl_isNode.calls a0_5 false _ A10.out).mono ?_); rintro e w' ⟨rfl, ⟨nd, rfl⟩⟩))
      go_meet
      case rel => exact ⟨_, (true), (by first | rfl | (simp; done) | (simp [*]; done)), H', ⟨by first | omega | exact Nat.le_refl _⟩, ⟨by (with_reducible repeat (first | refine blk_drewN ?_ _ | refine blk_drew ?_ | refine blk_alloc ?_ _)); exact BK716.out⟩, ⟨by repeat (first | (with_reducible first | exact HB.out | apply below_alloc | apply pw_below_drewN | apply below_drew1 | refine below_set ?_ GE716.out) | exact HB.out)⟩⟩
    ·replace c9 := Bool.eq_false_iff.mpr c9
     subst c9
     have H1 : (impl_MsgRight.j0 k true a0_0 a0_1 a0_2 a0_3 a0_4 a0_5 l0_6 l0_7) = some r := by rw [if_neg (show ¬ (false = true) by decide)] at H; exact H
     clear H
     have H := H1
     clear H1
     have H' := Aside0.mk H
     clear H
     have hcz22_0 : w3.cell? ⟨gb716, 0, none⟩ = some (.int .i64 a0_0) := (blk_cell BK716.out 0).trans rfl
     have hcz22_1 : w3.cell? ⟨gb716, 1, none⟩ = some (.int .i64 a0_1) := (blk_cell BK716.out 1).trans rfl
     have hcz22_2 : w3.cell? ⟨gb716, 2, none⟩ = some (.int .i64 a0_2) := (blk_cell BK716.out 2).trans rfl
     have hcz22_3 : w3.cell? ⟨gb716, 3, none⟩ = some (.int .i64 a0_3) := (blk_cell BK716.out 3).trans rfl
     have hcz22_4 : w3.cell? ⟨gb716, 4, none⟩ = some (.string a0_4) := (blk_cell BK716.out 4).trans rfl
     have hcz22_5 : w3.cell? ⟨gb716, 5, none⟩ = some (.int .i64 a0_5) := (blk_cell BK716.out 5).trans rfl
     have hcz22_6 : w3.cell? ⟨gb716, 6, none⟩ = some (.slice A0_6 l0_6.length c0_6) := (blk_cell BK716.out 6).trans rfl
     have hcz22_7 : w3.cell? ⟨gb716, 7, none⟩ = some (.slice A0_7 l0_7.length c0_7) := (blk_cell BK716.out 7).trans rfl
     have hfz22_0 := blk_frozen BK716.out 0
     have hfz22_1 := blk_frozen BK716.out 1
     have hfz22_2 := blk_frozen BK716.out 2
     have hfz22_3 := blk_frozen BK716.out 3
     have hfz22_4 := blk_frozen BK716.out 4
     have hfz22_5 := blk_frozen BK716.out 5
     have hfz22_6 := blk_frozen BK716.out 6
     have hfz22_7 := blk_frozen BK716.out 7
     go_wp2_with (first | ((with_reducible refine gate_callee (f := 81) rfl ?_); refine goesL_ (some 6) rfl rfl Try.func81 (by kernel_rfl) rfl #[.int .i64 a0_0, .int .i64 1, .int .i64 4] rfl (by (try simp only [List.map_toArray, List.map_cons, List.map_nil]); first | done | rfl | (simp only [List.length_drop, List.length_take]; rfl)) ?_; (with_reducible refine (impl_within.calls a0_0 1 4 true _ A4.out).mono ?_); rintro e w' ⟨rfl, ⟨nd, rfl⟩⟩; refine ⟨_, rfl, ?_⟩) | (go_at_call 116; (with_reducible refine (impl_isNode.calls a0_1 true _ A6.out).mono ?_); rintro e w' ⟨rfl, ⟨nd, rfl⟩⟩) | (go_at_call 116; (with_reducible refine (impl_isNode.calls a0_2 false _ A8.out).mono ?_); rintro e w' ⟨rfl, ⟨nd, rfl⟩⟩))
     go_meet
     case rel => exact ⟨_, (true), (by first | rfl | (simp; done) | (simp [*]; done)), H', ⟨by first | omega | exact Nat.le_refl _⟩, ⟨by (with_reducible repeat (first | refine blk_drewN ?_ _ | refine blk_drew ?_ | refine blk_alloc ?_ _)); exact BK716.out⟩, ⟨by repeat (first | (with_reducible first | exact HB.out | apply below_alloc | apply pw_below_drewN | apply below_drew1 | refine below_set ?_ GE716.out) | exact HB.out)⟩⟩
   ·replace c7 := Bool.eq_false_iff.mpr c7
    subst c7
    have H1 : (impl_MsgRight.j0 k true a0_0 a0_1 a0_2 a0_3 a0_4 a0_5 l0_6 l0_7) = some r := by rw [if_neg (show ¬ (false = true) by decide)] at H; exact H
    clear H
    have H := H1
    clear H1
    have H' := Aside0.mk H
    clear H
    have hcz23_0 : w3.cell? ⟨gb716, 0, none⟩ = some (.int .i64 a0_0) := (blk_cell BK716.out 0).trans rfl
    have hcz23_1 : w3.cell? ⟨gb716, 1, none⟩ = some (.int .i64 a0_1) := (blk_cell BK716.out 1).trans rfl
    have hcz23_2 : w3.cell? ⟨gb716, 2, none⟩ = some (.int .i64 a0_2) := (blk_cell BK716.out 2).trans rfl
    have hcz23_3 : w3.cell? ⟨gb716, 3, none⟩ = some (.int .i64 a0_3) := (blk_cell BK716.out 3).trans rfl
    have hcz23_4 : w3.cell? ⟨gb716, 4, none⟩ = some (.string a0_4) := (blk_cell BK716.out 4).trans rfl
    have hcz23_5 : w3.cell? ⟨gb716, 5, none⟩ = some (.int .i64 a0_5) := (blk_cell BK716.out 5).trans rfl
    have hcz23_6 : w3.cell? ⟨gb716, 6, none⟩ = some (.slice A0_6 l0_6.length c0_6) := (blk_cell BK716.out 6).trans rfl
    have hcz23_7 : w3.cell? ⟨gb716, 7, none⟩ = some (.slice A0_7 l0_7.length c0_7) := (blk_cell BK716.out 7).trans rfl
    have hfz23_0 := blk_frozen BK716.out 0
    have hfz23_1 := blk_frozen BK716.out 1
    have hfz23_2 := blk_frozen BK716.out 2
    have hfz23_3 := blk_frozen BK716.out 3
    have hfz23_4 := blk_frozen BK716.out 4
    have hfz23_5 := blk_frozen BK716.out 5
    have hfz23_6 := blk_frozen BK716.out 6
    have hfz23_7 := blk_frozen BK716.out 7
    go_wp2_with (first | ((with_reducible refine gate_callee (f := 81) rfl ?_); refine goesL_ (some 6) rfl rfl Try.func81 (by kernel_rfl) rfl #[.int .i64 a0_0, .int .i64 1, .int .i64 4] rfl (by (try simp only [List.map_toArray, List.map_cons, List.map_nil]); first | done | rfl | (simp only [List.length_drop, List.length_take]; rfl)) ?_; (with_reducible refine (impl_within.calls a0_0 1 4 true _ A4.out).mono ?_); rintro e w' ⟨rfl, ⟨nd, rfl⟩⟩; refine ⟨_, rfl, ?_⟩) | (go_at_call 116; (with_reducible refine (impl_isNode.calls a0_1 false _ A6.out).mono ?_); rintro e w' ⟨rfl, ⟨nd, rfl⟩⟩))
    go_meet
    case rel => exact ⟨_, (true), (by first | rfl | (simp; done) | (simp [*]; done)), H', ⟨by first | omega | exact Nat.le_refl _⟩, ⟨by (with_reducible repeat (first | refine blk_drewN ?_ _ | refine blk_drew ?_ | refine blk_alloc ?_ _)); exact BK716.out⟩, ⟨by repeat (first | (with_reducible first | exact HB.out | apply below_alloc | apply pw_below_drewN | apply below_drew1 | refine below_set ?_ GE716.out) | exact HB.out)⟩⟩
  ·replace c5 := Bool.eq_false_iff.mpr c5
   subst c5
   have H1 : (impl_MsgRight.j0 k true a0_0 a0_1 a0_2 a0_3 a0_4 a0_5 l0_6 l0_7) = some r := by rw [if_neg (show ¬ (false = true) by decide)] at H; exact H
   clear H
   have H := H1
   clear H1
   have H' := Aside0.mk H
   clear H
   have hcz24_0 : w3.cell? ⟨gb716, 0, none⟩ = some (.int .i64 a0_0) := (blk_cell BK716.out 0).trans rfl
   have hcz24_1 : w3.cell? ⟨gb716, 1, none⟩ = some (.int .i64 a0_1) := (blk_cell BK716.out 1).trans rfl
   have hcz24_2 : w3.cell? ⟨gb716, 2, none⟩ = some (.int .i64 a0_2) := (blk_cell BK716.out 2).trans rfl
   have hcz24_3 : w3.cell? ⟨gb716, 3, none⟩ = some (.int .i64 a0_3) := (blk_cell BK716.out 3).trans rfl
   have hcz24_4 : w3.cell? ⟨gb716, 4, none⟩ = some (.string a0_4) := (blk_cell BK716.out 4).trans rfl
   have hcz24_5 : w3.cell? ⟨gb716, 5, none⟩ = some (.int .i64 a0_5) := (blk_cell BK716.out 5).trans rfl
   have hcz24_6 : w3.cell? ⟨gb716, 6, none⟩ = some (.slice A0_6 l0_6.length c0_6) := (blk_cell BK716.out 6).trans rfl
   have hcz24_7 : w3.cell? ⟨gb716, 7, none⟩ = some (.slice A0_7 l0_7.length c0_7) := (blk_cell BK716.out 7).trans rfl
   have hfz24_0 := blk_frozen BK716.out 0
   have hfz24_1 := blk_frozen BK716.out 1
   have hfz24_2 := blk_frozen BK716.out 2
   have hfz24_3 := blk_frozen BK716.out 3
   have hfz24_4 := blk_frozen BK716.out 4
   have hfz24_5 := blk_frozen BK716.out 5
   have hfz24_6 := blk_frozen BK716.out 6
   have hfz24_7 := blk_frozen BK716.out 7
   go_wp2_with (first | ((with_reducible refine gate_callee (f := 81) rfl ?_); refine goesL_ (some 6) rfl rfl Try.func81 (by kernel_rfl) rfl #[.int .i64 a0_0, .int .i64 1, .int .i64 4] rfl (by (try simp only [List.map_toArray, List.map_cons, List.map_nil]); first | done | rfl | (simp only [List.length_drop, List.length_take]; rfl)) ?_; (with_reducible refine (impl_within.calls a0_0 1 4 false _ A4.out).mono ?_); rintro e w' ⟨rfl, ⟨nd, rfl⟩⟩; refine ⟨_, rfl, ?_⟩))
   go_meet
   case rel => exact ⟨_, (true), (by first | rfl | (simp; done) | (simp [*]; done)), H', ⟨by first | omega | exact Nat.le_refl _⟩, ⟨by (with_reducible repeat (first | refine blk_drewN ?_ _ | refine blk_drew ?_ | refine blk_alloc ?_ _)); exact BK716.out⟩, ⟨by repeat (first | (with_reducible first | exact HB.out | apply below_alloc | apply pw_below_drewN | apply below_drew1 | refine below_set ?_ GE716.out) | exact HB.out)⟩⟩
 case rest =>
  clear HC2
  try clear c1
  try clear p2
  try clear c5
  try clear c6
  try clear c7
  try clear c8
  try clear c9
  try clear c11
  try clear c13
  try clear c15
  try clear hcz17_0
  try clear hcz17_1
  try clear hcz17_2
  try clear hcz17_3
  try clear hcz17_4
  try clear hcz17_5
  try clear hcz17_6
  try clear hcz17_7
  try clear hcz19_0
  try clear hcz19_1
  try clear hcz19_2
  try clear hcz19_3
  try clear hcz19_4
  try clear hcz19_5
  try clear hcz19_6
  try clear hcz19_7
  try clear hcz20_0
  try clear hcz20_1
  try clear hcz20_2
  try clear hcz20_3
  try clear hcz20_4
  try clear hcz20_5
  try clear hcz20_6
  try clear hcz20_7
  try clear hcz21_0
  try clear hcz21_1
  try clear hcz21_2
  try clear hcz21_3
  try clear hcz21_4
  try clear hcz21_5
  try clear hcz21_6
  try clear hcz21_7
  try clear hcz22_0
  try clear hcz22_1
  try clear hcz22_2
  try clear hcz22_3
  try clear hcz22_4
  try clear hcz22_5
  try clear hcz22_6
  try clear hcz22_7
  try clear hcz23_0
  try clear hcz23_1
  try clear hcz23_2
  try clear hcz23_3
  try clear hcz23_4
  try clear hcz23_5
  try clear hcz23_6
  try clear hcz23_7
  try clear hcz24_0
  try clear hcz24_1
  try clear hcz24_2
  try clear hcz24_3
  try clear hcz24_4
  try clear hcz24_5
  try clear hcz24_6
  try clear hcz24_7
  try clear hfz17_0
  try clear hfz17_1
  try clear hfz17_2
  try clear hfz17_3
  try clear hfz17_4
  try clear hfz17_5
  try clear hfz17_6
  try clear hfz17_7
  try clear hfz19_0
  try clear hfz19_1
  try clear hfz19_2
  try clear hfz19_3
  try clear hfz19_4
  try clear hfz19_5
  try clear hfz19_6
  try clear hfz19_7
  try clear hfz20_0
  try clear hfz20_1
  try clear hfz20_2
  try clear hfz20_3
  try clear hfz20_4
  try clear hfz20_5
  try clear hfz20_6
  try clear hfz20_7
  try clear hfz21_0
  try clear hfz21_1
  try clear hfz21_2
  try clear hfz21_3
  try clear hfz21_4
  try clear hfz21_5
  try clear hfz21_6
  try clear hfz21_7
  try clear hfz22_0
  try clear hfz22_1
  try clear hfz22_2
  try clear hfz22_3
  try clear hfz22_4
  try clear hfz22_5
  try clear hfz22_6
  try clear hfz22_7
  try clear hfz23_0
  try clear hfz23_1
  try clear hfz23_2
  try clear hfz23_3
  try clear hfz23_4
  try clear hfz23_5
  try clear hfz23_6
  try clear hfz23_7
  try clear hfz24_0
  try clear hfz24_1
  try clear hfz24_2
  try clear hfz24_3
  try clear hfz24_4
  try clear hfz24_5
  try clear hfz24_6
  try clear hfz24_7
  obtain ⟨kq, x43_1, rfl, HA, HJ1, BK716, HB⟩ := hcut
  cases kq with
  | zero => exact absurd HA.out (by simp [impl_MsgRight.j0])
  | succ kj1 =>
   have H := HA.out
   clear HA
   simp only [impl_MsgRight.j0] at H
   by_cases c25 : x43_1 = true
   ·subst c25
    have H1 : (some false) = some r := by rw [if_pos rfl] at H; exact H
    clear H
    have H := H1
    clear H1
    obtain rfl := Option.some.inj H
    go_wp2
    go_ret
    exact ⟨by first | rfl | (simp [errW_none, errW_some] <;> rfl) | (simp [*, errW_none, errW_some] <;> rfl), by repeat (first | (with_reducible first | exact HB.out | apply below_alloc | apply pw_below_drewN | apply below_drew1 | refine below_set ?_ GE716.out) | exact HB.out)⟩
   ·replace c25 := Bool.eq_false_iff.mpr c25
    subst c25
    have H1 : (if a0_0 = 3 then (impl_MsgRight.j1 kj1 true a0_0 a0_1 a0_2 a0_3 a0_4 a0_5 l0_6 l0_7) else (impl_MsgRight.j1 kj1 (a0_0 == 4) a0_0 a0_1 a0_2 a0_3 a0_4 a0_5 l0_6 l0_7)) = some r := by rw [if_neg (show ¬ (false = true) by decide)] at H; exact H
    clear H
    have H := H1
    clear H1
    have HC26 := Aside0.mk H
    clear H
    go_upto_region 3 with (fail)
    go_cut [3] (fun v3 wc => ∃ (kq : Nat) (x3_25 : Bool), v3 = .bool x3_25 ∧ Aside0 (impl_MsgRight.j1 kq x3_25 a0_0 a0_1 a0_2 a0_3 a0_4 a0_5 l0_6 l0_7 = some r) ∧ Aside0 (kq ≤ kj1) ∧ Aside0 (wc.heap[gb716]? = some (.cells #[.int .i64 a0_0, .int .i64 a0_1, .int .i64 a0_2, .int .i64 a0_3, .string a0_4, .int .i64 a0_5, (.slice A0_6 l0_6.length c0_6), (.slice A0_7 l0_7.length c0_7)] 102 (0, 0))) ∧ Aside0 (Below w.heap.size w wc))
    case first =>
     have H := HC26.out
     clear HC26
     by_cases c27 : a0_0 = 3
     ·rw [if_pos c27] at H
      have c27b0 : (a0_0 == 3) = true := beq_iff_eq.mpr c27
      have c27b1 : (a0_0 != 3) = false := bne_eq_false_iff_eq.mpr c27
      clear c27
      (first | rw [c27b0] | (simp only [i64_w, i32_w]; rw [c27b0]) | skip)
      have H' := Aside0.mk H
      clear H
      have hcz28_0 : wc.cell? ⟨gb716, 0, none⟩ = some (.int .i64 a0_0) := (blk_cell BK716.out 0).trans rfl
      have hcz28_1 : wc.cell? ⟨gb716, 1, none⟩ = some (.int .i64 a0_1) := (blk_cell BK716.out 1).trans rfl
      have hcz28_2 : wc.cell? ⟨gb716, 2, none⟩ = some (.int .i64 a0_2) := (blk_cell BK716.out 2).trans rfl
      have hcz28_3 : wc.cell? ⟨gb716, 3, none⟩ = some (.int .i64 a0_3) := (blk_cell BK716.out 3).trans rfl
      have hcz28_4 : wc.cell? ⟨gb716, 4, none⟩ = some (.string a0_4) := (blk_cell BK716.out 4).trans rfl
      have hcz28_5 : wc.cell? ⟨gb716, 5, none⟩ = some (.int .i64 a0_5) := (blk_cell BK716.out 5).trans rfl
      have hcz28_6 : wc.cell? ⟨gb716, 6, none⟩ = some (.slice A0_6 l0_6.length c0_6) := (blk_cell BK716.out 6).trans rfl
      have hcz28_7 : wc.cell? ⟨gb716, 7, none⟩ = some (.slice A0_7 l0_7.length c0_7) := (blk_cell BK716.out 7).trans rfl
      have hfz28_0 := blk_frozen BK716.out 0
      have hfz28_1 := blk_frozen BK716.out 1
      have hfz28_2 := blk_frozen BK716.out 2
      have hfz28_3 := blk_frozen BK716.out 3
      have hfz28_4 := blk_frozen BK716.out 4
      have hfz28_5 := blk_frozen BK716.out 5
      have hfz28_6 := blk_frozen BK716.out 6
      have hfz28_7 := blk_frozen BK716.out 7
      go_wp2
      go_meet
      case rel => exact ⟨_, (true), (by first | rfl | (simp; done) | (simp [*]; done)), H', ⟨by have := HJ1.out; first | omega | exact Nat.le_refl _⟩, ⟨by (with_reducible repeat (first | refine blk_drewN ?_ _ | refine blk_drew ?_ | refine blk_alloc ?_ _)); exact BK716.out⟩, ⟨by repeat (first | (with_reducible first | exact HB.out | apply below_alloc | apply pw_below_drewN | apply below_drew1 | refine below_set ?_ GE716.out) | exact HB.out)⟩⟩
     ·rw [if_neg c27] at H
      have c27b0 : (a0_0 == 3) = false := beq_eq_false_iff_ne.mpr c27
      have c27b1 : (a0_0 != 3) = true := bne_iff_ne.mpr c27
      (first | rw [c27b0] | (simp only [i64_w, i32_w]; rw [c27b0]) | skip)
      have H' := Aside0.mk H
      clear H
      have hcz29_0 : wc.cell? ⟨gb716, 0, none⟩ = some (.int .i64 a0_0) := (blk_cell BK716.out 0).trans rfl
      have hcz29_1 : wc.cell? ⟨gb716, 1, none⟩ = some (.int .i64 a0_1) := (blk_cell BK716.out 1).trans rfl
      have hcz29_2 : wc.cell? ⟨gb716, 2, none⟩ = some (.int .i64 a0_2) := (blk_cell BK716.out 2).trans rfl
      have hcz29_3 : wc.cell? ⟨gb716, 3, none⟩ = some (.int .i64 a0_3) := (blk_cell BK716.out 3).trans rfl
      have hcz29_4 : wc.cell? ⟨gb716, 4, none⟩ = some (.string a0_4) := (blk_cell BK716.out 4).trans rfl
      have hcz29_5 : wc.cell? ⟨gb716, 5, none⟩ = some (.int .i64 a0_5) := (blk_cell BK716.out 5).trans rfl
      have hcz29_6 : wc.cell? ⟨gb716, 6, none⟩ = some (.slice A0_6 l0_6.length c0_6) := (blk_cell BK716.out 6).trans rfl
      have hcz29_7 : wc.cell? ⟨gb716, 7, none⟩ = some (.slice A0_7 l0_7.length c0_7) := (blk_cell BK716.out 7).trans rfl
      have hfz29_0 := blk_frozen BK716.out 0
      have hfz29_1 := blk_frozen BK716.out 1
      have hfz29_2 := blk_frozen BK716.out 2
      have hfz29_3 := blk_frozen BK716.out 3
      have hfz29_4 := blk_frozen BK716.out 4
      have hfz29_5 := blk_frozen BK716.out 5
      have hfz29_6 := blk_frozen BK716.out 6
      have hfz29_7 := blk_frozen BK716.out 7
      go_wp2
      go_meet
      case rel => exact ⟨_, ((a0_0 == 4)), (by first | rfl | (simp; done) | (simp [*]; done)), H', ⟨by have := HJ1.out; first | omega | exact Nat.le_refl _⟩, ⟨by (with_reducible repeat (first | refine blk_drewN ?_ _ | refine blk_drew ?_ | refine blk_alloc ?_ _)); exact BK716.out⟩, ⟨by repeat (first | (with_reducible first | exact HB.out | apply below_alloc | apply pw_below_drewN | apply below_drew1 | refine below_set ?_ GE716.out) | exact HB.out)⟩⟩
    case rest =>
     clear HC26
     try clear c1
     try clear c2
     try clear p2
     try clear c5
     try clear c6
     try clear c7
     try clear c8
     try clear c9
     try clear c11
     try clear c13
     try clear c15
     try clear c25
     try clear c27
     try clear c27b0
     try clear c27b1
     try clear hcz17_0
     try clear hcz17_1
     try clear hcz17_2
     try clear hcz17_3
     try clear hcz17_4
     try clear hcz17_5
     try clear hcz17_6
     try clear hcz17_7
     try clear hcz19_0
     try clear hcz19_1
     try clear hcz19_2
     try clear hcz19_3
     try clear hcz19_4
     try clear hcz19_5
     try clear hcz19_6
     try clear hcz19_7
     try clear hcz20_0
     try clear hcz20_1
     try clear hcz20_2
     try clear hcz20_3
     try clear hcz20_4
     try clear hcz20_5
     try clear hcz20_6
     try clear hcz20_7
     try clear hcz21_0
     try clear hcz21_1
     try clear hcz21_2
     try clear hcz21_3
     try clear hcz21_4
     try clear hcz21_5
     try clear hcz21_6
     try clear hcz21_7
     try clear hcz22_0
     try clear hcz22_1
     try clear hcz22_2
     try clear hcz22_3
     try clear hcz22_4
     try clear hcz22_5
     try clear hcz22_6
     try clear hcz22_7
     try clear hcz23_0
     try clear hcz23_1
     try clear hcz23_2
     try clear hcz23_3
     try clear hcz23_4
     try clear hcz23_5
     try clear hcz23_6
     try clear hcz23_7
     try clear hcz24_0
     try clear hcz24_1
     try clear hcz24_2
     try clear hcz24_3
     try clear hcz24_4
     try clear hcz24_5
     try clear hcz24_6
     try clear hcz24_7
     try clear hcz28_0
     try clear hcz28_1
     try clear hcz28_2
     try clear hcz28_3
     try clear hcz28_4
     try clear hcz28_5
     try clear hcz28_6
     try clear hcz28_7
     try clear hcz29_0
     try clear hcz29_1
     try clear hcz29_2
     try clear hcz29_3
     try clear hcz29_4
     try clear hcz29_5
     try clear hcz29_6
     try clear hcz29_7
     try clear hfz17_0
     try clear hfz17_1
     try clear hfz17_2
     try clear hfz17_3
     try clear hfz17_4
     try clear hfz17_5
     try clear hfz17_6
     try clear hfz17_7
     try clear hfz19_0
     try clear hfz19_1
     try clear hfz19_2
     try clear hfz19_3
     try clear hfz19_4
     try clear hfz19_5
     try clear hfz19_6
     try clear hfz19_7
     try clear hfz20_0
     try clear hfz20_1
     try clear hfz20_2
     try clear hfz20_3
     try clear hfz20_4
     try clear hfz20_5
     try clear hfz20_6
     try clear hfz20_7
     try clear hfz21_0
     try clear hfz21_1
     try clear hfz21_2
     try clear hfz21_3
     try clear hfz21_4
     try clear hfz21_5
     try clear hfz21_6
     try clear hfz21_7
     try clear hfz22_0
     try clear hfz22_1
     try clear hfz22_2
     try clear hfz22_3
     try clear hfz22_4
     try clear hfz22_5
     try clear hfz22_6
     try clear hfz22_7
     try clear hfz23_0
     try clear hfz23_1
     try clear hfz23_2
     try clear hfz23_3
     try clear hfz23_4
     try clear hfz23_5
     try clear hfz23_6
     try clear hfz23_7
     try clear hfz24_0
     try clear hfz24_1
     try clear hfz24_2
     try clear hfz24_3
     try clear hfz24_4
     try clear hfz24_5
     try clear hfz24_6
     try clear hfz24_7
     try clear hfz28_0
     try clear hfz28_1
     try clear hfz28_2
     try clear hfz28_3
     try clear hfz28_4
     try clear hfz28_5
     try clear hfz28_6
     try clear hfz28_7
     try clear hfz29_0
     try clear hfz29_1
     try clear hfz29_2
     try clear hfz29_3
     try clear hfz29_4
     try clear hfz29_5
     try clear hfz29_6
     try clear hfz29_7
     try clear p2
     obtain ⟨kq, x3_25, rfl, HA, HJ25, BK716, HB⟩ := hcut
     cases kq with
     | zero => exact absurd HA.out (by simp [impl_MsgRight.j1])
     | succ kj25 =>
      have H := HA.out
      clear HA
      simp only [impl_MsgRight.j1] at H
      have HC30 := Aside0.mk H
      clear H
      go_upto_region 4 with (fail)
      go_cut [80] (fun v80 wc => ∃ (kq : Nat) (x80_29 : Bool), v80 = .bool x80_29 ∧ Aside0 (impl_MsgRight.j2 kq x80_29 a0_0 a0_1 a0_2 a0_3 a0_4 a0_5 l0_6 l0_7 = some r) ∧ Aside0 (kq ≤ kj25) ∧ Aside0 (wc.heap[gb716]? = some (.cells #[.int .i64 a0_0, .int .i64 a0_1, .int .i64 a0_2, .int .i64 a0_3, .string a0_4, .int .i64 a0_5, (.slice A0_6 l0_6.length c0_6), (.slice A0_7 l0_7.length c0_7)] 102 (0, 0))) ∧ Aside0 (Below w.heap.size w wc))
      case first =>
       have H := HC30.out
       clear HC30
       by_cases c31 : x3_25 = true
       ·subst c31
        have H1 : (if (l0_6.length : Int) = 0 then (impl_MsgRight.j2 kj25 true a0_0 a0_1 a0_2 a0_3 a0_4 a0_5 l0_6 l0_7) else (if a0_0 = 1 then (impl_MsgRight.j2 kj25 (decide ((l0_6.length : Int) > 0)) a0_0 a0_1 a0_2 a0_3 a0_4 a0_5 l0_6 l0_7) else (impl_MsgRight.j2 kj25 false a0_0 a0_1 a0_2 a0_3 a0_4 a0_5 l0_6 l0_7))) = some r := by rw [if_pos rfl] at H; exact H
        clear H
        have H := H1
        clear H1
        by_cases c32 : (l0_6.length : Int) = 0
        ·rw [if_pos c32] at H
         have c32b0 : ((l0_6.length : Int) == 0) = true := beq_iff_eq.mpr c32
         have c32b1 : ((l0_6.length : Int) != 0) = false := bne_eq_false_iff_eq.mpr c32
         clear c32
         (first | rw [c32b0] | (simp only [i64_w, i32_w]; rw [c32b0]) | skip)
         have H' := Aside0.mk H
         clear H
         have hcz33_0 : wc.cell? ⟨gb716, 0, none⟩ = some (.int .i64 a0_0) := (blk_cell BK716.out 0).trans rfl
         have hcz33_1 : wc.cell? ⟨gb716, 1, none⟩ = some (.int .i64 a0_1) := (blk_cell BK716.out 1).trans rfl
         have hcz33_2 : wc.cell? ⟨gb716, 2, none⟩ = some (.int .i64 a0_2) := (blk_cell BK716.out 2).trans rfl
         have hcz33_3 : wc.cell? ⟨gb716, 3, none⟩ = some (.int .i64 a0_3) := (blk_cell BK716.out 3).trans rfl
         have hcz33_4 : wc.cell? ⟨gb716, 4, none⟩ = some (.string a0_4) := (blk_cell BK716.out 4).trans rfl
         have hcz33_5 : wc.cell? ⟨gb716, 5, none⟩ = some (.int .i64 a0_5) := (blk_cell BK716.out 5).trans rfl
         have hcz33_6 : wc.cell? ⟨gb716, 6, none⟩ = some (.slice A0_6 l0_6.length c0_6) := (blk_cell BK716.out 6).trans rfl
         have hcz33_7 : wc.cell? ⟨gb716, 7, none⟩ = some (.slice A0_7 l0_7.length c0_7) := (blk_cell BK716.out 7).trans rfl
         have hfz33_0 := blk_frozen BK716.out 0
         have hfz33_1 := blk_frozen BK716.out 1
         have hfz33_2 := blk_frozen BK716.out 2
         have hfz33_3 := blk_frozen BK716.out 3
         have hfz33_4 := blk_frozen BK716.out 4
         have hfz33_5 := blk_frozen BK716.out 5
         have hfz33_6 := blk_frozen BK716.out 6
         have hfz33_7 := blk_frozen BK716.out 7
         go_wp2
         go_meet
         case rel => exact ⟨_, (true), (by first | rfl | (simp; done) | (simp [*]; done)), H', ⟨by have := HJ1.out; have := HJ25.out; first | omega | exact Nat.le_refl _⟩, ⟨by (with_reducible repeat (first | refine blk_drewN ?_ _ | refine blk_drew ?_ | refine blk_alloc ?_ _)); exact BK716.out⟩, ⟨by repeat (first | (with_reducible first | exact HB.out | apply below_alloc | apply pw_below_drewN | apply below_drew1 | refine below_set ?_ GE716.out) | exact HB.out)⟩⟩
        ·rw [if_neg c32] at H
         have c32b0 : ((l0_6.length : Int) == 0) = false := beq_eq_false_iff_ne.mpr c32
         have c32b1 : ((l0_6.length : Int) != 0) = true := bne_iff_ne.mpr c32
         have c32b2 : ¬ (l0_6 = []) := fun h_ => c32 (by rw [h_]; rfl)
         (first | rw [c32b0] | (simp only [i64_w, i32_w]; rw [c32b0]) | skip)
         by_cases c34 : a0_0 = 1
         ·rw [if_pos c34] at H
          have c34b0 : (a0_0 == 1) = true := beq_iff_eq.mpr c34
          have c34b1 : (a0_0 != 1) = false := bne_eq_false_iff_eq.mpr c34
          clear c34
          have H' := Aside0.mk H
          clear H
          have hcz35_0 : wc.cell? ⟨gb716, 0, none⟩ = some (.int .i64 a0_0) := (blk_cell BK716.out 0).trans rfl
          have hcz35_1 : wc.cell? ⟨gb716, 1, none⟩ = some (.int .i64 a0_1) := (blk_cell BK716.out 1).trans rfl
          have hcz35_2 : wc.cell? ⟨gb716, 2, none⟩ = some (.int .i64 a0_2) := (blk_cell BK716.out 2).trans rfl
          have hcz35_3 : wc.cell? ⟨gb716, 3, none⟩ = some (.int .i64 a0_3) := (blk_cell BK716.out 3).trans rfl
          have hcz35_4 : wc.cell? ⟨gb716, 4, none⟩ = some (.string a0_4) := (blk_cell BK716.out 4).trans rfl
          have hcz35_5 : wc.cell? ⟨gb716, 5, none⟩ = some (.int .i64 a0_5) := (blk_cell BK716.out 5).trans rfl
          have hcz35_6 : wc.cell? ⟨gb716, 6, none⟩ = some (.slice A0_6 l0_6.length c0_6) := (blk_cell BK716.out 6).trans rfl
          have hcz35_7 : wc.cell? ⟨gb716, 7, none⟩ = some (.slice A0_7 l0_7.length c0_7) := (blk_cell BK716.out 7).trans rfl
          have hfz35_0 := blk_frozen BK716.out 0
          have hfz35_1 := blk_frozen BK716.out 1
          have hfz35_2 := blk_frozen BK716.out 2
          have hfz35_3 := blk_frozen BK716.out 3
          have hfz35_4 := blk_frozen BK716.out 4
          have hfz35_5 := blk_frozen BK716.out 5
          have hfz35_6 := blk_frozen BK716.out 6
          have hfz35_7 := blk_frozen BK716.out 7
          go_wp2
          go_meet
          case rel => exact ⟨_, (decide ((l0_6.length : Int) > 0)), (by first | rfl | (simp; done) | (simp [*]; done)), H', ⟨by have := HJ1.out; have := HJ25.out; first | omega | exact Nat.le_refl _⟩, ⟨by (with_reducible repeat (first | refine blk_drewN ?_ _ | refine blk_drew ?_ | refine blk_alloc ?_ _)); exact BK716.out⟩, ⟨by repeat (first | (with_reducible first | exact HB.out | apply below_alloc | apply pw_below_drewN | apply below_drew1 | refine below_set ?_ GE716.out) | exact HB.out)⟩⟩
         ·rw [if_neg c34] at H
          have c34b0 : (a0_0 == 1) = false := beq_eq_false_iff_ne.mpr c34
          have c34b1 : (a0_0 != 1) = true := bne_iff_ne.mpr c34
          have H' := Aside0.mk H
          clear H
          have hcz36_0 : wc.cell? ⟨gb716, 0, none⟩ = some (.int .i64 a0_0) := (blk_cell BK716.out 0).trans rfl
          have hcz36_1 : wc.cell? ⟨gb716, 1, none⟩ = some (.int .i64 a0_1) := (blk_cell BK716.out 1).trans rfl
          have hcz36_2 : wc.cell? ⟨gb716, 2, none⟩ = some (.int .i64 a0_2) := (blk_cell BK716.out 2).trans rfl
          have hcz36_3 : wc.cell? ⟨gb716, 3, none⟩ = some (.int .i64 a0_3) := (blk_cell BK716.out 3).trans rfl
          have hcz36_4 : wc.cell? ⟨gb716, 4, none⟩ = some (.string a0_4) := (blk_cell BK716.out 4).trans rfl
          have hcz36_5 : wc.cell? ⟨gb716, 5, none⟩ = some (.int .i64 a0_5) := (blk_cell BK716.out 5).trans rfl
          have hcz36_6 : wc.cell? ⟨gb716, 6, none⟩ = some (.slice A0_6 l0_6.length c0_6) := (blk_cell BK716.out 6).trans rfl
          have hcz36_7 : wc.cell? ⟨gb716, 7, none⟩ = some (.slice A0_7 l0_7.length c0_7) := (blk_cell BK716.out 7).trans rfl
          have hfz36_0 := blk_frozen BK716.out 0
          have hfz36_1 := blk_frozen BK716.out 1
          have hfz36_2 := blk_frozen BK716.out 2
          have hfz36_3 := blk_frozen BK716.out 3
          have hfz36_4 := blk_frozen BK716.out 4
          have hfz36_5 := blk_frozen BK716.out 5
          have hfz36_6 := blk_frozen BK716.out 6
          have hfz36_7 := blk_frozen BK716.out 7
          go_wp2
          go_meet
          case rel => exact ⟨_, (false), (by first | rfl | (simp; done) | (simp [*]; done)), H', ⟨by have := HJ1.out; have := HJ25.out; first | omega | exact Nat.le_refl _⟩, ⟨by (with_reducible repeat (first | refine blk_drewN ?_ _ | refine blk_drew ?_ | refine blk_alloc ?_ _)); exact BK716.out⟩, ⟨by repeat (first | (with_reducible first | exact HB.out | apply below_alloc | apply pw_below_drewN | apply below_drew1 | refine below_set ?_ GE716.out) | exact HB.out)⟩⟩
       ·replace c31 := Bool.eq_false_iff.mpr c31
        subst c31
        have H1 : (if a0_3 = 0 then (impl_MsgRight.j2 kj25 true a0_0 a0_1 a0_2 a0_3 a0_4 a0_5 l0_6 l0_7) else (if a0_0 = 1 then (impl_MsgRight.j2 kj25 (decide ((l0_6.length : Int) > 0)) a0_0 a0_1 a0_2 a0_3 a0_4 a0_5 l0_6 l0_7) else (impl_MsgRight.j2 kj25 false a0_0 a0_1 a0_2 a0_3 a0_4 a0_5 l0_6 l0_7))) = some r := by rw [if_neg (show ¬ (false = true) by decide)] at H; exact H
        clear H
        have H := H1
        clear H1
        by_cases c37 : a0_3 = 0
        ·rw [if_pos c37] at H
         have c37b0 : (a0_3 == 0) = true := beq_iff_eq.mpr c37
         have c37b1 : (a0_3 != 0) = false := bne_eq_false_iff_eq.mpr c37
         clear c37
         have H' := Aside0.mk H
         clear H
         have hcz38_0 : wc.cell? ⟨gb716, 0, none⟩ = some (.int .i64 a0_0) := (blk_cell BK716.out 0).trans rfl
         have hcz38_1 : wc.cell? ⟨gb716, 1, none⟩ = some (.int .i64 a0_1) := (blk_cell BK716.out 1).trans rfl
         have hcz38_2 : wc.cell? ⟨gb716, 2, none⟩ = some (.int .i64 a0_2) := (blk_cell BK716.out 2).trans rfl
         have hcz38_3 : wc.cell? ⟨gb716, 3, none⟩ = some (.int .i64 a0_3) := (blk_cell BK716.out 3).trans rfl
         have hcz38_4 : wc.cell? ⟨gb716, 4, none⟩ = some (.string a0_4) := (blk_cell BK716.out 4).trans rfl
         have hcz38_5 : wc.cell? ⟨gb716, 5, none⟩ = some (.int .i64 a0_5) := (blk_cell BK716.out 5).trans rfl
         have hcz38_6 : wc.cell? ⟨gb716, 6, none⟩ = some (.slice A0_6 l0_6.length c0_6) := (blk_cell BK716.out 6).trans rfl
         have hcz38_7 : wc.cell? ⟨gb716, 7, none⟩ = some (.slice A0_7 l0_7.length c0_7) := (blk_cell BK716.out 7).trans rfl
         have hfz38_0 := blk_frozen BK716.out 0
         have hfz38_1 := blk_frozen BK716.out 1
         have hfz38_2 := blk_frozen BK716.out 2
         have hfz38_3 := blk_frozen BK716.out 3
         have hfz38_4 := blk_frozen BK716.out 4
         have hfz38_5 := blk_frozen BK716.out 5
         have hfz38_6 := blk_frozen BK716.out 6
         have hfz38_7 := blk_frozen BK716.out 7
         go_wp2
         go_meet
         case rel => exact ⟨_, (true), (by first | rfl | (simp; done) | (simp [*]; done)), H', ⟨by have := HJ1.out; have := HJ25.out; first | omega | exact Nat.le_refl _⟩, ⟨by (with_reducible repeat (first | refine blk_drewN ?_ _ | refine blk_drew ?_ | refine blk_alloc ?_ _)); exact BK716.out⟩, ⟨by repeat (first | (with_reducible first | exact HB.out | apply below_alloc | apply pw_below_drewN | apply below_drew1 | refine below_set ?_ GE716.out) | exact HB.out)⟩⟩
        ·rw [if_neg c37] at H
         have c37b0 : (a0_3 == 0) = false := beq_eq_false_iff_ne.mpr c37
         have c37b1 : (a0_3 != 0) = true := bne_iff_ne.mpr c37
         by_cases c39 : a0_0 = 1
         ·rw [if_pos c39] at H
          have c39b0 : (a0_0 == 1) = true := beq_iff_eq.mpr c39
          have c39b1 : (a0_0 != 1) = false := bne_eq_false_iff_eq.mpr c39
          clear c39
          have H' := Aside0.mk H
          clear H
          have hcz40_0 : wc.cell? ⟨gb716, 0, none⟩ = some (.int .i64 a0_0) := (blk_cell BK716.out 0).trans rfl
          have hcz40_1 : wc.cell? ⟨gb716, 1, none⟩ = some (.int .i64 a0_1) := (blk_cell BK716.out 1).trans rfl
          have hcz40_2 : wc.cell? ⟨gb716, 2, none⟩ = some (.int .i64 a0_2) := (blk_cell BK716.out 2).trans rfl
          have hcz40_3 : wc.cell? ⟨gb716, 3, none⟩ = some (.int .i64 a0_3) := (blk_cell BK716.out 3).trans rfl
          have hcz40_4 : wc.cell? ⟨gb716, 4, none⟩ = some (.string a0_4) := (blk_cell BK716.out 4).trans rfl
          have hcz40_5 : wc.cell? ⟨gb716, 5, none⟩ = some (.int .i64 a0_5) := (blk_cell BK716.out 5).trans rfl
          have hcz40_6 : wc.cell? ⟨gb716, 6, none⟩ = some (.slice A0_6 l0_6.length c0_6) := (blk_cell BK716.out 6).trans rfl
          have hcz40_7 : wc.cell? ⟨gb716, 7, none⟩ = some (.slice A0_7 l0_7.length c0_7) := (blk_cell BK716.out 7).trans rfl
          have hfz40_0 := blk_frozen BK716.out 0
          have hfz40_1 := blk_frozen BK716.out 1
          have hfz40_2 := blk_frozen BK716.out 2
          have hfz40_3 := blk_frozen BK716.out 3
          have hfz40_4 := blk_frozen BK716.out 4
          have hfz40_5 := blk_frozen BK716.out 5
          have hfz40_6 := blk_frozen BK716.out 6
          have hfz40_7 := blk_frozen BK716.out 7
          go_wp2
          go_meet
          case rel => exact ⟨_, (decide ((l0_6.length : Int) > 0)), (by first | rfl | (simp; done) | (simp [*]; done)), H', ⟨by have := HJ1.out; have := HJ25.out; first | omega | exact Nat.le_refl _⟩, ⟨by (with_reducible repeat (first | refine blk_drewN ?_ _ | refine blk_drew ?_ | refine blk_alloc ?_ _)); exact BK716.out⟩, ⟨by repeat (first | (with_reducible first | exact HB.out | apply below_alloc | apply pw_below_drewN | apply below_drew1 | refine below_set ?_ GE716.out) | exact HB.out)⟩⟩
         ·rw [if_neg c39] at H
          have c39b0 : (a0_0 == 1) = false := beq_eq_false_iff_ne.mpr c39
          have c39b1 : (a0_0 != 1) = true := bne_iff_ne.mpr c39
          have H' := Aside0.mk H
          clear H
          have hcz41_0 : wc.cell? ⟨gb716, 0, none⟩ = some (.int .i64 a0_0) := (blk_cell BK716.out 0).trans rfl
          have hcz41_1 : wc.cell? ⟨gb716, 1, none⟩ = some (.int .i64 a0_1) := (blk_cell BK716.out 1).trans rfl
          have hcz41_2 : wc.cell? ⟨gb716, 2, none⟩ = some (.int .i64 a0_2) := (blk_cell BK716.out 2).trans rfl
          have hcz41_3 : wc.cell? ⟨gb716, 3, none⟩ = some (.int .i64 a0_3) := (blk_cell BK716.out 3).trans rfl
          have hcz41_4 : wc.cell? ⟨gb716, 4, none⟩ = some (.string a0_4) := (blk_cell BK716.out 4).trans rfl
          have hcz41_5 : wc.cell? ⟨gb716, 5, none⟩ = some (.int .i64 a0_5) := (blk_cell BK716.out 5).trans rfl
          have hcz41_6 : wc.cell? ⟨gb716, 6, none⟩ = some (.slice A0_6 l0_6.length c0_6) := (blk_cell BK716.out 6).trans rfl
          have hcz41_7 : wc.cell? ⟨gb716, 7, none⟩ = some (.slice A0_7 l0_7.length c0_7) := (blk_cell BK716.out 7).trans rfl
          have hfz41_0 := blk_frozen BK716.out 0
          have hfz41_1 := blk_frozen BK716.out 1
          have hfz41_2 := blk_frozen BK716.out 2
          have hfz41_3 := blk_frozen BK716.out 3
          have hfz41_4 := blk_frozen BK716.out 4
          have hfz41_5 := blk_frozen BK716.out 5
          have hfz41_6 := blk_frozen BK716.out 6
          have hfz41_7 := blk_frozen BK716.out 7
          go_wp2
          go_meet
          case rel => exact ⟨_, (false), (by first | rfl | (simp; done) | (simp [*]; done)), H', ⟨by have := HJ1.out; have := HJ25.out; first | omega | exact Nat.le_refl _⟩, ⟨by (with_reducible repeat (first | refine blk_drewN ?_ _ | refine blk_drew ?_ | refine blk_alloc ?_ _)); exact BK716.out⟩, ⟨by repeat (first | (with_reducible first | exact HB.out | apply below_alloc | apply pw_below_drewN | apply below_drew1 | refine below_set ?_ GE716.out) | exact HB.out)⟩⟩
      case rest =>
       clear HC30
       try clear c1
       try clear c2
       try clear p2
       try clear c3
       try clear c5
       try clear c6
       try clear c7
       try clear c8
       try clear c9
       try clear c11
       try clear c13
       try clear c15
       try clear c25
       try clear c27
       try clear c27b0
       try clear c27b1
       try clear c31
       try clear c32
       try clear c32b0
       try clear c32b1
       try clear c32b2
       try clear c34
       try clear c34b0
       try clear c34b1
       try clear c37
       try clear c37b0
       try clear c37b1
       try clear c39
       try clear c39b0
       try clear c39b1
       try clear hcz17_0
       try clear hcz17_1
       try clear hcz17_2
       try clear hcz17_3
       try clear hcz17_4
       try clear hcz17_5
       try clear hcz17_6
       try clear hcz17_7
       try clear hcz19_0
       try clear hcz19_1
       try clear hcz19_2
       try clear hcz19_3
       try clear hcz19_4
       try clear hcz19_5
       try clear hcz19_6
       try clear hcz19_7
       try clear hcz20_0
       try clear hcz20_1
       try clear hcz20_2
       try clear hcz20_3
       try clear hcz20_4
       try clear hcz20_5
       try clear hcz20_6
       try clear hcz20_7
       try clear hcz21_0
       try clear hcz21_1
       try clear hcz21_2
       try clear hcz21_3
       try clear hcz21_4
       try clear hcz21_5
       try clear hcz21_6
       try clear hcz21_7
       try clear hcz22_0
       try clear hcz22_1
       try clear hcz22_2
       try clear hcz22_3
       try clear hcz22_4
       try clear hcz22_5
       try clear hcz22_6
       try clear hcz22_7
       try clear hcz23_0
       try clear hcz23_1
       try clear hcz23_2
       try clear hcz23_3
       try clear hcz23_4
       try clear hcz23_5
       try clear hcz23_6
       try clear hcz23_7
       try clear hcz24_0
       try clear hcz24_1
       try clear hcz24_2
       try clear hcz24_3
       try clear hcz24_4
       try clear hcz24_5
       try clear hcz24_6
       try clear hcz24_7
       try clear hcz28_0
       try clear hcz28_1
       try clear hcz28_2
       try clear hcz28_3
       try clear hcz28_4
       try clear hcz28_5
       try clear hcz28_6
       try clear hcz28_7
       try clear hcz29_0
       try clear hcz29_1
       try clear hcz29_2
       try clear hcz29_3
       try clear hcz29_4
       try clear hcz29_5
       try clear hcz29_6
       try clear hcz29_7
       try clear hcz33_0
       try clear hcz33_1
       try clear hcz33_2
       try clear hcz33_3
       try clear hcz33_4
       try clear hcz33_5
       try clear hcz33_6
       try clear hcz33_7
       try clear hcz35_0
       try clear hcz35_1
       try clear hcz35_2
       try clear hcz35_3
       try clear hcz35_4
       try clear hcz35_5
       try clear hcz35_6
       try clear hcz35_7
       try clear hcz36_0
       try clear hcz36_1
       try clear hcz36_2
       try clear hcz36_3
       try clear hcz36_4
       try clear hcz36_5
       try clear hcz36_6
       try clear hcz36_7
       try clear hcz38_0
       try clear hcz38_1
       try clear hcz38_2
       try clear hcz38_3
       try clear hcz38_4
       try clear hcz38_5
       try clear hcz38_6
       try clear hcz38_7
       try clear hcz40_0
       try clear hcz40_1
       try clear hcz40_2
       try clear hcz40_3
       try clear hcz40_4
       try clear hcz40_5
       try clear hcz40_6
       try clear hcz40_7
       try clear hcz41_0
       try clear hcz41_1
       try clear hcz41_2
       try clear hcz41_3
       try clear hcz41_4
       try clear hcz41_5
       try clear hcz41_6
       try clear hcz41_7
       try clear hfz17_0
       try clear hfz17_1
       try clear hfz17_2
       try clear hfz17_3
       try clear hfz17_4
       try clear hfz17_5
       try clear hfz17_6
       try clear hfz17_7
       try clear hfz19_0
       try clear hfz19_1
       try clear hfz19_2
       try clear hfz19_3
       try clear hfz19_4
       try clear hfz19_5
       try clear hfz19_6
       try clear hfz19_7
       try clear hfz20_0
       try clear hfz20_1
       try clear hfz20_2
       try clear hfz20_3
       try clear hfz20_4
       try clear hfz20_5
       try clear hfz20_6
       try clear hfz20_7
       try clear hfz21_0
       try clear hfz21_1
       try clear hfz21_2
       try clear hfz21_3
       try clear hfz21_4
       try clear hfz21_5
       try clear hfz21_6
       try clear hfz21_7
       try clear hfz22_0
       try clear hfz22_1
       try clear hfz22_2
       try clear hfz22_3
       try clear hfz22_4
       try clear hfz22_5
       try clear hfz22_6
       try clear hfz22_7
       try clear hfz23_0
       try clear hfz23_1
       try clear hfz23_2
       try clear hfz23_3
       try clear hfz23_4
       try clear hfz23_5
       try clear hfz23_6
       try clear hfz23_7
       try clear hfz24_0
       try clear hfz24_1
       try clear hfz24_2
       try clear hfz24_3
       try clear hfz24_4
       try clear hfz24_5
       try clear hfz24_6
       try clear hfz24_7
       try clear hfz28_0
       try clear hfz28_1
       try clear hfz28_2
       try clear hfz28_3
       try clear hfz28_4
       try clear hfz28_5
       try clear hfz28_6
       try clear hfz28_7
       try clear hfz29_0
       try clear hfz29_1
       try clear hfz29_2
       try clear hfz29_3
       try clear hfz29_4
       try clear hfz29_5
       try clear hfz29_6
       try clear hfz29_7
       try clear hfz33_0
       try clear hfz33_1
       try clear hfz33_2
       try clear hfz33_3
       try clear hfz33_4
       try clear hfz33_5
       try clear hfz33_6
       try clear hfz33_7
       try clear hfz35_0
       try clear hfz35_1
       try clear hfz35_2
       try clear hfz35_3
       try clear hfz35_4
       try clear hfz35_5
       try clear hfz35_6
       try clear hfz35_7
       try clear hfz36_0
       try clear hfz36_1
       try clear hfz36_2
       try clear hfz36_3
       try clear hfz36_4
       try clear hfz36_5
       try clear hfz36_6
       try clear hfz36_7
       try clear hfz38_0
       try clear hfz38_1
       try clear hfz38_2
       try clear hfz38_3
       try clear hfz38_4
       try clear hfz38_5
       try clear hfz38_6
       try clear hfz38_7
       try clear hfz40_0
       try clear hfz40_1
       try clear hfz40_2
       try clear hfz40_3
       try clear hfz40_4
       try clear hfz40_5
       try clear hfz40_6
       try clear hfz40_7
       try clear hfz41_0
       try clear hfz41_1
       try clear hfz41_2
       try clear hfz41_3
       try clear hfz41_4
       try clear hfz41_5
       try clear hfz41_6
       try clear hfz41_7
       try clear p2
       obtain ⟨kq, x80_29, rfl, HA, HJ29, BK716, HB⟩ := hcut
       cases kq with
       | zero => exact absurd HA.out (by simp [impl_MsgRight.j2])
       | succ kj29 =>
        have H := HA.out
        clear HA
        simp only [impl_MsgRight.j2] at H
        by_cases c42 : x80_29 = true
        ·subst c42
         have H1 : (some false) = some r := by rw [if_pos rfl] at H; exact H
         clear H
         have H := H1
         clear H1
         obtain rfl := Option.some.inj H
         go_wp2
         go_ret
         exact ⟨by first | rfl | (simp [errW_none, errW_some] <;> rfl) | (simp [*, errW_none, errW_some] <;> rfl), by repeat (first | (with_reducible first | exact HB.out | apply below_alloc | apply pw_below_drewN | apply below_drew1 | refine below_set ?_ GE716.out) | exact HB.out)⟩
        ·replace c42 := Bool.eq_false_iff.mpr c42
         subst c42
         have H1 : (if a0_0 = 1 then (some ((l0_7.length : Int) == 0)) else (if a0_0 = 4 then (some ((l0_7.length : Int) == 0)) else (some true))) = some r := by rw [if_neg (show ¬ (false = true) by decide)] at H; exact H
         clear H
         have H := H1
         clear H1
         by_cases c43 : a0_0 = 1
         ·rw [if_pos c43] at H
          have c43b0 : (a0_0 == 1) = true := beq_iff_eq.mpr c43
          have c43b1 : (a0_0 != 1) = false := bne_eq_false_iff_eq.mpr c43
          clear c43
          obtain rfl := Option.some.inj H
          have hcz44_0 : wc.cell? ⟨gb716, 0, none⟩ = some (.int .i64 a0_0) := (blk_cell BK716.out 0).trans rfl
          have hcz44_1 : wc.cell? ⟨gb716, 1, none⟩ = some (.int .i64 a0_1) := (blk_cell BK716.out 1).trans rfl
          have hcz44_2 : wc.cell? ⟨gb716, 2, none⟩ = some (.int .i64 a0_2) := (blk_cell BK716.out 2).trans rfl
          have hcz44_3 : wc.cell? ⟨gb716, 3, none⟩ = some (.int .i64 a0_3) := (blk_cell BK716.out 3).trans rfl
          have hcz44_4 : wc.cell? ⟨gb716, 4, none⟩ = some (.string a0_4) := (blk_cell BK716.out 4).trans rfl
          have hcz44_5 : wc.cell? ⟨gb716, 5, none⟩ = some (.int .i64 a0_5) := (blk_cell BK716.out 5).trans rfl
          have hcz44_6 : wc.cell? ⟨gb716, 6, none⟩ = some (.slice A0_6 l0_6.length c0_6) := (blk_cell BK716.out 6).trans rfl
          have hcz44_7 : wc.cell? ⟨gb716, 7, none⟩ = some (.slice A0_7 l0_7.length c0_7) := (blk_cell BK716.out 7).trans rfl
          have hfz44_0 := blk_frozen BK716.out 0
          have hfz44_1 := blk_frozen BK716.out 1
          have hfz44_2 := blk_frozen BK716.out 2
          have hfz44_3 := blk_frozen BK716.out 3
          have hfz44_4 := blk_frozen BK716.out 4
          have hfz44_5 := blk_frozen BK716.out 5
          have hfz44_6 := blk_frozen BK716.out 6
          have hfz44_7 := blk_frozen BK716.out 7
          go_wp2
          go_ret
          exact ⟨by first | rfl | (simp [errW_none, errW_some] <;> rfl) | (simp [*, errW_none, errW_some] <;> rfl), by repeat (first | (with_reducible first | exact HB.out | apply below_alloc | apply pw_below_drewN | apply below_drew1 | refine below_set ?_ GE716.out) | exact HB.out)⟩
         ·rw [if_neg c43] at H
          have c43b0 : (a0_0 == 1) = false := beq_eq_false_iff_ne.mpr c43
          have c43b1 : (a0_0 != 1) = true := bne_iff_ne.mpr c43
          by_cases c45 : a0_0 = 4
          ·rw [if_pos c45] at H
           have c45b0 : (a0_0 == 4) = true := beq_iff_eq.mpr c45
           have c45b1 : (a0_0 != 4) = false := bne_eq_false_iff_eq.mpr c45
           clear c45
           obtain rfl := Option.some.inj H
           have hcz46_0 : wc.cell? ⟨gb716, 0, none⟩ = some (.int .i64 a0_0) := (blk_cell BK716.out 0).trans rfl
           have hcz46_1 : wc.cell? ⟨gb716, 1, none⟩ = some (.int .i64 a0_1) := (blk_cell BK716.out 1).trans rfl
           have hcz46_2 : wc.cell? ⟨gb716, 2, none⟩ = some (.int .i64 a0_2) := (blk_cell BK716.out 2).trans rfl
           have hcz46_3 : wc.cell? ⟨gb716, 3, none⟩ = some (.int .i64 a0_3) := (blk_cell BK716.out 3).trans rfl
           have hcz46_4 : wc.cell? ⟨gb716, 4, none⟩ = some (.string a0_4) := (blk_cell BK716.out 4).trans rfl
           have hcz46_5 : wc.cell? ⟨gb716, 5, none⟩ = some (.int .i64 a0_5) := (blk_cell BK716.out 5).trans rfl
           have hcz46_6 : wc.cell? ⟨gb716, 6, none⟩ = some (.slice A0_6 l0_6.length c0_6) := (blk_cell BK716.out 6).trans rfl
           have hcz46_7 : wc.cell? ⟨gb716, 7, none⟩ = some (.slice A0_7 l0_7.length c0_7) := (blk_cell BK716.out 7).trans rfl
           have hfz46_0 := blk_frozen BK716.out 0
           have hfz46_1 := blk_frozen BK716.out 1
           have hfz46_2 := blk_frozen BK716.out 2
           have hfz46_3 := blk_frozen BK716.out 3
           have hfz46_4 := blk_frozen BK716.out 4
           have hfz46_5 := blk_frozen BK716.out 5
           have hfz46_6 := blk_frozen BK716.out 6
           have hfz46_7 := blk_frozen BK716.out 7
           go_wp2
           go_ret
           exact ⟨by first | rfl | (simp [errW_none, errW_some] <;> rfl) | (simp [*, errW_none, errW_some] <;> rfl), by repeat (first | (with_reducible first | exact HB.out | apply below_alloc | apply pw_below_drewN | apply below_drew1 | refine below_set ?_ GE716.out) | exact HB.out)⟩
          ·rw [if_neg c45] at H
           have c45b0 : (a0_0 == 4) = false := beq_eq_false_iff_ne.mpr c45
           have c45b1 : (a0_0 != 4) = true := bne_iff_ne.mpr c45
           obtain rfl := Option.some.inj H
           have hcz47_0 : wc.cell? ⟨gb716, 0, none⟩ = some (.int .i64 a0_0) := (blk_cell BK716.out 0).trans rfl
           have hcz47_1 : wc.cell? ⟨gb716, 1, none⟩ = some (.int .i64 a0_1) := (blk_cell BK716.out 1).trans rfl
           have hcz47_2 : wc.cell? ⟨gb716, 2, none⟩ = some (.int .i64 a0_2) := (blk_cell BK716.out 2).trans rfl
           have hcz47_3 : wc.cell? ⟨gb716, 3, none⟩ = some (.int .i64 a0_3) := (blk_cell BK716.out 3).trans rfl
           have hcz47_4 : wc.cell? ⟨gb716, 4, none⟩ = some (.string a0_4) := (blk_cell BK716.out 4).trans rfl
           have hcz47_5 : wc.cell? ⟨gb716, 5, none⟩ = some (.int .i64 a0_5) := (blk_cell BK716.out 5).trans rfl
           have hcz47_6 : wc.cell? ⟨gb716, 6, none⟩ = some (.slice A0_6 l0_6.length c0_6) := (blk_cell BK716.out 6).trans rfl
           have hcz47_7 : wc.cell? ⟨gb716, 7, none⟩ = some (.slice A0_7 l0_7.length c0_7) := (blk_cell BK716.out 7).trans rfl
           have hfz47_0 := blk_frozen BK716.out 0
           have hfz47_1 := blk_frozen BK716.out 1
           have hfz47_2 := blk_frozen BK716.out 2
           have hfz47_3 := blk_frozen BK716.out 3
           have hfz47_4 := blk_frozen BK716.out 4
           have hfz47_5 := blk_frozen BK716.out 5
           have hfz47_6 := blk_frozen BK716.out 6
           have hfz47_7 := blk_frozen BK716.out 7
           go_wp2
           go_ret
           exact ⟨by first | rfl | (simp [errW_none, errW_some] <;> rfl) | (simp [*, errW_none, errW_some] <;> rfl), by repeat (first | (with_reducible first | exact HB.out | apply below_alloc | apply pw_below_drewN | apply below_drew1 | refine below_set ?_ GE716.out) | exact HB.out)⟩

end Go.Proofs.Ytdjhclgkkklajaa.P
