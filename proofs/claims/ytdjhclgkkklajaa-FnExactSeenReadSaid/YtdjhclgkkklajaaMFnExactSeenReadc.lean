/- For all texts the program's SeenRead and the reference's return the same, of its own memory. No condition. (Part 3 of 3: written by programs of this workplace and by hand, merged.) -/
import Derived.Test.YtdjhclgkkklajaaMFnExactSeenReada
import Derived.Test.YtdjhclgkkklajaaMFnExactSeenReadb
import Derived.Test.YtdjhclgkkklajaaMFnExactSeenReadWWords
import Derived.Test.YtdjhclgkkklajaaMFnExactSeenReadWMore
import Derived.Laws.BitsLemmas
import Derived.Test.YtdjhclgkkklajaaRows
import Derived.WalkKit
import Derived.ProofKit
import Derived.OpenShut
import Derived.ShutString
import Derived.ChangeOld
import Derived.Below
import Derived.SizedLaws
set_option linter.unusedVariables false
set_option linter.unusedSimpArgs false

namespace Go.Proofs.Ytdjhclgkkklajaa.P
open Go.RowKit Go.Proofs.YtdjhclgkkklajaaW.PrintWords Go.Proofs.YtdjhclgkkklajaaW.PrintLast Go.Proofs.YtdjhclgkkklajaaW.PrintMore
attribute [local go_sem] max2_int min2_int max_two min_two max_three min_three max_four min_four   -- for this text's walks alone
set_option linter.unusedVariables false
set_option linter.unusedSimpArgs false

/-! ### impl_SeenRead: function 55 -/
def impl_SeenRead.f (k : Nat) (a0 : ByteArray) : Option ((List (S43)) × Int) := (impl_isLong.f k (([a0] : List ByteArray))).bind fun t285 => (if t285 = true then (some (([] : List (S43)), 2)) else ((impl_taker_seen.f k a0 0 false).bind fun bt287 => ((impl_taker_done.f bt287.2.1 bt287.2.2.1 bt287.2.2.2).bind fun bt293 => (if bt293.1 = true then (some (bt287.1, 0)) else (some (([] : List (S43)), 3))))))
theorem impl_SeenRead.mono : ∀ a0 k, LeO (impl_SeenRead.f k a0) (impl_SeenRead.f (k + 1) a0) := by
 intro a0 k
 unfold impl_SeenRead.f
 repeat' first
   | (with_reducible exact impl_isLong.mono _ _)
   | (with_reducible exact impl_taker_seen.mono _ _ _ _)
   | (with_reducible exact LeO.refl _)
   | (with_reducible exact LeO.none _)
   | (with_reducible refine LeO.ite ?_ ?_)
   | (with_reducible refine LeO.bind ?_ (fun _ => ?_))
   | exact impl_isLong.mono _ _
   | exact impl_taker_seen.mono _ _ _ _
   | exact LeO.none _
   | refine LeO.ite ?_ ?_
   | refine LeO.bind ?_ (fun _ => ?_)
set_option maxHeartbeats 8000000 in
set_option maxRecDepth 100000 in
theorem impl_SeenRead.calls (k : Nat) (a0 : ByteArray) (r1 : List (S43)) (r2 : Int) (w : World) (h : impl_SeenRead.f k a0 = some (r1, r2)) :
  Calls Try.prog 55 #[.string a0] w fun e w' => ∃ v0_ : Value, e = .returned (.agg #[v0_, .int .i64 r2]) ∧ Kd.R k43 43 w' w.heap.size (fun _ => True) v0_ r1 ∧ Below w.heap.size w w' := by
 have hu40 := Try.underlying40
 have hu156 := Try.underlying156
 have HB := Aside0.mk (Below.refl w.heap.size w)
 have H : ((impl_isLong.f k (([a0] : List ByteArray))).bind fun t285 => (if t285 = true then (some (([] : List (S43)), 2)) else ((impl_taker_seen.f k a0 0 false).bind fun bt287 => ((impl_taker_done.f bt287.2.1 bt287.2.2.1 bt287.2.2.2).bind fun bt293 => (if bt293.1 = true then (some (bt287.1, 0)) else (some (([] : List (S43)), 3))))))) = some (r1, r2) := h
 clear h
 obtain ⟨y282, hy282⟩ : ∃ y_ : List ByteArray, y_ = (([a0] : List ByteArray)) := ⟨_, rfl⟩
 replace H : ((impl_isLong.f k y282).bind fun t285 => (if t285 = true then (some (([] : List (S43)), 2)) else ((impl_taker_seen.f k a0 0 false).bind fun bt287 => ((impl_taker_done.f bt287.2.1 bt287.2.2.1 bt287.2.2.2).bind fun bt293 => (if bt293.1 = true then (some (bt287.1, 0)) else (some (([] : List (S43)), 3))))))) = some (r1, r2) := by first | (rw [hy282]; with_reducible exact H) | (have H2_ := (Option.bind_some _ _).symm.trans H; rw [hy282]; with_reducible exact H2_) | (have H2_ := (Option.bind_some _ _).symm.trans H; with_reducible exact H2_) | with_reducible exact H | (rw [hy282]; exact H) | exact H
 have Ny282 := Aside0.mk hy282
 clear hy282
 replace H := Option.bind_eq_some_iff.mp H
 obtain ⟨t285, A20, H⟩ := H
 replace H : (if t285 = true then (some (([] : List (S43)), 2)) else ((impl_taker_seen.f k a0 0 false).bind fun bt287 => ((impl_taker_done.f bt287.2.1 bt287.2.2.1 bt287.2.2.2).bind fun bt293 => (if bt293.1 = true then (some (bt287.1, 0)) else (some (([] : List (S43)), 3)))))) = some (r1, r2) := H
 have A2 := Aside0.mk A20
 clear A20
 by_cases c3 : t285 = true
 ·subst c3
  have H1 : (some (([] : List (S43)), 2)) = some (r1, r2) := by rw [if_pos rfl] at H; exact H
  clear H
  have H := H1
  clear H1
  simp only [Option.some.injEq, Prod.mk.injEq] at H
  obtain ⟨rfl, rfl⟩ := H
  go_enter Try.func55, Try.ntmps55
  go_wp2_with (first | ((with_reducible refine gate_dst (N := 2) rfl ?_); refine box_event ?hg (N := 2) ?hd (cs := #[.slice none 0 0, .int .i64 0]) (t := 40) ?hr ?_; (case hd => rfl); (case hg => rfl); (case hr => first | (go_simp; done) | (go_simp; rfl)); intro gb281 hg w4 hbox hb; have n0_ := Aside0.mk (below_step (by repeat (first | (with_reducible first | exact HB.out | apply below_alloc | apply pw_below_drewN | apply below_drew1) | exact HB.out)) hb); have n1_ := Aside0.mk (hbox); have n2_ := Aside0.mk ((by rw [hg]; exact (below_size (by repeat (first | (with_reducible first | exact HB.out | apply below_alloc | apply pw_below_drewN | apply below_drew1) | exact HB.out))) : w.heap.size ≤ gb281)); have n3_ := Aside0.mk ((by rw [hg]; exact (below_size (by repeat (first | (with_reducible first | exact HB.out | apply below_alloc | apply pw_below_drewN | apply below_drew1) | exact HB.out))) : w.heap.size ≤ gb281)); clear HB; have HB := n0_; have BK281 := n1_; have GW281 := n2_; have GE281 := n3_; clear n0_ n1_ n2_ n3_; clear hb hbox hg) | ((with_reducible refine gate_dst (N := 6) rfl ?_); refine Kd.R_lit Kd.string _ 9 ?hg (N := 6) ?hd (xs := ([a0] : List ByteArray)) (inner := [.string a0]) (ok := fun _ => True) (okp := fun _ => True) ?hr ?hp (fun _ hk => hk) trivial (Below.refl _ _) (Nat.le_refl _) (by simp) ?_; (case hd => rfl); (case hg => rfl); (case hr => first | (go_simp; done) | (go_simp; rfl)); (case hp => exact (Reps.one (show Kd.M Kd.string _ _ _ a0 [.string a0] from rfl) (Reps.none _ _))); intro v283 w5 ho6 hb hg_ hnew_; clear hg_ hnew_; (first | rw [← Ny282.out] at ho6 | (simp only [Int.reduceToNat] at ho6; rw [← Ny282.out] at ho6)); have n0_ := Aside0.mk (Kd.R_lower ho6 (below_size (by repeat (first | (with_reducible first | exact HB.out | apply below_alloc | apply pw_below_drewN | apply below_drew1 | refine below_set ?_ GE281.out) | exact HB.out)))); have n1_ := Aside0.mk (blk_below (g := gb281) (o := .cells #[.slice none 0 0, .int .i64 0] 40 (0, 0)) (by (with_reducible repeat (first | refine blk_drewN ?_ _ | refine blk_drew ?_ | refine blk_alloc ?_ _)); exact BK281.out) hb); have n2_ := Aside0.mk (below_step (by repeat (first | (with_reducible first | exact HB.out | apply below_alloc | apply pw_below_drewN | apply below_drew1 | refine below_set ?_ GE281.out) | exact HB.out)) hb); clear BK281; clear HB; have HO284 := n0_; have BK281 := n1_; have HB := n2_; clear n0_ n1_ n2_; clear hb ho6; obtain ⟨Ao7, co7, eo7⟩ := Kd.R_slice HO284.out; subst eo7) | ((with_reducible refine gate_callee (f := 76) rfl ?_); refine goesL_ (some 7) rfl rfl Try.func76 (by kernel_rfl) rfl #[.slice Ao7 y282.length co7] rfl (by (try simp only [List.map_toArray, List.map_cons, List.map_nil]); first | done | rfl | (simp only [List.length_drop, List.length_take]; rfl)) ?_; (with_reducible refine (impl_isLong.calls k _ _ y282 true _ ?side1 ?side2 A2.out).mono ?_); (case side1 => repeat (first | exact (Kd.R_reads' HO284.out).2.2 | (with_reducible refine Kd.C_alloc ?_ _) | (with_reducible refine Kd.C_drewN ?_ _) | (with_reducible refine Kd.C_drew ?_))); (case side2 => exact (Kd.R_reads' HO284.out).2.1); rintro e w' ⟨rfl, ⟨nd, rfl⟩⟩; refine ⟨_, rfl, ?_⟩; (try (rw [drewN_self w5]; generalize hq_ : World.drewN w5 _ = w5; have n0_ : Aside0 (Kd.R Kd.string 9 w5 w.heap.size (fun _ => True) (.slice Ao7 y282.length co7) y282) := ⟨by rw [← hq_]; exact (by (with_reducible repeat (first | apply Kd.R_alloc | apply Kd.R_drewN | apply Kd.R_drew)); exact HO284.out)⟩; have n1_ : Aside0 (w5.heap[gb281]? = some (.cells #[.slice none 0 0, .int .i64 0] 40 (0, 0))) := ⟨by rw [← hq_]; exact (by (with_reducible repeat (first | refine blk_drewN ?_ _ | refine blk_drew ?_ | refine blk_alloc ?_ _)); exact BK281.out)⟩; have n2_ : Aside0 (Below w.heap.size w w5) := ⟨by rw [← hq_]; exact (by repeat (first | (with_reducible first | exact HB.out | apply below_alloc | apply pw_below_drewN | apply below_drew1 | refine below_set ?_ GE281.out) | exact HB.out))⟩; clear HO284 BK281 HB hq_; have HO284 := n0_; have BK281 := n1_; have HB := n2_; clear n0_ n1_ n2_)); have hcz8_0 : w5.cell? ⟨gb281, 0, none⟩ = some (.slice none 0 0) := (blk_cell BK281.out 0).trans rfl; have hcz8_1 : w5.cell? ⟨gb281, 1, none⟩ = some (.int .i64 0) := (blk_cell BK281.out 1).trans rfl; have hfz8_0 := blk_frozen BK281.out 0; have hfz8_1 := blk_frozen BK281.out 1))
  refine bodyPost_ret (results_cell_row rfl _ _ gb281 40 #[.slice none 0 0, .int .i64 2] (0, 0) _ rfl (by (with_reducible repeat (first | refine blk_drewN ?_ _ | refine blk_drew ?_ | refine blk_alloc ?_ _)); refine blk_put (cs := #[.slice none 0 0, .int .i64 0]) ?_ 1 _ rfl; (with_reducible repeat (first | refine blk_drewN ?_ _ | refine blk_drew ?_ | refine blk_alloc ?_ _)); refine blk_put (cs := #[.slice none 0 0, .int .i64 0]) ?_ 0 _ rfl; (with_reducible repeat (first | refine blk_drewN ?_ _ | refine blk_drew ?_ | refine blk_alloc ?_ _)); exact BK281.out) Try.underlying40 rfl (by kernel_rfl)) rfl ?_
  exact ⟨_, by first | rfl | (simp [errW_none, errW_some] <;> rfl) | (simp [*, errW_none, errW_some] <;> rfl), by first | exact Kd.R_nil _ _ _ _ _ | exact Kd.N_nil _ _ _ _ _ | exact Kd.V_nil _ _ _ _ _ | exact Kd.Q_nil _ _ _ _ _ | exact Kd.S_nil _ _ _ _ _, by repeat (first | (with_reducible first | exact HB.out | apply below_alloc | apply pw_below_drewN | apply below_drew1 | refine below_set ?_ GE281.out) | exact HB.out)⟩
 ·replace c3 := Bool.eq_false_iff.mpr c3
  subst c3
  have H1 : ((impl_taker_seen.f k a0 0 false).bind fun bt287 => ((impl_taker_done.f bt287.2.1 bt287.2.2.1 bt287.2.2.2).bind fun bt293 => (if bt293.1 = true then (some (bt287.1, 0)) else (some (([] : List (S43)), 3))))) = some (r1, r2) := by rw [if_neg (show ¬ (false = true) by decide)] at H; exact H
  clear H
  have H := H1
  clear H1
  replace H := Option.bind_eq_some_iff.mp H
  obtain ⟨⟨t287, t290, t291, t292⟩, A90, H⟩ := H
  replace H : ((impl_taker_done.f t290 t291 t292).bind fun bt293 => (if bt293.1 = true then (some (t287, 0)) else (some (([] : List (S43)), 3)))) = some (r1, r2) := H
  have A9 := Aside0.mk A90
  clear A90
  replace H := Option.bind_eq_some_iff.mp H
  obtain ⟨⟨t293, t294, t295, t296⟩, A100, H⟩ := H
  replace H : (if t293 = true then (some (t287, 0)) else (some (([] : List (S43)), 3))) = some (r1, r2) := H
  have A10 := Aside0.mk A100
  clear A100
  by_cases c11 : t293 = true
  ·subst c11
   have H1 : (some (t287, 0)) = some (r1, r2) := by rw [if_pos rfl] at H; exact H
   clear H
   have H := H1
   clear H1
   simp only [Option.some.injEq, Prod.mk.injEq] at H
   obtain ⟨rfl, rfl⟩ := H
   go_enter Try.func55, Try.ntmps55
   go_wp2_with (first | ((with_reducible refine gate_dst (N := 2) rfl ?_); refine box_event ?hg (N := 2) ?hd (cs := #[.slice none 0 0, .int .i64 0]) (t := 40) ?hr ?_; (case hd => rfl); (case hg => rfl); (case hr => first | (go_simp; done) | (go_simp; rfl)); intro gb281 hg w12 hbox hb; have n0_ := Aside0.mk (below_step (by repeat (first | (with_reducible first | exact HB.out | apply below_alloc | apply pw_below_drewN | apply below_drew1) | exact HB.out)) hb); have n1_ := Aside0.mk (hbox); have n2_ := Aside0.mk ((by rw [hg]; exact (below_size (by repeat (first | (with_reducible first | exact HB.out | apply below_alloc | apply pw_below_drewN | apply below_drew1) | exact HB.out))) : w.heap.size ≤ gb281)); have n3_ := Aside0.mk ((by rw [hg]; exact (below_size (by repeat (first | (with_reducible first | exact HB.out | apply below_alloc | apply pw_below_drewN | apply below_drew1) | exact HB.out))) : w.heap.size ≤ gb281)); clear HB; have HB := n0_; have BK281 := n1_; have GW281 := n2_; have GE281 := n3_; clear n0_ n1_ n2_ n3_; clear hb hbox hg) | ((with_reducible refine gate_dst (N := 6) rfl ?_); refine Kd.R_lit Kd.string _ 9 ?hg (N := 6) ?hd (xs := ([a0] : List ByteArray)) (inner := [.string a0]) (ok := fun _ => True) (okp := fun _ => True) ?hr ?hp (fun _ hk => hk) trivial (Below.refl _ _) (Nat.le_refl _) (by simp) ?_; (case hd => rfl); (case hg => rfl); (case hr => first | (go_simp; done) | (go_simp; rfl)); (case hp => exact (Reps.one (show Kd.M Kd.string _ _ _ a0 [.string a0] from rfl) (Reps.none _ _))); intro v283 w13 ho14 hb hg_ hnew_; clear hg_ hnew_; (first | rw [← Ny282.out] at ho14 | (simp only [Int.reduceToNat] at ho14; rw [← Ny282.out] at ho14)); have n0_ := Aside0.mk (Kd.R_lower ho14 (below_size (by repeat (first | (with_reducible first | exact HB.out | apply below_alloc | apply pw_below_drewN | apply below_drew1 | refine below_set ?_ GE281.out) | exact HB.out)))); have n1_ := Aside0.mk (blk_below (g := gb281) (o := .cells #[.slice none 0 0, .int .i64 0] 40 (0, 0)) (by (with_reducible repeat (first | refine blk_drewN ?_ _ | refine blk_drew ?_ | refine blk_alloc ?_ _)); exact BK281.out) hb); have n2_ := Aside0.mk (below_step (by repeat (first | (with_reducible first | exact HB.out | apply below_alloc | apply pw_below_drewN | apply below_drew1 | refine below_set ?_ GE281.out) | exact HB.out)) hb); clear BK281; clear HB; have HO284 := n0_; have BK281 := n1_; have HB := n2_; clear n0_ n1_ n2_; clear hb ho14; obtain ⟨Ao15, co15, eo15⟩ := Kd.R_slice HO284.out; subst eo15) | ((with_reducible refine gate_callee (f := 76) rfl ?_); refine goesL_ (some 7) rfl rfl Try.func76 (by kernel_rfl) rfl #[.slice Ao15 y282.length co15] rfl (by (try simp only [List.map_toArray, List.map_cons, List.map_nil]); first | done | rfl | (simp only [List.length_drop, List.length_take]; rfl)) ?_; (with_reducible refine (impl_isLong.calls k _ _ y282 false _ ?side1 ?side2 A2.out).mono ?_); (case side1 => repeat (first | exact (Kd.R_reads' HO284.out).2.2 | (with_reducible refine Kd.C_alloc ?_ _) | (with_reducible refine Kd.C_drewN ?_ _) | (with_reducible refine Kd.C_drew ?_))); (case side2 => exact (Kd.R_reads' HO284.out).2.1); rintro e w' ⟨rfl, ⟨nd, rfl⟩⟩; refine ⟨_, rfl, ?_⟩; (try (rw [drewN_self w13]; generalize hq_ : World.drewN w13 _ = w13; have n0_ : Aside0 (Kd.R Kd.string 9 w13 w.heap.size (fun _ => True) (.slice Ao15 y282.length co15) y282) := ⟨by rw [← hq_]; exact (by (with_reducible repeat (first | apply Kd.R_alloc | apply Kd.R_drewN | apply Kd.R_drew)); exact HO284.out)⟩; have n1_ : Aside0 (w13.heap[gb281]? = some (.cells #[.slice none 0 0, .int .i64 0] 40 (0, 0))) := ⟨by rw [← hq_]; exact (by (with_reducible repeat (first | refine blk_drewN ?_ _ | refine blk_drew ?_ | refine blk_alloc ?_ _)); exact BK281.out)⟩; have n2_ : Aside0 (Below w.heap.size w w13) := ⟨by rw [← hq_]; exact (by repeat (first | (with_reducible first | exact HB.out | apply below_alloc | apply pw_below_drewN | apply below_drew1 | refine below_set ?_ GE281.out) | exact HB.out))⟩; clear HO284 BK281 HB hq_; have HO284 := n0_; have BK281 := n1_; have HB := n2_; clear n0_ n1_ n2_))) | ((with_reducible refine gate_dst (N := 11) rfl ?_); refine box_event ?hg (N := 11) ?hd (cs := #[.string a0, .int .i64 0, .bool false]) (t := 156) ?hr ?_; (case hd => rfl); (case hg => rfl); (case hr => first | (go_simp; done) | (go_simp; rfl)); intro gb286 hg w16 hbox hb; have n0_ := Aside0.mk (Kd.R_below (by (with_reducible repeat (first | apply Kd.R_alloc | apply Kd.R_drewN | apply Kd.R_drew)); exact HO284.out) hb); have n1_ := Aside0.mk (blk_below (g := gb281) (o := .cells #[.slice none 0 0, .int .i64 0] 40 (0, 0)) (by (with_reducible repeat (first | refine blk_drewN ?_ _ | refine blk_drew ?_ | refine blk_alloc ?_ _)); exact BK281.out) hb); have n2_ := Aside0.mk (below_step (by repeat (first | (with_reducible first | exact HB.out | apply below_alloc | apply pw_below_drewN | apply below_drew1 | refine below_set ?_ GE281.out) | exact HB.out)) hb); have n3_ := Aside0.mk ((show IsS156 w w16 gb286 a0 0 false from ⟨hbox, (by rw [hg]; exact (below_size (by repeat (first | (with_reducible first | exact HB.out | apply below_alloc | apply pw_below_drewN | apply below_drew1 | refine below_set ?_ GE281.out) | exact HB.out))) : w.heap.size ≤ gb286)⟩)); have n4_ := Aside0.mk ((by rw [hg]; exact (below_size (by repeat (first | (with_reducible first | exact HB.out | apply below_alloc | apply pw_below_drewN | apply below_drew1 | refine below_set ?_ GE281.out) | exact HB.out))) : w.heap.size ≤ gb286)); have n5_ := Aside0.mk ((by rw [hg]; exact (below_size (by repeat (first | (with_reducible first | exact HB.out | apply below_alloc | apply pw_below_drewN | apply below_drew1 | refine below_set ?_ GE281.out) | exact HB.out))) : w.heap.size ≤ gb286)); have n6_ := Aside0.mk ((by rw [hg]; exact Nat.ne_of_lt (blk_lt (g := gb281) (o := .cells #[.slice none 0 0, .int .i64 0] 40 (0, 0)) (by (with_reducible repeat (first | refine blk_drewN ?_ _ | refine blk_drew ?_ | refine blk_alloc ?_ _)); exact BK281.out)) : gb281 ≠ gb286)); have n7_ := Aside0.mk ((by rw [hg]; exact Nat.ne_of_gt (blk_lt (g := gb281) (o := .cells #[.slice none 0 0, .int .i64 0] 40 (0, 0)) (by (with_reducible repeat (first | refine blk_drewN ?_ _ | refine blk_drew ?_ | refine blk_alloc ?_ _)); exact BK281.out)) : gb286 ≠ gb281)); clear HO284; clear BK281; clear HB; have HO284 := n0_; have BK281 := n1_; have HB := n2_; have HI286 := n3_; have GW286 := n4_; have GE286 := n5_; have NB281_286 := n6_; have NB286_281 := n7_; clear n0_ n1_ n2_ n3_ n4_ n5_ n6_ n7_; clear hb hbox hg) | ((with_reducible refine gate_callee (f := 124) rfl ?_); refine goesL_ (some 13) rfl rfl Try.func124 (by kernel_rfl) rfl #[.pointer (some ⟨gb286, 0, none⟩)] rfl (by (try simp only [List.map_toArray, List.map_cons, List.map_nil]); first | done | rfl | (simp only [List.length_drop, List.length_take]; rfl)) ?_; (with_reducible refine (impl_taker_seen.calls k gb286 a0 0 false t287 t290 t291 t292 w _ ?side1 ?side2 A9.out).mono ?_); (case side1 => repeat (first | (with_reducible first | exact HI286.out | apply IsS156.alloc | apply IsS156.drewN | apply IsS156.drew | apply IsS156.set_0 | apply IsS156.set_1 | apply IsS156.set_2 | refine IsS156.far ?_ (by exact NB286_281.out) _) | exact HI286.out)); (case side2 => repeat (first | (with_reducible first | exact HB.out | apply below_alloc | apply pw_below_drewN | apply below_drew1 | refine below_set ?_ (IsS156.ge HI286.out) | refine below_set ?_ GE281.out) | exact HB.out)); rintro e w17 ⟨v288, rfl, ho0, hi, hb, hk⟩; refine ⟨_, rfl, ?_⟩; have n0_ := Aside0.mk (KeepBut.blk hk (g' := gb281) (o := .cells #[.slice none 0 0, .int .i64 0] 40 (0, 0)) (by (with_reducible repeat (first | refine blk_drewN ?_ _ | refine blk_drew ?_ | refine blk_alloc ?_ _)); exact BK281.out) NB281_286.out (by simp)); have n1_ := Aside0.mk (Kd.R_mono (Kd.R_keep (IsS156.apart (show IsS156 w _ gb286 a0 0 false from by repeat (first | (with_reducible first | exact HI286.out | apply IsS156.alloc | apply IsS156.drewN | apply IsS156.drew | apply IsS156.set_0 | apply IsS156.set_1 | apply IsS156.set_2 | refine IsS156.far ?_ (by exact NB286_281.out) _) | exact HI286.out)) (by (with_reducible repeat (first | apply Kd.R_alloc | apply Kd.R_drewN | apply Kd.R_drew)); exact HO284.out) (by decide)) hk (fun _ h => h.2)) (fun _ h => h.1)); have n2_ := Aside0.mk (Kd.R_lower ho0 (below_size (by repeat (first | (with_reducible first | exact HB.out | apply below_alloc | apply pw_below_drewN | apply below_drew1 | refine below_set ?_ (IsS156.ge HI286.out) | refine below_set ?_ GE281.out) | exact HB.out)))); have n3_ := Aside0.mk (hb); have n4_ := Aside0.mk (hi); clear BK281; clear HO284; clear HB; clear HI286; have BK281 := n0_; have HO284 := n1_; have HO289 := n2_; have HB := n3_; have HI286 := n4_; clear n0_ n1_ n2_ n3_ n4_; (try clear hb); (try clear hb2); (try clear hk); (try clear hi); (try clear ho0)) | ((with_reducible refine gate_callee (f := 125) rfl ?_); refine goesL_ (some 15) rfl rfl Try.func125 (by kernel_rfl) rfl #[.pointer (some ⟨gb286, 0, none⟩)] rfl (by (try simp only [List.map_toArray, List.map_cons, List.map_nil]); first | done | rfl | (simp only [List.length_drop, List.length_take]; rfl)) ?_; (with_reducible refine (impl_taker_done.calls gb286 t290 t291 t292 true t294 t295 t296 w _ ?side1 ?side2 A10.out).mono ?_); (case side1 => repeat (first | (with_reducible first | exact HI286.out | apply IsS156.alloc | apply IsS156.drewN | apply IsS156.drew | apply IsS156.set_0 | apply IsS156.set_1 | apply IsS156.set_2 | refine IsS156.far ?_ (by exact NB286_281.out) _) | exact HI286.out)); (case side2 => repeat (first | (with_reducible first | exact HB.out | apply below_alloc | apply pw_below_drewN | apply below_drew1 | refine below_set ?_ (IsS156.ge HI286.out) | refine below_set ?_ GE281.out) | exact HB.out)); rintro e w18 ⟨rfl, hi, hb, hk⟩; refine ⟨_, rfl, ?_⟩; have n0_ := Aside0.mk (KeepBut.blk hk (g' := gb281) (o := .cells #[.slice none 0 0, .int .i64 0] 40 (0, 0)) (by (with_reducible repeat (first | refine blk_drewN ?_ _ | refine blk_drew ?_ | refine blk_alloc ?_ _)); exact BK281.out) NB281_286.out (by simp)); have n1_ := Aside0.mk (Kd.R_mono (Kd.R_keep (IsS156.apart (show IsS156 w _ gb286 t290 t291 t292 from by repeat (first | (with_reducible first | exact HI286.out | apply IsS156.alloc | apply IsS156.drewN | apply IsS156.drew | apply IsS156.set_0 | apply IsS156.set_1 | apply IsS156.set_2 | refine IsS156.far ?_ (by exact NB286_281.out) _) | exact HI286.out)) (by (with_reducible repeat (first | apply Kd.R_alloc | apply Kd.R_drewN | apply Kd.R_drew)); exact HO284.out) (by decide)) hk (fun _ h => h.2)) (fun _ h => h.1)); have n2_ := Aside0.mk (Kd.R_mono (Kd.R_keep (IsS156.apart (show IsS156 w _ gb286 t290 t291 t292 from by repeat (first | (with_reducible first | exact HI286.out | apply IsS156.alloc | apply IsS156.drewN | apply IsS156.drew | apply IsS156.set_0 | apply IsS156.set_1 | apply IsS156.set_2 | refine IsS156.far ?_ (by exact NB286_281.out) _) | exact HI286.out)) (by (with_reducible repeat (first | apply Kd.R_alloc | apply Kd.R_drewN | apply Kd.R_drew)); exact HO289.out) (by decide)) hk (fun _ h => h.2)) (fun _ h => h.1)); have n3_ := Aside0.mk (hb); have n4_ := Aside0.mk (hi); clear BK281; clear HO284; clear HO289; clear HB; clear HI286; have BK281 := n0_; have HO284 := n1_; have HO289 := n2_; have HB := n3_; have HI286 := n4_; clear n0_ n1_ n2_ n3_ n4_; (try clear hb); (try clear hb2); (try clear hk); (try clear hi); obtain ⟨Ao19, co19, eo19⟩ := Kd.R_slice HO289.out; subst eo19; have hnb20 := NB281_286.out; have hnc20 := NB286_281.out; have hcz21_0 : w18.cell? ⟨gb281, 0, none⟩ = some (.slice none 0 0) := (blk_cell BK281.out 0).trans rfl; have hcz21_1 : w18.cell? ⟨gb281, 1, none⟩ = some (.int .i64 0) := (blk_cell BK281.out 1).trans rfl; have hfz21_0 := blk_frozen BK281.out 0; have hfz21_1 := blk_frozen BK281.out 1))
   refine bodyPost_ret (results_cell_row rfl _ _ gb281 40 #[.slice Ao19 t287.length co19, .int .i64 0] (0, 0) _ rfl (by (with_reducible repeat (first | refine blk_drewN ?_ _ | refine blk_drew ?_ | refine blk_alloc ?_ _)); refine blk_put (cs := #[.slice Ao19 t287.length co19, .int .i64 0]) ?_ 1 _ rfl; (with_reducible repeat (first | refine blk_drewN ?_ _ | refine blk_drew ?_ | refine blk_alloc ?_ _)); refine blk_put (cs := #[.slice none 0 0, .int .i64 0]) ?_ 0 _ rfl; (with_reducible repeat (first | refine blk_drewN ?_ _ | refine blk_drew ?_ | refine blk_alloc ?_ _)); exact BK281.out) Try.underlying40 rfl (by kernel_rfl)) rfl ?_
   exact ⟨_, by first | rfl | (simp [errW_none, errW_some] <;> rfl) | (simp [*, errW_none, errW_some] <;> rfl), by (with_reducible repeat (first | apply Kd.R_alloc | apply Kd.R_drewN | apply Kd.R_drew)); exact Kd.R_mono (Kd.R_far (p := ⟨gb281, 1, none⟩) (Kd.R_far (p := ⟨gb281, 0, none⟩) (Kd.R_types HO289.out BK281.out (by decide)) (fun _ hk => hk.2) (.slice Ao19 t287.length co19)) (fun _ hk => hk.2) (.int .i64 0)) (fun _ hk => trivial), by repeat (first | (with_reducible first | exact HB.out | apply below_alloc | apply pw_below_drewN | apply below_drew1 | refine below_set ?_ (IsS156.ge HI286.out) | refine below_set ?_ GE281.out) | exact HB.out)⟩
  ·replace c11 := Bool.eq_false_iff.mpr c11
   subst c11
   have H1 : (some (([] : List (S43)), 3)) = some (r1, r2) := by rw [if_neg (show ¬ (false = true) by decide)] at H; exact H
   clear H
   have H := H1
   clear H1
   simp only [Option.some.injEq, Prod.mk.injEq] at H
   obtain ⟨rfl, rfl⟩ := H
   go_enter Try.func55, Try.ntmps55
   go_wp2_with (first | ((with_reducible refine gate_dst (N := 2) rfl ?_); refine box_event ?hg (N := 2) ?hd (cs := #[.slice none 0 0, .int .i64 0]) (t := 40) ?hr ?_; (case hd => rfl); (case hg => rfl); (case hr => first | (go_simp; done) | (go_simp; rfl)); intro gb281 hg w22 hbox hb; have n0_ := Aside0.mk (below_step (by repeat (first | (with_reducible first | exact HB.out | apply below_alloc | apply pw_below_drewN | apply below_drew1) | exact HB.out)) hb); have n1_ := Aside0.mk (hbox); have n2_ := Aside0.mk ((by rw [hg]; exact (below_size (by repeat (first | (with_reducible first | exact HB.out | apply below_alloc | apply pw_below_drewN | apply below_drew1) | exact HB.out))) : w.heap.size ≤ gb281)); have n3_ := Aside0.mk ((by rw [hg]; exact (below_size (by repeat (first | (with_reducible first | exact HB.out | apply below_alloc | apply pw_below_drewN | apply below_drew1) | exact HB.out))) : w.heap.size ≤ gb281)); clear HB; have HB := n0_; have BK281 := n1_; have GW281 := n2_; have GE281 := n3_; clear n0_ n1_ n2_ n3_; clear hb hbox hg) | ((with_reducible refine gate_dst (N := 6) rfl ?_); refine Kd.R_lit Kd.string _ 9 ?hg (N := 6) ?hd (xs := ([a0] : List ByteArray)) (inner := [.string a0]) (ok := fun _ => True) (okp := fun _ => True) ?hr ?hp (fun _ hk => hk) trivial (Below.refl _ _) (Nat.le_refl _) (by simp) ?_; (case hd => rfl); (case hg => rfl); (case hr => first | (go_simp; done) | (go_simp; rfl)); (case hp => exact (Reps.one (show Kd.M Kd.string _ _ _ a0 [.string a0] from rfl) (Reps.none _ _))); intro v283 w23 ho24 hb hg_ hnew_; clear hg_ hnew_; (first | rw [← Ny282.out] at ho24 | (simp only [Int.reduceToNat] at ho24; rw [← Ny282.out] at ho24)); have n0_ := Aside0.mk (Kd.R_lower ho24 (below_size (by repeat (first | (with_reducible first | exact HB.out | apply below_alloc | apply pw_below_drewN | apply below_drew1 | refine below_set ?_ GE281.out) | exact HB.out)))); have n1_ := Aside0.mk (blk_below (g := gb281) (o := .cells #[.slice none 0 0, .int .i64 0] 40 (0, 0)) (by (with_reducible repeat (first | refine blk_drewN ?_ _ | refine blk_drew ?_ | refine blk_alloc ?_ _)); exact BK281.out) hb); have n2_ := Aside0.mk (below_step (by repeat (first | (with_reducible first | exact HB.out | apply below_alloc | apply pw_below_drewN | apply below_drew1 | refine below_set ?_ GE281.out) | exact HB.out)) hb); clear BK281; clear HB; have HO284 := n0_; have BK281 := n1_; have HB := n2_; clear n0_ n1_ n2_; clear hb ho24; obtain ⟨Ao25, co25, eo25⟩ := Kd.R_slice HO284.out; subst eo25) | ((with_reducible refine gate_callee (f := 76) rfl ?_); refine goesL_ (some 7) rfl rfl Try.func76 (by kernel_rfl) rfl #[.slice Ao25 y282.length co25] rfl (by (try simp only [List.map_toArray, List.map_cons, List.map_nil]); first | done | rfl | (simp only [List.length_drop, List.length_take]; rfl)) ?_; (with_reducible refine (impl_isLong.calls k _ _ y282 false _ ?side1 ?side2 A2.out).mono ?_); (case side1 => repeat (first | exact (Kd.R_reads' HO284.out).2.2 | (with_reducible refine Kd.C_alloc ?_ _) | (with_reducible refine Kd.C_drewN ?_ _) | (with_reducible refine Kd.C_drew ?_))); (case side2 => exact (Kd.R_reads' HO284.out).2.1); rintro e w' ⟨rfl, ⟨nd, rfl⟩⟩; refine ⟨_, rfl, ?_⟩; (try (rw [drewN_self w23]; generalize hq_ : World.drewN w23 _ = w23; have n0_ : Aside0 (Kd.R Kd.string 9 w23 w.heap.size (fun _ => True) (.slice Ao25 y282.length co25) y282) := ⟨by rw [← hq_]; exact (by (with_reducible repeat (first | apply Kd.R_alloc | apply Kd.R_drewN | apply Kd.R_drew)); exact HO284.out)⟩; have n1_ : Aside0 (w23.heap[gb281]? = some (.cells #[.slice none 0 0, .int .i64 0] 40 (0, 0))) := ⟨by rw [← hq_]; exact (by (with_reducible repeat (first | refine blk_drewN ?_ _ | refine blk_drew ?_ | refine blk_alloc ?_ _)); exact BK281.out)⟩; have n2_ : Aside0 (Below w.heap.size w w23) := ⟨by rw [← hq_]; exact (by repeat (first | (with_reducible first | exact HB.out | apply below_alloc | apply pw_below_drewN | apply below_drew1 | refine below_set ?_ GE281.out) | exact HB.out))⟩; clear HO284 BK281 HB hq_; have HO284 := n0_; have BK281 := n1_; have HB := n2_; clear n0_ n1_ n2_))) | ((with_reducible refine gate_dst (N := 11) rfl ?_); refine box_event ?hg (N := 11) ?hd (cs := #[.string a0, .int .i64 0, .bool false]) (t := 156) ?hr ?_; (case hd => rfl); (case hg => rfl); (case hr => first | (go_simp; done) | (go_simp; rfl)); intro gb286 hg w26 hbox hb; have n0_ := Aside0.mk (Kd.R_below (by (with_reducible repeat (first | apply Kd.R_alloc | apply Kd.R_drewN | apply Kd.R_drew)); exact HO284.out) hb); have n1_ := Aside0.mk (blk_below (g := gb281) (o := .cells #[.slice none 0 0, .int .i64 0] 40 (0, 0)) (by (with_reducible repeat (first | refine blk_drewN ?_ _ | refine blk_drew ?_ | refine blk_alloc ?_ _)); exact BK281.out) hb); have n2_ := Aside0.mk (below_step (by repeat (first | (with_reducible first | exact HB.out | apply below_alloc | apply pw_below_drewN | apply below_drew1 | refine below_set ?_ GE281.out) | exact HB.out)) hb); have n3_ := Aside0.mk ((show IsS156 w w26 gb286 a0 0 false from ⟨hbox, (by rw [hg]; exact (below_size (by repeat (first | (with_reducible first | exact HB.out | apply below_alloc | apply pw_below_drewN | apply below_drew1 | refine below_set ?_ GE281.out) | exact HB.out))) : w.heap.size ≤ gb286)⟩)); have n4_ := Aside0.mk ((by rw [hg]; exact (below_size (by repeat (first | (with_reducible first | exact HB.out | apply below_alloc | apply pw_below_drewN | apply below_drew1 | refine below_set ?_ GE281.out) | exact HB.out))) : w.heap.size ≤ gb286)); have n5_ := Aside0.mk ((by rw [hg]; exact (below_size (by repeat (first | (with_reducible first | exact HB.out | apply below_alloc | apply pw_below_drewN | apply below_drew1 | refine below_set ?_ GE281.out) | exact HB.out))) : w.heap.size ≤ gb286)); have n6_ := Aside0.mk ((by rw [hg]; exact Nat.ne_of_lt (blk_lt (g := gb281) (o := .cells #[.slice none 0 0, .int .i64 0] 40 (0, 0)) (by (with_reducible repeat (first | refine blk_drewN ?_ _ | refine blk_drew ?_ | refine blk_alloc ?_ _)); exact BK281.out)) : gb281 ≠ gb286)); have n7_ := Aside0.mk ((by rw [hg]; exact Nat.ne_of_gt (blk_lt (g := gb281) (o := .cells #[.slice none 0 0, .int .i64 0] 40 (0, 0)) (by (with_reducible repeat (first | refine blk_drewN ?_ _ | refine blk_drew ?_ | refine blk_alloc ?_ _)); exact BK281.out)) : gb286 ≠ gb281)); clear HO284; clear BK281; clear HB; have HO284 := n0_; have BK281 := n1_; have HB := n2_; have HI286 := n3_; have GW286 := n4_; have GE286 := n5_; have NB281_286 := n6_; have NB286_281 := n7_; clear n0_ n1_ n2_ n3_ n4_ n5_ n6_ n7_; clear hb hbox hg) | ((with_reducible refine gate_callee (f := 124) rfl ?_); refine goesL_ (some 13) rfl rfl Try.func124 (by kernel_rfl) rfl #[.pointer (some ⟨gb286, 0, none⟩)] rfl (by (try simp only [List.map_toArray, List.map_cons, List.map_nil]); first | done | rfl | (simp only [List.length_drop, List.length_take]; rfl)) ?_; (with_reducible refine (impl_taker_seen.calls k gb286 a0 0 false t287 t290 t291 t292 w _ ?side1 ?side2 A9.out).mono ?_); (case side1 => repeat (first | (with_reducible first | exact HI286.out | apply IsS156.alloc | apply IsS156.drewN | apply IsS156.drew | apply IsS156.set_0 | apply IsS156.set_1 | apply IsS156.set_2 | refine IsS156.far ?_ (by exact NB286_281.out) _) | exact HI286.out)); (case side2 => repeat (first | (with_reducible first | exact HB.out | apply below_alloc | apply pw_below_drewN | apply below_drew1 | refine below_set ?_ (IsS156.ge HI286.out) | refine below_set ?_ GE281.out) | exact HB.out)); rintro e w27 ⟨v288, rfl, ho0, hi, hb, hk⟩; refine ⟨_, rfl, ?_⟩; have n0_ := Aside0.mk (KeepBut.blk hk (g' := gb281) (o := .cells #[.slice none 0 0, .int .i64 0] 40 (0, 0)) (by (with_reducible repeat (first | refine blk_drewN ?_ _ | refine blk_drew ?_ | refine blk_alloc ?_ _)); exact BK281.out) NB281_286.out (by simp)); have n1_ := Aside0.mk (Kd.R_mono (Kd.R_keep (IsS156.apart (show IsS156 w _ gb286 a0 0 false from by repeat (first | (with_reducible first | exact HI286.out | apply IsS156.alloc | apply IsS156.drewN | apply IsS156.drew | apply IsS156.set_0 | apply IsS156.set_1 | apply IsS156.set_2 | refine IsS156.far ?_ (by exact NB286_281.out) _) | exact HI286.out)) (by (with_reducible repeat (first | apply Kd.R_alloc | apply Kd.R_drewN | apply Kd.R_drew)); exact HO284.out) (by decide)) hk (fun _ h => h.2)) (fun _ h => h.1)); have n2_ := Aside0.mk (Kd.R_lower ho0 (below_size (by repeat (first | (with_reducible first | exact HB.out | apply below_alloc | apply pw_below_drewN | apply below_drew1 | refine below_set ?_ (IsS156.ge HI286.out) | refine below_set ?_ GE281.out) | exact HB.out)))); have n3_ := Aside0.mk (hb); have n4_ := Aside0.mk (hi); clear BK281; clear HO284; clear HB; clear HI286; have BK281 := n0_; have HO284 := n1_; have HO289 := n2_; have HB := n3_; have HI286 := n4_; clear n0_ n1_ n2_ n3_ n4_; (try clear hb); (try clear hb2); (try clear hk); (try clear hi); (try clear ho0)) | ((with_reducible refine gate_callee (f := 125) rfl ?_); refine goesL_ (some 15) rfl rfl Try.func125 (by kernel_rfl) rfl #[.pointer (some ⟨gb286, 0, none⟩)] rfl (by (try simp only [List.map_toArray, List.map_cons, List.map_nil]); first | done | rfl | (simp only [List.length_drop, List.length_take]; rfl)) ?_; (with_reducible refine (impl_taker_done.calls gb286 t290 t291 t292 false t294 t295 t296 w _ ?side1 ?side2 A10.out).mono ?_); (case side1 => repeat (first | (with_reducible first | exact HI286.out | apply IsS156.alloc | apply IsS156.drewN | apply IsS156.drew | apply IsS156.set_0 | apply IsS156.set_1 | apply IsS156.set_2 | refine IsS156.far ?_ (by exact NB286_281.out) _) | exact HI286.out)); (case side2 => repeat (first | (with_reducible first | exact HB.out | apply below_alloc | apply pw_below_drewN | apply below_drew1 | refine below_set ?_ (IsS156.ge HI286.out) | refine below_set ?_ GE281.out) | exact HB.out)); rintro e w28 ⟨rfl, hi, hb, hk⟩; refine ⟨_, rfl, ?_⟩; have n0_ := Aside0.mk (KeepBut.blk hk (g' := gb281) (o := .cells #[.slice none 0 0, .int .i64 0] 40 (0, 0)) (by (with_reducible repeat (first | refine blk_drewN ?_ _ | refine blk_drew ?_ | refine blk_alloc ?_ _)); exact BK281.out) NB281_286.out (by simp)); have n1_ := Aside0.mk (Kd.R_mono (Kd.R_keep (IsS156.apart (show IsS156 w _ gb286 t290 t291 t292 from by repeat (first | (with_reducible first | exact HI286.out | apply IsS156.alloc | apply IsS156.drewN | apply IsS156.drew | apply IsS156.set_0 | apply IsS156.set_1 | apply IsS156.set_2 | refine IsS156.far ?_ (by exact NB286_281.out) _) | exact HI286.out)) (by (with_reducible repeat (first | apply Kd.R_alloc | apply Kd.R_drewN | apply Kd.R_drew)); exact HO284.out) (by decide)) hk (fun _ h => h.2)) (fun _ h => h.1)); have n2_ := Aside0.mk (Kd.R_mono (Kd.R_keep (IsS156.apart (show IsS156 w _ gb286 t290 t291 t292 from by repeat (first | (with_reducible first | exact HI286.out | apply IsS156.alloc | apply IsS156.drewN | apply IsS156.drew | apply IsS156.set_0 | apply IsS156.set_1 | apply IsS156.set_2 | refine IsS156.far ?_ (by exact NB286_281.out) _) | exact HI286.out)) (by (with_reducible repeat (first | apply Kd.R_alloc | apply Kd.R_drewN | apply Kd.R_drew)); exact HO289.out) (by decide)) hk (fun _ h => h.2)) (fun _ h => h.1)); have n3_ := Aside0.mk (hb); have n4_ := Aside0.mk (hi); clear BK281; clear HO284; clear HO289; clear HB; clear HI286; have BK281 := n0_; have HO284 := n1_; have HO289 := n2_; have HB := n3_; have HI286 := n4_; clear n0_ n1_ n2_ n3_ n4_; (try clear hb); (try clear hb2); (try clear hk); (try clear hi); have hnb29 := NB281_286.out; have hnc29 := NB286_281.out; have hcz30_0 : w28.cell? ⟨gb281, 0, none⟩ = some (.slice none 0 0) := (blk_cell BK281.out 0).trans rfl; have hcz30_1 : w28.cell? ⟨gb281, 1, none⟩ = some (.int .i64 0) := (blk_cell BK281.out 1).trans rfl; have hfz30_0 := blk_frozen BK281.out 0; have hfz30_1 := blk_frozen BK281.out 1))
   refine bodyPost_ret (results_cell_row rfl _ _ gb281 40 #[.slice none 0 0, .int .i64 3] (0, 0) _ rfl (by (with_reducible repeat (first | refine blk_drewN ?_ _ | refine blk_drew ?_ | refine blk_alloc ?_ _)); refine blk_put (cs := #[.slice none 0 0, .int .i64 0]) ?_ 1 _ rfl; (with_reducible repeat (first | refine blk_drewN ?_ _ | refine blk_drew ?_ | refine blk_alloc ?_ _)); refine blk_put (cs := #[.slice none 0 0, .int .i64 0]) ?_ 0 _ rfl; (with_reducible repeat (first | refine blk_drewN ?_ _ | refine blk_drew ?_ | refine blk_alloc ?_ _)); exact BK281.out) Try.underlying40 rfl (by kernel_rfl)) rfl ?_
   exact ⟨_, by first | rfl | (simp [errW_none, errW_some] <;> rfl) | (simp [*, errW_none, errW_some] <;> rfl), by first | exact Kd.R_nil _ _ _ _ _ | exact Kd.N_nil _ _ _ _ _ | exact Kd.V_nil _ _ _ _ _ | exact Kd.Q_nil _ _ _ _ _ | exact Kd.S_nil _ _ _ _ _, by repeat (first | (with_reducible first | exact HB.out | apply below_alloc | apply pw_below_drewN | apply below_drew1 | refine below_set ?_ (IsS156.ge HI286.out) | refine below_set ?_ GE281.out) | exact HB.out)⟩

end Go.Proofs.Ytdjhclgkkklajaa.P

namespace Go.Proofs.Ytdjhclgkkklajaa.P
open Go.RowKit Go.Proofs.YtdjhclgkkklajaaW.PrintWords Go.Proofs.YtdjhclgkkklajaaW.PrintLast Go.Proofs.YtdjhclgkkklajaaW.PrintMore
attribute [local go_sem] max2_int min2_int max_two min_two max_three min_three max_four min_four   -- for this text's walks alone
set_option linter.unusedVariables false
set_option linter.unusedSimpArgs false

/-! ### laws_FnExactSeenRead: function 10 -/
def laws_FnExactSeenRead.f (k : Nat) (a0 : ByteArray) : Option (Bool) := if (a0.size : Int) > 1048576 then (some true) else ((spec_SeenRead.f k a0).bind fun bt297 => ((impl_SeenRead.f k a0).bind fun bt302 => ((laws_eqSeenOut.f k bt302.1 bt302.2 bt297.1 bt297.2).bind fun t307 => (if t307 = true then ((laws_markSeenOut.f k bt302.1 bt302.2 1).bind fun bt308 => ((laws_heldSeenOut.f k bt308.2 bt302.2 1).bind fun t310 => (if t310 < 0 then (none) else (if t310 = bt308.1 then ((impl_SeenRead.f k a0).bind fun bt311 => ((laws_eqSeenOut.f k bt311.1 bt311.2 bt297.1 bt297.2).bind fun t316 => (if t316 = true then ((laws_heldSeenOut.f k bt308.2 bt302.2 1).bind fun t317 => (if t317 < 0 then (none) else (if t317 = bt308.1 then (some true) else (none)))) else (none)))) else (none))))) else (none)))))
theorem laws_FnExactSeenRead.mono : ∀ a0 k, LeO (laws_FnExactSeenRead.f k a0) (laws_FnExactSeenRead.f (k + 1) a0) := by
 intro a0 k
 unfold laws_FnExactSeenRead.f
 repeat' first
   | (with_reducible exact impl_SeenRead.mono _ _)
   | (with_reducible exact laws_eqSeenOut.mono _ _ _ _ _)
   | (with_reducible exact laws_heldSeenOut.mono _ _ _ _)
   | (with_reducible exact laws_markSeenOut.mono _ _ _ _)
   | (with_reducible exact spec_SeenRead.mono _ _)
   | (with_reducible exact LeO.refl _)
   | (with_reducible exact LeO.none _)
   | (with_reducible refine LeO.ite ?_ ?_)
   | (with_reducible refine LeO.bind ?_ (fun _ => ?_))
   | exact impl_SeenRead.mono _ _
   | exact laws_eqSeenOut.mono _ _ _ _ _
   | exact laws_heldSeenOut.mono _ _ _ _
   | exact laws_markSeenOut.mono _ _ _ _
   | exact spec_SeenRead.mono _ _
   | exact LeO.none _
   | refine LeO.ite ?_ ?_
   | refine LeO.bind ?_ (fun _ => ?_)
set_option maxHeartbeats 8000000 in
set_option maxRecDepth 100000 in
theorem laws_FnExactSeenRead.calls (k : Nat) (a0 : ByteArray) (r : Bool) (w : World) (h : laws_FnExactSeenRead.f k a0 = some r) :
  Calls Try.prog 10 #[.string a0] w fun e w' => e = .returned (.bool r) ∧ Below w.heap.size w w' := by
 have hu40 := Try.underlying40
 have HB := Aside0.mk (Below.refl w.heap.size w)
 have H : (if (a0.size : Int) > 1048576 then (some true) else ((spec_SeenRead.f k a0).bind fun bt297 => ((impl_SeenRead.f k a0).bind fun bt302 => ((laws_eqSeenOut.f k bt302.1 bt302.2 bt297.1 bt297.2).bind fun t307 => (if t307 = true then ((laws_markSeenOut.f k bt302.1 bt302.2 1).bind fun bt308 => ((laws_heldSeenOut.f k bt308.2 bt302.2 1).bind fun t310 => (if t310 < 0 then (none) else (if t310 = bt308.1 then ((impl_SeenRead.f k a0).bind fun bt311 => ((laws_eqSeenOut.f k bt311.1 bt311.2 bt297.1 bt297.2).bind fun t316 => (if t316 = true then ((laws_heldSeenOut.f k bt308.2 bt302.2 1).bind fun t317 => (if t317 < 0 then (none) else (if t317 = bt308.1 then (some true) else (none)))) else (none)))) else (none))))) else (none)))))) = some r := h
 clear h
 by_cases c2 : (a0.size : Int) > 1048576
 ·rw [if_pos c2] at H
  have c2b0 : decide (1048576 < (a0.size : Int)) = true := decide_eq_true c2
  have c2b1 : decide (1048576 < a0.size) = true := decide_eq_true (by omega)
  clear c2
  obtain rfl := Option.some.inj H
  go_enter Try.func10, Try.ntmps10
  go_wp2
  go_ret
  exact ⟨by first | rfl | (simp [errW_none, errW_some] <;> rfl) | (simp [*, errW_none, errW_some] <;> rfl), by repeat (first | (with_reducible first | exact HB.out | apply below_alloc | apply pw_below_drewN | apply below_drew1) | exact HB.out)⟩
 ·rw [if_neg c2] at H
  have c2b0 : decide (1048576 < (a0.size : Int)) = false := decide_eq_false c2
  have c2b1 : decide (1048576 < a0.size) = false := decide_eq_false (by omega)
  clear c2
  replace H := Option.bind_eq_some_iff.mp H
  obtain ⟨⟨t297, t300⟩, A30, H⟩ := H
  replace H : ((impl_SeenRead.f k a0).bind fun bt302 => ((laws_eqSeenOut.f k bt302.1 bt302.2 t297 t300).bind fun t307 => (if t307 = true then ((laws_markSeenOut.f k bt302.1 bt302.2 1).bind fun bt308 => ((laws_heldSeenOut.f k bt308.2 bt302.2 1).bind fun t310 => (if t310 < 0 then (none) else (if t310 = bt308.1 then ((impl_SeenRead.f k a0).bind fun bt311 => ((laws_eqSeenOut.f k bt311.1 bt311.2 t297 t300).bind fun t316 => (if t316 = true then ((laws_heldSeenOut.f k bt308.2 bt302.2 1).bind fun t317 => (if t317 < 0 then (none) else (if t317 = bt308.1 then (some true) else (none)))) else (none)))) else (none))))) else (none)))) = some r := H
  have A3 := Aside0.mk A30
  clear A30
  replace H := Option.bind_eq_some_iff.mp H
  obtain ⟨⟨t302, t305⟩, A40, H⟩ := H
  replace H : ((laws_eqSeenOut.f k t302 t305 t297 t300).bind fun t307 => (if t307 = true then ((laws_markSeenOut.f k t302 t305 1).bind fun bt308 => ((laws_heldSeenOut.f k bt308.2 t305 1).bind fun t310 => (if t310 < 0 then (none) else (if t310 = bt308.1 then ((impl_SeenRead.f k a0).bind fun bt311 => ((laws_eqSeenOut.f k bt311.1 bt311.2 t297 t300).bind fun t316 => (if t316 = true then ((laws_heldSeenOut.f k bt308.2 t305 1).bind fun t317 => (if t317 < 0 then (none) else (if t317 = bt308.1 then (some true) else (none)))) else (none)))) else (none))))) else (none))) = some r := H
  have A4 := Aside0.mk A40
  clear A40
  replace H := Option.bind_eq_some_iff.mp H
  obtain ⟨t307, A50, H⟩ := H
  replace H : (if t307 = true then ((laws_markSeenOut.f k t302 t305 1).bind fun bt308 => ((laws_heldSeenOut.f k bt308.2 t305 1).bind fun t310 => (if t310 < 0 then (none) else (if t310 = bt308.1 then ((impl_SeenRead.f k a0).bind fun bt311 => ((laws_eqSeenOut.f k bt311.1 bt311.2 t297 t300).bind fun t316 => (if t316 = true then ((laws_heldSeenOut.f k bt308.2 t305 1).bind fun t317 => (if t317 < 0 then (none) else (if t317 = bt308.1 then (some true) else (none)))) else (none)))) else (none))))) else (none)) = some r := H
  have A5 := Aside0.mk A50
  clear A50
  by_cases c6 : t307 = true
  ·subst c6
   have H1 : ((laws_markSeenOut.f k t302 t305 1).bind fun bt308 => ((laws_heldSeenOut.f k bt308.2 t305 1).bind fun t310 => (if t310 < 0 then (none) else (if t310 = bt308.1 then ((impl_SeenRead.f k a0).bind fun bt311 => ((laws_eqSeenOut.f k bt311.1 bt311.2 t297 t300).bind fun t316 => (if t316 = true then ((laws_heldSeenOut.f k bt308.2 t305 1).bind fun t317 => (if t317 < 0 then (none) else (if t317 = bt308.1 then (some true) else (none)))) else (none)))) else (none))))) = some r := by rw [if_pos rfl] at H; exact H
   clear H
   have H := H1
   clear H1
   replace H := Option.bind_eq_some_iff.mp H
   obtain ⟨⟨t308, t309⟩, A70, H⟩ := H
   replace H : ((laws_heldSeenOut.f k t309 t305 1).bind fun t310 => (if t310 < 0 then (none) else (if t310 = t308 then ((impl_SeenRead.f k a0).bind fun bt311 => ((laws_eqSeenOut.f k bt311.1 bt311.2 t297 t300).bind fun t316 => (if t316 = true then ((laws_heldSeenOut.f k t309 t305 1).bind fun t317 => (if t317 < 0 then (none) else (if t317 = t308 then (some true) else (none)))) else (none)))) else (none)))) = some r := H
   have A7 := Aside0.mk A70
   clear A70
   replace H := Option.bind_eq_some_iff.mp H
   obtain ⟨t310, A80, H⟩ := H
   replace H : (if t310 < 0 then (none) else (if t310 = t308 then ((impl_SeenRead.f k a0).bind fun bt311 => ((laws_eqSeenOut.f k bt311.1 bt311.2 t297 t300).bind fun t316 => (if t316 = true then ((laws_heldSeenOut.f k t309 t305 1).bind fun t317 => (if t317 < 0 then (none) else (if t317 = t308 then (some true) else (none)))) else (none)))) else (none))) = some r := H
   have A8 := Aside0.mk A80
   clear A80
   by_cases c9 : t310 < 0
   ·rw [if_pos c9] at H
    exact absurd H (by simp)
   ·rw [if_neg c9] at H
    have c9b0 : decide (t310 < 0) = false := decide_eq_false c9
    clear c9
    by_cases c10 : t310 = t308
    ·rw [if_pos c10] at H
     have c10b0 : (t310 == t308) = true := beq_iff_eq.mpr c10
     have c10b1 : (t310 != t308) = false := bne_eq_false_iff_eq.mpr c10
     clear c10
     replace H := Option.bind_eq_some_iff.mp H
     obtain ⟨⟨t311, t314⟩, A110, H⟩ := H
     replace H : ((laws_eqSeenOut.f k t311 t314 t297 t300).bind fun t316 => (if t316 = true then ((laws_heldSeenOut.f k t309 t305 1).bind fun t317 => (if t317 < 0 then (none) else (if t317 = t308 then (some true) else (none)))) else (none))) = some r := H
     have A11 := Aside0.mk A110
     clear A110
     replace H := Option.bind_eq_some_iff.mp H
     obtain ⟨t316, A120, H⟩ := H
     replace H : (if t316 = true then ((laws_heldSeenOut.f k t309 t305 1).bind fun t317 => (if t317 < 0 then (none) else (if t317 = t308 then (some true) else (none)))) else (none)) = some r := H
     have A12 := Aside0.mk A120
     clear A120
     by_cases c13 : t316 = true
     ·subst c13
      have H1 : ((laws_heldSeenOut.f k t309 t305 1).bind fun t317 => (if t317 < 0 then (none) else (if t317 = t308 then (some true) else (none)))) = some r := by rw [if_pos rfl] at H; exact H
      clear H
      have H := H1
      clear H1
      replace H := Option.bind_eq_some_iff.mp H
      obtain ⟨t317, A140, H⟩ := H
      replace H : (if t317 < 0 then (none) else (if t317 = t308 then (some true) else (none))) = some r := H
      have A14 := Aside0.mk A140
      clear A140
      by_cases c15 : t317 < 0
      ·rw [if_pos c15] at H
       exact absurd H (by simp)
      ·rw [if_neg c15] at H
       have c15b0 : decide (t317 < 0) = false := decide_eq_false c15
       clear c15
       by_cases c16 : t317 = t308
       ·rw [if_pos c16] at H
        have c16b0 : (t317 == t308) = true := beq_iff_eq.mpr c16
        have c16b1 : (t317 != t308) = false := bne_eq_false_iff_eq.mpr c16
        clear c16
        obtain rfl := Option.some.inj H
        go_enter Try.func10, Try.ntmps10
        go_wp2_with (first | ((with_reducible refine gate_callee (f := 54) rfl ?_); refine goesL_ (some 12) rfl rfl Try.func54 (by kernel_rfl) rfl #[.string a0] rfl (by (try simp only [List.map_toArray, List.map_cons, List.map_nil]); first | done | rfl | (simp only [List.length_drop, List.length_take]; rfl)) ?_; (with_reducible refine (spec_SeenRead.calls k a0 t297 t300 _ A3.out).mono ?_); rintro e w17 ⟨v298, rfl, ho0, hb⟩; refine ⟨_, rfl, ?_⟩; have n0_ := Aside0.mk (Kd.R_lower ho0 (below_size (by repeat (first | (with_reducible first | exact HB.out | apply below_alloc | apply pw_below_drewN | apply below_drew1) | exact HB.out)))); have n1_ := Aside0.mk (below_step (by repeat (first | (with_reducible first | exact HB.out | apply below_alloc | apply pw_below_drewN | apply below_drew1) | exact HB.out)) hb); clear HB; have HO299 := n0_; have HB := n1_; clear n0_ n1_; (try clear hb); (try clear hb2); (try clear hk); (try clear hi); (try clear ho0)) | ((with_reducible refine gate_dst (N := 3) rfl ?_); refine box_event ?hg (N := 3) ?hd (cs := #[.slice none 0 0, .int .i64 0]) (t := 40) ?hr ?_; (case hd => rfl); (case hg => rfl); (case hr => first | (go_simp; done) | (go_simp; rfl)); intro gb301 hg w18 hbox hb; have n0_ := Aside0.mk (Kd.R_below (by (with_reducible repeat (first | apply Kd.R_alloc | apply Kd.R_drewN | apply Kd.R_drew)); exact HO299.out) hb); have n1_ := Aside0.mk (below_step (by repeat (first | (with_reducible first | exact HB.out | apply below_alloc | apply pw_below_drewN | apply below_drew1) | exact HB.out)) hb); have n2_ := Aside0.mk (hbox); have n3_ := Aside0.mk ((by rw [hg]; exact (below_size (by repeat (first | (with_reducible first | exact HB.out | apply below_alloc | apply pw_below_drewN | apply below_drew1) | exact HB.out))) : w.heap.size ≤ gb301)); have n4_ := Aside0.mk ((by rw [hg]; exact (below_size (by repeat (first | (with_reducible first | exact HB.out | apply below_alloc | apply pw_below_drewN | apply below_drew1) | exact HB.out))) : w.heap.size ≤ gb301)); clear HO299; clear HB; have HO299 := n0_; have HB := n1_; have BK301 := n2_; have GW301 := n3_; have GE301 := n4_; clear n0_ n1_ n2_ n3_ n4_; clear hb hbox hg; obtain ⟨Ao19, co19, eo19⟩ := Kd.R_slice HO299.out; subst eo19; have hcz20_0 : w18.cell? ⟨gb301, 0, none⟩ = some (.slice none 0 0) := (blk_cell BK301.out 0).trans rfl; have hcz20_1 : w18.cell? ⟨gb301, 1, none⟩ = some (.int .i64 0) := (blk_cell BK301.out 1).trans rfl; have hfz20_0 := blk_frozen BK301.out 0; have hfz20_1 := blk_frozen BK301.out 1) | ((with_reducible refine gate_callee (f := 55) rfl ?_); refine goesL_ (some 14) rfl rfl Try.func55 (by kernel_rfl) rfl #[.string a0] rfl (by (try simp only [List.map_toArray, List.map_cons, List.map_nil]); first | done | rfl | (simp only [List.length_drop, List.length_take]; rfl)) ?_; (with_reducible refine (impl_SeenRead.calls k a0 t302 t305 _ A4.out).mono ?_); rintro e w21 ⟨v303, rfl, ho0, hb⟩; refine ⟨_, rfl, ?_⟩; have n0_ := Aside0.mk (Kd.R_elder' (by (with_reducible repeat (first | apply Kd.R_alloc | apply Kd.R_drewN | apply Kd.R_drew)); exact (Kd.R_mono (Kd.R_far (p := ⟨gb301, 1, none⟩) (Kd.R_far (p := ⟨gb301, 0, none⟩) (Kd.R_types HO299.out BK301.out (by decide)) (fun _ hk => hk.2) (.slice Ao19 t297.length co19)) (fun _ hk => hk.2) (.int .i64 t300)) (fun _ h_ => h_.1))) (Kd.R_base ho0) hb); have n1_ := Aside0.mk (Kd.R_lower (Kd.R_new' ho0 (Kd.R_lt (by (with_reducible repeat (first | apply Kd.R_alloc | apply Kd.R_drewN | apply Kd.R_drew)); exact (Kd.R_mono (Kd.R_far (p := ⟨gb301, 1, none⟩) (Kd.R_far (p := ⟨gb301, 0, none⟩) (Kd.R_types HO299.out BK301.out (by decide)) (fun _ hk => hk.2) (.slice Ao19 t297.length co19)) (fun _ hk => hk.2) (.int .i64 t300)) (fun _ h_ => h_.1))))) (below_size (by repeat (first | (with_reducible first | exact HB.out | apply below_alloc | apply pw_below_drewN | apply below_drew1 | refine below_set ?_ GE301.out) | exact HB.out)))); have n2_ := Aside0.mk (blk_below (g := gb301) (o := .cells #[.slice Ao19 t297.length co19, .int .i64 t300] 40 (0, 0)) (by (with_reducible repeat (first | refine blk_drewN ?_ _ | refine blk_drew ?_ | refine blk_alloc ?_ _)); refine blk_put (cs := #[.slice Ao19 t297.length co19, .int .i64 0]) ?_ 1 _ rfl; (with_reducible repeat (first | refine blk_drewN ?_ _ | refine blk_drew ?_ | refine blk_alloc ?_ _)); refine blk_put (cs := #[.slice none 0 0, .int .i64 0]) ?_ 0 _ rfl; (with_reducible repeat (first | refine blk_drewN ?_ _ | refine blk_drew ?_ | refine blk_alloc ?_ _)); exact BK301.out) hb); have n3_ := Aside0.mk (below_step (by repeat (first | (with_reducible first | exact HB.out | apply below_alloc | apply pw_below_drewN | apply below_drew1 | refine below_set ?_ GE301.out) | exact HB.out)) hb); clear HO299; clear BK301; clear HB; have HO299 := n0_; have HO304 := n1_; have BK301 := n2_; have HB := n3_; clear n0_ n1_ n2_ n3_; (try clear hb); (try clear hb2); (try clear hk); (try clear hi); (try clear ho0)) | ((with_reducible refine gate_dst (N := 4) rfl ?_); refine box_event ?hg (N := 4) ?hd (cs := #[.slice none 0 0, .int .i64 0]) (t := 40) ?hr ?_; (case hd => rfl); (case hg => rfl); (case hr => first | (go_simp; done) | (go_simp; rfl)); intro gb306 hg w22 hbox hb; have n0_ := Aside0.mk (Kd.R_below (by (with_reducible repeat (first | apply Kd.R_alloc | apply Kd.R_drewN | apply Kd.R_drew)); exact HO299.out) hb); have n1_ := Aside0.mk (Kd.R_below (by (with_reducible repeat (first | apply Kd.R_alloc | apply Kd.R_drewN | apply Kd.R_drew)); exact HO304.out) hb); have n2_ := Aside0.mk (blk_below (g := gb301) (o := .cells #[.slice Ao19 t297.length co19, .int .i64 t300] 40 (0, 0)) (by (with_reducible repeat (first | refine blk_drewN ?_ _ | refine blk_drew ?_ | refine blk_alloc ?_ _)); exact BK301.out) hb); have n3_ := Aside0.mk (below_step (by repeat (first | (with_reducible first | exact HB.out | apply below_alloc | apply pw_below_drewN | apply below_drew1 | refine below_set ?_ GE301.out) | exact HB.out)) hb); have n4_ := Aside0.mk (hbox); have n5_ := Aside0.mk ((by rw [hg]; exact (below_size (by repeat (first | (with_reducible first | exact HB.out | apply below_alloc | apply pw_below_drewN | apply below_drew1 | refine below_set ?_ GE301.out) | exact HB.out))) : w.heap.size ≤ gb306)); have n6_ := Aside0.mk ((by rw [hg]; exact (below_size (by repeat (first | (with_reducible first | exact HB.out | apply below_alloc | apply pw_below_drewN | apply below_drew1 | refine below_set ?_ GE301.out) | exact HB.out))) : w.heap.size ≤ gb306)); have n7_ := Aside0.mk ((by rw [hg]; exact Nat.ne_of_lt (blk_lt (g := gb301) (o := .cells #[.slice Ao19 t297.length co19, .int .i64 t300] 40 (0, 0)) (by (with_reducible repeat (first | refine blk_drewN ?_ _ | refine blk_drew ?_ | refine blk_alloc ?_ _)); exact BK301.out)) : gb301 ≠ gb306)); have n8_ := Aside0.mk ((by rw [hg]; exact Nat.ne_of_gt (blk_lt (g := gb301) (o := .cells #[.slice Ao19 t297.length co19, .int .i64 t300] 40 (0, 0)) (by (with_reducible repeat (first | refine blk_drewN ?_ _ | refine blk_drew ?_ | refine blk_alloc ?_ _)); exact BK301.out)) : gb306 ≠ gb301)); clear HO299; clear HO304; clear BK301; clear HB; have HO299 := n0_; have HO304 := n1_; have BK301 := n2_; have HB := n3_; have BK306 := n4_; have GW306 := n5_; have GE306 := n6_; have NB301_306 := n7_; have NB306_301 := n8_; clear n0_ n1_ n2_ n3_ n4_ n5_ n6_ n7_ n8_; clear hb hbox hg; obtain ⟨Ao23, co23, eo23⟩ := Kd.R_slice HO304.out; subst eo23; have hnb24 := NB306_301.out; have hnc24 := NB301_306.out; have hcz25_0 : w22.cell? ⟨gb306, 0, none⟩ = some (.slice none 0 0) := (blk_cell BK306.out 0).trans rfl; have hcz25_1 : w22.cell? ⟨gb306, 1, none⟩ = some (.int .i64 0) := (blk_cell BK306.out 1).trans rfl; have hfz25_0 := blk_frozen BK306.out 0; have hfz25_1 := blk_frozen BK306.out 1; have hcz26_0 : w22.cell? ⟨gb301, 0, none⟩ = some (.slice Ao19 t297.length co19) := (blk_cell BK301.out 0).trans rfl; have hcz26_1 : w22.cell? ⟨gb301, 1, none⟩ = some (.int .i64 t300) := (blk_cell BK301.out 1).trans rfl; have hfz26_0 := blk_frozen BK301.out 0; have hfz26_1 := blk_frozen BK301.out 1) | ((with_reducible refine gate_callee (f := 28) rfl ?_); refine goesL_ (some 17) rfl rfl Try.func28 (by kernel_rfl) rfl #[.agg #[.slice Ao23 t302.length co23, .int .i64 t305], .agg #[.slice Ao19 t297.length co19, .int .i64 t300]] rfl (by (try simp only [List.map_toArray, List.map_cons, List.map_nil]); first | done | rfl | (simp only [List.length_drop, List.length_take]; rfl)) ?_; (with_reducible refine (laws_eqSeenOut.calls k _ _ t302 t305 _ _ t297 t300 true _ ?side1 ?side2 ?side3 ?side4 A5.out).mono ?_); (case side1 => refine (Kd.R_reads' (e := 43) (base := w.heap.size) (ok := fun k_ => (True ∧ some k_ ≠ (.slice Ao19 t297.length co19 : Value).ownBlock)) (n := t302.length) (c := co23) ?_).2.2; exact (by (with_reducible repeat (first | apply Kd.R_alloc | apply Kd.R_drewN | apply Kd.R_drew)); exact (Kd.R_mono (Kd.R_far (p := ⟨gb306, 1, none⟩) (Kd.R_far (p := ⟨gb306, 0, none⟩) (Kd.R_types HO304.out BK306.out (by decide)) (fun _ hk => hk.2) (.slice Ao23 t302.length co23)) (fun _ hk => hk.2) (.int .i64 t305)) (fun _ h_ => h_.1)))); (case side2 => exact (Kd.R_reads' HO304.out).2.1); (case side3 => refine (Kd.R_reads' (e := 43) (base := w.heap.size) (ok := fun k_ => (True ∧ some k_ ≠ (.slice Ao23 t302.length co23 : Value).ownBlock)) (n := t297.length) (c := co19) ?_).2.2; exact (by (with_reducible repeat (first | apply Kd.R_alloc | apply Kd.R_drewN | apply Kd.R_drew)); exact (Kd.R_mono (Kd.R_far (p := ⟨gb306, 1, none⟩) (Kd.R_far (p := ⟨gb306, 0, none⟩) (Kd.R_types HO299.out BK306.out (by decide)) (fun _ hk => hk.2) (.slice Ao23 t302.length co23)) (fun _ hk => hk.2) (.int .i64 t305)) (fun _ h_ => h_.1)))); (case side4 => exact (Kd.R_reads' HO299.out).2.1); rintro e w27 ⟨rfl, hb⟩; refine ⟨_, rfl, ?_⟩; have n0_ := Aside0.mk (Kd.R_below (by (with_reducible repeat (first | apply Kd.R_alloc | apply Kd.R_drewN | apply Kd.R_drew)); exact (Kd.R_mono (Kd.R_far (p := ⟨gb306, 1, none⟩) (Kd.R_far (p := ⟨gb306, 0, none⟩) (Kd.R_types HO299.out BK306.out (by decide)) (fun _ hk => hk.2) (.slice Ao23 t302.length co23)) (fun _ hk => hk.2) (.int .i64 t305)) (fun _ h_ => h_.1))) hb); have n1_ := Aside0.mk (Kd.R_below (by (with_reducible repeat (first | apply Kd.R_alloc | apply Kd.R_drewN | apply Kd.R_drew)); exact (Kd.R_mono (Kd.R_far (p := ⟨gb306, 1, none⟩) (Kd.R_far (p := ⟨gb306, 0, none⟩) (Kd.R_types HO304.out BK306.out (by decide)) (fun _ hk => hk.2) (.slice Ao23 t302.length co23)) (fun _ hk => hk.2) (.int .i64 t305)) (fun _ h_ => h_.1))) hb); have n2_ := Aside0.mk (blk_below (g := gb301) (o := .cells #[.slice Ao19 t297.length co19, .int .i64 t300] 40 (0, 0)) (by (with_reducible repeat (first | refine blk_drewN ?_ _ | refine blk_drew ?_ | refine blk_alloc ?_ _)); refine blk_far ?_ NB301_306.out _; (with_reducible repeat (first | refine blk_drewN ?_ _ | refine blk_drew ?_ | refine blk_alloc ?_ _)); refine blk_far ?_ NB301_306.out _; (with_reducible repeat (first | refine blk_drewN ?_ _ | refine blk_drew ?_ | refine blk_alloc ?_ _)); exact BK301.out) hb); have n3_ := Aside0.mk (blk_below (g := gb306) (o := .cells #[.slice Ao23 t302.length co23, .int .i64 t305] 40 (0, 0)) (by (with_reducible repeat (first | refine blk_drewN ?_ _ | refine blk_drew ?_ | refine blk_alloc ?_ _)); refine blk_put (cs := #[.slice Ao23 t302.length co23, .int .i64 0]) ?_ 1 _ rfl; (with_reducible repeat (first | refine blk_drewN ?_ _ | refine blk_drew ?_ | refine blk_alloc ?_ _)); refine blk_put (cs := #[.slice none 0 0, .int .i64 0]) ?_ 0 _ rfl; (with_reducible repeat (first | refine blk_drewN ?_ _ | refine blk_drew ?_ | refine blk_alloc ?_ _)); exact BK306.out) hb); have n4_ := Aside0.mk (below_step (by repeat (first | (with_reducible first | exact HB.out | apply below_alloc | apply pw_below_drewN | apply below_drew1 | refine below_set ?_ GE301.out | refine below_set ?_ GE306.out) | exact HB.out)) hb); clear HO299; clear HO304; clear BK301; clear BK306; clear HB; have HO299 := n0_; have HO304 := n1_; have BK301 := n2_; have BK306 := n3_; have HB := n4_; clear n0_ n1_ n2_ n3_ n4_; (try clear hb); (try clear hb2); (try clear hk); (try clear hi); have hcz28_0 : w27.cell? ⟨gb306, 0, none⟩ = some (.slice Ao23 t302.length co23) := (blk_cell BK306.out 0).trans rfl; have hcz28_1 : w27.cell? ⟨gb306, 1, none⟩ = some (.int .i64 t305) := (blk_cell BK306.out 1).trans rfl; have hfz28_0 := blk_frozen BK306.out 0; have hfz28_1 := blk_frozen BK306.out 1) | ((with_reducible refine gate_callee (f := 31) rfl ?_); refine goesL_ (some 21) rfl rfl Try.func31 (by kernel_rfl) rfl #[.agg #[.slice Ao23 t302.length co23, .int .i64 t305], .int .i64 1] rfl (by (try simp only [List.map_toArray, List.map_cons, List.map_nil]); first | done | rfl | (simp only [List.length_drop, List.length_take]; rfl)) ?_; (with_reducible refine (laws_markSeenOut.calls k (fun k_ => some k_ = (.slice Ao23 t302.length co23 : Value).ownBlock) (.slice Ao23 t302.length co23) t302 t305 1 t308 t309 w _ ?side1 ?side2 A7.out).mono ?_); (case side1 => repeat (first | (with_reducible first | exact HB.out | apply below_alloc | apply pw_below_drewN | apply below_drew1 | refine below_set ?_ GE301.out | refine below_set ?_ GE306.out) | exact HB.out)); (case side2 => exact Kd.R_tight rfl HO304.out); rintro e w29 ⟨rfl, hy0, hb, hkp⟩; refine ⟨_, rfl, ?_⟩; have n0_ := Aside0.mk (Kd.R_mono (ok' := fun k_ => some k_ ≠ (.slice Ao23 t302.length co23 : Value).ownBlock) (Kd.R_keptB (HO299.out) hkp (fun k_ hk_ hs_ => (hk_.2) hs_)) (fun k_ hk_ => hk_.1.2)); have n1_ := Aside0.mk (blk_kept (by (with_reducible repeat (first | refine blk_drewN ?_ _ | refine blk_drew ?_ | refine blk_alloc ?_ _)); exact BK301.out) hkp (fun hs_ => (fun e_ => (Kd.R_ne HO304.out BK301.out (by decide)) e_) hs_)); have n2_ := Aside0.mk (Kd.R_reok rfl hy0 (fun k_ e_ => HO304.out.1 k_ e_)); have n3_ := Aside0.mk (blk_kept (by (with_reducible repeat (first | refine blk_drewN ?_ _ | refine blk_drew ?_ | refine blk_alloc ?_ _)); exact BK306.out) hkp (fun hs_ => (fun e_ => (Kd.R_ne HO304.out BK306.out (by decide)) e_) hs_)); have n4_ := Aside0.mk (hb); clear HO299; clear BK301; clear HO304; clear BK306; clear HB; have HO299 := n0_; have BK301 := n1_; have HO304 := n2_; have BK306 := n3_; have HB := n4_; clear n0_ n1_ n2_ n3_ n4_; (try clear hb); (try clear hkp); (try clear hy0); have hcz30_0 : w29.cell? ⟨gb306, 0, none⟩ = some (.slice Ao23 t302.length co23) := (blk_cell BK306.out 0).trans rfl; have hcz30_1 : w29.cell? ⟨gb306, 1, none⟩ = some (.int .i64 t305) := (blk_cell BK306.out 1).trans rfl; have hfz30_0 := blk_frozen BK306.out 0; have hfz30_1 := blk_frozen BK306.out 1) | ((with_reducible refine gate_callee (f := 32) rfl ?_); refine goesL_ (some 24) rfl rfl Try.func32 (by kernel_rfl) rfl #[.agg #[.slice Ao23 t309.length co23, .int .i64 t305], .int .i64 1] rfl (by (try simp only [List.map_toArray, List.map_cons, List.map_nil]); first | done | (rw [show t309.length = t302.length from (Kd.R_reads' HO304.out).1.symm] <;> rfl) | rfl | (simp only [List.length_drop, List.length_take]; rfl)) ?_; (with_reducible refine (laws_heldSeenOut.calls k _ _ t309 t305 1 t310 _ ?side1 ?side2 A8.out).mono ?_); (case side1 => repeat (first | exact (Kd.R_reads' HO304.out).2.2 | (with_reducible refine Kd.C_alloc ?_ _) | (with_reducible refine Kd.C_drewN ?_ _) | (with_reducible refine Kd.C_drew ?_))); (case side2 => rw [show t309.length = t302.length from (Kd.R_reads' HO304.out).1.symm]; exact (Kd.R_reads' HO304.out).2.1); rintro e w31 ⟨rfl, hb⟩; refine ⟨_, rfl, ?_⟩; have n0_ := Aside0.mk (Kd.R_below (by (with_reducible repeat (first | apply Kd.R_alloc | apply Kd.R_drewN | apply Kd.R_drew)); exact HO299.out) hb); have n1_ := Aside0.mk (Kd.R_below (by (with_reducible repeat (first | apply Kd.R_alloc | apply Kd.R_drewN | apply Kd.R_drew)); exact HO304.out) hb); have n2_ := Aside0.mk (blk_below (g := gb301) (o := .cells #[.slice Ao19 t297.length co19, .int .i64 t300] 40 (0, 0)) (by (with_reducible repeat (first | refine blk_drewN ?_ _ | refine blk_drew ?_ | refine blk_alloc ?_ _)); exact BK301.out) hb); have n3_ := Aside0.mk (blk_below (g := gb306) (o := .cells #[.slice Ao23 t302.length co23, .int .i64 t305] 40 (0, 0)) (by (with_reducible repeat (first | refine blk_drewN ?_ _ | refine blk_drew ?_ | refine blk_alloc ?_ _)); exact BK306.out) hb); have n4_ := Aside0.mk (below_step (by repeat (first | (with_reducible first | exact HB.out | apply below_alloc | apply pw_below_drewN | apply below_drew1 | refine below_set ?_ GE301.out | refine below_set ?_ GE306.out) | exact HB.out)) hb); clear HO299; clear HO304; clear BK301; clear BK306; clear HB; have HO299 := n0_; have HO304 := n1_; have BK301 := n2_; have BK306 := n3_; have HB := n4_; clear n0_ n1_ n2_ n3_ n4_; (try clear hb); (try clear hb2); (try clear hk); (try clear hi)) | ((with_reducible refine gate_callee (f := 55) rfl ?_); refine goesL_ (some 31) rfl rfl Try.func55 (by kernel_rfl) rfl #[.string a0] rfl (by (try simp only [List.map_toArray, List.map_cons, List.map_nil]); first | done | rfl | (simp only [List.length_drop, List.length_take]; rfl)) ?_; (with_reducible refine (impl_SeenRead.calls k a0 t311 t314 _ A11.out).mono ?_); rintro e w32 ⟨v312, rfl, ho0, hb⟩; refine ⟨_, rfl, ?_⟩; have n0_ := Aside0.mk (Kd.R_elder' (by (with_reducible repeat (first | apply Kd.R_alloc | apply Kd.R_drewN | apply Kd.R_drew)); exact HO299.out) (Kd.R_base ho0) hb); have n1_ := Aside0.mk (Kd.R_elder' (by (with_reducible repeat (first | apply Kd.R_alloc | apply Kd.R_drewN | apply Kd.R_drew)); exact HO304.out) (Kd.R_base ho0) hb); have n2_ := Aside0.mk (Kd.R_lower (Kd.R_new' (Kd.R_new' ho0 (Kd.R_lt (by (with_reducible repeat (first | apply Kd.R_alloc | apply Kd.R_drewN | apply Kd.R_drew)); exact HO299.out))) (Kd.R_lt (by (with_reducible repeat (first | apply Kd.R_alloc | apply Kd.R_drewN | apply Kd.R_drew)); exact HO304.out))) (below_size (by repeat (first | (with_reducible first | exact HB.out | apply below_alloc | apply pw_below_drewN | apply below_drew1 | refine below_set ?_ GE301.out | refine below_set ?_ GE306.out) | exact HB.out)))); have n3_ := Aside0.mk (blk_below (g := gb301) (o := .cells #[.slice Ao19 t297.length co19, .int .i64 t300] 40 (0, 0)) (by (with_reducible repeat (first | refine blk_drewN ?_ _ | refine blk_drew ?_ | refine blk_alloc ?_ _)); exact BK301.out) hb); have n4_ := Aside0.mk (blk_below (g := gb306) (o := .cells #[.slice Ao23 t302.length co23, .int .i64 t305] 40 (0, 0)) (by (with_reducible repeat (first | refine blk_drewN ?_ _ | refine blk_drew ?_ | refine blk_alloc ?_ _)); exact BK306.out) hb); have n5_ := Aside0.mk (below_step (by repeat (first | (with_reducible first | exact HB.out | apply below_alloc | apply pw_below_drewN | apply below_drew1 | refine below_set ?_ GE301.out | refine below_set ?_ GE306.out) | exact HB.out)) hb); clear HO299; clear HO304; clear BK301; clear BK306; clear HB; have HO299 := n0_; have HO304 := n1_; have HO313 := n2_; have BK301 := n3_; have BK306 := n4_; have HB := n5_; clear n0_ n1_ n2_ n3_ n4_ n5_; (try clear hb); (try clear hb2); (try clear hk); (try clear hi); (try clear ho0)) | ((with_reducible refine gate_dst (N := 7) rfl ?_); refine box_event ?hg (N := 7) ?hd (cs := #[.slice none 0 0, .int .i64 0]) (t := 40) ?hr ?_; (case hd => rfl); (case hg => rfl); (case hr => first | (go_simp; done) | (go_simp; rfl)); intro gb315 hg w33 hbox hb; have n0_ := Aside0.mk (Kd.R_below (by (with_reducible repeat (first | apply Kd.R_alloc | apply Kd.R_drewN | apply Kd.R_drew)); exact HO299.out) hb); have n1_ := Aside0.mk (Kd.R_below (by (with_reducible repeat (first | apply Kd.R_alloc | apply Kd.R_drewN | apply Kd.R_drew)); exact HO304.out) hb); have n2_ := Aside0.mk (Kd.R_below (by (with_reducible repeat (first | apply Kd.R_alloc | apply Kd.R_drewN | apply Kd.R_drew)); exact HO313.out) hb); have n3_ := Aside0.mk (blk_below (g := gb301) (o := .cells #[.slice Ao19 t297.length co19, .int .i64 t300] 40 (0, 0)) (by (with_reducible repeat (first | refine blk_drewN ?_ _ | refine blk_drew ?_ | refine blk_alloc ?_ _)); exact BK301.out) hb); have n4_ := Aside0.mk (blk_below (g := gb306) (o := .cells #[.slice Ao23 t302.length co23, .int .i64 t305] 40 (0, 0)) (by (with_reducible repeat (first | refine blk_drewN ?_ _ | refine blk_drew ?_ | refine blk_alloc ?_ _)); exact BK306.out) hb); have n5_ := Aside0.mk (below_step (by repeat (first | (with_reducible first | exact HB.out | apply below_alloc | apply pw_below_drewN | apply below_drew1 | refine below_set ?_ GE301.out | refine below_set ?_ GE306.out) | exact HB.out)) hb); have n6_ := Aside0.mk (hbox); have n7_ := Aside0.mk ((by rw [hg]; exact (below_size (by repeat (first | (with_reducible first | exact HB.out | apply below_alloc | apply pw_below_drewN | apply below_drew1 | refine below_set ?_ GE301.out | refine below_set ?_ GE306.out) | exact HB.out))) : w.heap.size ≤ gb315)); have n8_ := Aside0.mk ((by rw [hg]; exact (below_size (by repeat (first | (with_reducible first | exact HB.out | apply below_alloc | apply pw_below_drewN | apply below_drew1 | refine below_set ?_ GE301.out | refine below_set ?_ GE306.out) | exact HB.out))) : w.heap.size ≤ gb315)); have n9_ := Aside0.mk ((by rw [hg]; exact Nat.ne_of_lt (blk_lt (g := gb301) (o := .cells #[.slice Ao19 t297.length co19, .int .i64 t300] 40 (0, 0)) (by (with_reducible repeat (first | refine blk_drewN ?_ _ | refine blk_drew ?_ | refine blk_alloc ?_ _)); exact BK301.out)) : gb301 ≠ gb315)); have n10_ := Aside0.mk ((by rw [hg]; exact Nat.ne_of_gt (blk_lt (g := gb301) (o := .cells #[.slice Ao19 t297.length co19, .int .i64 t300] 40 (0, 0)) (by (with_reducible repeat (first | refine blk_drewN ?_ _ | refine blk_drew ?_ | refine blk_alloc ?_ _)); exact BK301.out)) : gb315 ≠ gb301)); have n11_ := Aside0.mk ((by rw [hg]; exact Nat.ne_of_lt (blk_lt (g := gb306) (o := .cells #[.slice Ao23 t302.length co23, .int .i64 t305] 40 (0, 0)) (by (with_reducible repeat (first | refine blk_drewN ?_ _ | refine blk_drew ?_ | refine blk_alloc ?_ _)); exact BK306.out)) : gb306 ≠ gb315)); have n12_ := Aside0.mk ((by rw [hg]; exact Nat.ne_of_gt (blk_lt (g := gb306) (o := .cells #[.slice Ao23 t302.length co23, .int .i64 t305] 40 (0, 0)) (by (with_reducible repeat (first | refine blk_drewN ?_ _ | refine blk_drew ?_ | refine blk_alloc ?_ _)); exact BK306.out)) : gb315 ≠ gb306)); clear HO299; clear HO304; clear HO313; clear BK301; clear BK306; clear HB; have HO299 := n0_; have HO304 := n1_; have HO313 := n2_; have BK301 := n3_; have BK306 := n4_; have HB := n5_; have BK315 := n6_; have GW315 := n7_; have GE315 := n8_; have NB301_315 := n9_; have NB315_301 := n10_; have NB306_315 := n11_; have NB315_306 := n12_; clear n0_ n1_ n2_ n3_ n4_ n5_ n6_ n7_ n8_ n9_ n10_ n11_ n12_; clear hb hbox hg; obtain ⟨Ao34, co34, eo34⟩ := Kd.R_slice HO313.out; subst eo34; have hnb35 := NB315_301.out; have hnc35 := NB301_315.out; have hnb36 := NB315_306.out; have hnc36 := NB306_315.out; have hcz37_0 : w33.cell? ⟨gb315, 0, none⟩ = some (.slice none 0 0) := (blk_cell BK315.out 0).trans rfl; have hcz37_1 : w33.cell? ⟨gb315, 1, none⟩ = some (.int .i64 0) := (blk_cell BK315.out 1).trans rfl; have hfz37_0 := blk_frozen BK315.out 0; have hfz37_1 := blk_frozen BK315.out 1; have hcz38_0 : w33.cell? ⟨gb301, 0, none⟩ = some (.slice Ao19 t297.length co19) := (blk_cell BK301.out 0).trans rfl; have hcz38_1 : w33.cell? ⟨gb301, 1, none⟩ = some (.int .i64 t300) := (blk_cell BK301.out 1).trans rfl; have hfz38_0 := blk_frozen BK301.out 0; have hfz38_1 := blk_frozen BK301.out 1) | ((with_reducible refine gate_callee (f := 28) rfl ?_); refine goesL_ (some 34) rfl rfl Try.func28 (by kernel_rfl) rfl #[.agg #[.slice Ao34 t311.length co34, .int .i64 t314], .agg #[.slice Ao19 t297.length co19, .int .i64 t300]] rfl (by (try simp only [List.map_toArray, List.map_cons, List.map_nil]); first | done | rfl | (simp only [List.length_drop, List.length_take]; rfl)) ?_; (with_reducible refine (laws_eqSeenOut.calls k _ _ t311 t314 _ _ t297 t300 true _ ?side1 ?side2 ?side3 ?side4 A12.out).mono ?_); (case side1 => refine (Kd.R_reads' (e := 43) (base := w.heap.size) (ok := fun k_ => ((True ∧ some k_ ≠ (.slice Ao19 t297.length co19 : Value).ownBlock) ∧ some k_ ≠ (.slice Ao23 t302.length co23 : Value).ownBlock)) (n := t311.length) (c := co34) ?_).2.2; exact (by (with_reducible repeat (first | apply Kd.R_alloc | apply Kd.R_drewN | apply Kd.R_drew)); exact (Kd.R_mono (Kd.R_far (p := ⟨gb315, 1, none⟩) (Kd.R_far (p := ⟨gb315, 0, none⟩) (Kd.R_types HO313.out BK315.out (by decide)) (fun _ hk => hk.2) (.slice Ao34 t311.length co34)) (fun _ hk => hk.2) (.int .i64 t314)) (fun _ h_ => h_.1)))); (case side2 => exact (Kd.R_reads' HO313.out).2.1); (case side3 => refine (Kd.R_reads' (e := 43) (base := w.heap.size) (ok := fun k_ => (some k_ ≠ (.slice Ao23 t302.length co23 : Value).ownBlock ∧ some k_ ≠ (.slice Ao34 t311.length co34 : Value).ownBlock)) (n := t297.length) (c := co19) ?_).2.2; exact (by (with_reducible repeat (first | apply Kd.R_alloc | apply Kd.R_drewN | apply Kd.R_drew)); exact (Kd.R_mono (Kd.R_far (p := ⟨gb315, 1, none⟩) (Kd.R_far (p := ⟨gb315, 0, none⟩) (Kd.R_types HO299.out BK315.out (by decide)) (fun _ hk => hk.2) (.slice Ao34 t311.length co34)) (fun _ hk => hk.2) (.int .i64 t314)) (fun _ h_ => h_.1)))); (case side4 => exact (Kd.R_reads' HO299.out).2.1); rintro e w39 ⟨rfl, hb⟩; refine ⟨_, rfl, ?_⟩; have n0_ := Aside0.mk (Kd.R_below (by (with_reducible repeat (first | apply Kd.R_alloc | apply Kd.R_drewN | apply Kd.R_drew)); exact (Kd.R_mono (Kd.R_far (p := ⟨gb315, 1, none⟩) (Kd.R_far (p := ⟨gb315, 0, none⟩) (Kd.R_types HO299.out BK315.out (by decide)) (fun _ hk => hk.2) (.slice Ao34 t311.length co34)) (fun _ hk => hk.2) (.int .i64 t314)) (fun _ h_ => h_.1))) hb); have n1_ := Aside0.mk (Kd.R_below (by (with_reducible repeat (first | apply Kd.R_alloc | apply Kd.R_drewN | apply Kd.R_drew)); exact (Kd.R_mono (Kd.R_far (p := ⟨gb315, 1, none⟩) (Kd.R_far (p := ⟨gb315, 0, none⟩) (Kd.R_types HO304.out BK315.out (by decide)) (fun _ hk => hk.2) (.slice Ao34 t311.length co34)) (fun _ hk => hk.2) (.int .i64 t314)) (fun _ h_ => h_.1))) hb); have n2_ := Aside0.mk (Kd.R_below (by (with_reducible repeat (first | apply Kd.R_alloc | apply Kd.R_drewN | apply Kd.R_drew)); exact (Kd.R_mono (Kd.R_far (p := ⟨gb315, 1, none⟩) (Kd.R_far (p := ⟨gb315, 0, none⟩) (Kd.R_types HO313.out BK315.out (by decide)) (fun _ hk => hk.2) (.slice Ao34 t311.length co34)) (fun _ hk => hk.2) (.int .i64 t314)) (fun _ h_ => h_.1))) hb); have n3_ := Aside0.mk (blk_below (g := gb301) (o := .cells #[.slice Ao19 t297.length co19, .int .i64 t300] 40 (0, 0)) (by (with_reducible repeat (first | refine blk_drewN ?_ _ | refine blk_drew ?_ | refine blk_alloc ?_ _)); refine blk_far ?_ NB301_315.out _; (with_reducible repeat (first | refine blk_drewN ?_ _ | refine blk_drew ?_ | refine blk_alloc ?_ _)); refine blk_far ?_ NB301_315.out _; (with_reducible repeat (first | refine blk_drewN ?_ _ | refine blk_drew ?_ | refine blk_alloc ?_ _)); exact BK301.out) hb); have n4_ := Aside0.mk (blk_below (g := gb306) (o := .cells #[.slice Ao23 t302.length co23, .int .i64 t305] 40 (0, 0)) (by (with_reducible repeat (first | refine blk_drewN ?_ _ | refine blk_drew ?_ | refine blk_alloc ?_ _)); refine blk_far ?_ NB306_315.out _; (with_reducible repeat (first | refine blk_drewN ?_ _ | refine blk_drew ?_ | refine blk_alloc ?_ _)); refine blk_far ?_ NB306_315.out _; (with_reducible repeat (first | refine blk_drewN ?_ _ | refine blk_drew ?_ | refine blk_alloc ?_ _)); exact BK306.out) hb); have n5_ := Aside0.mk (blk_below (g := gb315) (o := .cells #[.slice Ao34 t311.length co34, .int .i64 t314] 40 (0, 0)) (by (with_reducible repeat (first | refine blk_drewN ?_ _ | refine blk_drew ?_ | refine blk_alloc ?_ _)); refine blk_put (cs := #[.slice Ao34 t311.length co34, .int .i64 0]) ?_ 1 _ rfl; (with_reducible repeat (first | refine blk_drewN ?_ _ | refine blk_drew ?_ | refine blk_alloc ?_ _)); refine blk_put (cs := #[.slice none 0 0, .int .i64 0]) ?_ 0 _ rfl; (with_reducible repeat (first | refine blk_drewN ?_ _ | refine blk_drew ?_ | refine blk_alloc ?_ _)); exact BK315.out) hb); have n6_ := Aside0.mk (below_step (by repeat (first | (with_reducible first | exact HB.out | apply below_alloc | apply pw_below_drewN | apply below_drew1 | refine below_set ?_ GE301.out | refine below_set ?_ GE306.out | refine below_set ?_ GE315.out) | exact HB.out)) hb); clear HO299; clear HO304; clear HO313; clear BK301; clear BK306; clear BK315; clear HB; have HO299 := n0_; have HO304 := n1_; have HO313 := n2_; have BK301 := n3_; have BK306 := n4_; have BK315 := n5_; have HB := n6_; clear n0_ n1_ n2_ n3_ n4_ n5_ n6_; (try clear hb); (try clear hb2); (try clear hk); (try clear hi); have hcz40_0 : w39.cell? ⟨gb306, 0, none⟩ = some (.slice Ao23 t302.length co23) := (blk_cell BK306.out 0).trans rfl; have hcz40_1 : w39.cell? ⟨gb306, 1, none⟩ = some (.int .i64 t305) := (blk_cell BK306.out 1).trans rfl; have hfz40_0 := blk_frozen BK306.out 0; have hfz40_1 := blk_frozen BK306.out 1) | ((with_reducible refine gate_callee (f := 32) rfl ?_); refine goesL_ (some 38) rfl rfl Try.func32 (by kernel_rfl) rfl #[.agg #[.slice Ao23 t309.length co23, .int .i64 t305], .int .i64 1] rfl (by (try simp only [List.map_toArray, List.map_cons, List.map_nil]); first | done | (rw [show t309.length = t302.length from (Kd.R_reads' HO304.out).1.symm] <;> rfl) | rfl | (simp only [List.length_drop, List.length_take]; rfl)) ?_; (with_reducible refine (laws_heldSeenOut.calls k _ _ t309 t305 1 t317 _ ?side1 ?side2 A14.out).mono ?_); (case side1 => repeat (first | exact (Kd.R_reads' HO304.out).2.2 | (with_reducible refine Kd.C_alloc ?_ _) | (with_reducible refine Kd.C_drewN ?_ _) | (with_reducible refine Kd.C_drew ?_))); (case side2 => rw [show t309.length = t302.length from (Kd.R_reads' HO304.out).1.symm]; exact (Kd.R_reads' HO304.out).2.1); rintro e w41 ⟨rfl, hb⟩; refine ⟨_, rfl, ?_⟩; have n0_ := Aside0.mk (Kd.R_below (by (with_reducible repeat (first | apply Kd.R_alloc | apply Kd.R_drewN | apply Kd.R_drew)); exact HO299.out) hb); have n1_ := Aside0.mk (Kd.R_below (by (with_reducible repeat (first | apply Kd.R_alloc | apply Kd.R_drewN | apply Kd.R_drew)); exact HO304.out) hb); have n2_ := Aside0.mk (Kd.R_below (by (with_reducible repeat (first | apply Kd.R_alloc | apply Kd.R_drewN | apply Kd.R_drew)); exact HO313.out) hb); have n3_ := Aside0.mk (blk_below (g := gb301) (o := .cells #[.slice Ao19 t297.length co19, .int .i64 t300] 40 (0, 0)) (by (with_reducible repeat (first | refine blk_drewN ?_ _ | refine blk_drew ?_ | refine blk_alloc ?_ _)); exact BK301.out) hb); have n4_ := Aside0.mk (blk_below (g := gb306) (o := .cells #[.slice Ao23 t302.length co23, .int .i64 t305] 40 (0, 0)) (by (with_reducible repeat (first | refine blk_drewN ?_ _ | refine blk_drew ?_ | refine blk_alloc ?_ _)); exact BK306.out) hb); have n5_ := Aside0.mk (blk_below (g := gb315) (o := .cells #[.slice Ao34 t311.length co34, .int .i64 t314] 40 (0, 0)) (by (with_reducible repeat (first | refine blk_drewN ?_ _ | refine blk_drew ?_ | refine blk_alloc ?_ _)); exact BK315.out) hb); have n6_ := Aside0.mk (below_step (by repeat (first | (with_reducible first | exact HB.out | apply below_alloc | apply pw_below_drewN | apply below_drew1 | refine below_set ?_ GE301.out | refine below_set ?_ GE306.out | refine below_set ?_ GE315.out) | exact HB.out)) hb); clear HO299; clear HO304; clear HO313; clear BK301; clear BK306; clear BK315; clear HB; have HO299 := n0_; have HO304 := n1_; have HO313 := n2_; have BK301 := n3_; have BK306 := n4_; have BK315 := n5_; have HB := n6_; clear n0_ n1_ n2_ n3_ n4_ n5_ n6_; (try clear hb); (try clear hb2); (try clear hk); (try clear hi)))
        go_ret
        exact ⟨by first | rfl | (simp [errW_none, errW_some] <;> rfl) | (simp [*, errW_none, errW_some] <;> rfl), by repeat (first | (with_reducible first | exact HB.out | apply below_alloc | apply pw_below_drewN | apply below_drew1 | refine below_set ?_ GE301.out | refine below_set ?_ GE306.out | refine below_set ?_ GE315.out) | exact HB.out)⟩
       ·rw [if_neg c16] at H
        exact absurd H (by simp)
     ·replace c13 := Bool.eq_false_iff.mpr c13
      subst c13
      have H1 : (none) = some r := by rw [if_neg (show ¬ (false = true) by decide)] at H; exact H
      clear H
      have H := H1
      clear H1
      exact absurd H (by simp)
    ·rw [if_neg c10] at H
     exact absurd H (by simp)
  ·replace c6 := Bool.eq_false_iff.mpr c6
   subst c6
   have H1 : (none) = some r := by rw [if_neg (show ¬ (false = true) by decide)] at H; exact H
   clear H
   have H := H1
   clear H1
   exact absurd H (by simp)

/-- THE ONE PURE STATEMENT of laws_FnExactSeenRead: yours. -/
def laws_FnExactSeenRead.Pure : Prop := ∀ (a0 : ByteArray), a0.size ≤ 140737488351232 → ∃ k, laws_FnExactSeenRead.f k a0 = some true
theorem laws_FnExactSeenRead.walk (P : laws_FnExactSeenRead.Pure) (a0 : ByteArray) (w : World) (w0 : a0.size ≤ 140737488351232) :
  Calls Try.prog 10 #[.string a0] w fun e w' => e = .returned (.bool true) ∧ Below w.heap.size w w' := by
 obtain ⟨k, h⟩ := P a0 w0
 refine (laws_FnExactSeenRead.calls k a0 true w h).mono ?_
 rintro e w' ⟨rfl, hd⟩
 exact ⟨rfl, hd⟩

end Go.Proofs.Ytdjhclgkkklajaa.P

namespace Go.Proofs.Ytdjhclgkkklajaa.Q
open Go.RowKit Go.Proofs.YtdjhclgkkklajaaW.PrintWords Go.Proofs.YtdjhclgkkklajaaW.PrintMore

theorem w64 {x : Int} (h0 : -9223372036854775808 ≤ x) (h1 : x ≤ 9223372036854775807) : wrap64 x = x := by unfold wrap64; omega
theorem u64w (n : Int) : IntKind.u64.wrap n = n % 18446744073709551616 := by simp [IntKind.wrap, IntKind.bits, IntKind.signed]
theorem evIte {α : Type} {c : Prop} [Decidable c] {f g : Nat → Option α} {r : α} (h : c → Ev f r) (h' : ¬ c → Ev g r) : Ev (fun k => if c then f k else g k) r := by
  by_cases hc : c
  · simp only [if_pos hc]; exact h hc
  · simp only [if_neg hc]; exact h' hc
theorem evPos {α : Type} {c : Prop} [Decidable c] {f g : Nat → Option α} {r : α} (hc : c) (h : Ev f r) : Ev (fun k => if c then f k else g k) r := by
  simp only [if_pos hc]; exact h
theorem evNeg {α : Type} {c : Prop} [Decidable c] {f g : Nat → Option α} {r : α} (hc : ¬ c) (h : Ev g r) : Ev (fun k => if c then f k else g k) r := by
  simp only [if_neg hc]; exact h
theorem evBind1 {α β : Type} {g : Option α} {f : Nat → α → Option β} {a : α} {r : β} (h : g = some a) (k : Ev (fun n => f n a) r) : Ev (fun n => g.bind (f n)) r := by
  subst h; exact k
theorem dropCons {α : Type} {l : List α} {i : Nat} {a : α} {s : List α} (h : l.drop i = a :: s) (d : α) : i < l.length ∧ l.getD i d = a ∧ l.drop (i + 1) = s := by
  have hl : i < l.length := by
    have := congrArg List.length h
    simp at this; omega
  rw [List.drop_eq_getElem_cons hl] at h
  injection h with h1 h2
  exact ⟨hl, by rw [List.getD_eq_getElem?_getD, List.getElem?_eq_getElem hl]; exact h1, h2⟩
theorem dropNil {α : Type} {l : List α} {i : Nat} (h : l.drop i = []) : l.length ≤ i := by
  have := congrArg List.length h
  simp at this; omega
theorem dropNil' {α : Type} {l : List α} {i : Nat} (h : l.drop i = []) (hi : i ≤ l.length) : l.length = i := by
  have := dropNil h; omega
theorem wraps_u64 (n : Int) (h₀ : 0 ≤ n) (h₁ : n < 2 ^ 64) : IntKind.u64.wrap n = n := by rw [u64w]; omega
theorem wraps_i64 (n : Int) (h₀ : 0 ≤ n) (h₁ : n < 2 ^ 63) : IntKind.i64.wrap n = n := by rw [IntKind.wrap_i64]; omega
end Go.Proofs.Ytdjhclgkkklajaa.Q

namespace Go.Proofs.Ytdjhclgkkklajaa.P
open Go.RowKit Go.Proofs.YtdjhclgkkklajaaW.PrintWords Go.Proofs.YtdjhclgkkklajaaW.PrintLast Go.Proofs.YtdjhclgkkklajaaW.PrintMore
attribute [local go_sem] max2_int min2_int max_two min_two max_three min_three max_four min_four   -- for this text's walks alone
set_option linter.unusedVariables false
set_option linter.unusedSimpArgs false

/-! ### impl_isMany_impl_Mark: function 85 -/
def impl_isMany_impl_Mark.f (l0 : List (S43)) : Option (Bool) := some (decide ((l0.length : Int) > 400))
end Go.Proofs.Ytdjhclgkkklajaa.P

namespace Go.Proofs.Ytdjhclgkkklajaa.Q
open Go.RowKit Go.Proofs.Ytdjhclgkkklajaa.P Go.Proofs.YtdjhclgkkklajaaW.PrintWords Go.Proofs.YtdjhclgkkklajaaW.PrintMore

abbrev Mark := S43
def isWithin (n low high : Int) : Bool := decide (low ≤ n) && decide (n ≤ high)
def isNode (n : Int) : Bool := isWithin n 1 5
def isDot (a b : Int) : Bool := isNode a && isWithin b 1 1000000
theorem l02Is_is (n a b : Int) : spec_l02Is.f n a b = some (isWithin n a b) := by
  unfold spec_l02Is.f isWithin
  split
  · rename_i h; simp [show a ≤ n from h]
  · rename_i h; simp [show ¬ a ≤ n from h]
theorem l02Node_is (n : Int) : spec_l02Node.f n = some (isNode n) := by simp [spec_l02Node.f, l02Is_is, isNode]
theorem l02Dot_is (a b : Int) : spec_l02Dot.f a b = some (isDot a b) := by
  simp only [spec_l02Dot.f, l02Node_is, l02Is_is, isDot, Option.bind_some]
  cases isNode a <;> simp
theorem within_is (n a b : Int) : impl_within.f n a b = some (isWithin n a b) := by
  unfold impl_within.f isWithin
  split
  · rename_i h; simp [show a ≤ n from h]
  · rename_i h; simp [show ¬ a ≤ n from h]
theorem isNode_is (n : Int) : impl_isNode.f n = some (isNode n) := by simp [impl_isNode.f, within_is, isNode]
theorem isDot_is (a b : Int) : impl_isDot.f a b = some (isDot a b) := by
  simp only [impl_isDot.f, isNode_is, within_is, isDot, Option.bind_some]
  cases isNode a <;> simp
/-- Dots whose nodes rise from above p. -/
def okFrom : Int → List Mark → Bool
  | _, [] => true
  | p, m :: r => isDot m.f0 m.f1 && (decide (p < m.f0) && okFrom m.f0 r)
def seenOk (v : List Mark) : Bool := okFrom 0 v
theorem isDot_iff (a b : Int) : isDot a b = true ↔ (1 ≤ a ∧ a ≤ 5) ∧ 1 ≤ b ∧ b ≤ 1000000 := by simp [isDot, isNode, isWithin]
/-- The node ahead of place i. -/
def prevAt (l : List Mark) (i : Nat) : Int := if i = 0 then 0 else (l.getD (i - 1) z43).f0
theorem prevAt_succ {l : List Mark} {i : Nat} {m : Mark} (h : l.getD i z43 = m) : prevAt l (i + 1) = m.f0 := by
  simp only [prevAt, Nat.add_sub_cancel, h]
  simp
theorem impl_seenRight_l0 (l : List Mark) (hl : l.length ≤ 4611686018427387904) : ∀ (s : List Mark) (i : Nat), l.drop i = s → i ≤ l.length → 0 ≤ prevAt l i →
    Ev (fun k => impl_seenRight.l0 k l l (l.length : Int) (i : Int)) (okFrom (prevAt l i) s)
  | [], i, h, hi, hp => by
    have := dropNil' h hi
    refine Ev.step (f := fun _ => some true) (fun k => ?_) (Ev.now _)
    simp only [impl_seenRight.l0]
    rw [if_neg (by omega)]
  | m :: s, i, h, hi, hp => by
    obtain ⟨h1, h2, h3⟩ := dropCons h z43
    have hr : rd_T43 l (i : Int) = m := by simpa [rd_T43] using h2
    have ih := fun hq => impl_seenRight_l0 l hl s (i + 1) h3 (by omega) hq
    rw [prevAt_succ h2] at ih
    by_cases hd : isDot m.f0 m.f1 = true
    · have hd' := (isDot_iff _ _).1 hd
      by_cases hlt : prevAt l i < m.f0
      · have ih := ih (by omega)
        refine Ev.step (fun k => ?_) (show Ev _ (okFrom (prevAt l i) (m :: s)) from by simp only [okFrom, hd, hlt, decide_true, Bool.true_and]; exact ih)
        simp only [impl_seenRight.l0, hr, isDot_is, Option.bind_some]
        rw [if_pos (by omega), if_pos (by omega), if_pos (by omega), if_pos hd, w64 (x := (i : Int) + 1) (by omega) (by omega)]
        by_cases hi0 : i = 0
        · subst hi0
          rw [if_neg (by omega)]; rfl
        · have hq : rd_T43 l ((i : Int) - 1) = l.getD (i - 1) z43 := by
            simp only [rd_T43]; congr 1; omega
          rw [w64 (x := (i : Int) - 1) (by omega) (by omega), if_pos (by omega), if_pos (by omega), if_pos (by omega), hq, if_neg (by simp only [prevAt, if_neg hi0] at hlt; omega)]
          rfl
      · refine Ev.step (f := fun _ => some false) (fun k => ?_) (show Ev _ (okFrom (prevAt l i) (m :: s)) from by simp only [okFrom, hd, hlt, decide_false, Bool.false_and, Bool.and_false]; exact Ev.now _)
        have hi0 : i ≠ 0 := by
          intro e; subst e
          simp [prevAt] at hlt; omega
        have hq : rd_T43 l ((i : Int) - 1) = l.getD (i - 1) z43 := by
          simp only [rd_T43]; congr 1; omega
        simp only [impl_seenRight.l0, hr, isDot_is, Option.bind_some]
        rw [if_pos (by omega), if_pos (by omega), if_pos (by omega), if_pos hd, w64 (x := (i : Int) - 1) (by omega) (by omega), if_pos (by omega), if_pos (by omega), if_pos (by omega), hq,
          if_pos (by simp only [prevAt, if_neg hi0] at hlt; omega)]
    · refine Ev.step (f := fun _ => some false) (fun k => ?_) (show Ev _ (okFrom (prevAt l i) (m :: s)) from by simp only [okFrom, Bool.eq_false_iff.mpr hd, Bool.false_and]; exact Ev.now _)
      simp only [impl_seenRight.l0, hr, isDot_is, Option.bind_some]
      rw [if_pos (by omega), if_pos (by omega), if_pos (by omega), if_neg hd]
theorem impl_seenRight_ev (l : List Mark) (hl : l.length ≤ 4611686018427387904) : Ev (fun k => impl_seenRight.f k l) (seenOk l) :=
  impl_seenRight_l0 l hl l 0 rfl (by omega) (by simp [prevAt])
theorem spec_SeenRight_l0 (l : List Mark) (hl : l.length ≤ 4611686018427387904) : ∀ (s : List Mark) (i : Nat), l.drop i = s → i ≤ l.length → (i : Int) ≤ prevAt l i → prevAt l i ≤ 5 →
    Ev (fun k => spec_SeenRight.l0 k l (i : Int)) (okFrom (prevAt l i) s)
  | [], i, h, hi, hp, hp5 => by
    have := dropNil' h hi
    refine Ev.step (f := fun k => spec_SeenRight.j1 k l (i : Int) false) (fun k => ?_) (Ev.step (f := fun _ => some true) (fun k => ?_) (Ev.now _))
    · simp only [spec_SeenRight.l0]
      rw [if_neg (by omega)]
    · simp only [spec_SeenRight.j1]
      rw [if_neg (by simp)]
      congr 1
      simp; omega
  | m :: s, i, h, hi, hp, hp5 => by
    obtain ⟨h1, h2, h3⟩ := dropCons h z43
    have hr : rd_T43 l (i : Int) = m := by simpa [rd_T43] using h2
    have ih := fun hq => spec_SeenRight_l0 l hl s (i + 1) h3 (by omega) hq
    rw [prevAt_succ h2] at ih
    have hj : decide ((i : Int) ≤ 5) = true := by simp; omega
    have hl0 : ∀ k, spec_SeenRight.l0 (k + 1) l (i : Int) = spec_SeenRight.j1 k l (i : Int) true := fun k => by
      simp only [spec_SeenRight.l0]
      rw [if_pos (by omega), hj]
    by_cases hd : isDot m.f0 m.f1 = true
    · have hd' := (isDot_iff _ _).1 hd
      by_cases hlt : prevAt l i < m.f0
      · have ih := ih (by omega) (by omega)
        refine Ev.step hl0 (Ev.step (fun k => ?_) (show Ev _ (okFrom (prevAt l i) (m :: s)) from by simp only [okFrom, hd, hlt, decide_true, Bool.true_and]; exact ih))
        simp only [spec_SeenRight.j1, hr, l02Dot_is, Option.bind_some]
        rw [if_pos trivial, if_pos (by omega), if_pos (by omega), if_pos hd, w64 (x := (i : Int) + 1) (by omega) (by omega)]
        by_cases hi0 : i = 0
        · subst hi0
          rw [if_neg (by omega)]; rfl
        · have hq : rd_T43 l ((i : Int) - 1) = l.getD (i - 1) z43 := by
            simp only [rd_T43]; congr 1; omega
          rw [w64 (x := (i : Int) - 1) (by omega) (by omega), if_pos (by omega), if_pos (by omega), if_pos (by omega), hq, if_neg (by simp only [prevAt, if_neg hi0] at hlt; omega)]
          rfl
      · refine Ev.step hl0 (Ev.step (f := fun _ => some false) (fun k => ?_) (show Ev _ (okFrom (prevAt l i) (m :: s)) from by simp only [okFrom, hd, hlt, decide_false, Bool.false_and, Bool.and_false]; exact Ev.now _))
        have hi0 : i ≠ 0 := by
          intro e; subst e
          simp [prevAt] at hlt; omega
        have hq : rd_T43 l ((i : Int) - 1) = l.getD (i - 1) z43 := by
          simp only [rd_T43]; congr 1; omega
        simp only [spec_SeenRight.j1, hr, l02Dot_is, Option.bind_some]
        rw [if_pos trivial, if_pos (by omega), if_pos (by omega), if_pos hd, w64 (x := (i : Int) - 1) (by omega) (by omega), if_pos (by omega), if_pos (by omega), if_pos (by omega), hq,
          if_pos (by simp only [prevAt, if_neg hi0] at hlt; omega)]
    · refine Ev.step hl0 (Ev.step (f := fun _ => some false) (fun k => ?_) (show Ev _ (okFrom (prevAt l i) (m :: s)) from by simp only [okFrom, Bool.eq_false_iff.mpr hd, Bool.false_and]; exact Ev.now _))
      simp only [spec_SeenRight.j1, hr, l02Dot_is, Option.bind_some]
      rw [if_pos trivial, if_pos (by omega), if_pos (by omega), if_neg hd]
theorem spec_SeenRight_ev (l : List Mark) (hl : l.length ≤ 4611686018427387904) : Ev (fun k => spec_SeenRight.f k l) (seenOk l) :=
  spec_SeenRight_l0 l hl l 0 rfl (by omega) (by simp [prevAt]) (by simp [prevAt])
end Go.Proofs.Ytdjhclgkkklajaa.Q

namespace Go.Proofs.Ytdjhclgkkklajaa.P
open Go.RowKit Go.Proofs.YtdjhclgkkklajaaW.PrintWords Go.Proofs.YtdjhclgkkklajaaW.PrintLast Go.Proofs.YtdjhclgkkklajaaW.PrintMore
attribute [local go_sem] max2_int min2_int max_two min_two max_three min_three max_four min_four   -- for this text's walks alone
set_option linter.unusedVariables false
set_option linter.unusedSimpArgs false

/-! ### impl_PutNum: function 16 -/
def impl_PutNum.l0 : Nat → Int → List Int → Option (ByteArray)
 | 0, _, _ => none
 | k + 1, x3, x4 => if x3 ≥ 128 then (if x4.length < 140737488355328 then (impl_PutNum.l0 k (x3 / 128) (x4 ++ [Go.bits .or .u8 ((Go.bits .and .u64 x3 127) % 256) 128])) else (none)) else (if x4.length < 140737488355328 then (some (strOfNums (x4 ++ [(x3) % 256]))) else (none))
def impl_PutNum.f (k : Nat) (a0 : Int) : Option (ByteArray) := impl_PutNum.l0 k (Go.bits .xor .u64 (IntKind.u64.wrap ((IntKind.u64.wrap (a0)) * 2)) (IntKind.u64.wrap (a0 / 9223372036854775808))) ([] : List Int)
theorem impl_PutNum.mono_l : ∀ k, (∀ y0 y1, LeO (impl_PutNum.l0 k y0 y1) (impl_PutNum.l0 (k + 1) y0 y1))
 | 0 => fun _ _ r h => by simp [impl_PutNum.l0] at h
 | k + 1 => by
  have ih0 := impl_PutNum.mono_l k
  ·intro y0 y1
   unfold impl_PutNum.l0
   repeat' first
   | (with_reducible exact ih0 _ _)
   | (with_reducible exact LeO.refl _)
   | (with_reducible exact LeO.none _)
   | (with_reducible refine LeO.ite ?_ ?_)
   | (with_reducible refine LeO.bind ?_ (fun _ => ?_))
   | exact ih0 _ _
   | exact LeO.none _
   | refine LeO.ite ?_ ?_
   | refine LeO.bind ?_ (fun _ => ?_)
theorem impl_PutNum.mono : ∀ a0 k, LeO (impl_PutNum.f k a0) (impl_PutNum.f (k + 1) a0) := by
 intro a0 k
 have ih0 := impl_PutNum.mono_l k
 unfold impl_PutNum.f
 repeat' first
   | (with_reducible exact ih0 _ _)
   | (with_reducible exact LeO.refl _)
   | (with_reducible exact LeO.none _)
   | (with_reducible refine LeO.ite ?_ ?_)
   | (with_reducible refine LeO.bind ?_ (fun _ => ?_))
   | exact ih0 _ _
   | exact LeO.none _
   | refine LeO.ite ?_ ?_
   | refine LeO.bind ?_ (fun _ => ?_)
end Go.Proofs.Ytdjhclgkkklajaa.P

namespace Go.Proofs.Ytdjhclgkkklajaa.Q
open Go.RowKit Go.Proofs.Ytdjhclgkkklajaa.P Go.Proofs.YtdjhclgkkklajaaW.PrintWords Go.Proofs.YtdjhclgkkklajaaW.PrintMore

/-- The number that stands for n: an even one for n ≥ 0. -/
def zig (n : Int) : Int := if n < 0 then -2 * n - 1 else 2 * n
theorem zig_range {n : Int} (h0 : -9223372036854775808 ≤ n) (h1 : n ≤ 9223372036854775807) : 0 ≤ zig n ∧ zig n < 18446744073709551616 := by
  unfold zig; split <;> omega
/-- Seven bits a byte, the lowest first; f + 1 bytes at the most. -/
def vbytes : Nat → Int → List Int
  | 0, u => [u % 256]
  | f + 1, u => if u ≥ 128 then (u % 128 + 128) :: vbytes f (u / 128) else [u % 256]
def putNum (n : Int) : ByteArray := strOfNums (vbytes 9 (zig n))
theorem fold_is {n : Int} (h0 : -9223372036854775808 ≤ n) (h1 : n ≤ 9223372036854775807) : spec_l01Fold.f n = some (zig n) := by
  unfold spec_l01Fold.f zig
  split
  · rw [w64 (x := n + 1) (by omega) (by omega), w64 (by omega) (by omega)]
    simp only [u64w]
    congr 1
    omega
  · simp only [u64w]
    congr 1
    omega
theorem vbytes_length : ∀ f u, (vbytes f u).length ≤ f + 1
  | 0, u => by simp [vbytes]
  | f + 1, u => by
    unfold vbytes
    split
    · have := vbytes_length f (u / 128)
      simp; omega
    · simp
theorem spec_PutNum_l0 : ∀ (f : Nat) (u : Int) (acc : List Int), 0 ≤ u → u < 128 ^ (f + 1) → u < 18446744073709551616 → acc.length + f + 1 < 140737488355328 →
    Ev (fun k => spec_PutNum.l0 k u acc) (strOfNums (acc ++ vbytes f u))
  | 0, u, acc, h0, h1, h2, h3 => by
    refine Ev.step (f := fun _ => some (strOfNums (acc ++ vbytes 0 u))) (fun k => ?_) (Ev.now _)
    simp only [spec_PutNum.l0]
    rw [if_neg (by omega), if_pos (by omega)]
    rfl
  | f + 1, u, acc, h0, h1, h2, h3 => by
    by_cases h : u ≥ 128
    · have ih := spec_PutNum_l0 f (u / 128) (acc ++ [u % 128 + 128]) (by omega) (by rw [Int.pow_succ] at h1; omega) (by omega) (by simp; omega)
      have hv : vbytes (f + 1) u = [u % 128 + 128] ++ vbytes f (u / 128) := by simp [vbytes, h]
      rw [hv, ← List.append_assoc]
      refine Ev.step (fun k => ?_) ih
      simp only [spec_PutNum.l0]
      rw [if_pos h, if_pos (by omega), Int.tdiv_eq_ediv_of_nonneg h0, Int.tmod_eq_emod_of_nonneg h0, u64w, u64w, show (u / 128) % 18446744073709551616 = u / 128 from by omega,
        show (u % 128 + 128) % 18446744073709551616 % 256 = u % 128 + 128 from by omega]
    · refine Ev.step (f := fun _ => some (strOfNums (acc ++ vbytes (f + 1) u))) (fun k => ?_) (Ev.now _)
      simp only [spec_PutNum.l0]
      rw [if_neg h, if_pos (by omega)]
      simp [vbytes, h]
theorem spec_PutNum_ev {n : Int} (h0 : -9223372036854775808 ≤ n) (h1 : n ≤ 9223372036854775807) : Ev (fun k => spec_PutNum.f k n) (putNum n) := by
  have hz := zig_range h0 h1
  unfold spec_PutNum.f
  rw [fold_is h0 h1]
  simp only [Option.bind_some]
  have := spec_PutNum_l0 9 (zig n) [] hz.1 (by omega) hz.2 (by simp)
  simpa [putNum] using this
end Go.Proofs.Ytdjhclgkkklajaa.Q

namespace Go.Proofs.Ytdjhclgkkklajaa.P
open Go.RowKit Go.Proofs.YtdjhclgkkklajaaW.PrintWords Go.Proofs.YtdjhclgkkklajaaW.PrintLast Go.Proofs.YtdjhclgkkklajaaW.PrintMore
attribute [local go_sem] max2_int min2_int max_two min_two max_three min_three max_four min_four   -- for this text's walks alone
set_option linter.unusedVariables false
set_option linter.unusedSimpArgs false

/-! ### spec_PutText: function 21 -/
def spec_PutText.f (k : Nat) (a0 : ByteArray) : Option (ByteArray) := if (a0.size : Int) > 8000 then (some (⟨#[]⟩ : ByteArray)) else ((spec_PutNum.f k (a0.size : Int)).bind fun t153 => (if t153.size + a0.size ≤ 9223372036854775807 then (some (t153 ++ a0)) else (none)))
theorem spec_PutText.mono : ∀ a0 k, LeO (spec_PutText.f k a0) (spec_PutText.f (k + 1) a0) := by
 intro a0 k
 unfold spec_PutText.f
 repeat' first
   | (with_reducible exact spec_PutNum.mono _ _)
   | (with_reducible exact LeO.refl _)
   | (with_reducible exact LeO.none _)
   | (with_reducible refine LeO.ite ?_ ?_)
   | (with_reducible refine LeO.bind ?_ (fun _ => ?_))
   | exact spec_PutNum.mono _ _
   | exact LeO.none _
   | refine LeO.ite ?_ ?_
   | refine LeO.bind ?_ (fun _ => ?_)
end Go.Proofs.Ytdjhclgkkklajaa.P

namespace Go.Proofs.Ytdjhclgkkklajaa.P
open Go.RowKit Go.Proofs.YtdjhclgkkklajaaW.PrintWords Go.Proofs.YtdjhclgkkklajaaW.PrintLast Go.Proofs.YtdjhclgkkklajaaW.PrintMore
attribute [local go_sem] max2_int min2_int max_two min_two max_three min_three max_four min_four   -- for this text's walks alone
set_option linter.unusedVariables false
set_option linter.unusedSimpArgs false

/-! ### impl_PutText: function 20 -/
def impl_PutText.f (k : Nat) (a0 : ByteArray) : Option (ByteArray) := (impl_isLong.f k (([a0] : List ByteArray))).bind fun t150 => (if t150 = true then (some (⟨#[]⟩ : ByteArray)) else ((impl_size.f a0).bind fun t151 => ((impl_PutNum.f k t151).bind fun t152 => (if t152.size + a0.size ≤ 9223372036854775807 then (some (t152 ++ a0)) else (none)))))
theorem impl_PutText.mono : ∀ a0 k, LeO (impl_PutText.f k a0) (impl_PutText.f (k + 1) a0) := by
 intro a0 k
 unfold impl_PutText.f
 repeat' first
   | (with_reducible exact impl_PutNum.mono _ _)
   | (with_reducible exact impl_isLong.mono _ _)
   | (with_reducible exact LeO.refl _)
   | (with_reducible exact LeO.none _)
   | (with_reducible refine LeO.ite ?_ ?_)
   | (with_reducible refine LeO.bind ?_ (fun _ => ?_))
   | exact impl_PutNum.mono _ _
   | exact impl_isLong.mono _ _
   | exact LeO.none _
   | refine LeO.ite ?_ ?_
   | refine LeO.bind ?_ (fun _ => ?_)
end Go.Proofs.Ytdjhclgkkklajaa.P

namespace Go.Proofs.Ytdjhclgkkklajaa.Q
open Go.RowKit Go.Proofs.Ytdjhclgkkklajaa.P Go.Proofs.YtdjhclgkkklajaaW.PrintWords Go.Proofs.YtdjhclgkkklajaaW.PrintMore

def firstLong : List ByteArray → Int → Int
  | [], _ => -1
  | a :: s, i => if 8000 < a.size then i else firstLong s (i + 1)
theorem firstLong_any : ∀ (s : List ByteArray) (i : Int), 0 ≤ i → decide (firstLong s i ≥ 0) = s.any fun a => decide (8000 < a.size)
  | [], i, h => by simp [firstLong]
  | a :: s, i, h => by
    have ih := firstLong_any s (i + 1) (by omega)
    by_cases ha : 8000 < a.size
    · simp [firstLong, ha, h]
    · rw [firstLong, if_neg ha, ih, List.any_cons]
      simp [ha]
theorem isLong_l0 (l : List ByteArray) (hl : l.length ≤ 4611686018427387904) : ∀ (s : List ByteArray) (i : Nat), l.drop i = s → i ≤ l.length →
    Ev (fun k => slices_IndexFunc_string_string_impl_isLong_1.l0 k l (l.length : Int) (i : Int)) (firstLong s i)
  | [], i, h, hi => by
    have := dropNil' h hi
    refine Ev.step (f := fun _ => some (-1)) (fun k => ?_) (Ev.now _)
    simp only [slices_IndexFunc_string_string_impl_isLong_1.l0]
    rw [if_neg (by omega)]
  | a :: s, i, h, hi => by
    obtain ⟨h1, h2, h3⟩ := dropCons h ByteArray.empty
    have ih := isLong_l0 l hl s (i + 1) h3 (by omega)
    by_cases ha : 8000 < a.size
    · refine Ev.step (f := fun _ => some (firstLong (a :: s) i)) (fun k => ?_) (Ev.now _)
      simp only [slices_IndexFunc_string_string_impl_isLong_1.l0, impl_isLong_1.f, rdOf, Int.toNat_natCast, h2]
      rw [if_pos (by omega), if_pos (by omega), if_pos (by omega)]
      simp [firstLong, ha]
      omega
    · refine Ev.step (fun k => ?_) (show Ev _ (firstLong (a :: s) i) from by simp only [firstLong, if_neg ha]; exact ih)
      simp only [slices_IndexFunc_string_string_impl_isLong_1.l0, impl_isLong_1.f, rdOf, Int.toNat_natCast, h2]
      rw [if_pos (by omega), if_pos (by omega), if_pos (by omega), w64 (by omega) (by omega)]
      have : ¬ ((a.size : Int) > 8000) := by omega
      simp [this]
theorem isLong_ev (l : List ByteArray) (hl : l.length ≤ 4611686018427387904) : Ev (fun k => impl_isLong.f k l) (l.any fun a => decide (8000 < a.size)) := by
  unfold impl_isLong.f slices_ContainsFunc_string_string_impl_isLong_1.f slices_IndexFunc_string_string_impl_isLong_1.f
  have h := isLong_l0 l hl l 0 rfl (by omega)
  refine Ev.bind (Ev.bind h (Ev.now _)) ?_
  have e := firstLong_any l 0 (by omega)
  rw [show ((0 : Nat) : Int) = 0 from rfl, e]
  exact Ev.now _
theorem isLong1_ev (a : ByteArray) : Ev (fun k => impl_isLong.f k ([a] : List ByteArray)) (decide (8000 < a.size)) := by
  have := isLong_ev [a] (by simp)
  simpa using this
theorem putNum_size (n : Int) : (putNum n).size ≤ 10 := by
  have h := vbytes_length 9 (zig n)
  unfold putNum
  rw [← data_length]
  simp only [strOfNums]
  simpa using h
end Go.Proofs.Ytdjhclgkkklajaa.Q

namespace Go.Proofs.Ytdjhclgkkklajaa.P
open Go.RowKit Go.Proofs.YtdjhclgkkklajaaW.PrintWords Go.Proofs.YtdjhclgkkklajaaW.PrintLast Go.Proofs.YtdjhclgkkklajaaW.PrintMore
attribute [local go_sem] max2_int min2_int max_two min_two max_three min_three max_four min_four   -- for this text's walks alone
set_option linter.unusedVariables false
set_option linter.unusedSimpArgs false

/-! ### spec_l02Of: function 139 -/
def spec_l02Of.l0 : Nat → List (S43) → Int → Int → Option (Int)
 | 0, _, _, _ => none
 | k + 1, x0, x1, x5 => if x5 < (x0.length : Int) then (if 0 ≤ x5 then (if ((rd_T43 x0 x5).f0) = x1 then (some ((rd_T43 x0 x5).f1)) else (spec_l02Of.l0 k x0 x1 (wrap64 (x5 + 1)))) else (none)) else (some 0)
def spec_l02Of.f (k : Nat) (l0 : List (S43)) (a1 : Int) : Option (Int) := spec_l02Of.l0 k l0 a1 0
theorem spec_l02Of.mono_l : ∀ k, (∀ y0 y1 y2, LeO (spec_l02Of.l0 k y0 y1 y2) (spec_l02Of.l0 (k + 1) y0 y1 y2))
 | 0 => fun _ _ _ r h => by simp [spec_l02Of.l0] at h
 | k + 1 => by
  have ih0 := spec_l02Of.mono_l k
  ·intro y0 y1 y2
   unfold spec_l02Of.l0
   repeat' first
   | (with_reducible exact ih0 _ _ _)
   | (with_reducible exact LeO.refl _)
   | (with_reducible exact LeO.none _)
   | (with_reducible refine LeO.ite ?_ ?_)
   | (with_reducible refine LeO.bind ?_ (fun _ => ?_))
   | exact ih0 _ _ _
   | exact LeO.none _
   | refine LeO.ite ?_ ?_
   | refine LeO.bind ?_ (fun _ => ?_)
theorem spec_l02Of.mono : ∀ a0 a1 k, LeO (spec_l02Of.f k a0 a1) (spec_l02Of.f (k + 1) a0 a1) := by
 intro a0 a1 k
 have ih0 := spec_l02Of.mono_l k
 unfold spec_l02Of.f
 repeat' first
   | (with_reducible exact ih0 _ _ _)
   | (with_reducible exact LeO.refl _)
   | (with_reducible exact LeO.none _)
   | (with_reducible refine LeO.ite ?_ ?_)
   | (with_reducible refine LeO.bind ?_ (fun _ => ?_))
   | exact ih0 _ _ _
   | exact LeO.none _
   | refine LeO.ite ?_ ?_
   | refine LeO.bind ?_ (fun _ => ?_)
end Go.Proofs.Ytdjhclgkkklajaa.P

namespace Go.Proofs.Ytdjhclgkkklajaa.P
open Go.RowKit Go.Proofs.YtdjhclgkkklajaaW.PrintWords Go.Proofs.YtdjhclgkkklajaaW.PrintLast Go.Proofs.YtdjhclgkkklajaaW.PrintMore
attribute [local go_sem] max2_int min2_int max_two min_two max_three min_three max_four min_four   -- for this text's walks alone
set_option linter.unusedVariables false
set_option linter.unusedSimpArgs false

/-! ### impl_seenOf: function 140 -/
def impl_seenOf.l0 : Nat → Int → List (S43) → Int → Int → Option (Int)
 | 0, _, _, _, _ => none
 | k + 1, x1, x7, x8, x9 => if x9 < x8 then (if 0 ≤ x9 then (if x9 < (x7.length : Int) then (if ((rd_T43 x7 x9).f0) = x1 then (some ((rd_T43 x7 x9).f1)) else (impl_seenOf.l0 k x1 x7 x8 (wrap64 (x9 + 1)))) else (none)) else (none)) else (some 0)
def impl_seenOf.f (k : Nat) (l0 : List (S43)) (a1 : Int) : Option (Int) := impl_seenOf.l0 k a1 l0 (l0.length : Int) 0
theorem impl_seenOf.mono_l : ∀ k, (∀ y0 y1 y2 y3, LeO (impl_seenOf.l0 k y0 y1 y2 y3) (impl_seenOf.l0 (k + 1) y0 y1 y2 y3))
 | 0 => fun _ _ _ _ r h => by simp [impl_seenOf.l0] at h
 | k + 1 => by
  have ih0 := impl_seenOf.mono_l k
  ·intro y0 y1 y2 y3
   unfold impl_seenOf.l0
   repeat' first
   | (with_reducible exact ih0 _ _ _ _)
   | (with_reducible exact LeO.refl _)
   | (with_reducible exact LeO.none _)
   | (with_reducible refine LeO.ite ?_ ?_)
   | (with_reducible refine LeO.bind ?_ (fun _ => ?_))
   | exact ih0 _ _ _ _
   | exact LeO.none _
   | refine LeO.ite ?_ ?_
   | refine LeO.bind ?_ (fun _ => ?_)
theorem impl_seenOf.mono : ∀ a0 a1 k, LeO (impl_seenOf.f k a0 a1) (impl_seenOf.f (k + 1) a0 a1) := by
 intro a0 a1 k
 have ih0 := impl_seenOf.mono_l k
 unfold impl_seenOf.f
 repeat' first
   | (with_reducible exact ih0 _ _ _ _)
   | (with_reducible exact LeO.refl _)
   | (with_reducible exact LeO.none _)
   | (with_reducible refine LeO.ite ?_ ?_)
   | (with_reducible refine LeO.bind ?_ (fun _ => ?_))
   | exact ih0 _ _ _ _
   | exact LeO.none _
   | refine LeO.ite ?_ ?_
   | refine LeO.bind ?_ (fun _ => ?_)
end Go.Proofs.Ytdjhclgkkklajaa.P

namespace Go.Proofs.Ytdjhclgkkklajaa.P
open Go.RowKit Go.Proofs.YtdjhclgkkklajaaW.PrintWords Go.Proofs.YtdjhclgkkklajaaW.PrintLast Go.Proofs.YtdjhclgkkklajaaW.PrintMore
attribute [local go_sem] max2_int min2_int max_two min_two max_three min_three max_four min_four   -- for this text's walks alone
set_option linter.unusedVariables false
set_option linter.unusedSimpArgs false

/-! ### impl_seenHas: function 110 -/
def impl_seenHas.f (k : Nat) (l0 : List (S43)) (a1_0 : Int) (a1_1 : Int) : Option (Bool) := (impl_seenOf.f k l0 a1_0).bind fun t449 => (some (decide (a1_1 ≤ t449)))
theorem impl_seenHas.mono : ∀ a0 a1 a2 k, LeO (impl_seenHas.f k a0 a1 a2) (impl_seenHas.f (k + 1) a0 a1 a2) := by
 intro a0 a1 a2 k
 unfold impl_seenHas.f
 repeat' first
   | (with_reducible exact impl_seenOf.mono _ _ _)
   | (with_reducible exact LeO.refl _)
   | (with_reducible exact LeO.none _)
   | (with_reducible refine LeO.ite ?_ ?_)
   | (with_reducible refine LeO.bind ?_ (fun _ => ?_))
   | exact impl_seenOf.mono _ _ _
   | exact LeO.none _
   | refine LeO.ite ?_ ?_
   | refine LeO.bind ?_ (fun _ => ?_)
end Go.Proofs.Ytdjhclgkkklajaa.P

namespace Go.Proofs.Ytdjhclgkkklajaa.P
open Go.RowKit Go.Proofs.YtdjhclgkkklajaaW.PrintWords Go.Proofs.YtdjhclgkkklajaaW.PrintLast Go.Proofs.YtdjhclgkkklajaaW.PrintMore
attribute [local go_sem] max2_int min2_int max_two min_two max_three min_three max_four min_four   -- for this text's walks alone
set_option linter.unusedVariables false
set_option linter.unusedSimpArgs false

/-! ### spec_SeenHas: function 107 -/
def spec_SeenHas.f (k : Nat) (l0 : List (S43)) (a1_0 : Int) (a1_1 : Int) : Option (Bool) := (spec_SeenRight.f k l0).bind fun t411 => (if t411 = true then ((spec_l02Dot.f a1_0 a1_1).bind fun t412 => (if t412 = true then ((spec_l02Of.f k l0 a1_0).bind fun t413 => (some (decide (a1_1 ≤ t413)))) else (some false))) else (some false))
theorem spec_SeenHas.mono : ∀ a0 a1 a2 k, LeO (spec_SeenHas.f k a0 a1 a2) (spec_SeenHas.f (k + 1) a0 a1 a2) := by
 intro a0 a1 a2 k
 unfold spec_SeenHas.f
 repeat' first
   | (with_reducible exact spec_SeenRight.mono _ _)
   | (with_reducible exact spec_l02Of.mono _ _ _)
   | (with_reducible exact LeO.refl _)
   | (with_reducible exact LeO.none _)
   | (with_reducible refine LeO.ite ?_ ?_)
   | (with_reducible refine LeO.bind ?_ (fun _ => ?_))
   | exact spec_SeenRight.mono _ _
   | exact spec_l02Of.mono _ _ _
   | exact LeO.none _
   | refine LeO.ite ?_ ?_
   | refine LeO.bind ?_ (fun _ => ?_)
abbrev spec_SeenHas.q0 : Array Bool := #[false, false, false, false, false, false, false, false, false, false, false, false, false, false, false, false]
abbrev spec_SeenHas.q1 : Array Bool := #[true, false, false, false, false, false, false, false, false, false, false, false, false, false, false, false]
abbrev spec_SeenHas.q3 : Array Bool := #[true, true, true, false, false, false, false, false, false, false, false, false, false, false, false, false]
abbrev spec_SeenHas.q5 : Array Bool := #[true, true, true, true, true, false, false, false, false, false, false, false, false, false, false, false]
abbrev spec_SeenHas.q6 : Array Bool := #[true, true, true, true, true, true, false, false, false, false, false, false, false, false, false, false]
abbrev spec_SeenHas.q16 : Array Bool := #[true, true, true, true, true, true, true, true, true, true, false, false, false, false, false, false]
end Go.Proofs.Ytdjhclgkkklajaa.P

namespace Go.Proofs.Ytdjhclgkkklajaa.P
open Go.RowKit Go.Proofs.YtdjhclgkkklajaaW.PrintWords Go.Proofs.YtdjhclgkkklajaaW.PrintLast Go.Proofs.YtdjhclgkkklajaaW.PrintMore
attribute [local go_sem] max2_int min2_int max_two min_two max_three min_three max_four min_four   -- for this text's walks alone
set_option linter.unusedVariables false
set_option linter.unusedSimpArgs false

/-! ### spec_l01Max: function 138 -/
def spec_l01Max.f (a0 : Int) (a1 : Int) : Option (Int) := if a0 > a1 then (some a0) else (some a1)
end Go.Proofs.Ytdjhclgkkklajaa.P

namespace Go.Proofs.Ytdjhclgkkklajaa.P
open Go.RowKit Go.Proofs.YtdjhclgkkklajaaW.PrintWords Go.Proofs.YtdjhclgkkklajaaW.PrintLast Go.Proofs.YtdjhclgkkklajaaW.PrintMore
attribute [local go_sem] max2_int min2_int max_two min_two max_three min_three max_four min_four   -- for this text's walks alone
set_option linter.unusedVariables false
set_option linter.unusedSimpArgs false

/-! ### spec_l02Join: function 84 -/
def spec_l02Join.l0 : Nat → List (S43) → List (S43) → List (S43) → Int → Option ((List (S43)))
 | 0, _, _, _, _ => none
 | k + 1, x0, x1, x5, x6 => if x6 ≤ 5 then ((spec_l02Of.f k x0 x6).bind fun t174 => ((spec_l02Of.f k x1 x6).bind fun t175 => ((spec_l01Max.f t174 t175).bind fun t176 => (if t176 > 0 then (if x5.length < 8796093022208 then (spec_l02Join.l0 k x0 x1 (x5 ++ [(⟨x6, t176⟩ : S43)]) (wrap64 (x6 + 1))) else (none)) else (spec_l02Join.l0 k x0 x1 x5 (wrap64 (x6 + 1))))))) else (some x5)
def spec_l02Join.f (k : Nat) (l0 : List (S43)) (l1 : List (S43)) : Option ((List (S43))) := spec_l02Join.l0 k l0 l1 (([] : List (S43))) 1
theorem spec_l02Join.mono_l : ∀ k, (∀ y0 y1 y2 y3, LeO (spec_l02Join.l0 k y0 y1 y2 y3) (spec_l02Join.l0 (k + 1) y0 y1 y2 y3))
 | 0 => fun _ _ _ _ r h => by simp [spec_l02Join.l0] at h
 | k + 1 => by
  have ih0 := spec_l02Join.mono_l k
  ·intro y0 y1 y2 y3
   unfold spec_l02Join.l0
   repeat' first
   | (with_reducible exact ih0 _ _ _ _)
   | (with_reducible exact spec_l02Of.mono _ _ _)
   | (with_reducible exact LeO.refl _)
   | (with_reducible exact LeO.none _)
   | (with_reducible refine LeO.ite ?_ ?_)
   | (with_reducible refine LeO.bind ?_ (fun _ => ?_))
   | exact ih0 _ _ _ _
   | exact spec_l02Of.mono _ _ _
   | exact LeO.none _
   | refine LeO.ite ?_ ?_
   | refine LeO.bind ?_ (fun _ => ?_)
theorem spec_l02Join.mono : ∀ a0 a1 k, LeO (spec_l02Join.f k a0 a1) (spec_l02Join.f (k + 1) a0 a1) := by
 intro a0 a1 k
 have ih0 := spec_l02Join.mono_l k
 unfold spec_l02Join.f
 repeat' first
   | (with_reducible exact ih0 _ _ _ _)
   | (with_reducible exact spec_l02Of.mono _ _ _)
   | (with_reducible exact LeO.refl _)
   | (with_reducible exact LeO.none _)
   | (with_reducible refine LeO.ite ?_ ?_)
   | (with_reducible refine LeO.bind ?_ (fun _ => ?_))
   | exact ih0 _ _ _ _
   | exact spec_l02Of.mono _ _ _
   | exact LeO.none _
   | refine LeO.ite ?_ ?_
   | refine LeO.bind ?_ (fun _ => ?_)
end Go.Proofs.Ytdjhclgkkklajaa.P

namespace Go.Proofs.Ytdjhclgkkklajaa.P
open Go.RowKit Go.Proofs.YtdjhclgkkklajaaW.PrintWords Go.Proofs.YtdjhclgkkklajaaW.PrintLast Go.Proofs.YtdjhclgkkklajaaW.PrintMore
attribute [local go_sem] max2_int min2_int max_two min_two max_three min_three max_four min_four   -- for this text's walks alone
set_option linter.unusedVariables false
set_option linter.unusedSimpArgs false

/-! ### impl_seenJoin: function 88 -/
def impl_seenJoin.l0 : Nat → List (S43) → List (S43) → List (S43) → Int → Option ((List (S43)))
 | 0, _, _, _, _ => none
 | k + 1, x0, x1, x5, x6 => if x6 ≤ 5 then ((impl_seenOf.f k x0 x6).bind fun t210 => ((impl_seenOf.f k x1 x6).bind fun t211 => (if (mx t210 t211) > 0 then (if x5.length < 8796093022208 then (impl_seenJoin.l0 k x0 x1 (x5 ++ [(⟨x6, mx t210 t211⟩ : S43)]) (wrap64 (x6 + 1))) else (none)) else (impl_seenJoin.l0 k x0 x1 x5 (wrap64 (x6 + 1)))))) else (some x5)
def impl_seenJoin.f (k : Nat) (l0 : List (S43)) (l1 : List (S43)) : Option ((List (S43))) := impl_seenJoin.l0 k l0 l1 ([] : List (S43)) 1
theorem impl_seenJoin.mono_l : ∀ k, (∀ y0 y1 y2 y3, LeO (impl_seenJoin.l0 k y0 y1 y2 y3) (impl_seenJoin.l0 (k + 1) y0 y1 y2 y3))
 | 0 => fun _ _ _ _ r h => by simp [impl_seenJoin.l0] at h
 | k + 1 => by
  have ih0 := impl_seenJoin.mono_l k
  ·intro y0 y1 y2 y3
   unfold impl_seenJoin.l0
   repeat' first
   | (with_reducible exact ih0 _ _ _ _)
   | (with_reducible exact impl_seenOf.mono _ _ _)
   | (with_reducible exact LeO.refl _)
   | (with_reducible exact LeO.none _)
   | (with_reducible refine LeO.ite ?_ ?_)
   | (with_reducible refine LeO.bind ?_ (fun _ => ?_))
   | exact ih0 _ _ _ _
   | exact impl_seenOf.mono _ _ _
   | exact LeO.none _
   | refine LeO.ite ?_ ?_
   | refine LeO.bind ?_ (fun _ => ?_)
theorem impl_seenJoin.mono : ∀ a0 a1 k, LeO (impl_seenJoin.f k a0 a1) (impl_seenJoin.f (k + 1) a0 a1) := by
 intro a0 a1 k
 have ih0 := impl_seenJoin.mono_l k
 unfold impl_seenJoin.f
 repeat' first
   | (with_reducible exact ih0 _ _ _ _)
   | (with_reducible exact impl_seenOf.mono _ _ _)
   | (with_reducible exact LeO.refl _)
   | (with_reducible exact LeO.none _)
   | (with_reducible refine LeO.ite ?_ ?_)
   | (with_reducible refine LeO.bind ?_ (fun _ => ?_))
   | exact ih0 _ _ _ _
   | exact impl_seenOf.mono _ _ _
   | exact LeO.none _
   | refine LeO.ite ?_ ?_
   | refine LeO.bind ?_ (fun _ => ?_)
end Go.Proofs.Ytdjhclgkkklajaa.P

namespace Go.Proofs.Ytdjhclgkkklajaa.P
open Go.RowKit Go.Proofs.YtdjhclgkkklajaaW.PrintWords Go.Proofs.YtdjhclgkkklajaaW.PrintLast Go.Proofs.YtdjhclgkkklajaaW.PrintMore
attribute [local go_sem] max2_int min2_int max_two min_two max_three min_three max_four min_four   -- for this text's walks alone
set_option linter.unusedVariables false
set_option linter.unusedSimpArgs false

/-! ### impl_seenBytes: function 161 -/
def impl_seenBytes.l0 : Nat → ByteArray → List (S43) → Int → Int → Option (ByteArray)
 | 0, _, _, _, _ => none
 | k + 1, x3, x9, x10, x11 => if x11 < x10 then (if 0 ≤ x11 then (if x11 < (x9.length : Int) then ((impl_PutNum.f k ((rd_T43 x9 x11).f0)).bind fun t938 => ((impl_PutNum.f k ((rd_T43 x9 x11).f1)).bind fun t939 => (if t938.size + t939.size ≤ 9223372036854775807 then (if x3.size + (t938.size + t939.size) ≤ 9223372036854775807 then (impl_seenBytes.l0 k (x3 ++ (t938 ++ t939)) x9 x10 (wrap64 (x11 + 1))) else (none)) else (none)))) else (none)) else (none)) else (some x3)
def impl_seenBytes.f (k : Nat) (l0 : List (S43)) : Option (ByteArray) := (impl_PutNum.f k (l0.length : Int)).bind fun t935 => (impl_seenBytes.l0 k t935 l0 (l0.length : Int) 0)
theorem impl_seenBytes.mono_l : ∀ k, (∀ y0 y1 y2 y3, LeO (impl_seenBytes.l0 k y0 y1 y2 y3) (impl_seenBytes.l0 (k + 1) y0 y1 y2 y3))
 | 0 => fun _ _ _ _ r h => by simp [impl_seenBytes.l0] at h
 | k + 1 => by
  have ih0 := impl_seenBytes.mono_l k
  ·intro y0 y1 y2 y3
   unfold impl_seenBytes.l0
   repeat' first
   | (with_reducible exact ih0 _ _ _ _)
   | (with_reducible exact impl_PutNum.mono _ _)
   | (with_reducible exact LeO.refl _)
   | (with_reducible exact LeO.none _)
   | (with_reducible refine LeO.ite ?_ ?_)
   | (with_reducible refine LeO.bind ?_ (fun _ => ?_))
   | exact ih0 _ _ _ _
   | exact impl_PutNum.mono _ _
   | exact LeO.none _
   | refine LeO.ite ?_ ?_
   | refine LeO.bind ?_ (fun _ => ?_)
theorem impl_seenBytes.mono : ∀ a0 k, LeO (impl_seenBytes.f k a0) (impl_seenBytes.f (k + 1) a0) := by
 intro a0 k
 have ih0 := impl_seenBytes.mono_l k
 unfold impl_seenBytes.f
 repeat' first
   | (with_reducible exact ih0 _ _ _ _)
   | (with_reducible exact impl_PutNum.mono _ _)
   | (with_reducible exact LeO.refl _)
   | (with_reducible exact LeO.none _)
   | (with_reducible refine LeO.ite ?_ ?_)
   | (with_reducible refine LeO.bind ?_ (fun _ => ?_))
   | exact ih0 _ _ _ _
   | exact impl_PutNum.mono _ _
   | exact LeO.none _
   | refine LeO.ite ?_ ?_
   | refine LeO.bind ?_ (fun _ => ?_)
end Go.Proofs.Ytdjhclgkkklajaa.P

namespace Go.Proofs.Ytdjhclgkkklajaa.Q
open Go.RowKit Go.Proofs.Ytdjhclgkkklajaa.P Go.Proofs.YtdjhclgkkklajaaW.PrintWords Go.Proofs.YtdjhclgkkklajaaW.PrintMore

theorem okFrom_mem : ∀ (s : List Mark) (p : Int), okFrom p s = true → ∀ m ∈ s, isDot m.f0 m.f1 = true ∧ p < m.f0
  | [], _, _, m, hm => by simp at hm
  | x :: r, p, h, m, hm => by
    simp only [okFrom, Bool.and_eq_true, decide_eq_true_eq] at h
    rcases List.mem_cons.1 hm with rfl | hm
    · exact ⟨h.1, h.2.1⟩
    · have := okFrom_mem r x.f0 h.2.2 m hm
      exact ⟨this.1, by omega⟩
/-- Marks whose numbers are small. -/
def Small (v : List Mark) : Prop := ∀ m ∈ v, (0 ≤ m.f0 ∧ m.f0 ≤ 4294967295) ∧ 0 ≤ m.f1 ∧ m.f1 ≤ 4294967295
theorem seenOk_small {v : List Mark} (h : seenOk v = true) : Small v := fun m hm => by
  have := (isDot_iff _ _).1 (okFrom_mem v 0 h m hm).1
  omega
def markBytes (m : Mark) : ByteArray := putNum m.f0 ++ putNum m.f1
def seenBytes (v : List Mark) : ByteArray := v.foldl (fun t m => t ++ markBytes m) (putNum (v.length : Int))
theorem l02Bytes_l0 (l : List Mark) (hl : l.length ≤ 1048576) (hsm : Small l) : ∀ (s : List Mark) (i : Nat), l.drop i = s → i ≤ l.length → ∀ t : ByteArray, t.size ≤ 10 + 20 * i → Ev (fun k => spec_l02Bytes.l0 k l t (i : Int)) (s.foldl (fun t m => t ++ markBytes m) t)
  | [], i, h, hi, t, ht => by
    have := dropNil' h hi
    refine Ev.step (f := fun _ => some t) (fun k => ?_) (Ev.now _)
    simp only [spec_l02Bytes.l0]
    rw [if_neg (by omega)]
  | m :: s, i, h, hi, t, ht => by
    obtain ⟨h1, h2, h3⟩ := dropCons h z43
    have hr : rd_T43 l (i : Int) = m := by simpa [rd_T43] using h2
    have hm : m ∈ l := List.mem_of_mem_drop (by rw [h]; exact List.mem_cons_self)
    have hb := hsm m hm
    have p0 := putNum_size m.f0
    have p1 := putNum_size m.f1
    refine Ev.step (fun k => by simp only [spec_l02Bytes.l0, hr]; rw [if_pos (show (i : Int) < l.length by omega), if_pos (show (0 : Int) ≤ i by omega), w64 (x := (i : Int) + 1) (by omega) (by omega)]) ?_
    refine Ev.bind (spec_PutNum_ev (by omega) (by omega)) (evPos (by omega) (Ev.bind (spec_PutNum_ev (by omega) (by omega)) (evPos (by omega) ?_)))
    rw [ByteArray.append_assoc]
    exact l02Bytes_l0 l hl hsm s (i + 1) h3 (by omega) _ (by simp only [ByteArray.size_append]; omega)
theorem l02Bytes_ev (l : List Mark) (hl : l.length ≤ 1048576) (hsm : Small l) : Ev (fun k => spec_l02Bytes.f k l) (seenBytes l) := by
  unfold spec_l02Bytes.f
  exact Ev.bind (spec_PutNum_ev (by omega) (by omega)) (l02Bytes_l0 l hl hsm l 0 rfl (by omega) _ (by have := putNum_size (l.length : Int); omega))
def seenBytesOut (l : List Mark) : ByteArray := if seenOk l = true then seenBytes l else ⟨#[]⟩
theorem spec_SeenBytes_ev (l : List Mark) (hl : l.length ≤ 1048576) : Ev (fun k => spec_SeenBytes.f k l) (seenBytesOut l) := by
  unfold spec_SeenBytes.f seenBytesOut
  refine Ev.bind (spec_SeenRight_ev l (by omega)) (evIte (fun h => ?_) (fun h => ?_))
  · rw [if_pos h]; exact Ev.bind (l02Bytes_ev l hl (seenOk_small h)) (Ev.now _)
  · rw [if_neg h]; exact Ev.now _
end Go.Proofs.Ytdjhclgkkklajaa.Q

namespace Go.Proofs.Ytdjhclgkkklajaa.P
open Go.RowKit Go.Proofs.YtdjhclgkkklajaaW.PrintWords Go.Proofs.YtdjhclgkkklajaaW.PrintLast Go.Proofs.YtdjhclgkkklajaaW.PrintMore
attribute [local go_sem] max2_int min2_int max_two min_two max_three min_three max_four min_four   -- for this text's walks alone
set_option linter.unusedVariables false
set_option linter.unusedSimpArgs false

/-! ### laws_szMarkS: function 23 -/
def laws_szMarkS.f (l0 : List (S36)) (a1 : Int) : Option (Int) := if (wrap64 (a1 - (l0.length : Int))) < 0 then (some (-1)) else (some (wrap64 (a1 - (l0.length : Int))))
end Go.Proofs.Ytdjhclgkkklajaa.P

namespace Go.Proofs.Ytdjhclgkkklajaa.P
open Go.RowKit Go.Proofs.YtdjhclgkkklajaaW.PrintWords Go.Proofs.YtdjhclgkkklajaaW.PrintLast Go.Proofs.YtdjhclgkkklajaaW.PrintMore
attribute [local go_sem] max2_int min2_int max_two min_two max_three min_three max_four min_four   -- for this text's walks alone
set_option linter.unusedVariables false
set_option linter.unusedSimpArgs false

/-! ### laws_toMark: function 26 -/
def laws_toMark.f (a0_0 : Int) (a0_1 : Int) : Option (Int × Int) := some (a0_0, a0_1)
end Go.Proofs.Ytdjhclgkkklajaa.P

namespace Go.Proofs.Ytdjhclgkkklajaa.P
open Go.RowKit Go.Proofs.YtdjhclgkkklajaaW.PrintWords Go.Proofs.YtdjhclgkkklajaaW.PrintLast Go.Proofs.YtdjhclgkkklajaaW.PrintMore
attribute [local go_sem] max2_int min2_int max_two min_two max_three min_three max_four min_four   -- for this text's walks alone
set_option linter.unusedVariables false
set_option linter.unusedSimpArgs false

/-! ### laws_toMarkS: function 25 -/
def laws_toMarkS.l0 : Nat → List (S36) → List (S43) → Int → Option ((List (S43)))
 | 0, _, _, _ => none
 | k + 1, x0, x3, x4 => if x4 < (x0.length : Int) then (if 0 ≤ x4 then ((laws_toMark.f ((rd_T36 x0 x4).f0) ((rd_T36 x0 x4).f1)).bind fun bt337 => (if x4 < (x3.length : Int) then (laws_toMarkS.l0 k x0 (x3.set (x4 : Int).toNat (⟨bt337.1, bt337.2⟩ : S43)) (wrap64 (x4 + 1))) else (none))) else (none)) else (some x3)
def laws_toMarkS.f (k : Nat) (l0 : List (S36)) : Option ((List (S43))) := if 0 ≤ (l0.length : Int) then (if ((l0.length : Int) : Int).toNat ≤ 17592186044416 then (laws_toMarkS.l0 k l0 (List.replicate ((l0.length : Int) : Int).toNat z43) 0) else (none)) else (none)
theorem laws_toMarkS.mono_l : ∀ k, (∀ y0 y1 y2, LeO (laws_toMarkS.l0 k y0 y1 y2) (laws_toMarkS.l0 (k + 1) y0 y1 y2))
 | 0 => fun _ _ _ r h => by simp [laws_toMarkS.l0] at h
 | k + 1 => by
  have ih0 := laws_toMarkS.mono_l k
  ·intro y0 y1 y2
   unfold laws_toMarkS.l0
   repeat' first
   | (with_reducible exact ih0 _ _ _)
   | (with_reducible exact LeO.refl _)
   | (with_reducible exact LeO.none _)
   | (with_reducible refine LeO.ite ?_ ?_)
   | (with_reducible refine LeO.bind ?_ (fun _ => ?_))
   | exact ih0 _ _ _
   | exact LeO.none _
   | refine LeO.ite ?_ ?_
   | refine LeO.bind ?_ (fun _ => ?_)
theorem laws_toMarkS.mono : ∀ a0 k, LeO (laws_toMarkS.f k a0) (laws_toMarkS.f (k + 1) a0) := by
 intro a0 k
 have ih0 := laws_toMarkS.mono_l k
 unfold laws_toMarkS.f
 repeat' first
   | (with_reducible exact ih0 _ _ _)
   | (with_reducible exact LeO.refl _)
   | (with_reducible exact LeO.none _)
   | (with_reducible refine LeO.ite ?_ ?_)
   | (with_reducible refine LeO.bind ?_ (fun _ => ?_))
   | exact ih0 _ _ _
   | exact LeO.none _
   | refine LeO.ite ?_ ?_
   | refine LeO.bind ?_ (fun _ => ?_)
end Go.Proofs.Ytdjhclgkkklajaa.P

namespace Go.Proofs.Ytdjhclgkkklajaa.Q
open Go.RowKit Go.Proofs.Ytdjhclgkkklajaa.P Go.Proofs.YtdjhclgkkklajaaW.PrintWords Go.Proofs.YtdjhclgkkklajaaW.PrintMore

theorem eqMark_refl (a b : Int) : laws_eqMark.f a b a b = some true := by simp [laws_eqMark.f]
theorem eqMarkS_l0 (l : List Mark) (hl : l.length ≤ 4611686018427387904) : ∀ (s : List Mark) (i : Nat), l.drop i = s → i ≤ l.length →
    Ev (fun k => laws_eqMarkS.l0 k l l (i : Int)) true
  | [], i, h, hi => by
    have := dropNil' h hi
    refine Ev.step (f := fun _ => some true) (fun k => ?_) (Ev.now _)
    simp only [laws_eqMarkS.l0]
    rw [if_neg (by omega)]
  | m :: s, i, h, hi => by
    obtain ⟨h1, h2, h3⟩ := dropCons h z43
    refine Ev.step (fun k => ?_) (eqMarkS_l0 l hl s (i + 1) h3 (by omega))
    simp only [laws_eqMarkS.l0, eqMark_refl, Option.bind_some]
    rw [if_pos (by omega), if_pos (by omega), if_pos (by omega), if_pos trivial, w64 (by omega) (by omega)]
    rfl
theorem eqMarkS_ev (l : List Mark) (hl : l.length ≤ 4611686018427387904) : Ev (fun k => laws_eqMarkS.f k l l) true := by
  unfold laws_eqMarkS.f
  exact evPos rfl (eqMarkS_l0 l hl l 0 rfl (by omega))
end Go.Proofs.Ytdjhclgkkklajaa.Q

namespace Go.Proofs.Ytdjhclgkkklajaa.Q
open Go.RowKit Go.Proofs.Ytdjhclgkkklajaa.P Go.Proofs.YtdjhclgkkklajaaW.PrintWords Go.Proofs.YtdjhclgkkklajaaW.PrintMore

theorem getD_mid {α : Type} (pre : List α) (m : α) (s : List α) (d : α) : (pre ++ m :: s).getD pre.length d = m := by
  rw [List.getD_eq_getElem?_getD, List.getElem?_append_right (Nat.le_refl _), Nat.sub_self]; rfl
theorem set_mid {α : Type} (pre : List α) (m x : α) (s : List α) : (pre ++ m :: s).set pre.length x = pre ++ x :: s := by
  rw [List.set_append_right _ _ (Nat.le_refl _), Nat.sub_self]; rfl
def markL : Int → List Mark → List Mark
  | _, [] => []
  | n, _ :: r => ⟨n, n + 1⟩ :: markL (n + 2) r
theorem markMarkS_l0 (N : Int) (hN : N ≤ 1152921504606846976) : ∀ (s pre : List Mark) (n : Int), 0 ≤ n → n + 2 * (s.length : Int) ≤ N → (pre.length : Int) + s.length ≤ N →
    Ev (fun k => laws_markMarkS.l0 k (pre ++ s) n (pre.length : Int)) (n + 2 * (s.length : Int), pre ++ markL n s)
  | [], pre, n, h0, h1, h2 => by
    refine Ev.step (f := fun _ => some (n, pre)) (fun k => ?_) (by simp [markL]; exact Ev.now _)
    simp only [laws_markMarkS.l0, List.append_nil]
    rw [if_neg (by omega)]
  | m :: s, pre, n, h0, h1, h2 => by
    simp only [List.length_cons] at h1 h2
    have ih := markMarkS_l0 N hN s (pre ++ [⟨n, n + 1⟩]) (n + 2) (by omega) (by omega) (by simp; omega)
    simp only [List.length_append, List.length_cons, List.length_nil, List.append_assoc, List.cons_append, List.nil_append] at ih
    refine Ev.step (fun k => ?_) (show Ev _ (n + 2 * ((m :: s).length : Int), pre ++ markL n (m :: s)) from by
      simp only [markL, List.length_cons]
      rw [show n + 2 * ((s.length + 1 : Nat) : Int) = n + 2 + 2 * (s.length : Int) from by omega]
      exact ih)
    simp only [laws_markMarkS.l0, Option.bind_some, Int.toNat_natCast, rd_T43, set_mid, getD_mid]
    rw [if_pos (by simp; omega), if_pos (by omega), w64 (x := n + 1) (by omega) (by omega), w64 (x := n + 1 + 1) (by omega) (by omega), w64 (x := (pre.length : Int) + 1) (by omega) (by omega), show n + 1 + 1 = n + 2 from by omega]
    rfl
theorem markMarkS_ev (s : List Mark) (n : Int) (h0 : 0 ≤ n) (h1 : n + 2 * (s.length : Int) ≤ 1152921504606846976) : Ev (fun k => laws_markMarkS.f k s n) (n + 2 * (s.length : Int), markL n s) :=
  markMarkS_l0 1152921504606846976 (Int.le_refl _) s [] n h0 h1 (by simp; omega)
theorem heldMarkS_l0 (N : Int) (hN : N ≤ 1152921504606846976) : ∀ (s pre : List Mark) (n : Int), 0 ≤ n → n + 2 * (s.length : Int) ≤ N → (pre.length : Int) + s.length ≤ N →
    Ev (fun k => laws_heldMarkS.l0 k (pre ++ markL n s) n (pre.length : Int)) (n + 2 * (s.length : Int))
  | [], pre, n, h0, h1, h2 => by
    refine Ev.step (f := fun _ => some n) (fun k => ?_) (by simp; exact Ev.now _)
    simp only [laws_heldMarkS.l0, markL, List.append_nil]
    rw [if_neg (by omega)]
  | m :: s, pre, n, h0, h1, h2 => by
    simp only [List.length_cons] at h1 h2
    have ih := heldMarkS_l0 N hN s (pre ++ [⟨n, n + 1⟩]) (n + 2) (by omega) (by omega) (by simp; omega)
    simp only [List.length_append, List.length_cons, List.length_nil, List.append_assoc, List.cons_append, List.nil_append] at ih
    refine Ev.step (fun k => ?_) (show Ev _ (n + 2 * ((m :: s).length : Int)) from by
      simp only [List.length_cons]
      rw [show n + 2 * ((s.length + 1 : Nat) : Int) = n + 2 + 2 * (s.length : Int) from by omega]
      exact ih)
    have hr : rd_T43 (pre ++ markL n (m :: s)) (pre.length : Int) = ⟨n, n + 1⟩ := by simp only [rd_T43, Int.toNat_natCast, markL, getD_mid]
    simp only [laws_heldMarkS.l0, hr]
    rw [if_pos (by simp [markL]; omega), if_pos (by omega), w64 (x := n + 1) (by omega) (by omega), if_pos trivial, if_pos rfl, w64 (x := n + 1 + 1) (by omega) (by omega), w64 (x := (pre.length : Int) + 1) (by omega) (by omega), show n + 1 + 1 = n + 2 from by omega]
    rfl
theorem heldMarkS_ev (s : List Mark) (n : Int) (h0 : 0 ≤ n) (h1 : n + 2 * (s.length : Int) ≤ 1152921504606846976) : Ev (fun k => laws_heldMarkS.f k (markL n s) n) (n + 2 * (s.length : Int)) :=
  heldMarkS_l0 1152921504606846976 (Int.le_refl _) s [] n h0 h1 (by simp; omega)
end Go.Proofs.Ytdjhclgkkklajaa.Q

namespace Go.Proofs.Ytdjhclgkkklajaa.P
open Go.RowKit Go.Proofs.YtdjhclgkkklajaaW.PrintWords Go.Proofs.YtdjhclgkkklajaaW.PrintLast Go.Proofs.YtdjhclgkkklajaaW.PrintMore
attribute [local go_sem] max2_int min2_int max_two min_two max_three min_three max_four min_four   -- for this text's walks alone
set_option linter.unusedVariables false
set_option linter.unusedSimpArgs false

/-! ### spec_SeenPut: function 24 -/
def spec_SeenPut.j0 : Nat → List (S43) → Bool → Int → Int → Option ((List (S43)) × Int)
 | 0, _, _, _, _ => none
 | k + 1, x0, x16, x181000, x181001 => if x16 = true then (some (([] : List (S43)), 1)) else ((spec_l02Join.f k x0 (([(⟨x181000, x181001⟩ : S43)] : List (S43)))).bind fun t187 => (some (t187, 0)))
def spec_SeenPut.f (k : Nat) (l0 : List (S43)) (a1_0 : Int) (a1_1 : Int) : Option ((List (S43)) × Int) := if (l0.length : Int) > 400 then (some (([] : List (S43)), 2)) else ((spec_SeenRight.f k l0).bind fun t182 => (if t182 = true then ((spec_l02Dot.f a1_0 a1_1).bind fun t183 => (spec_SeenPut.j0 k l0 (!t183) a1_0 a1_1)) else (spec_SeenPut.j0 k l0 true a1_0 a1_1)))
theorem spec_SeenPut.mono_l : ∀ k, (∀ y0 y1 y2 y3, LeO (spec_SeenPut.j0 k y0 y1 y2 y3) (spec_SeenPut.j0 (k + 1) y0 y1 y2 y3))
 | 0 => fun _ _ _ _ r h => by simp [spec_SeenPut.j0] at h
 | k + 1 => by
  have ih0 := spec_SeenPut.mono_l k
  ·intro y0 y1 y2 y3
   unfold spec_SeenPut.j0
   repeat' first
   | (with_reducible exact ih0 _ _ _ _)
   | (with_reducible exact spec_SeenRight.mono _ _)
   | (with_reducible exact spec_l02Join.mono _ _ _)
   | (with_reducible exact LeO.refl _)
   | (with_reducible exact LeO.none _)
   | (with_reducible refine LeO.ite ?_ ?_)
   | (with_reducible refine LeO.bind ?_ (fun _ => ?_))
   | exact ih0 _ _ _ _
   | exact spec_SeenRight.mono _ _
   | exact spec_l02Join.mono _ _ _
   | exact LeO.none _
   | refine LeO.ite ?_ ?_
   | refine LeO.bind ?_ (fun _ => ?_)
theorem spec_SeenPut.mono : ∀ a0 a1 a2 k, LeO (spec_SeenPut.f k a0 a1 a2) (spec_SeenPut.f (k + 1) a0 a1 a2) := by
 intro a0 a1 a2 k
 have ih0 := spec_SeenPut.mono_l k
 unfold spec_SeenPut.f
 repeat' first
   | (with_reducible exact ih0 _ _ _ _)
   | (with_reducible exact spec_SeenRight.mono _ _)
   | (with_reducible exact spec_l02Join.mono _ _ _)
   | (with_reducible exact LeO.refl _)
   | (with_reducible exact LeO.none _)
   | (with_reducible refine LeO.ite ?_ ?_)
   | (with_reducible refine LeO.bind ?_ (fun _ => ?_))
   | exact ih0 _ _ _ _
   | exact spec_SeenRight.mono _ _
   | exact spec_l02Join.mono _ _ _
   | exact LeO.none _
   | refine LeO.ite ?_ ?_
   | refine LeO.bind ?_ (fun _ => ?_)
end Go.Proofs.Ytdjhclgkkklajaa.P

namespace Go.Proofs.Ytdjhclgkkklajaa.P
open Go.RowKit Go.Proofs.YtdjhclgkkklajaaW.PrintWords Go.Proofs.YtdjhclgkkklajaaW.PrintLast Go.Proofs.YtdjhclgkkklajaaW.PrintMore
attribute [local go_sem] max2_int min2_int max_two min_two max_three min_three max_four min_four   -- for this text's walks alone
set_option linter.unusedVariables false
set_option linter.unusedSimpArgs false

/-! ### impl_SeenPut: function 27 -/
def impl_SeenPut.j0 : Nat → List (S43) → Bool → Int → Int → Option ((List (S43)) × Int)
 | 0, _, _, _, _ => none
 | k + 1, x0, x9, x216000, x216001 => if x9 = true then (some (([] : List (S43)), 1)) else ((impl_seenJoin.f k x0 (([(⟨x216000, x216001⟩ : S43)] : List (S43)))).bind fun t223 => (some (t223, 0)))
def impl_SeenPut.f (k : Nat) (l0 : List (S43)) (a1_0 : Int) (a1_1 : Int) : Option ((List (S43)) × Int) := (impl_isMany_impl_Mark.f l0).bind fun t217 => (if t217 = true then (some (([] : List (S43)), 2)) else ((impl_seenRight.f k l0).bind fun t218 => (if t218 = true then ((impl_isDot.f a1_0 a1_1).bind fun t219 => (impl_SeenPut.j0 k l0 (!t219) a1_0 a1_1)) else (impl_SeenPut.j0 k l0 true a1_0 a1_1))))
theorem impl_SeenPut.mono_l : ∀ k, (∀ y0 y1 y2 y3, LeO (impl_SeenPut.j0 k y0 y1 y2 y3) (impl_SeenPut.j0 (k + 1) y0 y1 y2 y3))
 | 0 => fun _ _ _ _ r h => by simp [impl_SeenPut.j0] at h
 | k + 1 => by
  have ih0 := impl_SeenPut.mono_l k
  ·intro y0 y1 y2 y3
   unfold impl_SeenPut.j0
   repeat' first
   | (with_reducible exact ih0 _ _ _ _)
   | (with_reducible exact impl_seenJoin.mono _ _ _)
   | (with_reducible exact impl_seenRight.mono _ _)
   | (with_reducible exact LeO.refl _)
   | (with_reducible exact LeO.none _)
   | (with_reducible refine LeO.ite ?_ ?_)
   | (with_reducible refine LeO.bind ?_ (fun _ => ?_))
   | exact ih0 _ _ _ _
   | exact impl_seenJoin.mono _ _ _
   | exact impl_seenRight.mono _ _
   | exact LeO.none _
   | refine LeO.ite ?_ ?_
   | refine LeO.bind ?_ (fun _ => ?_)
theorem impl_SeenPut.mono : ∀ a0 a1 a2 k, LeO (impl_SeenPut.f k a0 a1 a2) (impl_SeenPut.f (k + 1) a0 a1 a2) := by
 intro a0 a1 a2 k
 have ih0 := impl_SeenPut.mono_l k
 unfold impl_SeenPut.f
 repeat' first
   | (with_reducible exact ih0 _ _ _ _)
   | (with_reducible exact impl_seenJoin.mono _ _ _)
   | (with_reducible exact impl_seenRight.mono _ _)
   | (with_reducible exact LeO.refl _)
   | (with_reducible exact LeO.none _)
   | (with_reducible refine LeO.ite ?_ ?_)
   | (with_reducible refine LeO.bind ?_ (fun _ => ?_))
   | exact ih0 _ _ _ _
   | exact impl_seenJoin.mono _ _ _
   | exact impl_seenRight.mono _ _
   | exact LeO.none _
   | refine LeO.ite ?_ ?_
   | refine LeO.bind ?_ (fun _ => ?_)
end Go.Proofs.Ytdjhclgkkklajaa.P

namespace Go.Proofs.Ytdjhclgkkklajaa.Q
open Go.RowKit Go.Proofs.Ytdjhclgkkklajaa.P Go.Proofs.YtdjhclgkkklajaaW.PrintWords Go.Proofs.YtdjhclgkkklajaaW.PrintMore

theorem eqSeenOut_ev (v : List Mark) (c : Int) (hv : v.length ≤ 4611686018427387904) : Ev (fun k => laws_eqSeenOut.f k v c v c) true := Ev.bind (eqMarkS_ev v hv) (evPos rfl (evPos rfl (Ev.now _)))
theorem markSeenOut_ev (v : List Mark) (c n : Int) (h0 : 0 ≤ n) (h1 : n + 2 * (v.length : Int) ≤ 1152921504606846976) : Ev (fun k => laws_markSeenOut.f k v c n) (n + 2 * (v.length : Int), markL n v) := Ev.bind (markMarkS_ev v n h0 h1) (Ev.now _)
theorem heldSeenOut_ev (v : List Mark) (c n : Int) (h0 : 0 ≤ n) (h1 : n + 2 * (v.length : Int) ≤ 1152921504606846976) : Ev (fun k => laws_heldSeenOut.f k (markL n v) c n) (n + 2 * (v.length : Int)) := Ev.bind (heldMarkS_ev v n h0 h1) (evNeg (by omega) (Ev.now _))
end Go.Proofs.Ytdjhclgkkklajaa.Q

namespace Go.Proofs.Ytdjhclgkkklajaa.P
open Go.RowKit Go.Proofs.YtdjhclgkkklajaaW.PrintWords Go.Proofs.YtdjhclgkkklajaaW.PrintLast Go.Proofs.YtdjhclgkkklajaaW.PrintMore
attribute [local go_sem] max2_int min2_int max_two min_two max_three min_three max_four min_four   -- for this text's walks alone
set_option linter.unusedVariables false
set_option linter.unusedSimpArgs false

/-! ### spec_NameRight: function 91 -/
mutual
def spec_NameRight.j0 : Nat → ByteArray → Bool → Option (Bool)
 | 0, _, _ => none
 | k + 1, x0, x12 => if x12 = true then (some false) else (spec_NameRight.l0 k x0 0)
def spec_NameRight.l0 : Nat → ByteArray → Int → Option (Bool)
 | 0, _, _ => none
 | k + 1, x0, x3 => if x3 < (x0.size : Int) then (if 0 ≤ x3 then (if (bt x0 x3) ≥ 97 then (if ((bt x0 x3) ≤ 122) then (spec_NameRight.l0 k x0 (wrap64 (x3 + 1))) else (if x3 = 0 then (some false) else (if (bt x0 x3) ≥ 48 then (if ((bt x0 x3) ≤ 57) then (spec_NameRight.l0 k x0 (wrap64 (x3 + 1))) else (if (bt x0 x3) = 95 then (spec_NameRight.l0 k x0 (wrap64 (x3 + 1))) else (some false))) else (if (bt x0 x3) = 95 then (spec_NameRight.l0 k x0 (wrap64 (x3 + 1))) else (some false))))) else (if x3 = 0 then (some false) else (if (bt x0 x3) ≥ 48 then (if ((bt x0 x3) ≤ 57) then (spec_NameRight.l0 k x0 (wrap64 (x3 + 1))) else (if (bt x0 x3) = 95 then (spec_NameRight.l0 k x0 (wrap64 (x3 + 1))) else (some false))) else (if (bt x0 x3) = 95 then (spec_NameRight.l0 k x0 (wrap64 (x3 + 1))) else (some false))))) else (none)) else (some true)
end
def spec_NameRight.f (k : Nat) (a0 : ByteArray) : Option (Bool) := if (a0.size : Int) < 1 then (spec_NameRight.j0 k a0 true) else (spec_NameRight.j0 k a0 (decide ((a0.size : Int) > 20)))
theorem spec_NameRight.mono_l : ∀ k, (∀ y0 y1, LeO (spec_NameRight.j0 k y0 y1) (spec_NameRight.j0 (k + 1) y0 y1)) ∧ (∀ y0 y1, LeO (spec_NameRight.l0 k y0 y1) (spec_NameRight.l0 (k + 1) y0 y1))
 | 0 => ⟨fun _ _ r h => by simp [spec_NameRight.j0] at h, fun _ _ r h => by simp [spec_NameRight.l0] at h⟩
 | k + 1 => by
  obtain ⟨ih0, ih1⟩ := spec_NameRight.mono_l k
  refine ⟨?_, ?_⟩
  ·intro y0 y1
   unfold spec_NameRight.j0
   repeat' first
   | (with_reducible exact ih0 _ _)
   | (with_reducible exact ih1 _ _)
   | (with_reducible exact LeO.refl _)
   | (with_reducible exact LeO.none _)
   | (with_reducible refine LeO.ite ?_ ?_)
   | (with_reducible refine LeO.bind ?_ (fun _ => ?_))
   | exact ih0 _ _
   | exact ih1 _ _
   | exact LeO.none _
   | refine LeO.ite ?_ ?_
   | refine LeO.bind ?_ (fun _ => ?_)
  ·intro y0 y1
   unfold spec_NameRight.l0
   repeat' first
   | (with_reducible exact ih0 _ _)
   | (with_reducible exact ih1 _ _)
   | (with_reducible exact LeO.refl _)
   | (with_reducible exact LeO.none _)
   | (with_reducible refine LeO.ite ?_ ?_)
   | (with_reducible refine LeO.bind ?_ (fun _ => ?_))
   | exact ih0 _ _
   | exact ih1 _ _
   | exact LeO.none _
   | refine LeO.ite ?_ ?_
   | refine LeO.bind ?_ (fun _ => ?_)
theorem spec_NameRight.mono : ∀ a0 k, LeO (spec_NameRight.f k a0) (spec_NameRight.f (k + 1) a0) := by
 intro a0 k
 obtain ⟨ih0, ih1⟩ := spec_NameRight.mono_l k
 unfold spec_NameRight.f
 repeat' first
   | (with_reducible exact ih0 _ _)
   | (with_reducible exact ih1 _ _)
   | (with_reducible exact LeO.refl _)
   | (with_reducible exact LeO.none _)
   | (with_reducible refine LeO.ite ?_ ?_)
   | (with_reducible refine LeO.bind ?_ (fun _ => ?_))
   | exact ih0 _ _
   | exact ih1 _ _
   | exact LeO.none _
   | refine LeO.ite ?_ ?_
   | refine LeO.bind ?_ (fun _ => ?_)
end Go.Proofs.Ytdjhclgkkklajaa.P

namespace Go.Proofs.Ytdjhclgkkklajaa.P
open Go.RowKit Go.Proofs.YtdjhclgkkklajaaW.PrintWords Go.Proofs.YtdjhclgkkklajaaW.PrintLast Go.Proofs.YtdjhclgkkklajaaW.PrintMore
attribute [local go_sem] max2_int min2_int max_two min_two max_three min_three max_four min_four   -- for this text's walks alone
set_option linter.unusedVariables false
set_option linter.unusedSimpArgs false

/-! ### impl_NameRight: function 93 -/
mutual
def impl_NameRight.j0 : Nat → ByteArray → Bool → Option (Bool)
 | 0, _, _ => none
 | k + 1, x0, x18 => if x18 = true then (some false) else (impl_NameRight.l0 k x0 (x0.size : Int) 0)
def impl_NameRight.l0 : Nat → ByteArray → Int → Int → Option (Bool)
 | 0, _, _, _ => none
 | k + 1, x0, x20, x21 => if x21 < x20 then (if 0 ≤ x21 then (if x21 < (x0.size : Int) then (if (bt x0 x21) ≥ 97 then (if (bt x0 x21) ≤ 122 then (impl_NameRight.l0 k x0 x20 (wrap64 (x21 + 1))) else (if (bt x0 x21) ≥ 48 then (if (bt x0 x21) ≤ 57 then (impl_NameRight.l0 k x0 x20 (wrap64 (x21 + 1))) else (if ((bt x0 x21) = 95) then (impl_NameRight.l0 k x0 x20 (wrap64 (x21 + 1))) else (some false))) else (if ((bt x0 x21) = 95) then (impl_NameRight.l0 k x0 x20 (wrap64 (x21 + 1))) else (some false)))) else (if (bt x0 x21) ≥ 48 then (if (bt x0 x21) ≤ 57 then (impl_NameRight.l0 k x0 x20 (wrap64 (x21 + 1))) else (if ((bt x0 x21) = 95) then (impl_NameRight.l0 k x0 x20 (wrap64 (x21 + 1))) else (some false))) else (if ((bt x0 x21) = 95) then (impl_NameRight.l0 k x0 x20 (wrap64 (x21 + 1))) else (some false)))) else (none)) else (none)) else (some true)
end
def impl_NameRight.f (k : Nat) (a0 : ByteArray) : Option (Bool) := (impl_size.f a0).bind fun t361 => ((impl_within.f t361 1 20).bind fun t362 => (if t362 = true then (if 0 < (a0.size : Int) then (if (bt a0 0) < 97 then (impl_NameRight.j0 k a0 true) else (impl_NameRight.j0 k a0 (decide ((bt a0 0) > 122)))) else (none)) else (impl_NameRight.j0 k a0 true)))
theorem impl_NameRight.mono_l : ∀ k, (∀ y0 y1, LeO (impl_NameRight.j0 k y0 y1) (impl_NameRight.j0 (k + 1) y0 y1)) ∧ (∀ y0 y1 y2, LeO (impl_NameRight.l0 k y0 y1 y2) (impl_NameRight.l0 (k + 1) y0 y1 y2))
 | 0 => ⟨fun _ _ r h => by simp [impl_NameRight.j0] at h, fun _ _ _ r h => by simp [impl_NameRight.l0] at h⟩
 | k + 1 => by
  obtain ⟨ih0, ih1⟩ := impl_NameRight.mono_l k
  refine ⟨?_, ?_⟩
  ·intro y0 y1
   unfold impl_NameRight.j0
   repeat' first
   | (with_reducible exact ih0 _ _)
   | (with_reducible exact ih1 _ _ _)
   | (with_reducible exact LeO.refl _)
   | (with_reducible exact LeO.none _)
   | (with_reducible refine LeO.ite ?_ ?_)
   | (with_reducible refine LeO.bind ?_ (fun _ => ?_))
   | exact ih0 _ _
   | exact ih1 _ _ _
   | exact LeO.none _
   | refine LeO.ite ?_ ?_
   | refine LeO.bind ?_ (fun _ => ?_)
  ·intro y0 y1 y2
   unfold impl_NameRight.l0
   repeat' first
   | (with_reducible exact ih0 _ _)
   | (with_reducible exact ih1 _ _ _)
   | (with_reducible exact LeO.refl _)
   | (with_reducible exact LeO.none _)
   | (with_reducible refine LeO.ite ?_ ?_)
   | (with_reducible refine LeO.bind ?_ (fun _ => ?_))
   | exact ih0 _ _
   | exact ih1 _ _ _
   | exact LeO.none _
   | refine LeO.ite ?_ ?_
   | refine LeO.bind ?_ (fun _ => ?_)
theorem impl_NameRight.mono : ∀ a0 k, LeO (impl_NameRight.f k a0) (impl_NameRight.f (k + 1) a0) := by
 intro a0 k
 obtain ⟨ih0, ih1⟩ := impl_NameRight.mono_l k
 unfold impl_NameRight.f
 repeat' first
   | (with_reducible exact ih0 _ _)
   | (with_reducible exact ih1 _ _ _)
   | (with_reducible exact LeO.refl _)
   | (with_reducible exact LeO.none _)
   | (with_reducible refine LeO.ite ?_ ?_)
   | (with_reducible refine LeO.bind ?_ (fun _ => ?_))
   | exact ih0 _ _
   | exact ih1 _ _ _
   | exact LeO.none _
   | refine LeO.ite ?_ ?_
   | refine LeO.bind ?_ (fun _ => ?_)
end Go.Proofs.Ytdjhclgkkklajaa.P

namespace Go.Proofs.Ytdjhclgkkklajaa.Q
open Go.RowKit Go.Proofs.Ytdjhclgkkklajaa.P Go.Proofs.YtdjhclgkkklajaaW.PrintWords Go.Proofs.YtdjhclgkkklajaaW.PrintMore

theorem bt_of {s : ByteArray} {i : Nat} {c : Int} (h : (bytesOf s).getD i 0 = c) : bt s (i : Int) = c := by
  rw [← rd_bytesOf]; simpa [rd] using h
end Go.Proofs.Ytdjhclgkkklajaa.Q

namespace Go.Proofs.Ytdjhclgkkklajaa.Q
open Go.RowKit Go.Proofs.Ytdjhclgkkklajaa.P Go.Proofs.YtdjhclgkkklajaaW.PrintWords Go.Proofs.YtdjhclgkkklajaaW.PrintMore

theorem bits_xor_nat (k : IntKind) (j : Nat) (hj : j ≤ k.bits) (hk : ∀ n : Int, 0 ≤ n → n < 2 ^ j → k.wrap n = n) (a b : Nat) (ha : a < 2 ^ j) (hb : b < 2 ^ j) : bits .xor k a b = ((a ^^^ b : Nat) : Int) := by
  have hp : 2 ^ j ≤ 2 ^ k.bits := Nat.pow_le_pow_right (by decide) hj
  have ha' : a % 2 ^ k.bits = a := Nat.mod_eq_of_lt (Nat.lt_of_lt_of_le ha hp)
  have hb' : b % 2 ^ k.bits = b := Nat.mod_eq_of_lt (Nat.lt_of_lt_of_le hb hp)
  simp only [bits, BitVec.ofInt_natCast, BitVec.toNat_xor, BitVec.toNat_ofNat, ha', hb']
  exact hk _ (Int.natCast_nonneg _) (by exact_mod_cast Nat.xor_lt_two_pow ha hb)
end Go.Proofs.Ytdjhclgkkklajaa.Q

namespace Go.Proofs.Ytdjhclgkkklajaa.P
open Go.RowKit Go.Proofs.YtdjhclgkkklajaaW.PrintWords Go.Proofs.YtdjhclgkkklajaaW.PrintLast Go.Proofs.YtdjhclgkkklajaaW.PrintMore
attribute [local go_sem] max2_int min2_int max_two min_two max_three min_three max_four min_four   -- for this text's walks alone
set_option linter.unusedVariables false
set_option linter.unusedSimpArgs false

/-! ### impl_GetText: function 22 -/
def impl_GetText.f (k : Nat) (a0 : ByteArray) (a1 : Int) : Option (ByteArray × Int × Int) := (impl_GetNum.f k a0 a1).bind fun bt155 => (if bt155.2.2 = 0 then ((impl_within.f bt155.1 0 8000).bind fun t159 => (if t159 = true then ((impl_size.f a0).bind fun t160 => (if bt155.1 > (wrap64 (t160 - bt155.2.1)) then (some ((⟨#[]⟩ : ByteArray), 0, 4)) else (if 0 ≤ bt155.2.1 then (if bt155.2.1 ≤ (wrap64 (bt155.2.1 + bt155.1)) then (if (wrap64 (bt155.2.1 + bt155.1)) ≤ (a0.size : Int) then (some (a0.extract (bt155.2.1 : Int).toNat ((wrap64 (bt155.2.1 + bt155.1)) : Int).toNat, wrap64 (bt155.2.1 + bt155.1), 0)) else (none)) else (none)) else (none)))) else (some ((⟨#[]⟩ : ByteArray), 0, 3)))) else (some ((⟨#[]⟩ : ByteArray), 0, bt155.2.2)))
theorem impl_GetText.mono : ∀ a0 a1 k, LeO (impl_GetText.f k a0 a1) (impl_GetText.f (k + 1) a0 a1) := by
 intro a0 a1 k
 unfold impl_GetText.f
 repeat' first
   | (with_reducible exact impl_GetNum.mono _ _ _)
   | (with_reducible exact LeO.refl _)
   | (with_reducible exact LeO.none _)
   | (with_reducible refine LeO.ite ?_ ?_)
   | (with_reducible refine LeO.bind ?_ (fun _ => ?_))
   | exact impl_GetNum.mono _ _ _
   | exact LeO.none _
   | refine LeO.ite ?_ ?_
   | refine LeO.bind ?_ (fun _ => ?_)
end Go.Proofs.Ytdjhclgkkklajaa.P

namespace Go.Proofs.Ytdjhclgkkklajaa.Q
open Go.RowKit Go.Proofs.Ytdjhclgkkklajaa.P Go.Proofs.YtdjhclgkkklajaaW.PrintWords Go.Proofs.YtdjhclgkkklajaaW.PrintMore

def unzig (u : Int) : Int := if u % 2 = 1 then -(u / 2) - 1 else u / 2
/-- f more bytes; the bytes left; the number so far; the place; the weight of the next seven bits. -/
def numGo : Nat → List Int → Int → Int → Int → Int × Int × Int
  | 0, _, _, _, _ => (0, 0, 3)
  | _ + 1, [], _, _, _ => (0, 0, 4)
  | f + 1, c :: r, u, p, w =>
    if f = 0 ∧ c > 1 then (0, 0, 3)
    else if c < 128 then (if c = 0 ∧ f < 9 then (0, 0, 3) else (unzig (u + c % 128 * w), p + 1, 0))
    else numGo f r (u + c % 128 * w) (p + 1) (w * 128)
def getNum (s : ByteArray) (at_ : Int) : Int × Int × Int :=
  if 8000 < s.size then (0, 0, 2) else if at_ < 0 then (0, 0, 1) else numGo 10 ((bytesOf s).drop at_.toNat) 0 at_ 1
theorem pow_le_pow_ {b : Int} (hb : 1 ≤ b) {i j : Nat} (h : i ≤ j) : b ^ i ≤ b ^ j := by
  induction h with
  | refl => exact Int.le_refl _
  | step h ih =>
    rw [Int.pow_succ]
    have h0 : 0 ≤ b ^ i := Int.le_of_lt (Int.pow_pos (by omega))
    have h1 := Int.mul_le_mul_of_nonneg_left hb (Int.le_trans h0 ih)
    omega
theorem bits_or_comm (k : IntKind) (a b : Int) : Go.bits .or k a b = Go.bits .or k b a := by
  simp only [bits, BitVec.or_comm]
theorem u64_or_add {i : Nat} (hi : i ≤ 9) {x y : Int} (hx : 0 ≤ x) (hx' : x < 2 ^ (7 * i)) (hy : 0 ≤ y) (hy' : y % 2 ^ (7 * i) = 0) (hy2 : y < 18446744073709551616) : Go.bits .or .u64 x y = x + y := by
  have hp : (2 : Int) ^ (7 * i) ≤ 2 ^ 63 := pow_le_pow_ (by omega) (by omega)
  rw [bits_or_comm, bits_join .u64 64 (by decide) wraps_u64 (7 * i) y x hy hy' (by omega) hx hx' (by omega)]
  omega
theorem xor_i64_zero {x : Int} (h0 : 0 ≤ x) (h1 : x < 9223372036854775808) : Go.bits .xor .i64 x 0 = x := by
  obtain ⟨a, rfl⟩ := Int.eq_ofNat_of_zero_le h0
  have := bits_xor_nat .i64 63 (by decide) wraps_i64 a 0 (by omega) (by omega)
  simpa using this
theorem xor_i64_ones {x : Int} (h0 : 0 ≤ x) (h1 : x < 9223372036854775808) : Go.bits .xor .i64 x (-1) = -x - 1 := by
  obtain ⟨a, rfl⟩ := Int.eq_ofNat_of_zero_le h0
  have ha : a < 2 ^ 64 := by omega
  have hw : IntKind.bits .i64 = 64 := rfl
  simp only [bits]
  rw [BitVec.ofInt_natCast]
  have h2 : (BitVec.ofInt (IntKind.bits .i64) (-1)) = BitVec.allOnes _ := by decide
  rw [h2, BitVec.xor_allOnes, BitVec.toNat_not, BitVec.toNat_ofNat, hw, Nat.mod_eq_of_lt ha, IntKind.wrap_i64]
  omega
theorem u64_and1 {x : Int} (h₀ : 0 ≤ x) (h₁ : x < 18446744073709551616) : Go.bits .and .u64 x 1 = x % 2 := bits_mask .u64 64 (by decide) wraps_u64 1 (by decide) x h₀ h₁
theorem u8_and127 {x : Int} (h₀ : 0 ≤ x) (h₁ : x < 256) : Go.bits .and .u8 x 127 = x % 128 := bits_mask .u8 8 (by decide) wraps_u8 7 (by decide) x h₀ h₁
theorem pow128 (i : Nat) : (2 : Int) ^ (7 * i) = 128 ^ i := by rw [Int.pow_mul]; rfl
theorem pow128_pos (i : Nat) : 0 < (128 : Int) ^ i := Int.pow_pos (by omega)
theorem pow128_le {i j : Nat} (h : i ≤ j) : (128 : Int) ^ i ≤ 128 ^ j := pow_le_pow_ (by omega) h
/-- The number with seven bits more: where the sum lies. -/
theorem sum_range {i : Nat} (hi : i ≤ 9) {u c : Int} (hu0 : 0 ≤ u) (hu : u < 128 ^ i) (hc0 : 0 ≤ c) (hc : c < 256) (h9 : i = 9 → c ≤ 1) :
    0 ≤ c % 128 * 128 ^ i ∧ c % 128 * 128 ^ i < 18446744073709551616 ∧ u + c % 128 * 128 ^ i < 18446744073709551616 ∧ (i < 9 → u + c % 128 * 128 ^ i < 128 ^ (i + 1)) := by
  have hp := pow128_pos i
  have h0 : 0 ≤ c % 128 * 128 ^ i := Int.mul_nonneg (by omega) (by omega)
  rcases Nat.lt_or_ge i 9 with h | h
  · have h1 : c % 128 * 128 ^ i ≤ 127 * 128 ^ i := Int.mul_le_mul_of_nonneg_right (by omega) (by omega)
    have h2 : (128 : Int) ^ i ≤ 128 ^ 8 := pow128_le (by omega)
    have h3 : (128 : Int) ^ (i + 1) = 128 ^ i * 128 := Int.pow_succ _ _
    refine ⟨h0, by omega, by omega, fun _ => by omega⟩
  · obtain rfl : i = 9 := by omega
    have h1 : c % 128 * 128 ^ 9 ≤ 1 * 128 ^ 9 := Int.mul_le_mul_of_nonneg_right (by have := h9 rfl; omega) (by omega)
    refine ⟨h0, by omega, by omega, fun h => by omega⟩
theorem shl_is {i : Nat} (hi : i ≤ 9) {u c : Int} (hu0 : 0 ≤ u) (hu : u < 128 ^ i) (hc0 : 0 ≤ c) (hc : c < 256) (h9 : i = 9 → c ≤ 1) : shl .u64 (c % 128) (7 * (i : Int)) = c % 128 * 128 ^ i := by
  have h := sum_range hi hu0 hu hc0 hc h9
  unfold shl
  rw [show min (7 * (i : Int)).toNat (IntKind.bits .u64) = 7 * i from by simp only [IntKind.bits]; omega, pow128, u64w]
  omega
theorem numGo_place : ∀ (f : Nat) (bs : List Int) (u p w : Int), 0 ≤ p → ∀ n q c, numGo f bs u p w = (n, q, c) → c = 0 → p + 1 ≤ q ∧ q ≤ p + bs.length
  | 0, _, _, _, _, _, _, _, _, h, hc => by simp [numGo] at h; omega
  | _ + 1, [], _, _, _, _, _, _, _, h, hc => by simp [numGo] at h; omega
  | f + 1, c :: r, u, p, w, hp, n, q, d, h, hd => by
    simp only [numGo] at h
    split at h
    · simp at h; omega
    · split at h
      · split at h
        · simp at h; omega
        · simp at h; simp; omega
      · have := numGo_place f r _ (p + 1) _ (by omega) n q d h hd
        simp; omega
theorem drop_bt {s : ByteArray} {j : Nat} {c : Int} {r : List Int} (h : (bytesOf s).drop j = c :: r) : j < s.size ∧ bt s (j : Int) = c ∧ (bytesOf s).drop (j + 1) = r ∧ 0 ≤ c ∧ c < 256 := by
  obtain ⟨g1, g2, g3⟩ := dropCons h 0
  rw [bytesOf_length] at g1
  have hb := bt_of g2
  have hr := bt_range s (j : Int)
  rw [hb] at hr
  exact ⟨g1, hb, g3, hr.1, by omega⟩
theorem drop_nil_size {s : ByteArray} {j : Nat} (h : (bytesOf s).drop j = []) : s.size ≤ j := by
  have := dropNil h
  rwa [bytesOf_length] at this
theorem spec_num_end {k : Nat} {x1 u : Int} {i : Nat} (hu0 : 0 ≤ u) (hu : u < 18446744073709551616) (h1 : 0 ≤ x1 + i) (h2 : x1 + i < 9000) :
    spec_GetNum.j2 (k + 1) x1 u (i : Int) false = some (unzig u, x1 + i + 1, 0) := by
  simp only [spec_GetNum.j2]
  rw [if_neg (by simp)]
  rw [Int.tmod_eq_emod_of_nonneg hu0, Int.tdiv_eq_ediv_of_nonneg hu0, u64w, w64 (x := x1 + i) (by omega) (by omega), w64 (x := x1 + i + 1) (by omega) (by omega), show u / 2 % 18446744073709551616 = u / 2 from by omega,
    w64 (x := u / 2) (by omega) (by omega), w64 (x := -(u / 2)) (by omega) (by omega), w64 (x := -(u / 2) - 1) (by omega) (by omega)]
  unfold unzig
  split <;> rfl
theorem spec_num_go (s : ByteArray) (hs : s.size ≤ 8000) (x1 : Int) (hx : 0 ≤ x1) (hx2 : x1 ≤ 9223372036854775807) : ∀ (f i : Nat), f + i = 10 → ∀ (bs : List Int), (bytesOf s).drop (x1.toNat + i) = bs → ∀ u : Int, 0 ≤ u → u < 128 ^ i →
    Ev (fun k => spec_GetNum.l0 k s x1 u (i : Int)) (numGo f bs u (x1 + i) (128 ^ i))
  | 0, i, hf, bs, hb, u, hu0, hu => by
    refine Ev.step (f := fun _ => some (0, 0, 3)) (fun k => ?_) (by simp only [numGo]; exact Ev.now _)
    simp only [spec_GetNum.l0]
    rw [if_neg (by omega)]
  | f + 1, i, hf, [], hb, u, hu0, hu => by
    have := drop_nil_size hb
    refine Ev.step (f := fun _ => some (0, 0, 4)) (fun k => ?_) (by simp only [numGo]; exact Ev.now _)
    simp only [spec_GetNum.l0]
    rw [if_pos (by omega), w64 (by omega) (by omega), if_pos (by omega)]
  | f + 1, i, hf, c :: r, hb, u, hu0, hu => by
    obtain ⟨g1, g2, g3, g4, g5⟩ := drop_bt hb
    have ex : x1 + i = ((x1.toNat + i : Nat) : Int) := by omega
    have hl0 : ∀ k, spec_GetNum.l0 (k + 1) s x1 u (i : Int) = spec_GetNum.j1 k s x1 u (i : Int) c (decide (i = 9 ∧ c > 1)) := fun k => by
      simp only [spec_GetNum.l0]
      rw [if_pos (by omega), w64 (x := (s.size : Int) - i) (by omega) (by omega), if_neg (by omega), w64 (x := x1 + i) (by omega) (by omega), if_pos (by omega), if_pos (by omega), ex, g2, u64w, show c % 18446744073709551616 = c from by omega]
      by_cases h9 : i = 9
      · subst h9
        rw [if_pos (by omega)]; simp
      · rw [if_neg (by omega)]; simp [h9]
    by_cases hbad : i = 9 ∧ c > 1
    · refine Ev.step hl0 (Ev.step (f := fun _ => some (0, 0, 3)) (fun k => ?_) ?_)
      · simp only [hbad, spec_GetNum.j1]; simp
      · have hf0 : f = 0 := by omega
        simp only [numGo, hf0, hbad.2, and_self, if_true]; exact Ev.now _
    · have h9 : i = 9 → c ≤ 1 := fun e => by omega
      have hsum := sum_range (by omega) hu0 hu g4 g5 h9
      have hsh := shl_is (by omega) hu0 hu g4 g5 h9
      have hj1 : ∀ k, spec_GetNum.j1 (k + 1) s x1 u (i : Int) c (decide (i = 9 ∧ c > 1)) = if c < 128 then spec_GetNum.j2 k x1 (u + c % 128 * 128 ^ i) (i : Int) (decide (c = 0 ∧ (i : Int) > 0)) else spec_GetNum.l0 k s x1 (u + c % 128 * 128 ^ i) ((i + 1 : Nat) : Int) := fun k => by
        simp only [hbad, decide_false, spec_GetNum.j1]
        rw [if_neg (by simp), w64 (x := 7 * (i : Int)) (by omega) (by omega), u64w, show 7 * (i : Int) % 18446744073709551616 = 7 * (i : Int) from by omega, if_pos (by omega), Int.tmod_eq_emod_of_nonneg g4, hsh, u64w,
          show (u + c % 128 * 128 ^ i) % 18446744073709551616 = u + c % 128 * 128 ^ i from by omega, w64 (x := (i : Int) + 1) (by omega) (by omega)]
        by_cases hc : c < 128
        · rw [if_pos hc, if_pos hc]
          by_cases h0 : c = 0
          · rw [if_pos h0]; simp [h0]
          · rw [if_neg h0]; simp [h0]
        · rw [if_neg hc, if_neg hc]; rfl
      refine Ev.step hl0 (Ev.step hj1 ?_)
      have hng : ¬ (f = 0 ∧ c > 1) := fun e => hbad ⟨by omega, e.2⟩
      simp only [numGo, if_neg hng]
      refine evIte (fun hc => ?_) (fun hc => ?_)
      · rw [if_pos hc]
        by_cases h0 : c = 0 ∧ (i : Int) > 0
        · rw [if_pos (by omega)]
          refine Ev.step (f := fun _ => some (0, 0, 3)) (fun k => ?_) (Ev.now _)
          simp only [h0, spec_GetNum.j2]; simp
        · rw [if_neg (by omega)]
          refine Ev.step (f := fun _ => _) (fun k => ?_) (Ev.now _)
          simp only [h0, decide_false]
          exact spec_num_end (by omega) (by omega) (by omega) (by omega)
      · rw [if_neg hc]
        have h8 : i < 9 := by
          rcases Nat.lt_or_ge i 9 with h | h
          · exact h
          · have := h9 (by omega); omega
        have ih := spec_num_go s hs x1 hx hx2 f (i + 1) (by omega) r (by rw [← g3]; congr 1) (u + c % 128 * 128 ^ i) (by omega) (hsum.2.2.2 h8)
        rw [show x1 + ((i + 1 : Nat) : Int) = x1 + i + 1 from by omega, Int.pow_succ] at ih
        exact ih
theorem spec_GetNum_ev (s : ByteArray) (x1 : Int) (h1 : -9223372036854775808 ≤ x1) (h2 : x1 ≤ 9223372036854775807) : Ev (fun k => spec_GetNum.f k s x1) (getNum s x1) := by
  unfold spec_GetNum.f getNum
  by_cases h : 8000 < s.size
  · rw [if_pos h]; exact evPos (by omega) (Ev.now _)
  · rw [if_neg h]
    refine evNeg (by omega) ?_
    by_cases h0 : x1 < 0
    · rw [if_pos h0]; exact evPos h0 (Ev.now _)
    · rw [if_neg h0]
      refine evNeg h0 ?_
      have := spec_num_go s (by omega) x1 (by omega) h2 10 0 rfl _ rfl 0 (by omega) (by simp)
      simpa using this
theorem impl_num_end {x1 u : Int} {i : Nat} (hu0 : 0 ≤ u) (hu : u < 18446744073709551616) (h1 : 0 ≤ x1 + i) (h2 : x1 + i < 9000) :
    (Go.bits .xor .i64 (wrap64 (u / 2)) (wrap64 (-(wrap64 (Go.bits .and .u64 u 1)))), wrap64 ((wrap64 (x1 + i)) + 1), (0 : Int)) = (unzig u, x1 + i + 1, 0) := by
  rw [u64_and1 hu0 hu, w64 (x := x1 + i) (by omega) (by omega), w64 (x := x1 + i + 1) (by omega) (by omega), w64 (x := u / 2) (by omega) (by omega), w64 (x := u % 2) (by omega) (by omega), w64 (x := -(u % 2)) (by omega) (by omega)]
  unfold unzig
  split
  · rename_i h
    rw [h, xor_i64_ones (by omega) (by omega)]
  · rename_i h
    rw [show -(u % 2) = 0 from by omega, xor_i64_zero (by omega) (by omega)]
theorem impl_num_go (s : ByteArray) (hs : s.size ≤ 8000) (x1 : Int) (hx : 0 ≤ x1) (hx2 : x1 ≤ 9223372036854775807) : ∀ (f i : Nat), f + i = 10 → ∀ (bs : List Int), (bytesOf s).drop (x1.toNat + i) = bs → ∀ u : Int, 0 ≤ u → u < 128 ^ i →
    Ev (fun k => impl_GetNum.l0 k s x1 u (i : Int)) (numGo f bs u (x1 + i) (128 ^ i))
  | 0, i, hf, bs, hb, u, hu0, hu => by
    refine Ev.step (f := fun _ => some (0, 0, 3)) (fun k => ?_) (by simp only [numGo]; exact Ev.now _)
    simp only [impl_GetNum.l0]
    rw [if_neg (by omega)]
  | f + 1, i, hf, [], hb, u, hu0, hu => by
    have := drop_nil_size hb
    refine Ev.step (f := fun k => impl_GetNum.j1 k s x1 u (i : Int) (i : Int) true) (fun k => ?_) (Ev.step (f := fun _ => some (0, 0, 4)) (fun k => ?_) (by simp only [numGo]; exact Ev.now _))
    · simp only [impl_GetNum.l0, impl_size.f, Option.bind_some]
      rw [if_pos (by omega)]
      by_cases h : x1 ≥ (s.size : Int)
      · rw [if_pos h]
      · rw [if_neg h, w64 (x := (s.size : Int) - x1) (by omega) (by omega)]
        congr 1
        simp; omega
    · simp [impl_GetNum.j1]
  | f + 1, i, hf, c :: r, hb, u, hu0, hu => by
    obtain ⟨g1, g2, g3, g4, g5⟩ := drop_bt hb
    have ex : x1 + i = ((x1.toNat + i : Nat) : Int) := by omega
    have hl0 : ∀ k, impl_GetNum.l0 (k + 1) s x1 u (i : Int) = impl_GetNum.j1 k s x1 u (i : Int) (i : Int) false := fun k => by
      simp only [impl_GetNum.l0, impl_size.f, Option.bind_some]
      rw [if_pos (by omega), if_neg (by omega), w64 (x := (s.size : Int) - x1) (by omega) (by omega)]
      congr 1
      simp; omega
    have hj1 : ∀ k, impl_GetNum.j1 (k + 1) s x1 u (i : Int) (i : Int) false = impl_GetNum.j2 k s x1 u (i : Int) c (i : Int) (decide (i = 9 ∧ c > 1)) := fun k => by
      simp only [impl_GetNum.j1]
      rw [if_neg (by simp), w64 (x := x1 + i) (by omega) (by omega), if_pos (by omega), if_pos (by omega), ex, g2]
      by_cases h9 : i = 9
      · subst h9
        rw [if_pos (by omega)]; simp
      · rw [if_neg (by omega)]; simp [h9]
    refine Ev.step hl0 (Ev.step hj1 ?_)
    by_cases hbad : i = 9 ∧ c > 1
    · refine Ev.step (f := fun _ => some (0, 0, 3)) (fun k => ?_) ?_
      · simp only [hbad, impl_GetNum.j2]; simp
      · have hf0 : f = 0 := by omega
        simp only [numGo, hf0, hbad.2, and_self, if_true]; exact Ev.now _
    · have h9 : i = 9 → c ≤ 1 := fun e => by omega
      have hsum := sum_range (by omega) hu0 hu g4 g5 h9
      have hsh := shl_is (by omega) hu0 hu g4 g5 h9
      have hmod : c % 128 * 128 ^ i % 2 ^ (7 * i) = 0 := by rw [pow128]; exact Int.mul_emod_left _ _
      have hor := u64_or_add (i := i) (by omega) hu0 (by rw [pow128]; exact hu) hsum.1 hmod hsum.2.1
      have hj2 : ∀ k, impl_GetNum.j2 (k + 1) s x1 u (i : Int) c (i : Int) (decide (i = 9 ∧ c > 1)) = if c < 128 then (if c = 0 ∧ (i : Int) > 0 then some (0, 0, 3) else some (unzig (u + c % 128 * 128 ^ i), x1 + i + 1, 0)) else impl_GetNum.l0 k s x1 (u + c % 128 * 128 ^ i) ((i + 1 : Nat) : Int) := fun k => by
        simp only [hbad, decide_false, impl_GetNum.j2]
        rw [if_neg (by simp), u64w, u64w, show (i : Int) % 18446744073709551616 = i from by omega, show 7 * (i : Int) % 18446744073709551616 = 7 * (i : Int) from by omega, if_pos (by omega), u8_and127 g4 g5, u64w, show c % 128 % 18446744073709551616 = c % 128 from by omega, hsh, hor,
          w64 (x := (i : Int) + 1) (by omega) (by omega), impl_num_end (by omega) (by omega) (by omega) (by omega)]
        by_cases hc : c < 128
        · rw [if_pos hc, if_pos hc]
          by_cases h0 : c = 0
          · rw [if_pos h0]
            by_cases hi : (i : Int) > 0
            · rw [if_pos hi, if_pos ⟨h0, hi⟩]
            · rw [if_neg hi, if_neg (fun e => hi e.2)]
          · rw [if_neg h0, if_neg (fun e => h0 e.1)]
        · rw [if_neg hc, if_neg hc]; rfl
      refine Ev.step hj2 ?_
      have hng : ¬ (f = 0 ∧ c > 1) := fun e => hbad ⟨by omega, e.2⟩
      simp only [numGo, if_neg hng]
      refine evIte (fun hc => ?_) (fun hc => ?_)
      · rw [if_pos hc]
        by_cases h0 : c = 0 ∧ (i : Int) > 0
        · rw [if_pos (show c = 0 ∧ f < 9 by omega)]; simp only [if_pos h0]; exact Ev.now _
        · rw [if_neg (show ¬ (c = 0 ∧ f < 9) by omega)]; simp only [if_neg h0]; exact Ev.now _
      · rw [if_neg hc]
        have h8 : i < 9 := by
          rcases Nat.lt_or_ge i 9 with h | h
          · exact h
          · have := h9 (by omega); omega
        have ih := impl_num_go s hs x1 hx hx2 f (i + 1) (by omega) r (by rw [← g3]; congr 1) (u + c % 128 * 128 ^ i) (by omega) (hsum.2.2.2 h8)
        rw [show x1 + ((i + 1 : Nat) : Int) = x1 + i + 1 from by omega, Int.pow_succ] at ih
        exact ih
theorem impl_GetNum_ev (s : ByteArray) (x1 : Int) (h1 : -9223372036854775808 ≤ x1) (h2 : x1 ≤ 9223372036854775807) : Ev (fun k => impl_GetNum.f k s x1) (getNum s x1) := by
  unfold impl_GetNum.f getNum
  refine Ev.bind (isLong1_ev s) ?_
  by_cases h : 8000 < s.size
  · rw [if_pos h]; exact evPos (by simpa using h) (Ev.now _)
  · rw [if_neg h]
    refine evNeg (by simpa using h) ?_
    by_cases h0 : x1 < 0
    · rw [if_pos h0]; exact evPos h0 (Ev.now _)
    · rw [if_neg h0]
      refine evNeg h0 ?_
      have := impl_num_go s (by omega) x1 (by omega) h2 10 0 rfl _ rfl 0 (by omega) (by simp)
      simpa using this
theorem getNum_place {s : ByteArray} {x1 n p : Int} (h : getNum s x1 = (n, p, 0)) : s.size ≤ 8000 ∧ 0 ≤ x1 ∧ x1 + 1 ≤ p ∧ p ≤ s.size := by
  unfold getNum at h
  split at h
  · simp at h
  · split at h
    · simp at h
    · have := numGo_place 10 _ 0 x1 1 (by omega) n p 0 h rfl
      rw [List.length_drop, bytesOf_length] at this
      omega
end Go.Proofs.Ytdjhclgkkklajaa.Q

namespace Go.Proofs.Ytdjhclgkkklajaa.Q
open Go.RowKit Go.Proofs.Ytdjhclgkkklajaa.P Go.Proofs.YtdjhclgkkklajaaW.PrintWords Go.Proofs.YtdjhclgkkklajaaW.PrintMore

theorem zig_unzig {u : Int} (h : 0 ≤ u) : zig (unzig u) = u := by
  unfold zig unzig
  split <;> split <;> omega
theorem vbytes_small (f : Nat) {c : Int} (h0 : 0 ≤ c) (h1 : c < 128) : vbytes f c = [c] := by
  cases f with
  | zero => simp only [vbytes]; rw [show c % 256 = c from by omega]
  | succ f => simp only [vbytes]; rw [if_neg (by omega), show c % 256 = c from by omega]
theorem numGo_canon : ∀ (f : Nat), f ≤ 9 → ∀ (bs : List Int) (u p w n q : Int), (∀ c ∈ bs, 0 ≤ c ∧ c < 256) → numGo (f + 1) bs u p w = (n, q, 0) →
    ∃ v r, 0 ≤ v ∧ (f < 9 → 1 ≤ v) ∧ bs = vbytes f v ++ r ∧ q = p + ((vbytes f v).length : Int) ∧ n = unzig (u + v * w)
  | f, _, [], u, p, w, n, q, _, h => by simp [numGo] at h
  | f, hf9, c :: r, u, p, w, n, q, hb, h => by
    have hc := hb c List.mem_cons_self
    simp only [numGo] at h
    split at h
    · simp at h
    · rename_i h1
      split at h
      · rename_i h2
        split at h
        · simp at h
        · rename_i h3
          simp only [Prod.mk.injEq, and_true] at h
          refine ⟨c, r, hc.1, fun hf => by omega, ?_, ?_, ?_⟩
          · rw [vbytes_small f hc.1 h2]; rfl
          · rw [vbytes_small f hc.1 h2]; simp; omega
          · rw [← h.1, show c % 128 = c from by omega]
      · rename_i h2
        cases f with
        | zero => omega
        | succ f =>
          obtain ⟨v, r', g0, g1, g2, g3, g4⟩ := numGo_canon f (by omega) r (u + c % 128 * w) (p + 1) (w * 128) n q (fun x hx => hb x (List.mem_cons_of_mem _ hx)) h
          have hv1 : 1 ≤ v := g1 (by omega)
          have e : vbytes (f + 1) (c % 128 + 128 * v) = c :: vbytes f v := by
            simp only [vbytes]
            rw [if_pos (by omega), show (c % 128 + 128 * v) % 128 + 128 = c from by omega, show (c % 128 + 128 * v) / 128 = v from by omega]
          refine ⟨c % 128 + 128 * v, r', by omega, fun _ => by omega, ?_, ?_, ?_⟩
          · rw [e, g2]; rfl
          · rw [e]; simp; omega
          · rw [g4, Int.add_mul, show 128 * v * w = v * (w * 128) from by rw [Int.mul_comm 128 v, Int.mul_assoc, Int.mul_comm 128 w], Int.add_assoc]
theorem bytesOf_range (s : ByteArray) : ∀ c ∈ bytesOf s, 0 ≤ c ∧ c < 256 := by
  intro c hc
  simp only [bytesOf, List.mem_map] at hc
  obtain ⟨b, _, rfl⟩ := hc
  have := b.toNat_lt
  omega
/-- What is read lies there as PutNum writes it. -/
theorem getNum_canon {s : ByteArray} {x n p : Int} (h : getNum s x = (n, p, 0)) : ∃ r, (bytesOf s).drop x.toNat = vbytes 9 (zig n) ++ r ∧ p = x + ((vbytes 9 (zig n)).length : Int) := by
  unfold getNum at h
  split at h
  · simp at h
  · split at h
    · simp at h
    · obtain ⟨v, r, g0, _, g2, g3, g4⟩ := numGo_canon 9 (by omega) _ 0 x 1 n p (fun c hc => bytesOf_range s c (List.mem_of_mem_drop hc)) h
      have e : zig n = v := by rw [g4, show 0 + v * 1 = v from by omega, zig_unzig g0]
      rw [e]
      exact ⟨r, g2, g3⟩
end Go.Proofs.Ytdjhclgkkklajaa.Q

namespace Go.Proofs.Ytdjhclgkkklajaa.Q
open Go.RowKit Go.Proofs.Ytdjhclgkkklajaa.P Go.Proofs.YtdjhclgkkklajaaW.PrintWords Go.Proofs.YtdjhclgkkklajaaW.PrintMore

theorem toList_loop (b : ByteArray) : ∀ (n i : Nat) (r : List UInt8), b.size - i = n → ByteArray.toList.loop b i r = r.reverse ++ b.data.toList.drop i := by
  intro n
  induction n with
  | zero =>
    intro i r h
    unfold ByteArray.toList.loop
    have hs : b.data.toList.length = b.size := by rw [Array.length_toList]; rfl
    rw [if_neg (by omega), List.drop_of_length_le (by omega), List.append_nil]
  | succ n ih =>
    intro i r h
    unfold ByteArray.toList.loop
    have hs : b.data.toList.length = b.size := by rw [Array.length_toList]; rfl
    rw [if_pos (by omega), ih (i + 1) _ (by omega), List.drop_eq_getElem_cons (i := i) (by omega)]
    have : b.get! i = b.data.toList[i]'(by omega) := by
      have hi : i < b.data.size := by rw [← Array.length_toList]; omega
      show b.data[i]! = _
      rw [getElem!_pos b.data i hi]
      simp
    simp [this]
theorem toList_data (b : ByteArray) : b.toList = b.data.toList := by
  unfold ByteArray.toList
  rw [toList_loop b _ 0 [] rfl]
  simp
theorem toList_inj {a b : ByteArray} (h : a.toList = b.toList) : a = b := by
  rw [toList_data, toList_data] at h
  obtain ⟨a⟩ := a
  obtain ⟨b⟩ := b
  simp only [ByteArray.mk.injEq]
  exact Array.toList_inj.1 h
theorem toList_nil {s : ByteArray} (h : s.toList = []) : s.size = 0 := by
  have h5 : s.data.toList.length = s.size := data_length s
  rw [← toList_data, h] at h5
  simpa using h5.symm
theorem bytesOf_append (a b : ByteArray) : bytesOf (a ++ b) = bytesOf a ++ bytesOf b := by
  simp only [bytesOf]
  rw [show (a ++ b).data = a.data ++ b.data from by simp]
  simp
theorem bytesOf_strOfNums : ∀ (l : List Int), (∀ c ∈ l, 0 ≤ c ∧ c < 256) → bytesOf (strOfNums l) = l := by
  intro l h
  simp only [bytesOf, strOfNums]
  rw [List.map_map]
  conv => rhs; rw [← List.map_id l]
  refine List.map_congr_left (fun c hc => ?_)
  have := h c hc
  simp only [Function.comp, id, UInt8.toNat_ofNat']
  omega
theorem vbytes_range : ∀ (f : Nat) (u : Int), ∀ c ∈ vbytes f u, 0 ≤ c ∧ c < 256
  | 0, u, c, hc => by simp only [vbytes, List.mem_singleton] at hc; omega
  | f + 1, u, c, hc => by
    simp only [vbytes] at hc
    split at hc
    · rcases List.mem_cons.1 hc with rfl | hc
      · omega
      · exact vbytes_range f _ c hc
    · simp only [List.mem_singleton] at hc; omega
theorem bytesOf_putNum (n : Int) : bytesOf (putNum n) = vbytes 9 (zig n) := bytesOf_strOfNums _ (vbytes_range 9 _)
theorem bytesOf_inj {a b : ByteArray} (h : bytesOf a = bytesOf b) : a = b := by
  have key : ∀ (l m : List UInt8), l.map (fun b => (b.toNat : Int)) = m.map (fun b => (b.toNat : Int)) → l = m := by
    intro l
    induction l with
    | nil => intro m hm; cases m with
      | nil => rfl
      | cons x r => simp at hm
    | cons x r ih =>
      intro m hm
      cases m with
      | nil => simp at hm
      | cons y q =>
        simp only [List.map_cons, List.cons.injEq] at hm
        rw [ih q hm.2, UInt8.toNat_inj.1 (Int.ofNat.inj hm.1)]
  have h2 := key _ _ h
  obtain ⟨a⟩ := a
  obtain ⟨b⟩ := b
  simp only [ByteArray.mk.injEq]
  exact Array.toList_inj.1 h2
/-- From p to q the text s has the bytes bs. -/
def Span (s : ByteArray) (p : Int) (bs : List Int) (q : Int) : Prop := 0 ≤ p ∧ q = p + (bs.length : Int) ∧ q ≤ (s.size : Int) ∧ (bytesOf s).drop p.toNat = bs ++ (bytesOf s).drop q.toNat
theorem Span.of {s : ByteArray} {p q : Int} {bs r : List Int} (h0 : 0 ≤ p) (h1 : q = p + (bs.length : Int)) (h2 : q ≤ (s.size : Int)) (h : (bytesOf s).drop p.toNat = bs ++ r) : Span s p bs q := by
  refine ⟨h0, h1, h2, ?_⟩
  rw [h, show q.toNat = p.toNat + bs.length from by omega, ← List.drop_drop, h, List.drop_left]
theorem Span.trans {s : ByteArray} {p q r : Int} {b c : List Int} (h : Span s p b q) (h2 : Span s q c r) : Span s p (b ++ c) r := by
  obtain ⟨a0, a1, a2, a3⟩ := h
  obtain ⟨b0, b1, b2, b3⟩ := h2
  exact ⟨a0, by rw [List.length_append]; omega, b2, by rw [a3, b3, List.append_assoc]⟩
theorem Span.nil {s : ByteArray} {p : Int} (h0 : 0 ≤ p) (h1 : p ≤ (s.size : Int)) : Span s p [] p := ⟨h0, by simp, h1, by simp⟩
theorem Span.whole {s : ByteArray} {q : Int} {bs : List Int} (h : Span s 0 bs q) : q = (s.size : Int) ↔ bytesOf s = bs := by
  obtain ⟨_, a1, a2, a3⟩ := h
  rw [show (0 : Int).toNat = 0 from rfl, List.drop_zero] at a3
  have hl := congrArg List.length a3
  rw [bytesOf_length, List.length_append, List.length_drop, bytesOf_length] at hl
  constructor
  · intro e
    rw [a3, e, List.drop_of_length_le (by rw [bytesOf_length]; omega), List.append_nil]
  · intro e
    have := congrArg List.length e
    rw [bytesOf_length] at this
    omega
def rNum (s : ByteArray) : Option Int → Option Int × Int
  | none => (none, 0)
  | some p => if (getNum s p).2.2 = 0 then (some (getNum s p).2.1, (getNum s p).1) else (none, 0)
theorem rNum_span {s : ByteArray} {p q n : Int} (h : rNum s (some p) = (some q, n)) : Span s p (bytesOf (putNum n)) q ∧ p + 1 ≤ q := by
  simp only [rNum] at h
  split at h
  · rename_i hc
    simp only [Prod.mk.injEq, Option.some.injEq] at h
    have e : getNum s p = (n, q, 0) := by
      obtain ⟨h1, h2⟩ := h
      rw [← h1, ← h2, ← hc]
    obtain ⟨r, g1, g2⟩ := getNum_canon e
    have hp := getNum_place e
    rw [bytesOf_putNum]
    exact ⟨Span.of hp.2.1 g2 hp.2.2.2 g1, hp.2.2.1⟩
  · simp at h
def rMany (s : ByteArray) (o : Option Int) (most : Int) : Option Int × Int := if isWithin (rNum s o).2 0 most = true then rNum s o else (none, 0)
theorem rMany_le (s : ByteArray) (o : Option Int) (most : Int) (h : 0 ≤ most) : 0 ≤ (rMany s o most).2 ∧ (rMany s o most).2 ≤ most := by
  unfold rMany
  split
  · rename_i hw
    simpa [isWithin] using hw
  · exact ⟨Int.le_refl _, h⟩
/-- Marks, k of them at the most, up to the first thing that is wrong. -/
def rMarks (s : ByteArray) : Nat → Option Int → Option Int × List Mark
  | 0, o => (o, [])
  | _ + 1, none => (none, [])
  | k + 1, some p => ((rMarks s k (rNum s (rNum s (some p)).1).1).1, ⟨(rNum s (some p)).2, (rNum s (rNum s (some p)).1).2⟩ :: (rMarks s k (rNum s (rNum s (some p)).1).1).2)
theorem rMarks_length (s : ByteArray) : ∀ (k : Nat) (o : Option Int), (rMarks s k o).2.length ≤ k
  | 0, _ => by simp [rMarks]
  | _ + 1, none => by simp [rMarks]
  | k + 1, some p => by
    have := rMarks_length s k (rNum s (rNum s (some p)).1).1
    simp only [rMarks, List.length_cons]; omega
theorem rMarks_none (s : ByteArray) : ∀ k, (rMarks s k none).1 = none
  | 0 => rfl
  | _ + 1 => rfl
def marksBytes (l : List Mark) : List Int := l.flatMap fun m => bytesOf (markBytes m)
theorem rMarks_span {s : ByteArray} : ∀ (k : Nat) (p q : Int), 0 ≤ p → p ≤ (s.size : Int) → (rMarks s k (some p)).1 = some q → Span s p (marksBytes (rMarks s k (some p)).2) q ∧ (rMarks s k (some p)).2.length = k
  | 0, p, q, h0, h1, h => by
    simp only [rMarks, Option.some.injEq] at h
    subst h
    exact ⟨Span.nil h0 h1, rfl⟩
  | k + 1, p, q, h0, h1, h => by
    simp only [rMarks] at h ⊢
    cases ha : rNum s (some p) with
    | mk a n =>
      rw [ha] at h
      cases a with
      | none => simp only [rNum, rMarks_none] at h; cases h
      | some a =>
        cases hb : rNum s (some a) with
        | mk b m =>
          simp only [hb] at h ⊢
          cases b with
          | none => rw [rMarks_none] at h; cases h
          | some b =>
            have s1 := (rNum_span ha).1
            have s2 := (rNum_span hb).1
            have ih := rMarks_span k b q (by have := s2.1; have := s2.2.1; omega) s2.2.2.1 h
            refine ⟨?_, by simp only [List.length_cons, ih.2]⟩
            show Span s p (bytesOf (putNum n ++ putNum m) ++ marksBytes (rMarks s k (some b)).2) q
            rw [bytesOf_append]
            exact (s1.trans s2).trans ih.1
theorem bytesOf_foldl (f : Mark → ByteArray) : ∀ (l : List Mark) (t : ByteArray), bytesOf (l.foldl (fun t m => t ++ f m) t) = bytesOf t ++ l.flatMap fun m => bytesOf (f m)
  | [], t => by simp
  | m :: r, t => by
    rw [List.foldl_cons, bytesOf_foldl f r, bytesOf_append, List.flatMap_cons, List.append_assoc]
theorem bytesOf_seenBytes (v : List Mark) : bytesOf (seenBytes v) = bytesOf (putNum (v.length : Int)) ++ marksBytes v := bytesOf_foldl markBytes v _
/-- Marks as they are read: how many, and they. -/
def rSeen (s : ByteArray) (o : Option Int) : Option Int × List Mark := rMarks s (rMany s o 5).2.toNat (rMany s o 5).1
theorem rSeen_length (s : ByteArray) (o : Option Int) : (rSeen s o).2.length ≤ 5 := by
  have h1 := rMarks_length s (rMany s o 5).2.toNat (rMany s o 5).1
  have h2 := rMany_le s o 5 (by omega)
  unfold rSeen; omega
theorem rMany_span {s : ByteArray} {p q n most : Int} (hm : 0 ≤ most) (h : rMany s (some p) most = (some q, n)) : Span s p (bytesOf (putNum n)) q ∧ p + 1 ≤ q ∧ 0 ≤ n ∧ n ≤ most := by
  have hn := rMany_le s (some p) most hm
  rw [h] at hn
  unfold rMany at h
  split at h
  · exact ⟨(rNum_span h).1, (rNum_span h).2, hn⟩
  · simp at h
theorem rSeen_span {s : ByteArray} {p q : Int} (h : (rSeen s (some p)).1 = some q) : Span s p (bytesOf (seenBytes (rSeen s (some p)).2)) q ∧ p + 1 ≤ q := by
  unfold rSeen at h ⊢
  cases ha : rMany s (some p) 5 with
  | mk a n =>
    rw [ha] at h
    cases a with
    | none => rw [rMarks_none] at h; cases h
    | some a =>
      have s1 := rMany_span (by omega) ha
      have s2 := rMarks_span n.toNat a q (by have := s1.1.1; omega) s1.1.2.2.1 h
      refine ⟨?_, by have := s2.1.2.1; omega⟩
      rw [bytesOf_seenBytes, s2.2, show ((n.toNat : Nat) : Int) = n from by omega]
      exact s1.1.trans s2.1
end Go.Proofs.Ytdjhclgkkklajaa.Q

namespace Go.Proofs.Ytdjhclgkkklajaa.Q
open Go.RowKit Go.Proofs.Ytdjhclgkkklajaa.P Go.Proofs.YtdjhclgkkklajaaW.PrintWords Go.Proofs.YtdjhclgkkklajaaW.PrintMore

theorem numGo_bad : ∀ (f : Nat) (bs : List Int) (u p w : Int), (numGo f bs u p w).2.2 ≠ 0 → (numGo f bs u p w).1 = 0 ∧ (numGo f bs u p w).2.1 = 0
  | 0, _, _, _, _, _ => by simp [numGo]
  | _ + 1, [], _, _, _, _ => by simp [numGo]
  | f + 1, c :: r, u, p, w, h => by
    simp only [numGo] at h ⊢
    split
    · simp
    · rename_i h1
      rw [if_neg h1] at h
      split
      · rename_i h2
        rw [if_pos h2] at h
        split
        · simp
        · rename_i h3
          rw [if_neg h3] at h
          simp at h
      · rename_i h2
        rw [if_neg h2] at h
        exact numGo_bad f r _ _ _ h
theorem getNum_bad {s : ByteArray} {x : Int} (h : (getNum s x).2.2 ≠ 0) : (getNum s x).1 = 0 ∧ (getNum s x).2.1 = 0 := by
  unfold getNum at h ⊢
  split
  · simp
  · rename_i h1
    rw [if_neg h1] at h
    split
    · simp
    · rename_i h2
      rw [if_neg h2] at h
      exact numGo_bad _ _ _ _ _ h
/-- Where a reader stands: at p, or nowhere any more. -/
def St (s : ByteArray) (o : Option Int) (p : Int) (b : Bool) : Prop := 0 ≤ p ∧ p ≤ (s.size : Int) ∧ o = if b = true then none else some p
theorem St.bad {s : ByteArray} {o : Option Int} {p : Int} (h : St s o p true) : o = none := h.2.2
theorem St.good {s : ByteArray} {o : Option Int} {p : Int} (h : St s o p false) : o = some p := h.2.2
theorem getNum_ok {s : ByteArray} {x : Int} (h : (getNum s x).2.2 = 0) : 0 ≤ (getNum s x).2.1 ∧ (getNum s x).2.1 ≤ (s.size : Int) := by
  have := getNum_place (s := s) (x1 := x) (n := (getNum s x).1) (p := (getNum s x).2.1) (by rw [← h])
  omega
theorem impl_num_ev {s : ByteArray} (hs : s.size ≤ 8000) {o : Option Int} {p : Int} {b : Bool} (h : St s o p b) : ∃ p' b', St s (rNum s o).1 p' b' ∧ Ev (fun k => impl_taker_num.f k s p b) ((rNum s o).2, s, p', b') := by
  obtain ⟨h0, h1, h2⟩ := h
  unfold impl_taker_num.f
  cases b with
  | true =>
    simp only [if_true] at h2
    subst h2
    exact ⟨p, true, ⟨h0, h1, rfl⟩, evPos rfl (Ev.now _)⟩
  | false =>
    simp only [Bool.false_eq_true, if_false] at h2
    subst h2
    have e := impl_GetNum_ev s p (by omega) (by omega)
    by_cases hc : (getNum s p).2.2 = 0
    · have hk := getNum_ok hc
      refine ⟨(getNum s p).2.1, false, ⟨hk.1, hk.2, by simp [rNum, hc]⟩, evNeg (by simp) (Ev.bind e ?_)⟩
      simp only [rNum, if_pos hc, hc]
      exact Ev.now _
    · have hk := getNum_bad hc
      refine ⟨0, true, ⟨Int.le_refl _, by omega, by simp [rNum, hc]⟩, evNeg (by simp) (Ev.bind e ?_)⟩
      simp only [rNum, if_neg hc, hk.1, hk.2]
      have : ((getNum s p).2.2 != 0) = true := by simpa using hc
      rw [this]
      exact Ev.now _
theorem spec_num_ev {s : ByteArray} (hs : s.size ≤ 8000) {o : Option Int} {p : Int} {b : Bool} (h : St s o p b) : ∃ p' b', St s (rNum s o).1 p' b' ∧ Ev (fun k => spec_l02Reader_num.f k s p b) ((rNum s o).2, s, p', b') := by
  obtain ⟨h0, h1, h2⟩ := h
  unfold spec_l02Reader_num.f
  have e := spec_GetNum_ev s p (by omega) (by omega)
  have jT : ∀ b n q c, Ev (fun k => spec_l02Reader_num.j0 k true s p b n q c) (0, s, p, true) := fun b n q c => Ev.step (f := fun _ => some (0, s, p, true)) (fun k => by simp [spec_l02Reader_num.j0]) (Ev.now _)
  cases b with
  | true =>
    simp only [if_true] at h2
    subst h2
    exact ⟨p, true, ⟨h0, h1, rfl⟩, Ev.bind e (evPos rfl (jT _ _ _ _))⟩
  | false =>
    simp only [Bool.false_eq_true, if_false] at h2
    subst h2
    by_cases hc : (getNum s p).2.2 = 0
    · have hk := getNum_ok hc
      have er : rNum s (some p) = (some (getNum s p).2.1, (getNum s p).1) := by simp [rNum, hc]
      rw [er]
      refine ⟨(getNum s p).2.1, false, ⟨hk.1, hk.2, rfl⟩, Ev.bind e (evNeg (by simp) ?_)⟩
      simp only [hc]
      exact Ev.step (f := fun _ => some _) (fun k => by simp only [spec_l02Reader_num.j0]; rw [if_neg (by simp)]) (Ev.now _)
    · refine ⟨p, true, ⟨h0, h1, by simp [rNum, hc]⟩, Ev.bind e (evNeg (by simp) ?_)⟩
      simp only [rNum, if_neg hc]
      have : ((getNum s p).2.2 != 0) = true := by simpa using hc
      rw [this]
      exact jT _ _ _ _
theorem impl_count_ev {s : ByteArray} (hs : s.size ≤ 8000) {o : Option Int} {p : Int} {b : Bool} (h : St s o p b) (most : Int) : ∃ p' b', St s (rMany s o most).1 p' b' ∧ Ev (fun k => impl_taker_count.f k s p b most) ((rMany s o most).2, s, p', b') := by
  obtain ⟨p', b', h1, h2⟩ := impl_num_ev hs h
  unfold impl_taker_count.f rMany
  by_cases hw : isWithin (rNum s o).2 0 most = true
  · rw [if_pos hw]
    exact ⟨p', b', h1, Ev.bind h2 (evBind1 (within_is _ _ _) (evPos hw (Ev.now _)))⟩
  · rw [if_neg hw]
    exact ⟨p', true, ⟨h1.1, h1.2.1, rfl⟩, Ev.bind h2 (evBind1 (within_is _ _ _) (evNeg hw (Ev.now _)))⟩
theorem spec_many_ev {s : ByteArray} (hs : s.size ≤ 8000) {o : Option Int} {p : Int} {b : Bool} (h : St s o p b) (most : Int) : ∃ p' b', St s (rMany s o most).1 p' b' ∧ Ev (fun k => spec_l02Reader_many.f k s p b most) ((rMany s o most).2, s, p', b') := by
  obtain ⟨p', b', h1, h2⟩ := spec_num_ev hs h
  unfold spec_l02Reader_many.f rMany
  by_cases hw : isWithin (rNum s o).2 0 most = true
  · rw [if_pos hw]
    exact ⟨p', b', h1, Ev.bind h2 (evBind1 (l02Is_is _ _ _) (evPos hw (Ev.now _)))⟩
  · rw [if_neg hw]
    exact ⟨p', true, ⟨h1.1, h1.2.1, rfl⟩, Ev.bind h2 (evBind1 (l02Is_is _ _ _) (evNeg hw (Ev.now _)))⟩
theorem spec_seen_l0 {s : ByteArray} (hs : s.size ≤ 8000) : ∀ (n : Nat) (o : Option Int) (p : Int) (b : Bool) (acc : List Mark), n ≤ 5 → acc.length + n ≤ 5 → St s o p b →
    ∃ p' b', St s (rMarks s n o).1 p' b' ∧ Ev (fun k => spec_l02Reader_seen.l0 k acc (n : Int) s p b) (acc ++ (rMarks s n o).2, s, p', b')
  | 0, o, p, b, acc, hn, ha, h => by
    refine ⟨p, b, h, ?_⟩
    simp only [rMarks, List.append_nil]
    refine Ev.step (f := fun k => spec_l02Reader_seen.j1 k acc ((0 : Nat) : Int) false s p b) (fun k => ?_) (Ev.step (f := fun _ => some (acc, s, p, b)) (fun k => by simp [spec_l02Reader_seen.j1]) (Ev.now _))
    simp only [spec_l02Reader_seen.l0]
    rw [if_neg (by omega)]
  | n + 1, o, p, true, acc, hn, ha, h => by
    have ho := h.bad
    subst ho
    refine ⟨p, true, h, ?_⟩
    simp only [rMarks, List.append_nil]
    refine Ev.step (f := fun k => spec_l02Reader_seen.j1 k acc ((n + 1 : Nat) : Int) false s p true) (fun k => ?_) (Ev.step (f := fun _ => some (acc, s, p, true)) (fun k => by simp [spec_l02Reader_seen.j1]) (Ev.now _))
    simp only [spec_l02Reader_seen.l0]
    rw [if_pos (by omega)]
    rfl
  | n + 1, o, p, false, acc, hn, ha, h => by
    have ho := h.good
    subst ho
    obtain ⟨p1, b1, s1, e1⟩ := spec_num_ev hs h
    obtain ⟨p2, b2, s2, e2⟩ := spec_num_ev hs s1
    obtain ⟨p3, b3, s3, e3⟩ := spec_seen_l0 hs n _ p2 b2 (acc ++ [⟨(rNum s (some p)).2, (rNum s (rNum s (some p)).1).2⟩]) (by omega) (by simp; omega) s2
    refine ⟨p3, b3, s3, ?_⟩
    simp only [rMarks]
    rw [List.append_assoc, List.singleton_append] at e3
    refine Ev.step (f := fun k => spec_l02Reader_seen.j1 k acc ((n + 1 : Nat) : Int) true s p false) (fun k => ?_) ?_
    · simp only [spec_l02Reader_seen.l0]
      rw [if_pos (by omega)]
      rfl
    · have hj : ∀ k, spec_l02Reader_seen.j1 (k + 1) acc ((n + 1 : Nat) : Int) true s p false = (spec_l02Reader_num.f k s p false).bind fun a => (spec_l02Reader_num.f k a.2.1 a.2.2.1 a.2.2.2).bind fun c => if acc.length < 8796093022208 then spec_l02Reader_seen.l0 k (acc ++ [⟨a.1, c.1⟩]) (wrap64 (((n + 1 : Nat) : Int) - 1)) c.2.1 c.2.2.1 c.2.2.2 else none := fun k => by simp [spec_l02Reader_seen.j1]
      refine Ev.step hj (Ev.bind e1 (Ev.bind e2 (evPos (by omega) ?_)))
      rw [w64 (by omega) (by omega), show ((n + 1 : Nat) : Int) - 1 = (n : Int) from by omega]
      exact e3
theorem spec_seen_ev {s : ByteArray} (hs : s.size ≤ 8000) {o : Option Int} {p : Int} {b : Bool} (h : St s o p b) : ∃ p' b', St s (rSeen s o).1 p' b' ∧ Ev (fun k => spec_l02Reader_seen.f k s p b) ((rSeen s o).2, s, p', b') := by
  obtain ⟨p1, b1, s1, e1⟩ := spec_many_ev hs h 5
  have hm := rMany_le s o 5 (by omega)
  obtain ⟨p2, b2, s2, e2⟩ := spec_seen_l0 hs (rMany s o 5).2.toNat _ p1 b1 [] (by omega) (by simp; omega) s1
  refine ⟨p2, b2, s2, Ev.bind e1 ?_⟩
  rw [show (((rMany s o 5).2.toNat : Nat) : Int) = (rMany s o 5).2 from by omega, List.nil_append] at e2
  exact e2
theorem impl_seen_l0 {s : ByteArray} (hs : s.size ≤ 8000) : ∀ (n : Nat) (o : Option Int) (p : Int) (b : Bool) (acc : List Mark), n ≤ 5 → acc.length + n ≤ 5 → St s o p b →
    ∃ p' b', St s (rMarks s n o).1 p' b' ∧ Ev (fun k => impl_taker_seen.l0 k acc (n : Int) s p b) (acc ++ (rMarks s n o).2, s, p', b' || !seenOk (acc ++ (rMarks s n o).2)) := by
  have jE : ∀ (acc : List Mark) (n : Int) (p : Int) (b : Bool), acc.length ≤ 5 → Ev (fun k => impl_taker_seen.j1 k acc n false s p b) (acc, s, p, b || !seenOk acc) := by
    intro acc n p b ha
    cases b with
    | true => exact Ev.step (f := fun _ => some (acc, s, p, true)) (fun k => by simp [impl_taker_seen.j1]) (Ev.now _)
    | false =>
      refine Ev.step (fun k => by simp only [impl_taker_seen.j1]; rw [if_neg (by simp), if_neg (by simp)]) (Ev.bind (impl_seenRight_ev acc (by omega)) ?_)
      simp only [Bool.false_or]
      exact Ev.now _
  intro n
  induction n with
  | zero =>
    intro o p b acc hn ha h
    refine ⟨p, b, h, ?_⟩
    simp only [rMarks, List.append_nil]
    refine Ev.step (fun k => ?_) (jE acc ((0 : Nat) : Int) p b (by omega))
    simp only [impl_taker_seen.l0]
    rw [if_neg (by omega)]
  | succ n ih =>
    intro o p b acc hn ha h
    cases b with
    | true =>
      have ho := h.bad
      subst ho
      refine ⟨p, true, h, ?_⟩
      simp only [rMarks, List.append_nil]
      refine Ev.step (fun k => ?_) (jE acc ((n + 1 : Nat) : Int) p true (by omega))
      simp only [impl_taker_seen.l0]
      rw [if_pos (by omega)]
      rfl
    | false =>
      have ho := h.good
      subst ho
      obtain ⟨p1, b1, s1, e1⟩ := impl_num_ev hs h
      obtain ⟨p2, b2, s2, e2⟩ := impl_num_ev hs s1
      obtain ⟨p3, b3, s3, e3⟩ := ih _ p2 b2 (acc ++ [⟨(rNum s (some p)).2, (rNum s (rNum s (some p)).1).2⟩]) (by omega) (by simp; omega) s2
      refine ⟨p3, b3, s3, ?_⟩
      simp only [rMarks]
      rw [List.append_assoc, List.singleton_append] at e3
      refine Ev.step (f := fun k => impl_taker_seen.j1 k acc ((n + 1 : Nat) : Int) true s p false) (fun k => ?_) ?_
      · simp only [impl_taker_seen.l0]
        rw [if_pos (by omega)]
        rfl
      · have hj : ∀ k, impl_taker_seen.j1 (k + 1) acc ((n + 1 : Nat) : Int) true s p false = (impl_taker_num.f k s p false).bind fun a => (impl_taker_num.f k a.2.1 a.2.2.1 a.2.2.2).bind fun c => if acc.length < 8796093022208 then impl_taker_seen.l0 k (acc ++ [⟨a.1, c.1⟩]) (wrap64 (((n + 1 : Nat) : Int) - 1)) c.2.1 c.2.2.1 c.2.2.2 else none := fun k => by simp [impl_taker_seen.j1]
        refine Ev.step hj (Ev.bind e1 (Ev.bind e2 (evPos (by omega) ?_)))
        rw [w64 (by omega) (by omega), show ((n + 1 : Nat) : Int) - 1 = (n : Int) from by omega]
        exact e3
theorem impl_seen_ev {s : ByteArray} (hs : s.size ≤ 8000) {o : Option Int} {p : Int} {b : Bool} (h : St s o p b) : ∃ p' b', St s (rSeen s o).1 p' b' ∧ Ev (fun k => impl_taker_seen.f k s p b) ((rSeen s o).2, s, p', b' || !seenOk (rSeen s o).2) := by
  obtain ⟨p1, b1, s1, e1⟩ := impl_count_ev hs h 5
  have hm := rMany_le s o 5 (by omega)
  obtain ⟨p2, b2, s2, e2⟩ := impl_seen_l0 hs (rMany s o 5).2.toNat _ p1 b1 [] (by omega) (by simp; omega) s1
  refine ⟨p2, b2, s2, Ev.bind e1 ?_⟩
  rw [show (((rMany s o 5).2.toNat : Nat) : Int) = (rMany s o 5).2 from by omega, List.nil_append] at e2
  exact e2
/-- A version vector's reading. -/
def seenRead (s : ByteArray) : List Mark × Int := if 8000 < s.size then ([], 2) else if (rSeen s (some 0)).1 = some (s.size : Int) ∧ seenOk (rSeen s (some 0)).2 = true then ((rSeen s (some 0)).2, 0) else ([], 3)
theorem seenRead_length (s : ByteArray) : (seenRead s).1.length ≤ 5 := by
  have := rSeen_length s (some 0)
  unfold seenRead
  split
  · simp
  · split
    · exact this
    · simp
theorem St.start (s : ByteArray) : St s (some 0) 0 false := ⟨Int.le_refl _, by omega, rfl⟩
theorem impl_SeenRead_ev (s : ByteArray) : Ev (fun k => impl_SeenRead.f k s) (seenRead s) := by
  unfold impl_SeenRead.f seenRead
  refine Ev.bind (isLong1_ev s) ?_
  by_cases h : 8000 < s.size
  · rw [if_pos h]; exact evPos (by simpa using h) (Ev.now _)
  · rw [if_neg h]
    refine evNeg (by simpa using h) ?_
    obtain ⟨p, b, h1, h2⟩ := impl_seen_ev (by omega) (St.start s)
    refine Ev.bind h2 ?_
    clear h2
    simp only [impl_taker_done.f, impl_size.f, Option.bind_some]
    generalize rSeen s (some 0) = r at h1 ⊢
    obtain ⟨_, _, h3⟩ := h1
    cases b with
    | true =>
      rw [if_neg (show ¬ (r.1 = some (s.size : Int) ∧ seenOk r.2 = true) from fun e => by rw [h3] at e; exact absurd e.1 (by simp))]
      simp only [Bool.true_or, if_true, Option.bind_some]
      exact evNeg (by simp) (Ev.now _)
    | false =>
      simp only [Bool.false_eq_true, if_false] at h3
      rw [h3]
      cases hk : seenOk r.2 with
      | false =>
        simp only [Bool.false_or, Bool.not_false, if_true, Option.bind_some, Bool.false_eq_true, and_false, if_false]
        exact Ev.now _
      | true =>
        simp only [Bool.false_or, Bool.not_true, Bool.false_eq_true, if_false, Option.bind_some, Option.some.injEq, and_true]
        by_cases hp : p = (s.size : Int)
        · rw [if_pos hp]; exact evPos (by simpa using hp) (Ev.now _)
        · rw [if_neg hp]; exact evNeg (by simpa using hp) (Ev.now _)
theorem spec_SeenRead_ev (s : ByteArray) : Ev (fun k => spec_SeenRead.f k s) (seenRead s) := by
  unfold spec_SeenRead.f seenRead
  by_cases h : 8000 < s.size
  · rw [if_pos h]; exact evPos (by omega) (Ev.now _)
  · rw [if_neg h]
    refine evNeg (by omega) ?_
    obtain ⟨p, b, h1, h2⟩ := spec_seen_ev (by omega) (St.start s)
    refine Ev.bind h2 ?_
    have hl := rSeen_length s (some 0)
    have hsp := rSeen_span (s := s) (p := 0) (q := p)
    clear h2
    generalize rSeen s (some 0) = r at h1 hl hsp ⊢
    obtain ⟨g0, g1, h3⟩ := h1
    have jT : Ev (fun k => spec_SeenRead.j0 k r.2 true) ([], 3) := Ev.step (f := fun _ => some ([], 3)) (fun k => by simp [spec_SeenRead.j0]) (Ev.now _)
    have jF : Ev (fun k => spec_SeenRead.j0 k r.2 false) (r.2, 0) := Ev.step (f := fun _ => some (r.2, 0)) (fun k => by simp [spec_SeenRead.j0]) (Ev.now _)
    cases b with
    | true =>
      rw [if_neg (show ¬ (r.1 = some (s.size : Int) ∧ seenOk r.2 = true) from fun e => by rw [h3] at e; exact absurd e.1 (by simp))]
      exact evPos rfl jT
    | false =>
      simp only [Bool.false_eq_true, if_false] at h3
      have hq := hsp h3
      refine evNeg (by simp) (evNeg (fun e => ?_) (Ev.bind (spec_SeenBytes_ev r.2 (by omega)) ?_))
      · have := toList_nil e
        omega
      · rw [h3]
        unfold seenBytesOut
        cases hk : seenOk r.2 with
        | false =>
          rw [if_neg (by simp), if_neg (by simp)]
          have : ((⟨#[]⟩ : ByteArray).toList != s.toList) = true := by
            simp only [bne_iff_ne, ne_eq]
            intro e
            have := congrArg ByteArray.size (toList_inj e)
            have h0 : (⟨#[]⟩ : ByteArray).size = 0 := rfl
            omega
          rw [this]
          exact jT
        | true =>
          rw [if_pos rfl]
          by_cases hp : p = (s.size : Int)
          · rw [if_pos ⟨by rw [hp], rfl⟩]
            have e := bytesOf_inj ((hq.1.whole.1 hp).symm)
            rw [e]
            simp only [bne_self_eq_false]
            exact jF
          · rw [if_neg (fun e => hp (Option.some.inj e.1))]
            have : ((seenBytes r.2).toList != s.toList) = true := by
              simp only [bne_iff_ne, ne_eq]
              intro e
              refine hp (hq.1.whole.2 ?_)
              rw [toList_inj e]
            rw [this]
            exact jT
end Go.Proofs.Ytdjhclgkkklajaa.Q

namespace Go.Proofs.Ytdjhclgkkklajaa.Pure
open Go.RowKit Go.Proofs.Ytdjhclgkkklajaa.P Go.Proofs.Ytdjhclgkkklajaa.Q Go.Proofs.YtdjhclgkkklajaaW.PrintWords Go.Proofs.YtdjhclgkkklajaaW.PrintMore
theorem FnExactSeenRead : laws_FnExactSeenRead.Pure := by
  intro s hs
  refine Ev.rounds ?_
  unfold laws_FnExactSeenRead.f
  have e1 := spec_SeenRead_ev s
  have e2 := impl_SeenRead_ev s
  have hj := seenRead_length s
  generalize seenRead s = r at hj e1 e2
  obtain ⟨r, c⟩ := r
  simp only at hj
  refine evIte (fun _ => Ev.now _) (fun _ => Ev.bind e1 (Ev.bind e2 (Ev.bind (eqSeenOut_ev r c (by omega)) (evPos rfl ?_))))
  refine Ev.bind (markSeenOut_ev r c 1 (by omega) (by omega)) (Ev.bind (heldSeenOut_ev r c 1 (by omega) (by omega)) (evNeg (by omega) (evPos rfl ?_)))
  refine Ev.bind e2 (Ev.bind (eqSeenOut_ev r c (by omega)) (evPos rfl ?_))
  exact Ev.bind (heldSeenOut_ev r c 1 (by omega) (by omega)) (evNeg (by omega) (evPos rfl (Ev.now _)))
end Go.Proofs.Ytdjhclgkkklajaa.Pure

namespace Go.Proofs.Ytdjhclgkkklajaa.fnExactSeenRead
open Go.ChangeShapes Go.WideShapes Go.ChangeAt Go.RowKit
open Go.ChangeMaps (open_string shut_string)
set_option linter.unusedVariables false
theorem own : ownKnob Try.prog.godebug = none := by kernel_rfl
set_option maxRecDepth 100000 in
theorem lifted (os : Os) (started : os.Started) (H : Type) (enc : TypeId × Value → H) :
    ReturnsInHanded {} Try.checked os 10 .any (Rows.fnExactSeenReadSpec.pre6 enc Try.prog Try.f10 Rows.fnExactSeenReadRow.domain false) (Rows.fnExactSeenReadSpec.post enc Try.prog Try.f10 false true false false) := by
  refine returnsInHanded_of_change_sized (C := Try.checked) own started (by kernel_rfl) Try.func10
    (ChangeSpec.witness6 (enc := enc) (C := Try.checked) false ⟨#[], #[.string ByteArray.empty], []⟩ 8 (by kernel_rfl) (by kernel_rfl) (by kernel_rfl) (by kernel_rfl)) ?_
  intro W base args ds gs before hval0 hW hcnd hsz0 _
  have hsz : (DataW.weightsEach Try.prog (Try.f10.params.toList ++ Rows.fnExactSeenReadSpec.plain.varTypes Try.prog) (ds ++ gs)).all (· ≤ reachBytes) = true := hsz0
  have hval : ∀ (j : Nat) t v, Try.f10.params[j]? = some t → args[j]? = some v → Value.okWide Try.prog W .any base t v := hval0
  have hW' := hW
  obtain ⟨p, q, hA0, hV, rfl, hfz, hnd⟩ := hW
  have hA : DataW.TrodAll enc Try.prog W 0 (fun _ => true) true Try.f10.params.toList args.toList ds p := hA0
  rw [Try.params10] at hA hval hsz
  obtain ⟨v0, vs0, d0, ds0, p0, q0, hargs, rfl, rfl, h0, r0⟩ := trodAll_cons hA
  obtain ⟨rfl, rfl, rfl⟩ := trodAll_nil r0
  obtain rfl : args = #[v0] := by cases args; simp_all
  obtain ⟨rfl, rfl⟩ := trodVars_none hV
  obtain ⟨a0, rfl, rfl, rfl, y0⟩ := open_string Try.underlying9 (hval 0 9 v0 rfl rfl) h0
  have w0 : a0.size ≤ 140737488351232 := by
    have z := sized_string hsz (j := 0) (t := 9) rfl rfl
    rw [Array.length_toList] at z
    exact z
  clear hA0 hval0 hsz0 hsz
  refine (P.laws_FnExactSeenRead.walk Pure.FnExactSeenRead a0 W w0).mono fun e W' ⟨he, bel⟩ => ?_
  subst he
  exact ⟨_, rfl, _, _, _, [], _, [], hW', trodAll_mk1 (shut_bool Try.underlying4 _), (trodAll_cons_mk (shut_string Try.underlying9 y0) trodAll_mk0), rfl, bel.frame _, fun h => by cases h⟩
theorem over : Rows.fnExactSeenReadRow.holds Try.pinned (OpenSpec.ofChange Rows.fnExactSeenReadSpec) :=
  OpenClaim.holds_of_wide 10 Try.f10 rfl rfl rfl rfl rfl rfl rfl ⟨rfl, rfl, rfl, rfl, rfl⟩ rfl rfl rfl rfl rfl (by kernel_rfl) Try.func10 (by kernel_rfl)
    (of_decide_eq_true (by kernel_rfl)) (by unfold Func.isWrapper; first | (rw [if_pos (by decide +kernel)]; kernel_rfl) | (rw [if_neg (by decide +kernel)]; exact ⟨rfl, rfl⟩))
    (fun os started H enc _ => lifted os started H enc)
theorem proved : Rows.FnExactSeenReadSaid := over
#print axioms proved
end Go.Proofs.Ytdjhclgkkklajaa.fnExactSeenRead
namespace Go.Proofs.Ytdjhclgkkklajaa
/-- The row, under a short name, for the claim. -/
theorem fnExactSeenRead_holds : Rows.FnExactSeenReadSaid := fnExactSeenRead.proved
end Go.Proofs.Ytdjhclgkkklajaa
