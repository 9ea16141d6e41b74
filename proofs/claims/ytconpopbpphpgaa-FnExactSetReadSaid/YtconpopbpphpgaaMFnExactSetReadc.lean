/- For all texts the program's SetRead and the reference's return the same, of its own memory. No condition. (Part 3 of 5: written by programs of this workplace and by hand, merged.) -/
import Derived.Test.YtconpopbpphpgaaMFnExactSetReada
import Derived.Test.YtconpopbpphpgaaMFnExactSetReadb
set_option linter.unusedVariables false
set_option linter.unusedSimpArgs false

namespace Go.Proofs.Ytconpopbpphpgaa.P
open Go.RowKit Go.Proofs.YtconpopbpphpgaaW.PrintWords Go.Proofs.YtconpopbpphpgaaW.PrintLast Go.Proofs.YtconpopbpphpgaaW.PrintMore
attribute [local go_sem] max2_int min2_int max_two min_two max_three min_three max_four min_four   -- for this text's walks alone
set_option linter.unusedVariables false
set_option linter.unusedSimpArgs false

/-! ### impl_GetNum: function 203 -/
mutual
def impl_GetNum.l0 : Nat → ByteArray → Int → Int → Int → Option (Int × Int × Int)
 | 0, _, _, _, _ => none
 | k + 1, x0, x1, x5, x15 => if x15 < 10 then ((impl_size.f x0).bind fun t382 => (if x1 ≥ t382 then (impl_GetNum.j1 k x0 x1 x5 x15 x15 true) else ((impl_size.f x0).bind fun t383 => (impl_GetNum.j1 k x0 x1 x5 x15 x15 (decide (x15 ≥ (wrap64 (t383 - x1)))))))) else (some (0, 0, 3))
def impl_GetNum.j1 : Nat → ByteArray → Int → Int → Int → Int → Bool → Option (Int × Int × Int)
 | 0, _, _, _, _, _, _ => none
 | k + 1, x0, x1, x5, x6, x15, x29 => if x29 = true then (some (0, 0, 4)) else (if 0 ≤ (wrap64 (x1 + x6)) then (if (wrap64 (x1 + x6)) < (x0.size : Int) then (if x6 = 9 then (impl_GetNum.j2 k x0 x1 x5 x6 (bt x0 (wrap64 (x1 + x6))) x15 (decide ((bt x0 (wrap64 (x1 + x6))) > 1))) else (impl_GetNum.j2 k x0 x1 x5 x6 (bt x0 (wrap64 (x1 + x6))) x15 false)) else (none)) else (none))
def impl_GetNum.j2 : Nat → ByteArray → Int → Int → Int → Int → Int → Bool → Option (Int × Int × Int)
 | 0, _, _, _, _, _, _, _ => none
 | k + 1, x0, x1, x5, x6, x7, x15, x41 => if x41 = true then (some (0, 0, 3)) else (if 0 ≤ (IntKind.u64.wrap (7 * (IntKind.u64.wrap (x6)))) then (if x7 < 128 then (if x7 = 0 then (if x6 > 0 then (some (0, 0, 3)) else (some (Go.bits .xor .i64 (wrap64 ((Go.bits .or .u64 x5 (shl .u64 (IntKind.u64.wrap (Go.bits .and .u8 x7 127)) (IntKind.u64.wrap (7 * (IntKind.u64.wrap (x6)))))) / 2)) (wrap64 (-(wrap64 (Go.bits .and .u64 (Go.bits .or .u64 x5 (shl .u64 (IntKind.u64.wrap (Go.bits .and .u8 x7 127)) (IntKind.u64.wrap (7 * (IntKind.u64.wrap (x6)))))) 1)))), wrap64 ((wrap64 (x1 + x6)) + 1), 0))) else (some (Go.bits .xor .i64 (wrap64 ((Go.bits .or .u64 x5 (shl .u64 (IntKind.u64.wrap (Go.bits .and .u8 x7 127)) (IntKind.u64.wrap (7 * (IntKind.u64.wrap (x6)))))) / 2)) (wrap64 (-(wrap64 (Go.bits .and .u64 (Go.bits .or .u64 x5 (shl .u64 (IntKind.u64.wrap (Go.bits .and .u8 x7 127)) (IntKind.u64.wrap (7 * (IntKind.u64.wrap (x6)))))) 1)))), wrap64 ((wrap64 (x1 + x6)) + 1), 0))) else (impl_GetNum.l0 k x0 x1 (Go.bits .or .u64 x5 (shl .u64 (IntKind.u64.wrap (Go.bits .and .u8 x7 127)) (IntKind.u64.wrap (7 * (IntKind.u64.wrap (x6)))))) (wrap64 (x15 + 1)))) else (none))
end
def impl_GetNum.f (k : Nat) (a0 : ByteArray) (a1 : Int) : Option (Int × Int × Int) := (impl_isLong.f k (([a0] : List ByteArray))).bind fun t381 => (if t381 = true then (some (0, 0, 2)) else (if a1 < 0 then (some (0, 0, 1)) else (impl_GetNum.l0 k a0 a1 0 0)))
theorem impl_GetNum.mono_l : ∀ k, (∀ y0 y1 y2 y3, LeO (impl_GetNum.l0 k y0 y1 y2 y3) (impl_GetNum.l0 (k + 1) y0 y1 y2 y3)) ∧ (∀ y0 y1 y2 y3 y4 y5, LeO (impl_GetNum.j1 k y0 y1 y2 y3 y4 y5) (impl_GetNum.j1 (k + 1) y0 y1 y2 y3 y4 y5)) ∧ (∀ y0 y1 y2 y3 y4 y5 y6, LeO (impl_GetNum.j2 k y0 y1 y2 y3 y4 y5 y6) (impl_GetNum.j2 (k + 1) y0 y1 y2 y3 y4 y5 y6))
 | 0 => ⟨fun _ _ _ _ r h => by simp [impl_GetNum.l0] at h, fun _ _ _ _ _ _ r h => by simp [impl_GetNum.j1] at h, fun _ _ _ _ _ _ _ r h => by simp [impl_GetNum.j2] at h⟩
 | k + 1 => by
  obtain ⟨ih0, ih1, ih2⟩ := impl_GetNum.mono_l k
  refine ⟨?_, ?_, ?_⟩
  ·intro y0 y1 y2 y3
   unfold impl_GetNum.l0
   repeat' first
   | (with_reducible exact ih0 _ _ _ _)
   | (with_reducible exact ih1 _ _ _ _ _ _)
   | (with_reducible exact ih2 _ _ _ _ _ _ _)
   | (with_reducible exact impl_isLong.mono _ _)
   | (with_reducible exact LeO.refl _)
   | (with_reducible exact LeO.none _)
   | (with_reducible refine LeO.ite ?_ ?_)
   | (with_reducible refine LeO.bind ?_ (fun _ => ?_))
   | exact ih0 _ _ _ _
   | exact ih1 _ _ _ _ _ _
   | exact ih2 _ _ _ _ _ _ _
   | exact impl_isLong.mono _ _
   | exact LeO.none _
   | refine LeO.ite ?_ ?_
   | refine LeO.bind ?_ (fun _ => ?_)
  ·intro y0 y1 y2 y3 y4 y5
   unfold impl_GetNum.j1
   repeat' first
   | (with_reducible exact ih0 _ _ _ _)
   | (with_reducible exact ih1 _ _ _ _ _ _)
   | (with_reducible exact ih2 _ _ _ _ _ _ _)
   | (with_reducible exact impl_isLong.mono _ _)
   | (with_reducible exact LeO.refl _)
   | (with_reducible exact LeO.none _)
   | (with_reducible refine LeO.ite ?_ ?_)
   | (with_reducible refine LeO.bind ?_ (fun _ => ?_))
   | exact ih0 _ _ _ _
   | exact ih1 _ _ _ _ _ _
   | exact ih2 _ _ _ _ _ _ _
   | exact impl_isLong.mono _ _
   | exact LeO.none _
   | refine LeO.ite ?_ ?_
   | refine LeO.bind ?_ (fun _ => ?_)
  ·intro y0 y1 y2 y3 y4 y5 y6
   unfold impl_GetNum.j2
   repeat' first
   | (with_reducible exact ih0 _ _ _ _)
   | (with_reducible exact ih1 _ _ _ _ _ _)
   | (with_reducible exact ih2 _ _ _ _ _ _ _)
   | (with_reducible exact impl_isLong.mono _ _)
   | (with_reducible exact LeO.refl _)
   | (with_reducible exact LeO.none _)
   | (with_reducible refine LeO.ite ?_ ?_)
   | (with_reducible refine LeO.bind ?_ (fun _ => ?_))
   | exact ih0 _ _ _ _
   | exact ih1 _ _ _ _ _ _
   | exact ih2 _ _ _ _ _ _ _
   | exact impl_isLong.mono _ _
   | exact LeO.none _
   | refine LeO.ite ?_ ?_
   | refine LeO.bind ?_ (fun _ => ?_)
theorem impl_GetNum.mono : ∀ a0 a1 k, LeO (impl_GetNum.f k a0 a1) (impl_GetNum.f (k + 1) a0 a1) := by
 intro a0 a1 k
 obtain ⟨ih0, ih1, ih2⟩ := impl_GetNum.mono_l k
 unfold impl_GetNum.f
 repeat' first
   | (with_reducible exact ih0 _ _ _ _)
   | (with_reducible exact ih1 _ _ _ _ _ _)
   | (with_reducible exact ih2 _ _ _ _ _ _ _)
   | (with_reducible exact impl_isLong.mono _ _)
   | (with_reducible exact LeO.refl _)
   | (with_reducible exact LeO.none _)
   | (with_reducible refine LeO.ite ?_ ?_)
   | (with_reducible refine LeO.bind ?_ (fun _ => ?_))
   | exact ih0 _ _ _ _
   | exact ih1 _ _ _ _ _ _
   | exact ih2 _ _ _ _ _ _ _
   | exact impl_isLong.mono _ _
   | exact LeO.none _
   | refine LeO.ite ?_ ?_
   | refine LeO.bind ?_ (fun _ => ?_)
set_option maxHeartbeats 8000000 in
set_option maxRecDepth 100000 in
theorem impl_GetNum.calls (k : Nat) (a0 : ByteArray) (a1 : Int) (r1 : Int) (r2 : Int) (r3 : Int) (w : World) (h : impl_GetNum.f k a0 a1 = some (r1, r2, r3)) :
  Calls Try.prog 203 #[.string a0, .int .i64 a1] w fun e w' => e = .returned (.agg #[.int .i64 r1, .int .i64 r2, .int .i64 r3]) ∧ Below w.heap.size w w' := by
 have hu199 := Try.underlying199
 have HB := Aside0.mk (Below.refl w.heap.size w)
 have H : ((impl_isLong.f k (([a0] : List ByteArray))).bind fun t381 => (if t381 = true then (some (0, 0, 2)) else (if a1 < 0 then (some (0, 0, 1)) else (impl_GetNum.l0 k a0 a1 0 0)))) = some (r1, r2, r3) := h
 clear h
 obtain ⟨y378, hy378⟩ : ∃ y_ : List ByteArray, y_ = (([a0] : List ByteArray)) := ⟨_, rfl⟩
 replace H : ((impl_isLong.f k y378).bind fun t381 => (if t381 = true then (some (0, 0, 2)) else (if a1 < 0 then (some (0, 0, 1)) else (impl_GetNum.l0 k a0 a1 0 0)))) = some (r1, r2, r3) := by first | (rw [hy378]; with_reducible exact H) | (have H2_ := (Option.bind_some _ _).symm.trans H; rw [hy378]; with_reducible exact H2_) | (have H2_ := (Option.bind_some _ _).symm.trans H; with_reducible exact H2_) | with_reducible exact H | (rw [hy378]; exact H) | exact H
 have Ny378 := Aside0.mk hy378
 clear hy378
 replace H := Option.bind_eq_some_iff.mp H
 obtain ⟨t381, A30, H⟩ := H
 replace H : (if t381 = true then (some (0, 0, 2)) else (if a1 < 0 then (some (0, 0, 1)) else (impl_GetNum.l0 k a0 a1 0 0))) = some (r1, r2, r3) := H
 have A3 := Aside0.mk A30
 clear A30
 by_cases c4 : t381 = true
 ·subst c4
  have H1 : (some (0, 0, 2)) = some (r1, r2, r3) := by rw [if_pos rfl] at H; exact H
  clear H
  have H := H1
  clear H1
  simp only [Option.some.injEq, Prod.mk.injEq] at H
  obtain ⟨rfl, rfl, rfl⟩ := H
  go_enter Try.func203, Try.ntmps203
  go_wp2_with (first | ((with_reducible refine gate_dst (N := 4) rfl ?_); refine box_event ?hg (N := 4) ?hd (cs := #[.int .i64 0, .int .i64 0, .int .i64 0]) (t := 199) ?hr ?_; (case hd => rfl); (case hg => rfl); (case hr => first | (go_simp; done) | (go_simp; rfl)); intro gb377 hg w5 hbox hb; have n_ := as4_ (below_step (z5_ HB.out) hb) (hbox) ((z7_ HB.out : w.heap.size ≤ gb377)) ((z7_ HB.out : w.heap.size ≤ gb377)); clear HB; have ⟨HB, BK377, GW377, GE377⟩ := n_; clear n_; clear hb hbox hg) | ((with_reducible refine gate_dst (N := 9) rfl ?_); refine Kd.R_lit Kd.string _ 9 ?hg (N := 9) ?hd (xs := ([a0] : List ByteArray)) (inner := [.string a0]) (ok := fun _ => True) (okp := fun _ => True) ?hr ?hp (fun _ hk => hk) trivial (Below.refl _ _) (Nat.le_refl _) (by simp) ?_; (case hd => rfl); (case hg => rfl); (case hr => first | (go_simp; done) | (go_simp; rfl)); (case hp => exact (Reps.one (show Kd.M Kd.string _ _ _ a0 [.string a0] from rfl) (Reps.none _ _))); intro v379 w6 ho7 hb hg_ hnew_; clear hg_ hnew_; (first | rw [← Ny378.out] at ho7 | (simp only [Int.reduceToNat] at ho7; rw [← Ny378.out] at ho7)); have n_ := as3_ (Kd.R_lower ho7 (below_size (z1_ HB.out GE377.out))) (blkB_ BK377.out hb) (below_step (z1_ HB.out GE377.out) hb); clear BK377 HB; have ⟨HO380, BK377, HB⟩ := n_; clear n_; clear hb ho7; obtain ⟨Ao8, co8, eo8⟩ := Kd.R_slice HO380.out; subst eo8) | ((with_reducible refine gate_callee (f := 93) rfl ?_); refine goesL_ (some 10) rfl rfl Try.func93 (by kernel_rfl) rfl #[.slice Ao8 y378.length co8] rfl (z0_) ?_; (with_reducible refine (impl_isLong.calls k _ _ y378 true _ ?side1 ?side2 A3.out).mono ?_); (case side1 => exact z27_ HO380.out); (case side2 => exact (Kd.R_reads' HO380.out).2.1); rintro e w' ⟨rfl, ⟨nd, rfl⟩⟩; refine ⟨_, rfl, ?_⟩; (try (rw [drewN_self w6]; generalize hq_ : World.drewN w6 _ = w6; have n0_ : Aside0 (Kd.R Kd.string 9 w6 w.heap.size (fun _ => True) (.slice Ao8 y378.length co8) y378) := ⟨z50_ HO380.out⟩; have n1_ : Aside0 (w6.heap[gb377]? = some (.cells #[.int .i64 0, .int .i64 0, .int .i64 0] 199 (0, 0))) := ⟨z36_ BK377.out⟩; have n2_ : Aside0 (Below w.heap.size w w6) := ⟨z51_ HB.out GE377.out⟩; clear HO380 BK377 HB hq_; have HO380 := n0_; have BK377 := n1_; have HB := n2_; clear n0_ n1_ n2_)); have hcz9_0 : w6.cell? ⟨gb377, 0, none⟩ = some (.int .i64 0) := (blk_cell BK377.out 0).trans rfl; have hcz9_1 : w6.cell? ⟨gb377, 1, none⟩ = some (.int .i64 0) := (blk_cell BK377.out 1).trans rfl; have hcz9_2 : w6.cell? ⟨gb377, 2, none⟩ = some (.int .i64 0) := (blk_cell BK377.out 2).trans rfl; have hfz9_0 := blk_frozen BK377.out 0; have hfz9_1 := blk_frozen BK377.out 1; have hfz9_2 := blk_frozen BK377.out 2))
  refine bodyPost_ret (results_cell_row rfl _ _ gb377 199 #[.int .i64 0, .int .i64 0, .int .i64 2] (0, 0) _ rfl (z14_ BK377.out) Try.underlying199 rfl (by kernel_rfl)) rfl ?_
  exact ⟨z8_, z1_ HB.out GE377.out⟩
 ·replace c4 := Bool.eq_false_iff.mpr c4
  subst c4
  have H1 : (if a1 < 0 then (some (0, 0, 1)) else (impl_GetNum.l0 k a0 a1 0 0)) = some (r1, r2, r3) := by rw [if_neg (show ¬ (false = true) by decide)] at H; exact H
  clear H
  have H := H1
  clear H1
  by_cases c10 : a1 < 0
  ·rw [if_pos c10] at H
   have c10b0 : decide (a1 < 0) = true := decide_eq_true c10
   clear c10
   simp only [Option.some.injEq, Prod.mk.injEq] at H
   obtain ⟨rfl, rfl, rfl⟩ := H
   go_enter Try.func203, Try.ntmps203
   go_wp2_with (first | ((with_reducible refine gate_dst (N := 4) rfl ?_); refine box_event ?hg (N := 4) ?hd (cs := #[.int .i64 0, .int .i64 0, .int .i64 0]) (t := 199) ?hr ?_; (case hd => rfl); (case hg => rfl); (case hr => first | (go_simp; done) | (go_simp; rfl)); intro gb377 hg w11 hbox hb; have n_ := as4_ (below_step (z5_ HB.out) hb) (hbox) ((z7_ HB.out : w.heap.size ≤ gb377)) ((z7_ HB.out : w.heap.size ≤ gb377)); clear HB; have ⟨HB, BK377, GW377, GE377⟩ := n_; clear n_; clear hb hbox hg) | ((with_reducible refine gate_dst (N := 9) rfl ?_); refine Kd.R_lit Kd.string _ 9 ?hg (N := 9) ?hd (xs := ([a0] : List ByteArray)) (inner := [.string a0]) (ok := fun _ => True) (okp := fun _ => True) ?hr ?hp (fun _ hk => hk) trivial (Below.refl _ _) (Nat.le_refl _) (by simp) ?_; (case hd => rfl); (case hg => rfl); (case hr => first | (go_simp; done) | (go_simp; rfl)); (case hp => exact (Reps.one (show Kd.M Kd.string _ _ _ a0 [.string a0] from rfl) (Reps.none _ _))); intro v379 w12 ho13 hb hg_ hnew_; clear hg_ hnew_; (first | rw [← Ny378.out] at ho13 | (simp only [Int.reduceToNat] at ho13; rw [← Ny378.out] at ho13)); have n_ := as3_ (Kd.R_lower ho13 (below_size (z1_ HB.out GE377.out))) (blkB_ BK377.out hb) (below_step (z1_ HB.out GE377.out) hb); clear BK377 HB; have ⟨HO380, BK377, HB⟩ := n_; clear n_; clear hb ho13; obtain ⟨Ao14, co14, eo14⟩ := Kd.R_slice HO380.out; subst eo14) | ((with_reducible refine gate_callee (f := 93) rfl ?_); refine goesL_ (some 10) rfl rfl Try.func93 (by kernel_rfl) rfl #[.slice Ao14 y378.length co14] rfl (z0_) ?_; (with_reducible refine (impl_isLong.calls k _ _ y378 false _ ?side1 ?side2 A3.out).mono ?_); (case side1 => exact z27_ HO380.out); (case side2 => exact (Kd.R_reads' HO380.out).2.1); rintro e w' ⟨rfl, ⟨nd, rfl⟩⟩; refine ⟨_, rfl, ?_⟩; (try (rw [drewN_self w12]; generalize hq_ : World.drewN w12 _ = w12; have n0_ : Aside0 (Kd.R Kd.string 9 w12 w.heap.size (fun _ => True) (.slice Ao14 y378.length co14) y378) := ⟨z50_ HO380.out⟩; have n1_ : Aside0 (w12.heap[gb377]? = some (.cells #[.int .i64 0, .int .i64 0, .int .i64 0] 199 (0, 0))) := ⟨z36_ BK377.out⟩; have n2_ : Aside0 (Below w.heap.size w w12) := ⟨z51_ HB.out GE377.out⟩; clear HO380 BK377 HB hq_; have HO380 := n0_; have BK377 := n1_; have HB := n2_; clear n0_ n1_ n2_)); have hcz15_0 : w12.cell? ⟨gb377, 0, none⟩ = some (.int .i64 0) := (blk_cell BK377.out 0).trans rfl; have hcz15_1 : w12.cell? ⟨gb377, 1, none⟩ = some (.int .i64 0) := (blk_cell BK377.out 1).trans rfl; have hcz15_2 : w12.cell? ⟨gb377, 2, none⟩ = some (.int .i64 0) := (blk_cell BK377.out 2).trans rfl; have hfz15_0 := blk_frozen BK377.out 0; have hfz15_1 := blk_frozen BK377.out 1; have hfz15_2 := blk_frozen BK377.out 2))
   refine bodyPost_ret (results_cell_row rfl _ _ gb377 199 #[.int .i64 0, .int .i64 0, .int .i64 1] (0, 0) _ rfl (z14_ BK377.out) Try.underlying199 rfl (by kernel_rfl)) rfl ?_
   exact ⟨z8_, z1_ HB.out GE377.out⟩
  ·rw [if_neg c10] at H
   have c10b0 : decide (a1 < 0) = false := decide_eq_false c10
   clear c10
   have H' := Aside0.mk H
   clear H
   go_enter Try.func203, Try.ntmps203
   go_wp2_with (first | ((with_reducible refine gate_dst (N := 4) rfl ?_); refine box_event ?hg (N := 4) ?hd (cs := #[.int .i64 0, .int .i64 0, .int .i64 0]) (t := 199) ?hr ?_; (case hd => rfl); (case hg => rfl); (case hr => first | (go_simp; done) | (go_simp; rfl)); intro gb377 hg w16 hbox hb; have n_ := as4_ (below_step (z5_ HB.out) hb) (hbox) ((z7_ HB.out : w.heap.size ≤ gb377)) ((z7_ HB.out : w.heap.size ≤ gb377)); clear HB; have ⟨HB, BK377, GW377, GE377⟩ := n_; clear n_; clear hb hbox hg) | ((with_reducible refine gate_dst (N := 9) rfl ?_); refine Kd.R_lit Kd.string _ 9 ?hg (N := 9) ?hd (xs := ([a0] : List ByteArray)) (inner := [.string a0]) (ok := fun _ => True) (okp := fun _ => True) ?hr ?hp (fun _ hk => hk) trivial (Below.refl _ _) (Nat.le_refl _) (by simp) ?_; (case hd => rfl); (case hg => rfl); (case hr => first | (go_simp; done) | (go_simp; rfl)); (case hp => exact (Reps.one (show Kd.M Kd.string _ _ _ a0 [.string a0] from rfl) (Reps.none _ _))); intro v379 w17 ho18 hb hg_ hnew_; clear hg_ hnew_; (first | rw [← Ny378.out] at ho18 | (simp only [Int.reduceToNat] at ho18; rw [← Ny378.out] at ho18)); have n_ := as3_ (Kd.R_lower ho18 (below_size (z1_ HB.out GE377.out))) (blkB_ BK377.out hb) (below_step (z1_ HB.out GE377.out) hb); clear BK377 HB; have ⟨HO380, BK377, HB⟩ := n_; clear n_; clear hb ho18; obtain ⟨Ao19, co19, eo19⟩ := Kd.R_slice HO380.out; subst eo19) | ((with_reducible refine gate_callee (f := 93) rfl ?_); refine goesL_ (some 10) rfl rfl Try.func93 (by kernel_rfl) rfl #[.slice Ao19 y378.length co19] rfl (z0_) ?_; (with_reducible refine (impl_isLong.calls k _ _ y378 false _ ?side1 ?side2 A3.out).mono ?_); (case side1 => exact z27_ HO380.out); (case side2 => exact (Kd.R_reads' HO380.out).2.1); rintro e w' ⟨rfl, ⟨nd, rfl⟩⟩; refine ⟨_, rfl, ?_⟩))
   go_loopg [5, 15] k (fun kq v5 v15 w' => ∃ (x5_1 : Int) (x15_1 : Int) (x378000_1 : Int) (x378001_1 : Int) (x378002_1 : Int), v5 = .int .u64 x5_1 ∧ v15 = .int .i64 x15_1 ∧ Aside0 (impl_GetNum.l0 kq a0 a1 x5_1 x15_1 = some (r1, r2, r3)) ∧ Aside0 (kq ≤ k) ∧ Aside0 (w'.heap[gb377]? = some (.cells #[.int .i64 x378000_1, .int .i64 x378001_1, .int .i64 x378002_1] 199 (0, 0))) ∧ Aside0 (Below w.heap.size w w'))
   case atStart => exact ⟨(0), (0), (0), (0), (0), (z2_), (z2_), H', ⟨Nat.le_refl _⟩, ⟨z9_ BK377.out⟩, ⟨z1_ HB.out GE377.out⟩⟩
   case round =>
    clear H'
    try clear c1
    try clear c2
    try clear p2
    try clear c4
    try clear c9
    try clear c10
    try clear c10b0
    try clear hcz15_0
    try clear hcz15_1
    try clear hcz15_2
    try clear hcz9_0
    try clear hcz9_1
    try clear hcz9_2
    try clear hfz15_0
    try clear hfz15_1
    try clear hfz15_2
    try clear hfz9_0
    try clear hfz9_1
    try clear hfz9_2
    obtain ⟨x5_1, x15_1, x378000_1, x378001_1, x378002_1, rfl, rfl, HA, HK1, BK377, HB⟩ := hrel
    cases gk with
    | zero => exact absurd HA.out (by simp [impl_GetNum.l0])
    | succ k1 =>
     have H := HA.out
     clear HA
     simp only [impl_GetNum.l0] at H
     by_cases c20 : x15_1 < 10
     ·rw [if_pos c20] at H
      have c20b0 : decide (x15_1 < 10) = true := decide_eq_true c20
      clear c20
      have HC21 := Aside0.mk H
      clear H
      go_upto_region 9 with (fail)
      go_cut [29] (fun v29 wc => ∃ (kq : Nat) (x29_20 : Bool), v29 = .bool x29_20 ∧ Aside0 (impl_GetNum.j1 kq a0 a1 x5_1 x15_1 x15_1 x29_20 = some (r1, r2, r3)) ∧ Aside0 (kq ≤ k1) ∧ Aside0 (wc.heap[gb377]? = some (.cells #[.int .i64 x378000_1, .int .i64 x378001_1, .int .i64 x378002_1] 199 (0, 0))) ∧ Aside0 (Below w.heap.size w wc))
      case first =>
       have H := HC21.out
       clear HC21
       replace H := Option.bind_eq_some_iff.mp H
       obtain ⟨t382, A220, H⟩ := H
       replace H : (if a1 ≥ t382 then (impl_GetNum.j1 k1 a0 a1 x5_1 x15_1 x15_1 true) else ((impl_size.f a0).bind fun t383 => (impl_GetNum.j1 k1 a0 a1 x5_1 x15_1 x15_1 (decide (x15_1 ≥ (wrap64 (t383 - a1))))))) = some (r1, r2, r3) := H
       have A22 := Aside0.mk A220
       clear A220
       by_cases c23 : a1 ≥ t382
       ·rw [if_pos c23] at H
        have c23b0 : decide (t382 ≤ a1) = true := decide_eq_true c23
        clear c23
        (first | rw [c23b0] | (simp only [i64_w, i32_w]; rw [c23b0]) | skip)
        have H' := Aside0.mk H
        clear H
        go_wp2_with (first | ((with_reducible refine gate_callee (f := 162) rfl ?_); refine goesL_ (some 20) rfl rfl Try.func162 (by kernel_rfl) rfl #[.string a0] rfl (z0_) ?_; (with_reducible refine (impl_size.calls a0 t382 _ A22.out).mono ?_); rintro e w' ⟨rfl, ⟨nd, rfl⟩⟩; refine ⟨_, rfl, ?_⟩))
        go_meet
        case rel => exact ⟨_, (true), (z2_), H', ⟨z26_ HK1.out⟩, ⟨z9_ BK377.out⟩, ⟨z1_ HB.out GE377.out⟩⟩
       ·rw [if_neg c23] at H
        have c23b0 : decide (t382 ≤ a1) = false := decide_eq_false c23
        clear c23
        (first | rw [c23b0] | (simp only [i64_w, i32_w]; rw [c23b0]) | skip)
        replace H := Option.bind_eq_some_iff.mp H
        obtain ⟨t383, A240, H⟩ := H
        replace H : (impl_GetNum.j1 k1 a0 a1 x5_1 x15_1 x15_1 (decide (x15_1 ≥ (wrap64 (t383 - a1))))) = some (r1, r2, r3) := H
        have A24 := Aside0.mk A240
        clear A240
        have H' := Aside0.mk H
        clear H
        go_wp2_with (first | ((with_reducible refine gate_callee (f := 162) rfl ?_); refine goesL_ (some 20) rfl rfl Try.func162 (by kernel_rfl) rfl #[.string a0] rfl (z0_) ?_; (with_reducible refine (impl_size.calls a0 t382 _ A22.out).mono ?_); rintro e w' ⟨rfl, ⟨nd, rfl⟩⟩; refine ⟨_, rfl, ?_⟩) | (go_at_call 162; (with_reducible refine (impl_size.calls a0 t383 _ A24.out).mono ?_); rintro e w' ⟨rfl, ⟨nd, rfl⟩⟩))
        go_meet
        case rel => exact ⟨_, (decide (x15_1 ≥ (wrap64 (t383 - a1)))), (z2_), H', ⟨z26_ HK1.out⟩, ⟨z9_ BK377.out⟩, ⟨z1_ HB.out GE377.out⟩⟩
      case rest =>
       clear HC21
       try clear c1
       try clear c2
       try clear p2
       try clear c4
       try clear p6
       try clear c9
       try clear c10
       try clear c10b0
       try clear c16
       try clear c20
       try clear c20b0
       try clear c23
       try clear c23b0
       try clear hcz15_0
       try clear hcz15_1
       try clear hcz15_2
       try clear hcz9_0
       try clear hcz9_1
       try clear hcz9_2
       try clear hfz15_0
       try clear hfz15_1
       try clear hfz15_2
       try clear hfz9_0
       try clear hfz9_1
       try clear hfz9_2
       try clear p2
       obtain ⟨kq, x29_20, rfl, HA, HJ20, BK377, HB⟩ := hcut
       cases kq with
       | zero => exact absurd HA.out (by simp [impl_GetNum.j1])
       | succ kj20 =>
        have H := HA.out
        clear HA
        simp only [impl_GetNum.j1] at H
        by_cases c25 : x29_20 = true
        ·subst c25
         have H1 : (some (0, 0, 4)) = some (r1, r2, r3) := by rw [if_pos rfl] at H; exact H
         clear H
         have H := H1
         clear H1
         simp only [Option.some.injEq, Prod.mk.injEq] at H
         obtain ⟨rfl, rfl, rfl⟩ := H
         have ⟨hcz26_0, hcz26_1, hcz26_2, hfz26_0, hfz26_1, hfz26_2⟩ := cz3_ BK377.out
         go_wp2
         refine bodyPost_ret (results_cell_row rfl _ _ gb377 199 #[.int .i64 0, .int .i64 0, .int .i64 4] (0, 0) _ rfl (z14_ BK377.out) Try.underlying199 rfl (by kernel_rfl)) rfl ?_
         exact ⟨z8_, z1_ HB.out GE377.out⟩
        ·replace c25 := Bool.eq_false_iff.mpr c25
         subst c25
         have H1 : (if 0 ≤ (wrap64 (a1 + x15_1)) then (if (wrap64 (a1 + x15_1)) < (a0.size : Int) then (if x15_1 = 9 then (impl_GetNum.j2 kj20 a0 a1 x5_1 x15_1 (bt a0 (wrap64 (a1 + x15_1))) x15_1 (decide ((bt a0 (wrap64 (a1 + x15_1))) > 1))) else (impl_GetNum.j2 kj20 a0 a1 x5_1 x15_1 (bt a0 (wrap64 (a1 + x15_1))) x15_1 false)) else (none)) else (none)) = some (r1, r2, r3) := by rw [if_neg (show ¬ (false = true) by decide)] at H; exact H
         clear H
         have H := H1
         clear H1
         obtain ⟨ji27, hji27⟩ : ∃ j_ : Int, (wrap64 (a1 + x15_1)) = j_ := ⟨_, rfl⟩
         replace H : (if 0 ≤ (ji27) then (if (ji27) < (a0.size : Int) then (if x15_1 = 9 then (impl_GetNum.j2 kj20 a0 a1 x5_1 x15_1 (bt a0 (ji27)) x15_1 (decide ((bt a0 (ji27)) > 1))) else (impl_GetNum.j2 kj20 a0 a1 x5_1 x15_1 (bt a0 (ji27)) x15_1 false)) else (none)) else (none)) = some (r1, r2, r3) := by first | (rw [hji27] at H; exact H) | (simp only [hji27] at H ⊢; exact H)
         have hji27w : (IntKind.i64.wrap (a1 + x15_1)) = ji27 := (i64_w _).trans hji27
         by_cases c28 : 0 ≤ (ji27)
         ·rw [if_pos c28] at H
          have c28b0 : decide (0 ≤ (ji27)) = true := decide_eq_true c28
          clear c28
          by_cases c29 : (ji27) < (a0.size : Int)
          ·rw [if_pos c29] at H
           have c29b0 : decide ((ji27) < (a0.size : Int)) = true := decide_eq_true c29
           clear c29
           have HC31 := Aside0.mk H
           clear H
           have p30 : 0 ≤ ((ji27) : Int) := of_decide_eq_true (z3_)
           have q30 : (ji27) < (a0.size : Int) := of_decide_eq_true (z3_)
           have hx30 := bt_at a0 (ji27)
           replace p30 := eq_true p30
           replace q30 := eq_true q30
           go_upto_region 12 with (fail)
           go_cut [41] (fun v41 wc => ∃ (kq : Nat) (x41_30 : Bool), v41 = .bool x41_30 ∧ Aside0 (impl_GetNum.j2 kq a0 a1 x5_1 x15_1 (bt a0 (ji27)) x15_1 x41_30 = some (r1, r2, r3)) ∧ Aside0 (kq ≤ kj20) ∧ Aside0 (wc.heap[gb377]? = some (.cells #[.int .i64 x378000_1, .int .i64 x378001_1, .int .i64 x378002_1] 199 (0, 0))) ∧ Aside0 (Below w.heap.size w wc))
           case first =>
            have H := HC31.out
            clear HC31
            by_cases c32 : x15_1 = 9
            ·rw [if_pos c32] at H
             have c32b0 : (x15_1 == 9) = true := beq_iff_eq.mpr c32
             have c32b1 : (x15_1 != 9) = false := bne_eq_false_iff_eq.mpr c32
             clear c32
             (first | rw [c32b0] | (simp only [i64_w, i32_w]; rw [c32b0]) | skip)
             have H' := Aside0.mk H
             clear H
             go_wp2
             go_meet
             case rel => exact ⟨_, (decide ((bt a0 (ji27)) > 1)), (by first | rfl | (simp; done) | (simp only [← hji27] <;> (first | rfl | simp)) | (simp [*]; done)), H', ⟨z33_ HK1.out HJ20.out⟩, ⟨z9_ BK377.out⟩, ⟨z1_ HB.out GE377.out⟩⟩
            ·rw [if_neg c32] at H
             have c32b0 : (x15_1 == 9) = false := beq_eq_false_iff_ne.mpr c32
             have c32b1 : (x15_1 != 9) = true := bne_iff_ne.mpr c32
             (first | rw [c32b0] | (simp only [i64_w, i32_w]; rw [c32b0]) | skip)
             have H' := Aside0.mk H
             clear H
             go_wp2
             go_meet
             case rel => exact ⟨_, (false), (z2_), H', ⟨z33_ HK1.out HJ20.out⟩, ⟨z9_ BK377.out⟩, ⟨z1_ HB.out GE377.out⟩⟩
           case rest =>
            clear HC31
            try clear c1
            try clear c2
            try clear p2
            try clear c3
            try clear p3
            try clear q3
            try clear hx3
            try clear c4
            try clear p6
            try clear c9
            try clear c10
            try clear c10b0
            try clear c16
            try clear c20
            try clear c20b0
            try clear c23
            try clear c23b0
            try clear c25
            try clear c28
            try clear c28b0
            try clear c29
            try clear c29b0
            try clear p30
            try clear q30
            try clear hx30
            try clear c32
            try clear c32b0
            try clear c32b1
            try clear hcz15_0
            try clear hcz15_1
            try clear hcz15_2
            try clear hcz26_0
            try clear hcz26_1
            try clear hcz26_2
            try clear hcz9_0
            try clear hcz9_1
            try clear hcz9_2
            try clear hfz15_0
            try clear hfz15_1
            try clear hfz15_2
            try clear hfz26_0
            try clear hfz26_1
            try clear hfz26_2
            try clear hfz9_0
            try clear hfz9_1
            try clear hfz9_2
            try clear p2
            try clear p30
            try clear p6
            try clear q30
            obtain ⟨kq, x41_30, rfl, HA, HJ30, BK377, HB⟩ := hcut
            cases kq with
            | zero => exact absurd HA.out (by simp [impl_GetNum.j2])
            | succ kj30 =>
             have H := HA.out
             clear HA
             simp only [impl_GetNum.j2] at H
             by_cases c33 : x41_30 = true
             ·subst c33
              have H1 : (some (0, 0, 3)) = some (r1, r2, r3) := by rw [if_pos rfl] at H; exact H
              clear H
              have H := H1
              clear H1
              simp only [Option.some.injEq, Prod.mk.injEq] at H
              obtain ⟨rfl, rfl, rfl⟩ := H
              have ⟨hcz34_0, hcz34_1, hcz34_2, hfz34_0, hfz34_1, hfz34_2⟩ := cz3_ BK377.out
              go_wp2
              (try subst hji27)
              refine bodyPost_ret (results_cell_row rfl _ _ gb377 199 #[.int .i64 0, .int .i64 0, .int .i64 3] (0, 0) _ rfl (z14_ BK377.out) Try.underlying199 rfl (by kernel_rfl)) rfl ?_
              exact ⟨by first | rfl | (simp [errW_none, errW_some] <;> rfl) | (simp only [← hji27]; first | rfl | (simp [errW_none, errW_some] <;> rfl)) | (simp [*, errW_none, errW_some] <;> rfl), z1_ HB.out GE377.out⟩
             ·replace c33 := Bool.eq_false_iff.mpr c33
              subst c33
              have H1 : (if 0 ≤ (IntKind.u64.wrap (7 * (IntKind.u64.wrap (x15_1)))) then (if (bt a0 (ji27)) < 128 then (if (bt a0 (ji27)) = 0 then (if x15_1 > 0 then (some (0, 0, 3)) else (some (Go.bits .xor .i64 (wrap64 ((Go.bits .or .u64 x5_1 (shl .u64 (IntKind.u64.wrap (Go.bits .and .u8 (bt a0 (ji27)) 127)) (IntKind.u64.wrap (7 * (IntKind.u64.wrap (x15_1)))))) / 2)) (wrap64 (-(wrap64 (Go.bits .and .u64 (Go.bits .or .u64 x5_1 (shl .u64 (IntKind.u64.wrap (Go.bits .and .u8 (bt a0 (ji27)) 127)) (IntKind.u64.wrap (7 * (IntKind.u64.wrap (x15_1)))))) 1)))), wrap64 ((wrap64 (a1 + x15_1)) + 1), 0))) else (some (Go.bits .xor .i64 (wrap64 ((Go.bits .or .u64 x5_1 (shl .u64 (IntKind.u64.wrap (Go.bits .and .u8 (bt a0 (ji27)) 127)) (IntKind.u64.wrap (7 * (IntKind.u64.wrap (x15_1)))))) / 2)) (wrap64 (-(wrap64 (Go.bits .and .u64 (Go.bits .or .u64 x5_1 (shl .u64 (IntKind.u64.wrap (Go.bits .and .u8 (bt a0 (ji27)) 127)) (IntKind.u64.wrap (7 * (IntKind.u64.wrap (x15_1)))))) 1)))), wrap64 ((wrap64 (a1 + x15_1)) + 1), 0))) else (impl_GetNum.l0 kj30 a0 a1 (Go.bits .or .u64 x5_1 (shl .u64 (IntKind.u64.wrap (Go.bits .and .u8 (bt a0 (ji27)) 127)) (IntKind.u64.wrap (7 * (IntKind.u64.wrap (x15_1)))))) (wrap64 (x15_1 + 1)))) else (none)) = some (r1, r2, r3) := by rw [if_neg (show ¬ (false = true) by decide)] at H; exact H
              clear H
              have H := H1
              clear H1
              obtain ⟨ji35, hji35⟩ : ∃ j_ : Int, (IntKind.u64.wrap (7 * (IntKind.u64.wrap (x15_1)))) = j_ := ⟨_, rfl⟩
              replace H : (if 0 ≤ (ji35) then (if (bt a0 (ji27)) < 128 then (if (bt a0 (ji27)) = 0 then (if x15_1 > 0 then (some (0, 0, 3)) else (some (Go.bits .xor .i64 (wrap64 ((Go.bits .or .u64 x5_1 (shl .u64 (IntKind.u64.wrap (Go.bits .and .u8 (bt a0 (ji27)) 127)) (ji35))) / 2)) (wrap64 (-(wrap64 (Go.bits .and .u64 (Go.bits .or .u64 x5_1 (shl .u64 (IntKind.u64.wrap (Go.bits .and .u8 (bt a0 (ji27)) 127)) (ji35))) 1)))), wrap64 ((wrap64 (a1 + x15_1)) + 1), 0))) else (some (Go.bits .xor .i64 (wrap64 ((Go.bits .or .u64 x5_1 (shl .u64 (IntKind.u64.wrap (Go.bits .and .u8 (bt a0 (ji27)) 127)) (ji35))) / 2)) (wrap64 (-(wrap64 (Go.bits .and .u64 (Go.bits .or .u64 x5_1 (shl .u64 (IntKind.u64.wrap (Go.bits .and .u8 (bt a0 (ji27)) 127)) (ji35))) 1)))), wrap64 ((wrap64 (a1 + x15_1)) + 1), 0))) else (impl_GetNum.l0 kj30 a0 a1 (Go.bits .or .u64 x5_1 (shl .u64 (IntKind.u64.wrap (Go.bits .and .u8 (bt a0 (ji27)) 127)) (ji35))) (wrap64 (x15_1 + 1)))) else (none)) = some (r1, r2, r3) := by first | (rw [hji35] at H; exact H) | (simp only [hji35] at H ⊢; exact H)
              by_cases c36 : 0 ≤ (ji35)
              ·rw [if_pos c36] at H
               have c36b0 := eq_true c36
               have c36b1 : decide (0 ≤ (ji35)) = true := decide_eq_true c36
               clear c36
               obtain ⟨ji37, hji37⟩ : ∃ j_ : Int, (shl .u64 (IntKind.u64.wrap (Go.bits .and .u8 (bt a0 (ji27)) 127)) (ji35)) = j_ := ⟨_, rfl⟩
               replace H : (if (bt a0 (ji27)) < 128 then (if (bt a0 (ji27)) = 0 then (if x15_1 > 0 then (some (0, 0, 3)) else (some (Go.bits .xor .i64 (wrap64 ((Go.bits .or .u64 x5_1 (ji37)) / 2)) (wrap64 (-(wrap64 (Go.bits .and .u64 (Go.bits .or .u64 x5_1 (ji37)) 1)))), wrap64 ((wrap64 (a1 + x15_1)) + 1), 0))) else (some (Go.bits .xor .i64 (wrap64 ((Go.bits .or .u64 x5_1 (ji37)) / 2)) (wrap64 (-(wrap64 (Go.bits .and .u64 (Go.bits .or .u64 x5_1 (ji37)) 1)))), wrap64 ((wrap64 (a1 + x15_1)) + 1), 0))) else (impl_GetNum.l0 kj30 a0 a1 (Go.bits .or .u64 x5_1 (ji37)) (wrap64 (x15_1 + 1)))) = some (r1, r2, r3) := by first | (rw [hji37] at H; exact H) | (simp only [hji37] at H ⊢; exact H)
               have hji37_ : (IntKind.u64.wrap ((IntKind.u64.wrap (Go.bits .and .u8 (bt a0 (ji27)) 127)) * 2 ^ min (ji35).toNat 64)) = ji37 := hji37
               have hji37z : (ji35) ≤ 64 → (IntKind.u64.wrap ((IntKind.u64.wrap (Go.bits .and .u8 (bt a0 (ji27)) 127)) * 2 ^ (ji35).toNat)) = ji37 := shl_small hji37
               by_cases c38 : (bt a0 (ji27)) < 128
               ·rw [if_pos c38] at H
                have c38b0 : decide ((bt a0 (ji27)) < 128) = true := decide_eq_true c38
                clear c38
                by_cases c39 : (bt a0 (ji27)) = 0
                ·rw [if_pos c39] at H
                 have c39b0 : ((bt a0 (ji27)) == 0) = true := beq_iff_eq.mpr c39
                 have c39b1 : ((bt a0 (ji27)) != 0) = false := bne_eq_false_iff_eq.mpr c39
                 clear c39
                 by_cases c40 : x15_1 > 0
                 ·rw [if_pos c40] at H
                  have c40b0 : decide (0 < x15_1) = true := decide_eq_true c40
                  clear c40
                  simp only [Option.some.injEq, Prod.mk.injEq] at H
                  obtain ⟨rfl, rfl, rfl⟩ := H
                  have ⟨hcz41_0, hcz41_1, hcz41_2, hfz41_0, hfz41_1, hfz41_2⟩ := cz3_ BK377.out
                  go_wp2
                  (try subst hji37)
                  (try subst hji35)
                  (try subst hji27)
                  refine bodyPost_ret (results_cell_row rfl _ _ gb377 199 #[.int .i64 0, .int .i64 0, .int .i64 3] (0, 0) _ rfl (z14_ BK377.out) Try.underlying199 rfl (by kernel_rfl)) rfl ?_
                  exact ⟨z67_, z1_ HB.out GE377.out⟩
                 ·rw [if_neg c40] at H
                  have c40b0 : decide (0 < x15_1) = false := decide_eq_false c40
                  clear c40
                  simp only [Option.some.injEq, Prod.mk.injEq] at H
                  obtain ⟨rfl, rfl, rfl⟩ := H
                  have ⟨hcz42_0, hcz42_1, hcz42_2, hfz42_0, hfz42_1, hfz42_2⟩ := cz3_ BK377.out
                  go_wp2
                  (try subst hji35)
                  (try subst hji27)
                  refine bodyPost_ret (results_cell_row rfl _ _ gb377 199 #[.int .i64 (Go.bits .xor .i64 (wrap64 ((Go.bits .or .u64 x5_1 (ji37)) / 2)) (wrap64 (-(wrap64 (Go.bits .and .u64 (Go.bits .or .u64 x5_1 (ji37)) 1))))), .int .i64 (wrap64 ((wrap64 (a1 + x15_1)) + 1)), .int .i64 0] (0, 0) _ rfl (z14_ BK377.out) Try.underlying199 rfl (by kernel_rfl)) rfl ?_
                  exact ⟨z67_, z1_ HB.out GE377.out⟩
                ·rw [if_neg c39] at H
                 have c39b0 : ((bt a0 (ji27)) == 0) = false := beq_eq_false_iff_ne.mpr c39
                 have c39b1 : ((bt a0 (ji27)) != 0) = true := bne_iff_ne.mpr c39
                 simp only [Option.some.injEq, Prod.mk.injEq] at H
                 obtain ⟨rfl, rfl, rfl⟩ := H
                 have ⟨hcz43_0, hcz43_1, hcz43_2, hfz43_0, hfz43_1, hfz43_2⟩ := cz3_ BK377.out
                 go_wp2
                 (try subst hji35)
                 (try subst hji27)
                 refine bodyPost_ret (results_cell_row rfl _ _ gb377 199 #[.int .i64 (Go.bits .xor .i64 (wrap64 ((Go.bits .or .u64 x5_1 (ji37)) / 2)) (wrap64 (-(wrap64 (Go.bits .and .u64 (Go.bits .or .u64 x5_1 (ji37)) 1))))), .int .i64 (wrap64 ((wrap64 (a1 + x15_1)) + 1)), .int .i64 0] (0, 0) _ rfl (z14_ BK377.out) Try.underlying199 rfl (by kernel_rfl)) rfl ?_
                 exact ⟨z67_, z1_ HB.out GE377.out⟩
               ·rw [if_neg c38] at H
                have c38b0 : decide ((bt a0 (ji27)) < 128) = false := decide_eq_false c38
                clear c38
                have H' := Aside0.mk H
                clear H
                go_wp2
                go_roundg kj30
                case measure => have := HK1.out; have := HJ20.out; have := HJ30.out; omega
                case rel => exact ⟨(Go.bits .or .u64 x5_1 (ji37)), (wrap64 (x15_1 + 1)), (x378000_1), (x378001_1), (x378002_1), (by first | rfl | (simp; done) | (simp only [← hji37] <;> (first | rfl | simp)) | (simp [*]; done)), (z2_), H', ⟨by have := HK1.out; have := HJ20.out; have := HJ30.out; omega⟩, ⟨z9_ BK377.out⟩, ⟨z1_ HB.out GE377.out⟩⟩
              ·rw [if_neg c36] at H
               exact absurd H (by simp)
          ·rw [if_neg c29] at H
           exact absurd H (by simp)
         ·rw [if_neg c28] at H
          exact absurd H (by simp)
     ·rw [if_neg c20] at H
      have c20b0 : decide (x15_1 < 10) = false := decide_eq_false c20
      clear c20
      simp only [Option.some.injEq, Prod.mk.injEq] at H
      obtain ⟨rfl, rfl, rfl⟩ := H
      have ⟨hcz44_0, hcz44_1, hcz44_2, hfz44_0, hfz44_1, hfz44_2⟩ := cz3_ BK377.out
      go_wp2
      refine bodyPost_ret (results_cell_row rfl _ _ gb377 199 #[.int .i64 0, .int .i64 0, .int .i64 3] (0, 0) _ rfl (z14_ BK377.out) Try.underlying199 rfl (by kernel_rfl)) rfl ?_
      exact ⟨z8_, z1_ HB.out GE377.out⟩


/-- A state of type 127 at block g of W; what its slices lead to came in by w0. -/
def IsS127 (w0 W : World) (g : Nat) (f0 : ByteArray) (f1 : Int) (f2 : Bool) : Prop := W.heap[g]? = some (.cells #[.string f0, .int .i64 f1, .bool f2] 127 (0, 0)) ∧ w0.heap.size ≤ g
theorem IsS127.grown {w0 W : World} {g : Nat} {f0 : ByteArray} {f1 : Int} {f2 : Bool} {W1 : World} {row : Option Nat} (h : IsS127 w0 W g f0 f1 f2) (hw : W.grownBy W1 row) (hne : some g ≠ row) : IsS127 w0 W1 g f0 f1 f2 := by
 obtain ⟨hb, hg⟩ := h
 exact ⟨blk_grown hb hw hne, hg⟩
theorem IsS127.kept {w0 W : World} {g : Nat} {f0 : ByteArray} {f1 : Int} {f2 : Bool} {W1 : World} {S : Nat → Prop} (h : IsS127 w0 W g f0 f1 f2) (hk : Kept W W1 S) (hne : ¬ S g) : IsS127 w0 W1 g f0 f1 f2 := by
 obtain ⟨hb, hg⟩ := h
 exact ⟨blk_kept hb hk hne, hg⟩
theorem IsS127.below {w0 W : World} {g : Nat} {f0 : ByteArray} {f1 : Int} {f2 : Bool} {W1 : World} (h : IsS127 w0 W g f0 f1 f2) (hw : Below W.heap.size W W1) : IsS127 w0 W1 g f0 f1 f2 := h.grown (grown_of_below hw none) (by simp)
theorem IsS127.alloc {w0 W : World} {g : Nat} {f0 : ByteArray} {f1 : Int} {f2 : Bool} (h : IsS127 w0 W g f0 f1 f2) (o : Obj) : IsS127 w0 (W.alloc o) g f0 f1 f2 := h.below (below_alloc (Below.refl _ _) o)
theorem IsS127.drewN {w0 W : World} {g : Nat} {f0 : ByteArray} {f1 : Int} {f2 : Bool} (h : IsS127 w0 W g f0 f1 f2) (m : Nat) : IsS127 w0 (W.drewN m) g f0 f1 f2 := h
theorem IsS127.drew {w0 W : World} {g : Nat} {f0 : ByteArray} {f1 : Int} {f2 : Bool} (h : IsS127 w0 W g f0 f1 f2) : IsS127 w0 W.drew g f0 f1 f2 := h
theorem IsS127.at_ {w0 W : World} {g : Nat} {f0 : ByteArray} {f1 : Int} {f2 : Bool} {w' : World} {m : Nat} (hq : W.drewN m = w') (h : IsS127 w0 W g f0 f1 f2) : IsS127 w0 w' g f0 f1 f2 := by subst hq; exact IsS127.drewN h m
theorem IsS127.apart {w0 W : World} {g : Nat} {f0 : ByteArray} {f1 : Int} {f2 : Bool} {α : Type} {d : Kd α} {e : Nat} {base : Nat} {ok : Nat → Prop} {v : Value} {xs : List α} (h : IsS127 w0 W g f0 f1 f2) (ho : d.R e W base ok v xs) (ht : ∀ q, q ∈ e :: d.E → q ≠ 127) : d.R e W base (fun k => ok k ∧ k ≠ g) v xs := by
 obtain ⟨hb, hg⟩ := h
 exact Kd.R_types ho hb ht
theorem IsS127.own_ne {w0 W : World} {g : Nat} {f0 : ByteArray} {f1 : Int} {f2 : Bool} {α : Type} {d : Kd α} {e : Nat} {base : Nat} {ok : Nat → Prop} {v : Value} {xs : List α} (h : IsS127 w0 W g f0 f1 f2) (ho : d.R e W base ok v xs) (ht : e ≠ 127) : some g ≠ v.ownBlock := by
 obtain ⟨hb, hg⟩ := h
 exact Kd.R_ne ho hb ht
theorem IsS127.lt {w0 W : World} {g : Nat} {f0 : ByteArray} {f1 : Int} {f2 : Bool} (h : IsS127 w0 W g f0 f1 f2) : g < W.heap.size := by
 obtain ⟨hb, hg⟩ := h
 exact blk_lt hb
theorem IsS127.ge {w0 W : World} {g : Nat} {f0 : ByteArray} {f1 : Int} {f2 : Bool} (h : IsS127 w0 W g f0 f1 f2) : w0.heap.size ≤ g := by
 obtain ⟨hb, hg⟩ := h
 exact hg
theorem IsS127.far {w0 W : World} {g : Nat} {f0 : ByteArray} {f1 : Int} {f2 : Bool} {p : Addr} (h : IsS127 w0 W g f0 f1 f2) (hne : g ≠ p.block) (u : Value) : IsS127 w0 (W.setCell p u) g f0 f1 f2 := by
 obtain ⟨hb, hg⟩ := h
 exact ⟨blk_far hb hne u, hg⟩
theorem cellS127_0 {W : World} {g : Nat} {f0 : ByteArray} {f1 : Int} {f2 : Bool} (h : W.heap[g]? = some (.cells #[.string f0, .int .i64 f1, .bool f2] 127 (0, 0))) : W.cell? ⟨g, 0, none⟩ = some (.string f0) := (blk_cell h 0).trans rfl
theorem IsS127.set_0 {w0 W : World} {g : Nat} {f0 : ByteArray} {f1 : Int} {f2 : Bool} (h : IsS127 w0 W g f0 f1 f2) (x : ByteArray) : IsS127 w0 (W.setCell ⟨g, 0, none⟩ (.string x)) g x f1 f2 := by
 obtain ⟨hb, hg⟩ := h
 exact ⟨by simpa using blk_set hb 0 (.string x), hg⟩
theorem cellS127_1 {W : World} {g : Nat} {f0 : ByteArray} {f1 : Int} {f2 : Bool} (h : W.heap[g]? = some (.cells #[.string f0, .int .i64 f1, .bool f2] 127 (0, 0))) : W.cell? ⟨g, 1, none⟩ = some (.int .i64 f1) := (blk_cell h 1).trans rfl
theorem IsS127.set_1 {w0 W : World} {g : Nat} {f0 : ByteArray} {f1 : Int} {f2 : Bool} (h : IsS127 w0 W g f0 f1 f2) (x : Int) : IsS127 w0 (W.setCell ⟨g, 1, none⟩ (.int .i64 x)) g f0 x f2 := by
 obtain ⟨hb, hg⟩ := h
 exact ⟨by simpa using blk_set hb 1 (.int .i64 x), hg⟩
theorem cellS127_2 {W : World} {g : Nat} {f0 : ByteArray} {f1 : Int} {f2 : Bool} (h : W.heap[g]? = some (.cells #[.string f0, .int .i64 f1, .bool f2] 127 (0, 0))) : W.cell? ⟨g, 2, none⟩ = some (.bool f2) := (blk_cell h 2).trans rfl
theorem IsS127.set_2 {w0 W : World} {g : Nat} {f0 : ByteArray} {f1 : Int} {f2 : Bool} (h : IsS127 w0 W g f0 f1 f2) (x : Bool) : IsS127 w0 (W.setCell ⟨g, 2, none⟩ (.bool x)) g f0 f1 x := by
 obtain ⟨hb, hg⟩ := h
 exact ⟨by simpa using blk_set hb 2 (.bool x), hg⟩
/-! ### impl_taker_num: function 161 -/
def impl_taker_num.f (k : Nat) (s0_0 : ByteArray) (s0_1 : Int) (s0_2 : Bool) : Option (Int × ByteArray × Int × Bool) := if s0_2 = true then (some (0, s0_0, s0_1, s0_2)) else ((impl_GetNum.f k s0_0 s0_1).bind fun bt384 => (some (bt384.1, s0_0, bt384.2.1, (bt384.2.2 != 0))))
theorem impl_taker_num.mono : ∀ a0 a1 a2 k, LeO (impl_taker_num.f k a0 a1 a2) (impl_taker_num.f (k + 1) a0 a1 a2) := by
 intro a0 a1 a2 k
 unfold impl_taker_num.f
 repeat' first
   | (with_reducible exact impl_GetNum.mono _ _ _)
   | (with_reducible exact LeO.refl _)
   | (with_reducible exact LeO.none _)
   | (with_reducible refine LeO.ite ?_ ?_)
   | (with_reducible refine LeO.bind ?_ (fun _ => ?_))
   | exact impl_GetNum.mono _ _ _
   | exact LeO.none _
   | refine LeO.ite ?_ ?_
   | refine LeO.bind ?_ (fun _ => ?_)
def impl_taker_num.T3 : Bool × List (List Nat × List Nat) := (true, [([], []), ([0], [0]), ([1], [1]), ([2], [2]), ([], []), ([4], [4]), ([5], [5]), ([6], [6]), ([3, 7], [3, 7]), ([], []), ([9, 8, 8, 0, 1, 2, 3, 4, 5, 6, 7, 8, 9], [8, 9])])
def impl_taker_num.B3 : List Nat := [0, 1, 3, 7, 0, 16, 48, 112, 255, 0, 1023]
theorem impl_taker_num.tab3 : rtab .any (opsOf Try.f161 3) = impl_taker_num.T3 := by kernel_rfl
theorem impl_taker_num.bits3 : waitsOk impl_taker_num.T3.2 impl_taker_num.B3 = true := by kernel_rfl
def impl_taker_num.T4 : Bool × List (List Nat × List Nat) := (true, [([], []), ([], []), ([], []), ([2], [2]), ([], []), ([4], [4]), ([5], [5]), ([0, 0, 2, 3], [0]), ([7, 0, 2, 3], [7]), ([8, 3, 0, 2, 3], [3, 8]), ([1, 0, 1, 2, 3, 4, 5, 6, 7, 8, 9], [1]), ([10, 0, 1, 2, 3, 4, 5, 6, 7, 8, 9], [10]), ([11, 6, 9, 0, 1, 2, 3, 4, 5, 6, 7, 8, 9], [6, 11])])
def impl_taker_num.B4 : List Nat := [0, 0, 0, 4, 0, 16, 48, 13, 141, 397, 1023, 2047, 4095]
theorem impl_taker_num.tab4 : rtab .any (opsOf Try.f161 4) = impl_taker_num.T4 := by kernel_rfl
theorem impl_taker_num.bits4 : waitsOk impl_taker_num.T4.2 impl_taker_num.B4 = true := by kernel_rfl
set_option maxHeartbeats 8000000 in
set_option maxRecDepth 100000 in
theorem impl_taker_num.calls (k : Nat) (g : Nat) (s0_0 : ByteArray) (s0_1 : Int) (s0_2 : Bool) (r1 : Int) (r2 : ByteArray) (r3 : Int) (r4 : Bool) (w0 w : World) (hI : IsS127 w0 w g s0_0 s0_1 s0_2) (hB : Below w0.heap.size w0 w) (h : impl_taker_num.f k s0_0 s0_1 s0_2 = some (r1, r2, r3, r4)) :
  Calls Try.prog 161 #[.pointer (some ⟨g, 0, none⟩)] w fun e w' => e = .returned (.int .i64 r1) ∧ IsS127 w0 w' g r2 r3 r4 ∧ Below w0.heap.size w0 w' ∧ KeepBut w w' g none := by
 have hu199 := Try.underlying199
 have HI0 := Aside0.mk hI
 have HK := Aside0.mk (KeepBut.refl w g none)
 have HL := Aside0.mk hB.size
 clear hI
 have HW0 := Aside0.mk hB.size
 have HB := Aside0.mk hB
 clear hB
 have H : (if s0_2 = true then (some (0, s0_0, s0_1, s0_2)) else ((impl_GetNum.f k s0_0 s0_1).bind fun bt384 => (some (bt384.1, s0_0, bt384.2.1, (bt384.2.2 != 0))))) = some (r1, r2, r3, r4) := h
 clear h
 by_cases c2 : s0_2 = true
 ·subst c2
  have H1 : (some (0, s0_0, s0_1, true)) = some (r1, r2, r3, r4) := by rw [if_pos rfl] at H; exact H
  clear H
  have H := H1
  clear H1
  simp only [Option.some.injEq, Prod.mk.injEq] at H
  obtain ⟨rfl, rfl, rfl, rfl⟩ := H
  obtain ⟨HGz3, hgz3⟩ := HI0.out
  have hcz3_0 := cellS127_0 HGz3
  have hcz3_1 := cellS127_1 HGz3
  have hcz3_2 := cellS127_2 HGz3
  have hfz3_0 := blk_frozen HGz3 0
  have hfz3_1 := blk_frozen HGz3 1
  have hfz3_2 := blk_frozen HGz3 2
  clear HGz3 hgz3
  go_enter Try.func161, Try.ntmps161
  go_wp2
  go_ret
  exact ⟨z8_, z16_ HI0.out, z17_ HB.out HI0.out, z11_ HK.out⟩
 ·replace c2 := Bool.eq_false_iff.mpr c2
  subst c2
  have H1 : ((impl_GetNum.f k s0_0 s0_1).bind fun bt384 => (some (bt384.1, s0_0, bt384.2.1, (bt384.2.2 != 0)))) = some (r1, r2, r3, r4) := by rw [if_neg (show ¬ (false = true) by decide)] at H; exact H
  clear H
  have H := H1
  clear H1
  replace H := Option.bind_eq_some_iff.mp H
  obtain ⟨⟨t384, t385, t386⟩, A40, H⟩ := H
  replace H : (some (t384, s0_0, t385, (t386 != 0))) = some (r1, r2, r3, r4) := H
  have A4 := Aside0.mk A40
  clear A40
  simp only [Option.some.injEq, Prod.mk.injEq] at H
  obtain ⟨rfl, rfl, rfl, rfl⟩ := H
  obtain ⟨HGz5, hgz5⟩ := HI0.out
  have hcz5_0 := cellS127_0 HGz5
  have hcz5_1 := cellS127_1 HGz5
  have hcz5_2 := cellS127_2 HGz5
  have hfz5_0 := blk_frozen HGz5 0
  have hfz5_1 := blk_frozen HGz5 1
  have hfz5_2 := blk_frozen HGz5 2
  clear HGz5 hgz5
  go_enter Try.func161, Try.ntmps161
  try go_wp2
  have n_ := as3_ (IsS127.drew HI0.out) (keep_drew HK.out) (below_drew1 HB.out)
  clear HI0 HK HB
  have ⟨HI0, HK, HB⟩ := n_
  clear n_
  refine start_ (n := 11) (S := fun w' => w'.cell? ⟨g, 0, none⟩ = some (.string s0_0) ∧ w'.cell? ⟨g, 1, none⟩ = some (.int .i64 s0_1) ∧ w'.cell? ⟨g, 2, none⟩ = some (.bool false)) (ds := []) #[false, false, false, false, false, false, false, false, false, false, false] (by kernel_rfl) rfl rfl ⟨(blk_cell (Aside0.mk HI0.out.1).out 0).trans rfl, (blk_cell (Aside0.mk HI0.out.1).out 1).trans rfl, (blk_cell (Aside0.mk HI0.out.1).out 2).trans rfl⟩ (fun hHeld => ?_); refine with_tabW impl_taker_num.tab3 impl_taker_num.bits3 (fun HT_ HW_ => ?_)
  generalize w.drew = w6 at HI0 HK HB hHeld ⊢
  refine pu_ 0 8 #[true, false, false, false, false, false, false, false, false, false, false] HT_.out ?_
  refine pu_ 1 9 #[true, true, false, false, false, false, false, false, false, false, false] HT_.out ?_
  refine pu_ 2 10 #[true, true, true, false, false, false, false, false, false, false, false] HT_.out ?_
  refine pu_ 4 12 #[true, true, true, false, true, false, false, false, false, false, false] HT_.out ?_
  refine pu_ 5 13 #[true, true, true, false, true, true, false, false, false, false, false] HT_.out ?_
  refine pu_ 6 14 #[true, true, true, false, true, true, true, false, false, false, false] HT_.out ?_
  refine tk3_ 3 11 #[true, true, true, true, true, true, true, false, false, false, false] HT_.out HW_.out hHeld ?_
  refine tk3_ 7 15 #[true, true, true, true, true, true, true, true, false, false, false] HT_.out HW_.out hHeld ?_
  refine join_ (σ := Nat) 1 #[true, true, true, true, true, true, true, true, true, true, false] (fun s_ => [(16, .agg #[.int .i64 t384, .int .i64 t385, .int .i64 t386]), (3, .pointer (some ⟨s_, 0, none⟩))]) (fun s_ w' => (w'.cell? ⟨g, 0, none⟩ = some (.string s0_0) ∧ w'.cell? ⟨g, 1, none⟩ = some (.int .i64 s0_1) ∧ w'.cell? ⟨g, 2, none⟩ = some (.bool false)) ∧ (w'.heap[s_]? = some (.cells #[.int .i64 0, .int .i64 0, .int .i64 0] 199 (0, 0))) ∧ (w.heap.size ≤ s_) ∧ (w0.heap.size ≤ s_) ∧ (g ≠ s_) ∧ (s_ ≠ g) ∧ (IsS127 w0 w' g s0_0 s0_1 false) ∧ (KeepBut w w' g none) ∧ (Below w0.heap.size w0 w')) ?_ ?_
  rotate_left
  ·intro hCont
   refine two_ (i := 8) (j := 9) (Ni := some 16) (Nj := some 3) #[true, true, true, true, true, true, true, true, true, false, false] #[true, true, true, true, true, true, true, true, false, true, false] rfl rfl rfl rfl (two_of HT_.out (by kernel_rfl)) (by decide) (by decide) (fun K hK => ?_) (fun K hK => ?_)
   ·skip
    refine goes_ Try.func203 (by kernel_rfl) rfl #[.string s0_0, .int .i64 s0_1] (by rfl) rfl rfl (z0_) ?_
    with_reducible refine (impl_GetNum.calls k s0_0 s0_1 t384 t385 t386 _ A4.out).mono ?_
    rintro e w7 ⟨rfl, hb⟩
    refine ⟨_, rfl, ?_⟩
    have n_ := as3_ (IsS127.below (z16_ HI0.out) hb) (KeepBut.trans (z11_ HK.out) (KeepBut.of_below hb g none) (.inl rfl)) (below_step (z17_ HB.out HI0.out) hb)
    clear HI0 HK HB
    have ⟨HI0, HK, HB⟩ := n_
    clear n_
    (try clear hb)
    (try clear hb2)
    (try clear hk)
    (try clear hi)
    refine hK.out _ _ ⟨(blk_cell (Aside0.mk HI0.out.1).out 0).trans rfl, (blk_cell (Aside0.mk HI0.out.1).out 1).trans rfl, (blk_cell (Aside0.mk HI0.out.1).out 2).trans rfl⟩ (fun hHeld => ?_)
    clear hK K
    refine norm_ (a' := ?_) ?_ ?_
    rotate_left
    ·show Act.put _ (some 16) _ = _
     simp only [Act.put, sa_, s0_, ss_, i64_w, i32_w]
     rfl
    refine one_ (i := 9) (N := some 3) #[true, true, true, true, true, true, true, true, true, true, false] rfl rfl (one_of HT_.out (by kernel_rfl)) (by decide) (fun K hK => ?_)
    refine box_step ?hg (N := 3) ?hd (cs := #[.int .i64 0, .int .i64 0, .int .i64 0]) (t := 199) ?hr ?_; (case hd => rfl); (case hg => rfl); (case hr => first | (go_simp; done) | (go_simp; rfl))
    intro gb387 hg w8 hbox hb
    have n_ := as8_ (IsS127.below (z16_ HI0.out) hb) (KeepBut.trans (z11_ HK.out) (KeepBut.of_below hb g none) (.inl rfl)) (below_step (z17_ HB.out HI0.out) hb) (hbox) ((z19_ HK.out : w.heap.size ≤ gb387)) ((Nat.le_trans HW0.out (z19_ HK.out : w.heap.size ≤ gb387) : w0.heap.size ≤ gb387)) ((z58_ HI0.out : g ≠ gb387)) ((z59_ HI0.out : gb387 ≠ g))
    clear HI0 HK HB
    have ⟨HI0, HK, HB, BK387, GW387, GE387, NB0_387, NB387_0⟩ := n_
    clear n_
    clear hb hbox hg
    refine hK.out _ _ ⟨(blk_cell (Aside0.mk HI0.out.1).out 0).trans rfl, (blk_cell (Aside0.mk HI0.out.1).out 1).trans rfl, (blk_cell (Aside0.mk HI0.out.1).out 2).trans rfl⟩ (fun hHeld => ?_)
    clear hK K
    refine norm_ (a' := ?_) ?_ ?_
    rotate_left
    ·show Act.put _ (some 3) _ = _
     simp only [Act.put, sa_, s0_, ss_, i64_w, i32_w]
     rfl
    exact norm_ (z44_) (hCont (gb387) _ ⟨hHeld, (z9_ BK387.out), GW387.out, GE387.out, NB0_387.out, NB387_0.out, (z30_ HI0.out NB0_387.out), (z15_ HK.out GW387.out), (z21_ HB.out HI0.out GE387.out)⟩)
   ·skip
    refine box_step ?hg (N := 3) ?hd (cs := #[.int .i64 0, .int .i64 0, .int .i64 0]) (t := 199) ?hr ?_; (case hd => rfl); (case hg => rfl); (case hr => first | (go_simp; done) | (go_simp; rfl))
    intro gb387 hg w7 hbox hb
    have n_ := as8_ (IsS127.below (z16_ HI0.out) hb) (KeepBut.trans (z11_ HK.out) (KeepBut.of_below hb g none) (.inl rfl)) (below_step (z17_ HB.out HI0.out) hb) (hbox) ((z19_ HK.out : w.heap.size ≤ gb387)) ((Nat.le_trans HW0.out (z19_ HK.out : w.heap.size ≤ gb387) : w0.heap.size ≤ gb387)) ((z58_ HI0.out : g ≠ gb387)) ((z59_ HI0.out : gb387 ≠ g))
    clear HI0 HK HB
    have ⟨HI0, HK, HB, BK387, GW387, GE387, NB0_387, NB387_0⟩ := n_
    clear n_
    clear hb hbox hg
    refine hK.out _ _ ⟨(blk_cell (Aside0.mk HI0.out.1).out 0).trans rfl, (blk_cell (Aside0.mk HI0.out.1).out 1).trans rfl, (blk_cell (Aside0.mk HI0.out.1).out 2).trans rfl⟩ (fun hHeld => ?_)
    clear hK K
    refine norm_ (a' := ?_) ?_ ?_
    rotate_left
    ·show Act.put _ (some 3) _ = _
     simp only [Act.put, sa_, s0_, ss_, i64_w, i32_w]
     rfl
    refine one_ (i := 8) (N := some 16) #[true, true, true, true, true, true, true, true, true, true, false] rfl rfl (one_of HT_.out (by kernel_rfl)) (by decide) (fun K hK => ?_)
    refine goes_ Try.func203 (by kernel_rfl) rfl #[.string s0_0, .int .i64 s0_1] (by rfl) rfl rfl (z0_) ?_
    with_reducible refine (impl_GetNum.calls k s0_0 s0_1 t384 t385 t386 _ A4.out).mono ?_
    rintro e w8 ⟨rfl, hb⟩
    refine ⟨_, rfl, ?_⟩
    have n_ := as4_ (IsS127.below (z30_ HI0.out NB0_387.out) hb) (blkB_ BK387.out hb) (KeepBut.trans (z15_ HK.out GW387.out) (KeepBut.of_below hb g none) (.inl rfl)) (below_step (z21_ HB.out HI0.out GE387.out) hb)
    clear HI0 BK387 HK HB
    have ⟨HI0, BK387, HK, HB⟩ := n_
    clear n_
    (try clear hb)
    (try clear hb2)
    (try clear hk)
    (try clear hi)
    refine hK.out _ _ ⟨(blk_cell (Aside0.mk HI0.out.1).out 0).trans rfl, (blk_cell (Aside0.mk HI0.out.1).out 1).trans rfl, (blk_cell (Aside0.mk HI0.out.1).out 2).trans rfl⟩ (fun hHeld => ?_)
    clear hK K
    refine norm_ (a' := ?_) ?_ ?_
    rotate_left
    ·show Act.put _ (some 16) _ = _
     simp only [Act.put, sa_, s0_, ss_, i64_w, i32_w]
     rfl
    exact norm_ (z44_) (hCont (gb387) _ ⟨hHeld, (z9_ BK387.out), GW387.out, GE387.out, NB0_387.out, NB387_0.out, (z30_ HI0.out NB0_387.out), (z15_ HK.out GW387.out), (z21_ HB.out HI0.out GE387.out)⟩)
  rintro gb387 w9 ⟨hS_, h0_, h1_, h2_, h3_, h4_, h5_, h6_, h7_⟩
  have n0_ : Aside0 (w9.heap[gb387]? = some (.cells #[.int .i64 0, .int .i64 0, .int .i64 0] 199 (0, 0))) := ⟨h0_⟩
  have n1_ : Aside0 (w.heap.size ≤ gb387) := ⟨h1_⟩
  have n2_ : Aside0 (w0.heap.size ≤ gb387) := ⟨h2_⟩
  have n3_ : Aside0 (g ≠ gb387) := ⟨h3_⟩
  have n4_ : Aside0 (gb387 ≠ g) := ⟨h4_⟩
  have n5_ : Aside0 (IsS127 w0 w9 g s0_0 s0_1 false) := ⟨h5_⟩
  have n6_ : Aside0 (KeepBut w w9 g none) := ⟨h6_⟩
  have n7_ : Aside0 (Below w0.heap.size w0 w9) := ⟨h7_⟩
  clear HI0
  clear HK
  clear HB
  clear h0_ h1_ h2_ h3_ h4_ h5_ h6_ h7_
  have BK387 := n0_
  have GW387 := n1_
  have GE387 := n2_
  have NB0_387 := n3_
  have NB387_0 := n4_
  have HI0 := n5_
  have HK := n6_
  have HB := n7_
  clear n0_ n1_ n2_ n3_ n4_ n5_ n6_ n7_
  have hHeld : w9.cell? ⟨g, 0, none⟩ = some (.string s0_0) ∧ w9.cell? ⟨g, 1, none⟩ = some (.int .i64 s0_1) ∧ w9.cell? ⟨g, 2, none⟩ = some (.bool false) := hS_
  refine norm_ (a' := ?_) ?_ ?_
  rotate_left
  ·simp only [putAll, Act.put, List.setIfInBounds_toArray, List.set_cons_zero, List.set_cons_succ]
   rfl
  refine one_ (i := 10) (N := none) #[true, true, true, true, true, true, true, true, true, true, true] rfl rfl (one_of HT_.out (by kernel_rfl)) (by decide) (fun K hK => ?_)
  have hs10 : w9.cell? ⟨gb387, 0, none⟩ = some (.int .i64 0) := (blk_cell BK387.out 0).trans rfl
  have hfs10 := blk_frozen BK387.out 0
  have hs11 : w9.cell? ⟨gb387, 1, none⟩ = some (.int .i64 0) := (blk_cell BK387.out 1).trans rfl
  have hfs11 := blk_frozen BK387.out 1
  have hs12 : w9.cell? ⟨gb387, 2, none⟩ = some (.int .i64 0) := (blk_cell BK387.out 2).trans rfl
  have hfs12 := blk_frozen BK387.out 2
  refine skip_ (w1 := ?_) (by rfl) rfl ?_ ?_
  rotate_left
  ·go_simp
   rfl
  refine hK.out _ _ ⟨((cell_far (p := ⟨gb387, _, none⟩) NB0_387.out _).trans (((cell_far (p := ⟨gb387, _, none⟩) NB0_387.out _).trans (((cell_far (p := ⟨gb387, _, none⟩) NB0_387.out _).trans (hHeld.1)))))), ((cell_far (p := ⟨gb387, _, none⟩) NB0_387.out _).trans (((cell_far (p := ⟨gb387, _, none⟩) NB0_387.out _).trans (((cell_far (p := ⟨gb387, _, none⟩) NB0_387.out _).trans (hHeld.2.1)))))), ((cell_far (p := ⟨gb387, _, none⟩) NB0_387.out _).trans (((cell_far (p := ⟨gb387, _, none⟩) NB0_387.out _).trans (((cell_far (p := ⟨gb387, _, none⟩) NB0_387.out _).trans (hHeld.2.2))))))⟩ (fun hHeld => ?_)
  clear hK K
  refine done_ (done_of HT_.out (by kernel_rfl)) ?_
  try go_wp2
  have n0_ : Aside0 ((((w9.setCell ⟨gb387, 0, none⟩ (.int .i64 t384)).setCell ⟨gb387, 1, none⟩ (.int .i64 t385)).setCell ⟨gb387, 2, none⟩ (.int .i64 t386)).heap[gb387]? = some (.cells #[.int .i64 t384, .int .i64 t385, .int .i64 t386] 199 (0, 0))) := ⟨z14_ BK387.out⟩
  have n1_ : Aside0 (IsS127 w0 (((w9.setCell ⟨gb387, 0, none⟩ (.int .i64 t384)).setCell ⟨gb387, 1, none⟩ (.int .i64 t385)).setCell ⟨gb387, 2, none⟩ (.int .i64 t386)) g s0_0 s0_1 false) := ⟨z30_ HI0.out NB0_387.out⟩
  have n2_ : Aside0 (KeepBut w (((w9.setCell ⟨gb387, 0, none⟩ (.int .i64 t384)).setCell ⟨gb387, 1, none⟩ (.int .i64 t385)).setCell ⟨gb387, 2, none⟩ (.int .i64 t386)) g none) := ⟨z15_ HK.out GW387.out⟩
  have n3_ : Aside0 (Below w0.heap.size w0 (((w9.setCell ⟨gb387, 0, none⟩ (.int .i64 t384)).setCell ⟨gb387, 1, none⟩ (.int .i64 t385)).setCell ⟨gb387, 2, none⟩ (.int .i64 t386))) := ⟨z21_ HB.out HI0.out GE387.out⟩
  (try clear BK387)
  (try clear HI0)
  (try clear HK)
  (try clear HB)
  generalize (((w9.setCell ⟨gb387, 0, none⟩ (.int .i64 t384)).setCell ⟨gb387, 1, none⟩ (.int .i64 t385)).setCell ⟨gb387, 2, none⟩ (.int .i64 t386)) = w13 at n0_ n1_ n2_ n3_ ⊢
  have BK387 := n0_
  have HI0 := n1_
  have HK := n2_
  have HB := n3_
  clear n0_ n1_ n2_ n3_
  have n_ := as4_ (blk_drew BK387.out) (IsS127.drew HI0.out) (keep_drew HK.out) (below_drew1 HB.out)
  clear BK387 HI0 HK HB
  have ⟨BK387, HI0, HK, HB⟩ := n_
  clear n_
  refine start_ (n := 13) (S := fun w' => w'.cell? ⟨gb387, 0, none⟩ = some (.int .i64 t384) ∧ w'.cell? ⟨gb387, 1, none⟩ = some (.int .i64 t385) ∧ w'.cell? ⟨gb387, 2, none⟩ = some (.int .i64 t386)) (ds := []) #[false, false, false, false, false, false, false, false, false, false, false, false, false] (by kernel_rfl) rfl rfl ⟨(blk_cell BK387.out 0).trans rfl, (blk_cell BK387.out 1).trans rfl, (blk_cell BK387.out 2).trans rfl⟩ (fun hHeld => ?_); refine with_tabW impl_taker_num.tab4 impl_taker_num.bits4 (fun HT_ HW_ => ?_)
  generalize w13.drew = w14 at BK387 HI0 HK HB hHeld ⊢
  refine pu_ 0 17 #[true, false, false, false, false, false, false, false, false, false, false, false, false] HT_.out ?_
  refine pu_ 1 18 #[true, true, false, false, false, false, false, false, false, false, false, false, false] HT_.out ?_
  refine pu_ 2 19 #[true, true, true, false, false, false, false, false, false, false, false, false, false] HT_.out ?_
  refine pu_ 4 21 #[true, true, true, false, true, false, false, false, false, false, false, false, false] HT_.out ?_
  refine tk3_ 3 20 #[true, true, true, true, true, false, false, false, false, false, false, false, false] HT_.out HW_.out hHeld ?_
  refine pu_ 7 24 #[true, true, true, true, true, false, false, true, false, false, false, false, false] HT_.out ?_
  refine pu_ 8 25 #[true, true, true, true, true, false, false, true, true, false, false, false, false] HT_.out ?_
  refine tk3_ 5 22 #[true, true, true, true, true, true, false, true, true, false, false, false, false] HT_.out HW_.out hHeld ?_
  refine pu_ 6 23 #[true, true, true, true, true, true, true, true, true, false, false, false, false] HT_.out ?_
  refine one_ (i := 9) (N := none) #[true, true, true, true, true, true, true, true, true, true, false, false, false] rfl rfl (one_of HT_.out (by kernel_rfl)) (by decide) (fun K hK => ?_)
  have hcQ9_0 := (blk_cell HI0.out.1 0).trans (show _ = some (.string s0_0 : Value) by rfl)
  have hfQ9_0 := blk_frozen HI0.out.1 0
  have hcQ9_1 := (blk_cell HI0.out.1 1).trans (show _ = some (.int .i64 s0_1 : Value) by rfl)
  have hfQ9_1 := blk_frozen HI0.out.1 1
  have hcQ9_2 := (blk_cell HI0.out.1 2).trans (show _ = some (.bool false : Value) by rfl)
  have hfQ9_2 := blk_frozen HI0.out.1 2
  refine skip_ (w1 := ?_) (by rfl) rfl ?_ ?_
  rotate_left
  ·go_simp
   rfl
  refine hK.out _ _ ⟨((cell_far (p := ⟨g, _, none⟩) NB387_0.out _).trans (hHeld.1)), ((cell_far (p := ⟨g, _, none⟩) NB387_0.out _).trans (hHeld.2.1)), ((cell_far (p := ⟨g, _, none⟩) NB387_0.out _).trans (hHeld.2.2))⟩ (fun hHeld => ?_)
  clear hK K
  refine pu_ 10 26 #[true, true, true, true, true, true, true, true, true, true, true, false, false] HT_.out ?_
  refine pu_ 11 27 #[true, true, true, true, true, true, true, true, true, true, true, true, false] HT_.out ?_
  refine one_ (i := 12) (N := none) #[true, true, true, true, true, true, true, true, true, true, true, true, true] rfl rfl (one_of HT_.out (by kernel_rfl)) (by decide) (fun K hK => ?_)
  have hcQ12_0 := (blk_cell HI0.out.1 0).trans (show _ = some (.string s0_0 : Value) by rfl)
  have hfQ12_0 := blk_frozen HI0.out.1 0
  have hcQ12_1 := (blk_cell HI0.out.1 1).trans (show _ = some (.int .i64 s0_1 : Value) by rfl)
  have hfQ12_1 := blk_frozen HI0.out.1 1
  have hcQ12_2 := (blk_cell HI0.out.1 2).trans (show _ = some (.bool false : Value) by rfl)
  have hfQ12_2 := blk_frozen HI0.out.1 2
  refine skip_ (w1 := ?_) (by rfl) rfl ?_ ?_
  rotate_left
  ·go_simp
   rfl
  refine hK.out _ _ ⟨((cell_far (p := ⟨g, _, none⟩) NB387_0.out _).trans (hHeld.1)), ((cell_far (p := ⟨g, _, none⟩) NB387_0.out _).trans (hHeld.2.1)), ((cell_far (p := ⟨g, _, none⟩) NB387_0.out _).trans (hHeld.2.2))⟩ (fun hHeld => ?_)
  clear hK K
  refine done_ (done_of HT_.out (by kernel_rfl)) ?_
  have hnb15 := NB387_0.out
  have hnc15 := NB0_387.out
  have ⟨hcz16_0, hcz16_1, hcz16_2, hfz16_0, hfz16_1, hfz16_2⟩ := cz3_ BK387.out
  try go_wp2
  go_ret
  exact ⟨z8_, z30_ HI0.out NB0_387.out, z21_ HB.out HI0.out GE387.out, z15_ HK.out GW387.out⟩


/-! ### impl_taker_done: function 95 -/
def impl_taker_done.f (s0_0 : ByteArray) (s0_1 : Int) (s0_2 : Bool) : Option (Bool × ByteArray × Int × Bool) := if s0_2 = true then (some (false, s0_0, s0_1, s0_2)) else ((impl_size.f s0_0).bind fun t409 => (some ((s0_1 == t409), s0_0, s0_1, s0_2)))
set_option maxHeartbeats 8000000 in
set_option maxRecDepth 100000 in
theorem impl_taker_done.calls (g : Nat) (s0_0 : ByteArray) (s0_1 : Int) (s0_2 : Bool) (r1 : Bool) (r2 : ByteArray) (r3 : Int) (r4 : Bool) (w0 w : World) (hI : IsS127 w0 w g s0_0 s0_1 s0_2) (hB : Below w0.heap.size w0 w) (h : impl_taker_done.f s0_0 s0_1 s0_2 = some (r1, r2, r3, r4)) :
  Calls Try.prog 95 #[.pointer (some ⟨g, 0, none⟩)] w fun e w' => e = .returned (.bool r1) ∧ IsS127 w0 w' g r2 r3 r4 ∧ Below w0.heap.size w0 w' ∧ KeepBut w w' g none := by
 have HI0 := Aside0.mk hI
 have HK := Aside0.mk (KeepBut.refl w g none)
 have HL := Aside0.mk hB.size
 clear hI
 have HW0 := Aside0.mk hB.size
 have HB := Aside0.mk hB
 clear hB
 have H : (if s0_2 = true then (some (false, s0_0, s0_1, s0_2)) else ((impl_size.f s0_0).bind fun t409 => (some ((s0_1 == t409), s0_0, s0_1, s0_2)))) = some (r1, r2, r3, r4) := h
 clear h
 by_cases c2 : s0_2 = true
 ·subst c2
  have H1 : (some (false, s0_0, s0_1, true)) = some (r1, r2, r3, r4) := by rw [if_pos rfl] at H; exact H
  clear H
  have H := H1
  clear H1
  simp only [Option.some.injEq, Prod.mk.injEq] at H
  obtain ⟨rfl, rfl, rfl, rfl⟩ := H
  obtain ⟨HGz3, hgz3⟩ := HI0.out
  have hcz3_0 := cellS127_0 HGz3
  have hcz3_1 := cellS127_1 HGz3
  have hcz3_2 := cellS127_2 HGz3
  have hfz3_0 := blk_frozen HGz3 0
  have hfz3_1 := blk_frozen HGz3 1
  have hfz3_2 := blk_frozen HGz3 2
  clear HGz3 hgz3
  go_enter Try.func95, Try.ntmps95
  go_wp2
  repeat (go_quiet (fail); try go_wp2)
  go_ret
  exact ⟨z8_, z16_ HI0.out, z17_ HB.out HI0.out, z11_ HK.out⟩
 ·replace c2 := Bool.eq_false_iff.mpr c2
  subst c2
  have H1 : ((impl_size.f s0_0).bind fun t409 => (some ((s0_1 == t409), s0_0, s0_1, false))) = some (r1, r2, r3, r4) := by rw [if_neg (show ¬ (false = true) by decide)] at H; exact H
  clear H
  have H := H1
  clear H1
  replace H := Option.bind_eq_some_iff.mp H
  obtain ⟨t409, A40, H⟩ := H
  replace H : (some ((s0_1 == t409), s0_0, s0_1, false)) = some (r1, r2, r3, r4) := H
  have A4 := Aside0.mk A40
  clear A40
  simp only [Option.some.injEq, Prod.mk.injEq] at H
  obtain ⟨rfl, rfl, rfl, rfl⟩ := H
  obtain ⟨HGz5, hgz5⟩ := HI0.out
  have hcz5_0 := cellS127_0 HGz5
  have hcz5_1 := cellS127_1 HGz5
  have hcz5_2 := cellS127_2 HGz5
  have hfz5_0 := blk_frozen HGz5 0
  have hfz5_1 := blk_frozen HGz5 1
  have hfz5_2 := blk_frozen HGz5 2
  clear HGz5 hgz5
  go_enter Try.func95, Try.ntmps95
  go_wp2_with (first | (go_at_call 162; (with_reducible refine (impl_size.calls s0_0 t409 _ A4.out).mono ?_); rintro e w' ⟨rfl, ⟨nd, rfl⟩⟩; (try first | exact ⟨rfl, _, World.drewN_drewN _ _ _⟩ | exact ⟨rfl, _, Eq.trans (World.drewN_drewN _ _ _) (congrArg (World.drewN _) (Nat.add_assoc _ _ _))⟩)))
  repeat (go_quiet (first | (go_at_call 162; (with_reducible refine (impl_size.calls s0_0 t409 _ A4.out).mono ?_); rintro e w' ⟨rfl, ⟨nd, rfl⟩⟩; (try first | exact ⟨rfl, _, World.drewN_drewN _ _ _⟩ | exact ⟨rfl, _, Eq.trans (World.drewN_drewN _ _ _) (congrArg (World.drewN _) (Nat.add_assoc _ _ _))⟩))); try go_wp2_with (first | (go_at_call 162; (with_reducible refine (impl_size.calls s0_0 t409 _ A4.out).mono ?_); rintro e w' ⟨rfl, ⟨nd, rfl⟩⟩; (try first | exact ⟨rfl, _, World.drewN_drewN _ _ _⟩ | exact ⟨rfl, _, Eq.trans (World.drewN_drewN _ _ _) (congrArg (World.drewN _) (Nat.add_assoc _ _ _))⟩))))
  go_ret
  exact ⟨z8_, z16_ HI0.out, z17_ HB.out HI0.out, z11_ HK.out⟩


/-! ### impl_within: function 156 -/
def impl_within.f (a0 : Int) (a1 : Int) (a2 : Int) : Option (Bool) := if a1 ≤ a0 then (some (decide (a0 ≤ a2))) else (some false)
set_option maxHeartbeats 8000000 in
set_option maxRecDepth 100000 in
theorem impl_within.calls (a0 : Int) (a1 : Int) (a2 : Int) (r : Bool) (w : World) (h : impl_within.f a0 a1 a2 = some r) :
  Calls Try.prog 156 #[.int .i64 a0, .int .i64 a1, .int .i64 a2] w fun e w' => e = .returned (.bool r) ∧ Drawn0 w w' := by
 have H : (if a1 ≤ a0 then (some (decide (a0 ≤ a2))) else (some false)) = some r := h
 clear h
 by_cases c4 : a1 ≤ a0
 ·rw [if_pos c4] at H
  have c4b0 : decide (a1 ≤ a0) = true := decide_eq_true c4
  clear c4
  obtain rfl := Option.some.inj H
  go_enter Try.func156, Try.ntmps156
  go_wp2
  go_ret
  exact ⟨z2_, z13_⟩
 ·rw [if_neg c4] at H
  have c4b0 : decide (a1 ≤ a0) = false := decide_eq_false c4
  clear c4
  obtain rfl := Option.some.inj H
  go_enter Try.func156, Try.ntmps156
  go_wp2
  go_ret
  exact ⟨z2_, z13_⟩


/-! ### impl_taker_count: function 160 -/
def impl_taker_count.f (k : Nat) (s0_0 : ByteArray) (s0_1 : Int) (s0_2 : Bool) (a1 : Int) : Option (Int × ByteArray × Int × Bool) := (impl_taker_num.f k s0_0 s0_1 s0_2).bind fun bt388 => ((impl_within.f bt388.1 0 a1).bind fun t392 => (if t392 = true then (some (bt388.1, bt388.2.1, bt388.2.2.1, bt388.2.2.2)) else (some (0, bt388.2.1, bt388.2.2.1, true))))
theorem impl_taker_count.mono : ∀ a0 a1 a2 a3 k, LeO (impl_taker_count.f k a0 a1 a2 a3) (impl_taker_count.f (k + 1) a0 a1 a2 a3) := by
 intro a0 a1 a2 a3 k
 unfold impl_taker_count.f
 repeat' first
   | (with_reducible exact impl_taker_num.mono _ _ _ _)
   | (with_reducible exact LeO.refl _)
   | (with_reducible exact LeO.none _)
   | (with_reducible refine LeO.ite ?_ ?_)
   | (with_reducible refine LeO.bind ?_ (fun _ => ?_))
   | exact impl_taker_num.mono _ _ _ _
   | exact LeO.none _
   | refine LeO.ite ?_ ?_
   | refine LeO.bind ?_ (fun _ => ?_)
set_option maxHeartbeats 8000000 in
set_option maxRecDepth 100000 in
theorem impl_taker_count.calls (k : Nat) (g : Nat) (s0_0 : ByteArray) (s0_1 : Int) (s0_2 : Bool) (a1 : Int) (r1 : Int) (r2 : ByteArray) (r3 : Int) (r4 : Bool) (w0 w : World) (hI : IsS127 w0 w g s0_0 s0_1 s0_2) (hB : Below w0.heap.size w0 w) (h : impl_taker_count.f k s0_0 s0_1 s0_2 a1 = some (r1, r2, r3, r4)) :
  Calls Try.prog 160 #[.pointer (some ⟨g, 0, none⟩), .int .i64 a1] w fun e w' => e = .returned (.int .i64 r1) ∧ IsS127 w0 w' g r2 r3 r4 ∧ Below w0.heap.size w0 w' ∧ KeepBut w w' g none := by
 have HI0 := Aside0.mk hI
 have HK := Aside0.mk (KeepBut.refl w g none)
 have HL := Aside0.mk hB.size
 clear hI
 have HW0 := Aside0.mk hB.size
 have HB := Aside0.mk hB
 clear hB
 have H : ((impl_taker_num.f k s0_0 s0_1 s0_2).bind fun bt388 => ((impl_within.f bt388.1 0 a1).bind fun t392 => (if t392 = true then (some (bt388.1, bt388.2.1, bt388.2.2.1, bt388.2.2.2)) else (some (0, bt388.2.1, bt388.2.2.1, true))))) = some (r1, r2, r3, r4) := h
 clear h
 replace H := Option.bind_eq_some_iff.mp H
 obtain ⟨⟨t388, t389, t390, t391⟩, A30, H⟩ := H
 replace H : ((impl_within.f t388 0 a1).bind fun t392 => (if t392 = true then (some (t388, t389, t390, t391)) else (some (0, t389, t390, true)))) = some (r1, r2, r3, r4) := H
 have A3 := Aside0.mk A30
 clear A30
 replace H := Option.bind_eq_some_iff.mp H
 obtain ⟨t392, A40, H⟩ := H
 replace H : (if t392 = true then (some (t388, t389, t390, t391)) else (some (0, t389, t390, true))) = some (r1, r2, r3, r4) := H
 have A4 := Aside0.mk A40
 clear A40
 by_cases c5 : t392 = true
 ·subst c5
  have H1 : (some (t388, t389, t390, t391)) = some (r1, r2, r3, r4) := by rw [if_pos rfl] at H; exact H
  clear H
  have H := H1
  clear H1
  simp only [Option.some.injEq, Prod.mk.injEq] at H
  obtain ⟨rfl, rfl, rfl, rfl⟩ := H
  go_enter Try.func160, Try.ntmps160
  go_wp2_with (first | ((with_reducible refine gate_callee (f := 161) rfl ?_); refine goesL_ (some 7) rfl rfl Try.func161 (by kernel_rfl) rfl #[.pointer (some ⟨g, 0, none⟩)] rfl (z0_) ?_; (with_reducible refine (impl_taker_num.calls k g s0_0 s0_1 s0_2 t388 t389 t390 t391 w0 _ ?side1 ?side2 A3.out).mono ?_); (case side1 => exact z16_ HI0.out); (case side2 => exact z17_ HB.out HI0.out); rintro e w6 ⟨rfl, hi, hb, hk⟩; refine ⟨_, rfl, ?_⟩; have n_ := as3_ (KeepBut.trans (z11_ HK.out) hk (.inl rfl)) (hb) (hi); clear HK HB HI0; have ⟨HK, HB, HI0⟩ := n_; clear n_; (try clear hb); (try clear hb2); (try clear hk); (try clear hi)) | ((with_reducible refine gate_callee (f := 156) rfl ?_); refine goesL_ (some 10) rfl rfl Try.func156 (by kernel_rfl) rfl #[.int .i64 t388, .int .i64 0, .int .i64 a1] rfl (z0_) ?_; (with_reducible refine (impl_within.calls t388 0 a1 true _ A4.out).mono ?_); rintro e w' ⟨rfl, ⟨nd, rfl⟩⟩; refine ⟨_, rfl, ?_⟩))
  go_ret
  exact ⟨z8_, z16_ HI0.out, z17_ HB.out HI0.out, z11_ HK.out⟩
 ·replace c5 := Bool.eq_false_iff.mpr c5
  subst c5
  have H1 : (some (0, t389, t390, true)) = some (r1, r2, r3, r4) := by rw [if_neg (show ¬ (false = true) by decide)] at H; exact H
  clear H
  have H := H1
  clear H1
  simp only [Option.some.injEq, Prod.mk.injEq] at H
  obtain ⟨rfl, rfl, rfl, rfl⟩ := H
  go_enter Try.func160, Try.ntmps160
  go_wp2_with (first | ((with_reducible refine gate_callee (f := 161) rfl ?_); refine goesL_ (some 7) rfl rfl Try.func161 (by kernel_rfl) rfl #[.pointer (some ⟨g, 0, none⟩)] rfl (z0_) ?_; (with_reducible refine (impl_taker_num.calls k g s0_0 s0_1 s0_2 t388 t389 t390 t391 w0 _ ?side1 ?side2 A3.out).mono ?_); (case side1 => exact z16_ HI0.out); (case side2 => exact z17_ HB.out HI0.out); rintro e w7 ⟨rfl, hi, hb, hk⟩; refine ⟨_, rfl, ?_⟩; have n_ := as3_ (KeepBut.trans (z11_ HK.out) hk (.inl rfl)) (hb) (hi); clear HK HB HI0; have ⟨HK, HB, HI0⟩ := n_; clear n_; (try clear hb); (try clear hb2); (try clear hk); (try clear hi)) | ((with_reducible refine gate_callee (f := 156) rfl ?_); refine goesL_ (some 10) rfl rfl Try.func156 (by kernel_rfl) rfl #[.int .i64 t388, .int .i64 0, .int .i64 a1] rfl (z0_) ?_; (with_reducible refine (impl_within.calls t388 0 a1 false _ A4.out).mono ?_); rintro e w' ⟨rfl, ⟨nd, rfl⟩⟩; refine ⟨_, rfl, ?_⟩; (try (rw [drewN_self w7]; generalize hq_ : World.drewN w7 _ = w7; have n0_ : Aside0 (IsS127 w0 w7 g t389 t390 t391) := ⟨by rw [← hq_]; exact (by repeat (first | (with_reducible first | exact HI0.out | apply IsS127.alloc | apply IsS127.drewN | apply IsS127.drew | apply IsS127.set_0 | apply IsS127.set_1 | apply IsS127.set_2) | exact HI0.out))⟩; have n1_ : Aside0 (KeepBut w w7 g none) := ⟨by rw [← hq_]; exact (by repeat (first | (with_reducible first | exact HK.out | apply KeepBut.set_ | apply keep_drewN | apply keep_drew | apply keep_alloc) | exact HK.out))⟩; have n2_ : Aside0 (Below w0.heap.size w0 w7) := ⟨by rw [← hq_]; exact (by repeat (first | (with_reducible first | exact HB.out | apply below_alloc | apply pw_below_drewN | apply below_drew1 | refine below_set ?_ (IsS127.ge HI0.out)) | exact HB.out))⟩; clear HI0 HK HB hq_; have HI0 := n0_; have HK := n1_; have HB := n2_; clear n0_ n1_ n2_)); obtain ⟨HGz8, hgz8⟩ := HI0.out; have hcz8_0 := cellS127_0 HGz8; have hcz8_1 := cellS127_1 HGz8; have hcz8_2 := cellS127_2 HGz8; have hfz8_0 := blk_frozen HGz8 0; have hfz8_1 := blk_frozen HGz8 1; have hfz8_2 := blk_frozen HGz8 2; clear HGz8 hgz8))
  go_ret
  exact ⟨z8_, z16_ HI0.out, z17_ HB.out HI0.out, z11_ HK.out⟩


/-! ### impl_isNode: function 155 -/
def impl_isNode.f (a0 : Int) : Option (Bool) := (impl_within.f a0 1 5).bind fun t212 => (some t212)
set_option maxHeartbeats 8000000 in
set_option maxRecDepth 100000 in
theorem impl_isNode.calls (a0 : Int) (r : Bool) (w : World) (h : impl_isNode.f a0 = some r) :
  Calls Try.prog 155 #[.int .i64 a0] w fun e w' => e = .returned (.bool r) ∧ Drawn0 w w' := by
 have H : ((impl_within.f a0 1 5).bind fun t212 => (some t212)) = some r := h
 clear h
 replace H := Option.bind_eq_some_iff.mp H
 obtain ⟨t212, A20, H⟩ := H
 replace H : (some t212) = some r := H
 have A2 := Aside0.mk A20
 clear A20
 obtain rfl := Option.some.inj H
 go_enter Try.func155, Try.ntmps155
 go_wp2_with (first | ((with_reducible refine gate_callee (f := 156) rfl ?_); refine goesL_ (some 4) rfl rfl Try.func156 (by kernel_rfl) rfl #[.int .i64 a0, .int .i64 1, .int .i64 5] rfl (z0_) ?_; (with_reducible refine (impl_within.calls a0 1 5 t212 _ A2.out).mono ?_); rintro e w' ⟨rfl, ⟨nd, rfl⟩⟩; refine ⟨_, rfl, ?_⟩))
 go_ret
 exact ⟨z2_, z13_⟩


/-! ### impl_isDot: function 88 -/
def impl_isDot.f (a0_0 : Int) (a0_1 : Int) : Option (Bool) := (impl_isNode.f a0_0).bind fun t214 => (if t214 = true then ((impl_within.f a0_1 1 1000000).bind fun t215 => (some t215)) else (some false))
set_option maxHeartbeats 8000000 in
set_option maxRecDepth 100000 in
theorem impl_isDot.calls (a0_0 : Int) (a0_1 : Int) (r : Bool) (w : World) (h : impl_isDot.f a0_0 a0_1 = some r) :
  Calls Try.prog 88 #[.agg #[.int .i64 a0_0, .int .i64 a0_1]] w fun e w' => e = .returned (.bool r) ∧ Below w.heap.size w w' := by
 have hu33 := Try.underlying33
 have HB := Aside0.mk (Below.refl w.heap.size w)
 have H : ((impl_isNode.f a0_0).bind fun t214 => (if t214 = true then ((impl_within.f a0_1 1 1000000).bind fun t215 => (some t215)) else (some false))) = some r := h
 clear h
 replace H := Option.bind_eq_some_iff.mp H
 obtain ⟨t214, A20, H⟩ := H
 replace H : (if t214 = true then ((impl_within.f a0_1 1 1000000).bind fun t215 => (some t215)) else (some false)) = some r := H
 have A2 := Aside0.mk A20
 clear A20
 by_cases c3 : t214 = true
 ·subst c3
  have H1 : ((impl_within.f a0_1 1 1000000).bind fun t215 => (some t215)) = some r := by rw [if_pos rfl] at H; exact H
  clear H
  have H := H1
  clear H1
  replace H := Option.bind_eq_some_iff.mp H
  obtain ⟨t215, A40, H⟩ := H
  replace H : (some t215) = some r := H
  have A4 := Aside0.mk A40
  clear A40
  obtain rfl := Option.some.inj H
  go_enter Try.func88, Try.ntmps88
  go_wp2_with (first | ((with_reducible refine gate_dst (N := 1) rfl ?_); refine box_event ?hg (N := 1) ?hd (cs := #[.int .i64 a0_0, .int .i64 a0_1]) (t := 33) ?hr ?_; (case hd => rfl); (case hg => rfl); (case hr => first | (go_simp; done) | (go_simp; rfl)); intro gb213 hg w5 hbox hb; have n_ := as4_ (below_step (z5_ HB.out) hb) (hbox) ((z7_ HB.out : w.heap.size ≤ gb213)) ((z7_ HB.out : w.heap.size ≤ gb213)); clear HB; have ⟨HB, BK213, GW213, GE213⟩ := n_; clear n_; clear hb hbox hg; have hcz6_0 : w5.cell? ⟨gb213, 0, none⟩ = some (.int .i64 a0_0) := (blk_cell BK213.out 0).trans rfl; have hcz6_1 : w5.cell? ⟨gb213, 1, none⟩ = some (.int .i64 a0_1) := (blk_cell BK213.out 1).trans rfl; have hfz6_0 := blk_frozen BK213.out 0; have hfz6_1 := blk_frozen BK213.out 1) | ((with_reducible refine gate_callee (f := 155) rfl ?_); refine goesL_ (some 5) rfl rfl Try.func155 (by kernel_rfl) rfl #[.int .i64 a0_0] rfl (z0_) ?_; (with_reducible refine (impl_isNode.calls a0_0 true _ A2.out).mono ?_); rintro e w' ⟨rfl, ⟨nd, rfl⟩⟩; refine ⟨_, rfl, ?_⟩) | (go_at_call 156; (with_reducible refine (impl_within.calls a0_1 1 1000000 t215 _ A4.out).mono ?_); rintro e w' ⟨rfl, ⟨nd, rfl⟩⟩))
  go_ret
  exact ⟨z8_, z1_ HB.out GE213.out⟩
 ·replace c3 := Bool.eq_false_iff.mpr c3
  subst c3
  have H1 : (some false) = some r := by rw [if_neg (show ¬ (false = true) by decide)] at H; exact H
  clear H
  have H := H1
  clear H1
  obtain rfl := Option.some.inj H
  go_enter Try.func88, Try.ntmps88
  go_wp2_with (first | ((with_reducible refine gate_dst (N := 1) rfl ?_); refine box_event ?hg (N := 1) ?hd (cs := #[.int .i64 a0_0, .int .i64 a0_1]) (t := 33) ?hr ?_; (case hd => rfl); (case hg => rfl); (case hr => first | (go_simp; done) | (go_simp; rfl)); intro gb213 hg w7 hbox hb; have n_ := as4_ (below_step (z5_ HB.out) hb) (hbox) ((z7_ HB.out : w.heap.size ≤ gb213)) ((z7_ HB.out : w.heap.size ≤ gb213)); clear HB; have ⟨HB, BK213, GW213, GE213⟩ := n_; clear n_; clear hb hbox hg; have hcz8_0 : w7.cell? ⟨gb213, 0, none⟩ = some (.int .i64 a0_0) := (blk_cell BK213.out 0).trans rfl; have hcz8_1 : w7.cell? ⟨gb213, 1, none⟩ = some (.int .i64 a0_1) := (blk_cell BK213.out 1).trans rfl; have hfz8_0 := blk_frozen BK213.out 0; have hfz8_1 := blk_frozen BK213.out 1) | ((with_reducible refine gate_callee (f := 155) rfl ?_); refine goesL_ (some 5) rfl rfl Try.func155 (by kernel_rfl) rfl #[.int .i64 a0_0] rfl (z0_) ?_; (with_reducible refine (impl_isNode.calls a0_0 false _ A2.out).mono ?_); rintro e w' ⟨rfl, ⟨nd, rfl⟩⟩; refine ⟨_, rfl, ?_⟩))
  go_ret
  exact ⟨z8_, z1_ HB.out GE213.out⟩


/-! ### impl_seenRight: function 87 -/
def impl_seenRight.l0 : Nat → List (S33) → List (S33) → Int → Int → Option (Bool)
 | 0, _, _, _, _ => none
 | k + 1, x0, x5, x6, x7 => if x7 < x6 then (if 0 ≤ x7 then (if x7 < (x5.length : Int) then ((impl_isDot.f ((rd_T33 x5 x7).f0) ((rd_T33 x5 x7).f1)).bind fun t218 => (if t218 = true then (if x7 > 0 then (if 0 ≤ (wrap64 (x7 - 1)) then (if (wrap64 (x7 - 1)) < (x0.length : Int) then (if ((rd_T33 x0 (wrap64 (x7 - 1))).f0) ≥ ((rd_T33 x5 x7).f0) then (some false) else (impl_seenRight.l0 k x0 x5 x6 (wrap64 (x7 + 1)))) else (none)) else (none)) else (impl_seenRight.l0 k x0 x5 x6 (wrap64 (x7 + 1)))) else (some false))) else (none)) else (none)) else (some true)
def impl_seenRight.f (k : Nat) (l0 : List (S33)) : Option (Bool) := impl_seenRight.l0 k l0 l0 (l0.length : Int) 0
theorem impl_seenRight.mono_l : ∀ k, (∀ y0 y1 y2 y3, LeO (impl_seenRight.l0 k y0 y1 y2 y3) (impl_seenRight.l0 (k + 1) y0 y1 y2 y3))
 | 0 => fun _ _ _ _ r h => by simp [impl_seenRight.l0] at h
 | k + 1 => by
  have ih0 := impl_seenRight.mono_l k
  ·intro y0 y1 y2 y3
   unfold impl_seenRight.l0
   repeat' first
   | (with_reducible exact ih0 _ _ _ _)
   | (with_reducible exact LeO.refl _)
   | (with_reducible exact LeO.none _)
   | (with_reducible refine LeO.ite ?_ ?_)
   | (with_reducible refine LeO.bind ?_ (fun _ => ?_))
   | exact ih0 _ _ _ _
   | exact LeO.none _
   | refine LeO.ite ?_ ?_
   | refine LeO.bind ?_ (fun _ => ?_)
theorem impl_seenRight.mono : ∀ a0 k, LeO (impl_seenRight.f k a0) (impl_seenRight.f (k + 1) a0) := by
 intro a0 k
 have ih0 := impl_seenRight.mono_l k
 unfold impl_seenRight.f
 repeat' first
   | (with_reducible exact ih0 _ _ _ _)
   | (with_reducible exact LeO.refl _)
   | (with_reducible exact LeO.none _)
   | (with_reducible refine LeO.ite ?_ ?_)
   | (with_reducible refine LeO.bind ?_ (fun _ => ?_))
   | exact ih0 _ _ _ _
   | exact LeO.none _
   | refine LeO.ite ?_ ?_
   | refine LeO.bind ?_ (fun _ => ?_)
def impl_seenRight.T4 : Bool × List (List Nat × List Nat) := (true, [([], []), ([0], [0]), ([1], [1]), ([2, 1], [2]), ([3], [3]), ([4, 3], [3, 4]), ([5, 3, 3], [3, 5]), ([6], [6]), ([6], [6]), ([8, 6], [6, 8]), ([7, 9, 6], [6, 7, 9]), ([10, 6], [6, 10]), ([11, 6], [6, 11]), ([6], [6]), ([13, 6], [6, 13]), ([12, 14, 6], [6, 12, 14]), ([6, 15, 3], [3, 6, 15]), ([3, 16], [3, 16])])
def impl_seenRight.B4 : List Nat := [0, 1, 3, 7, 15, 31, 63, 127, 127, 383, 1023, 2047, 4095, 127, 8319, 32767, 65535, 131071]
theorem impl_seenRight.tab4 : rtab .any (opsOf Try.f87 4) = impl_seenRight.T4 := by kernel_rfl
theorem impl_seenRight.bits4 : waitsOk impl_seenRight.T4.2 impl_seenRight.B4 = true := by kernel_rfl
abbrev impl_seenRight.q0 : Array Bool := #[false, false, false, false, false, false, false, false, false, false, false, false, false, false, false, false, false, false]
abbrev impl_seenRight.q1 : Array Bool := #[true, false, false, false, false, false, false, false, false, false, false, false, false, false, false, false, false, false]
abbrev impl_seenRight.q2 : Array Bool := #[true, true, false, false, false, false, false, false, false, false, false, false, false, false, false, false, false, false]
abbrev impl_seenRight.q3 : Array Bool := #[true, true, true, false, false, false, false, false, false, false, false, false, false, false, false, false, false, false]
abbrev impl_seenRight.q4 : Array Bool := #[true, true, true, true, false, false, false, false, false, false, false, false, false, false, false, false, false, false]
abbrev impl_seenRight.q5 : Array Bool := #[true, true, true, true, true, false, false, false, false, false, false, false, false, false, false, false, false, false]
abbrev impl_seenRight.q6 : Array Bool := #[true, true, true, true, true, true, false, false, false, false, false, false, false, false, false, false, false, false]
abbrev impl_seenRight.q7 : Array Bool := #[true, true, true, true, true, true, true, false, false, false, false, false, false, false, false, false, false, false]
abbrev impl_seenRight.q8 : Array Bool := #[true, true, true, true, true, true, true, true, false, false, false, false, false, false, false, false, false, false]
abbrev impl_seenRight.q9 : Array Bool := #[true, true, true, true, true, true, true, true, true, false, false, false, false, false, false, false, false, false]
abbrev impl_seenRight.q10 : Array Bool := #[true, true, true, true, true, true, true, true, true, true, false, false, false, false, false, false, false, false]
abbrev impl_seenRight.q11 : Array Bool := #[true, true, true, true, true, true, true, true, true, true, true, false, false, false, false, false, false, false]
abbrev impl_seenRight.q12 : Array Bool := #[true, true, true, true, true, true, true, true, true, true, true, true, false, false, false, false, false, false]
abbrev impl_seenRight.q13 : Array Bool := #[true, true, true, true, true, true, true, true, true, true, true, true, false, true, false, false, false, false]
abbrev impl_seenRight.q14 : Array Bool := #[true, true, true, true, true, true, true, true, true, true, true, true, true, true, false, false, false, false]
abbrev impl_seenRight.q15 : Array Bool := #[true, true, true, true, true, true, true, true, true, true, true, true, true, true, true, false, false, false]
abbrev impl_seenRight.q16 : Array Bool := #[true, true, true, true, true, true, true, true, true, true, true, true, true, true, true, true, false, false]
abbrev impl_seenRight.q17 : Array Bool := #[true, true, true, true, true, true, true, true, true, true, true, true, true, true, true, true, true, false]
abbrev impl_seenRight.q18 : Array Bool := #[true, true, true, true, true, true, true, true, true, true, true, true, true, true, true, true, true, true]
abbrev impl_seenRight.q19 : Array Bool := #[true, true, true, true, true, true, true, true, true, true, true, true, true, false, false, false, false, false]
set_option maxHeartbeats 8000000 in
set_option maxRecDepth 100000 in
theorem impl_seenRight.calls (k : Nat) (A0 : Option Addr) (c0 : Nat) (l0 : List (S33)) (r : Bool) (w : World) (hr0 : Kd.C k33 w A0 l0.length l0) (hc0 : l0.length ≤ c0) (h : impl_seenRight.f k l0 = some r) :
  Calls Try.prog 87 #[.slice A0 l0.length c0] w fun e w' => e = .returned (.bool r) ∧ Below w.heap.size w w' := by
 have hu33 := Try.underlying33
 have HR0 := Aside0.mk hr0
 have HC0 := Aside0.mk hc0
 clear hr0 hc0
 have HB := Aside0.mk (Below.refl w.heap.size w)
 have H : (impl_seenRight.l0 k l0 l0 (l0.length : Int) 0) = some r := h
 clear h
 have H' := Aside0.mk H
 clear H
 go_enter Try.func87, Try.ntmps87
 go_wp2
 go_loopg [7] k (fun kq v7 w' => ∃ (x7_1 : Int), v7 = .int .i64 x7_1 ∧ Aside0 (impl_seenRight.l0 kq l0 l0 (l0.length : Int) x7_1 = some r) ∧ Aside0 (kq ≤ k) ∧ Aside0 (Below w.heap.size w w'))
 case atStart => exact ⟨(0), (z2_), H', ⟨Nat.le_refl _⟩, ⟨z5_ HB.out⟩⟩
 case round =>
  clear H'
  obtain ⟨x7_1, rfl, HA, HK1, HB⟩ := hrel
  cases gk with
  | zero => exact absurd HA.out (by simp [impl_seenRight.l0])
  | succ k1 =>
   have H := HA.out
   clear HA
   simp only [impl_seenRight.l0] at H
   by_cases c2 : x7_1 < (l0.length : Int)
   ·rw [if_pos c2] at H
    have c2b0 : decide (x7_1 < (l0.length : Int)) = true := decide_eq_true c2
    clear c2
    by_cases c3 : 0 ≤ x7_1
    ·rw [if_pos c3] at H
     have c3b0 : decide (0 ≤ x7_1) = true := decide_eq_true c3
     clear c3
     by_cases c4 : x7_1 < (l0.length : Int)
     ·rw [if_pos c4] at H
      have c4b0 : decide (x7_1 < (l0.length : Int)) = true := decide_eq_true c4
      clear c4
      replace H := Option.bind_eq_some_iff.mp H
      obtain ⟨t218, A50, H⟩ := H
      replace H : (if t218 = true then (if x7_1 > 0 then (if 0 ≤ (wrap64 (x7_1 - 1)) then (if (wrap64 (x7_1 - 1)) < (l0.length : Int) then (if ((rd_T33 l0 (wrap64 (x7_1 - 1))).f0) ≥ ((rd_T33 l0 x7_1).f0) then (some false) else (impl_seenRight.l0 k1 l0 l0 (l0.length : Int) (wrap64 (x7_1 + 1)))) else (none)) else (none)) else (impl_seenRight.l0 k1 l0 l0 (l0.length : Int) (wrap64 (x7_1 + 1)))) else (some false)) = some r := H
      have A5 := Aside0.mk A50
      clear A50
      by_cases c6 : t218 = true
      ·subst c6
       have H1 : (if x7_1 > 0 then (if 0 ≤ (wrap64 (x7_1 - 1)) then (if (wrap64 (x7_1 - 1)) < (l0.length : Int) then (if ((rd_T33 l0 (wrap64 (x7_1 - 1))).f0) ≥ ((rd_T33 l0 x7_1).f0) then (some false) else (impl_seenRight.l0 k1 l0 l0 (l0.length : Int) (wrap64 (x7_1 + 1)))) else (none)) else (none)) else (impl_seenRight.l0 k1 l0 l0 (l0.length : Int) (wrap64 (x7_1 + 1)))) = some r := by rw [if_pos rfl] at H; exact H
       clear H
       have H := H1
       clear H1
       by_cases c7 : x7_1 > 0
       ·rw [if_pos c7] at H
        have c7b0 : decide (0 < x7_1) = true := decide_eq_true c7
        clear c7
        obtain ⟨ji8, hji8⟩ : ∃ j_ : Int, (wrap64 (x7_1 - 1)) = j_ := ⟨_, rfl⟩
        replace H : (if 0 ≤ (ji8) then (if (ji8) < (l0.length : Int) then (if ((rd_T33 l0 (ji8)).f0) ≥ ((rd_T33 l0 x7_1).f0) then (some false) else (impl_seenRight.l0 k1 l0 l0 (l0.length : Int) (wrap64 (x7_1 + 1)))) else (none)) else (none)) = some r := by first | (rw [hji8] at H; exact H) | (simp only [hji8] at H ⊢; exact H)
        (try rw [hji8] at A5)
        have hji8w : (IntKind.i64.wrap (x7_1 - 1)) = ji8 := (i64_w _).trans hji8
        by_cases c9 : 0 ≤ (ji8)
        ·rw [if_pos c9] at H
         have c9b0 : decide (0 ≤ (ji8)) = true := decide_eq_true c9
         clear c9
         by_cases c10 : (ji8) < (l0.length : Int)
         ·rw [if_pos c10] at H
          have c10b0 : decide ((ji8) < (l0.length : Int)) = true := decide_eq_true c10
          clear c10
          by_cases c11 : ((rd_T33 l0 (ji8)).f0) ≥ ((rd_T33 l0 x7_1).f0)
          ·rw [if_pos c11] at H
           have c11b0 : decide (((rd_T33 l0 x7_1).f0) ≤ ((rd_T33 l0 (ji8)).f0)) = true := decide_eq_true c11
           clear c11
           obtain rfl := Option.some.inj H
           have p216 : 0 ≤ (x7_1 : Int) := of_decide_eq_true (z3_)
           have q216 : x7_1 < (l0.length : Int) := of_decide_eq_true (z3_)
           obtain ⟨ad216, e216, hx216_0, hx216_1⟩ := at_T33 HR0.out x7_1 p216 q216
           cases e216
           replace hx216_0 := (HB.out.cell (World.block_lt_of_cell? w _ hx216_0)).trans hx216_0
           replace hx216_1 := (HB.out.cell (World.block_lt_of_cell? w _ hx216_1)).trans hx216_1
           replace p216 := eq_true p216
           replace q216 := eq_true q216
           try go_wp2_with (first | ((with_reducible refine gate_dst (N := 4) rfl ?_); refine box_event ?hg (N := 4) ?hd (cs := #[.int .i64 0, .int .i64 0]) (t := 33) ?hr ?_; (case hd => rfl); (case hg => rfl); (case hr => first | (go_simp; done) | (go_simp; rfl)); intro gb217 hg w12 hbox hb; have n_ := as4_ (below_step (z5_ HB.out) hb) (hbox) ((z7_ HB.out : w.heap.size ≤ gb217)) ((z7_ HB.out : w.heap.size ≤ gb217)); clear HB; have ⟨HB, BK217, GW217, GE217⟩ := n_; clear n_; clear hb hbox hg; have hcz13_0 : w12.cell? ⟨gb217, 0, none⟩ = some (.int .i64 0) := (blk_cell BK217.out 0).trans rfl; have hcz13_1 : w12.cell? ⟨gb217, 1, none⟩ = some (.int .i64 0) := (blk_cell BK217.out 1).trans rfl; have hfz13_0 := blk_frozen BK217.out 0; have hfz13_1 := blk_frozen BK217.out 1))
           have n0_ : Aside0 (((w12.setCell ⟨gb217, 0, none⟩ (.int .i64 ((rd_T33 l0 x7_1).f0))).setCell ⟨gb217, 1, none⟩ (.int .i64 ((rd_T33 l0 x7_1).f1))).heap[gb217]? = some (.cells #[.int .i64 ((rd_T33 l0 x7_1).f0), .int .i64 ((rd_T33 l0 x7_1).f1)] 33 (0, 0))) := ⟨z42_ BK217.out⟩
           have n1_ : Aside0 (Below w.heap.size w ((w12.setCell ⟨gb217, 0, none⟩ (.int .i64 ((rd_T33 l0 x7_1).f0))).setCell ⟨gb217, 1, none⟩ (.int .i64 ((rd_T33 l0 x7_1).f1)))) := ⟨z1_ HB.out GE217.out⟩
           (try clear BK217)
           (try clear HB)
           generalize ((w12.setCell ⟨gb217, 0, none⟩ (.int .i64 ((rd_T33 l0 x7_1).f0))).setCell ⟨gb217, 1, none⟩ (.int .i64 ((rd_T33 l0 x7_1).f1))) = w14 at n0_ n1_ ⊢
           have BK217 := n0_
           have HB := n1_
           clear n0_ n1_
           have n_ := as2_ (blk_drew BK217.out) (below_drew1 HB.out)
           clear BK217 HB
           have ⟨BK217, HB⟩ := n_
           clear n_
           have p219 : 0 ≤ ((ji8) : Int) := of_decide_eq_true (z3_)
           have q219 : (ji8) < (l0.length : Int) := of_decide_eq_true (z3_)
           obtain ⟨ad219, e219, hx219_0, hx219_1⟩ := at_T33 HR0.out (ji8) p219 q219
           have hw219_1 := hx219_1
           have hw219_0 := hx219_0
           obtain rfl : ad216 = ad219 := (by injection e219)
           replace hx219_0 := (HB.out.cell (World.block_lt_of_cell? w _ hx219_0)).trans hx219_0
           replace hx219_1 := (HB.out.cell (World.block_lt_of_cell? w _ hx219_1)).trans hx219_1
           replace p219 := eq_true p219
           replace q219 := eq_true q219
           refine start_ (n := 18) (S := fun w' => w'.cell? ⟨gb217, 0, none⟩ = some (.int .i64 ((rd_T33 l0 x7_1).f0)) ∧ w'.cell? ⟨gb217, 1, none⟩ = some (.int .i64 ((rd_T33 l0 x7_1).f1)) ∧ w'.cell? (ad216.add (((ji8)).toNat * 2)) = some (.int .i64 ((rd_T33 l0 (ji8)).f0)) ∧ w'.cell? ⟨(ad216.add (((ji8)).toNat * 2)).block, (ad216.add (((ji8)).toNat * 2)).off + 1, none⟩ = some (.int .i64 ((rd_T33 l0 (ji8)).f1))) (ds := []) impl_seenRight.q0 (by kernel_rfl) rfl rfl ⟨(blk_cell BK217.out 0).trans rfl, (blk_cell BK217.out 1).trans rfl, ((HB.out.cell (World.block_lt_of_cell? w _ hw219_0)).trans hw219_0), ((HB.out.cell (World.block_lt_of_cell? w _ hw219_1)).trans hw219_1)⟩ (fun hHeld => ?_); refine with_tabW impl_seenRight.tab4 impl_seenRight.bits4 (fun HT_ HW_ => ?_)
           generalize w14.drew = w15 at BK217 HB hx219_0 hx219_1 hHeld ⊢
           refine tk4_ 0 12 impl_seenRight.q1 HT_.out HW_.out hHeld ?_
           refine one_ (i := 1) (N := some 13) impl_seenRight.q2 rfl rfl (one_of HT_.out (by kernel_rfl)) (by decide) (fun K hK => ?_)
           refine goes_ Try.func88 (by kernel_rfl) rfl #[.agg #[.int .i64 ((rd_T33 l0 x7_1).f0), .int .i64 ((rd_T33 l0 x7_1).f1)]] (by rfl) rfl rfl (z0_) ?_
           with_reducible refine (impl_isDot.calls ((rd_T33 l0 x7_1).f0) ((rd_T33 l0 x7_1).f1) true _ A5.out).mono ?_
           rintro e w16 ⟨rfl, hb⟩
           refine ⟨_, rfl, ?_⟩
           have n_ := as2_ (blkB_ BK217.out hb) (below_step (z1_ HB.out GE217.out) hb)
           clear BK217 HB
           have ⟨BK217, HB⟩ := n_
           clear n_
           (try clear hb)
           (try clear hb2)
           (try clear hk)
           (try clear hi)
           refine hK.out _ _ ⟨(blk_cell BK217.out 0).trans rfl, (blk_cell BK217.out 1).trans rfl, ((HB.out.cell (World.block_lt_of_cell? w _ hw219_0)).trans hw219_0), ((HB.out.cell (World.block_lt_of_cell? w _ hw219_1)).trans hw219_1)⟩ (fun hHeld => ?_)
           clear hK K
           refine norm_ (a' := ?_) ?_ ?_
           rotate_left
           ·show Act.put _ (some 13) _ = _
            simp only [Act.put, sa_, s0_, ss_, i64_w, i32_w]
            rfl
           refine pu_ 2 14 impl_seenRight.q3 HT_.out ?_
           refine pu_ 3 15 impl_seenRight.q4 HT_.out ?_
           refine pu_ 4 16 impl_seenRight.q5 HT_.out ?_
           refine pu_ 5 17 impl_seenRight.q6 HT_.out ?_
           refine pu_ 6 18 impl_seenRight.q7 HT_.out ?_
           refine pu_ 7 19 impl_seenRight.q8 HT_.out ?_
           refine pu_ 8 20 impl_seenRight.q9 HT_.out ?_
           refine pu_ 9 21 impl_seenRight.q10 HT_.out ?_
           refine pu_ 10 22 impl_seenRight.q11 HT_.out ?_
           refine pu_ 11 23 impl_seenRight.q12 HT_.out ?_
           refine pu_ 13 25 impl_seenRight.q13 HT_.out ?_
           refine tk4_ 12 24 impl_seenRight.q14 HT_.out HW_.out hHeld ?_
           refine tk4_ 14 26 impl_seenRight.q15 HT_.out HW_.out hHeld ?_
           refine pu_ 15 27 impl_seenRight.q16 HT_.out ?_
           refine pu_ 16 28 impl_seenRight.q17 HT_.out ?_
           refine pu_ 17 29 impl_seenRight.q18 HT_.out ?_
           refine done_ (done_of HT_.out (by kernel_rfl)) ?_
           try go_wp2
           go_ret
           exact ⟨by first | rfl | (simp [errW_none, errW_some] <;> rfl) | (simp only [← hji8]; first | rfl | (simp [errW_none, errW_some] <;> rfl)) | (simp [*, errW_none, errW_some] <;> rfl), z1_ HB.out GE217.out⟩
          ·rw [if_neg c11] at H
           have c11b0 : decide (((rd_T33 l0 x7_1).f0) ≤ ((rd_T33 l0 (ji8)).f0)) = false := decide_eq_false c11
           clear c11
           have H' := Aside0.mk H
           clear H
           have p216 : 0 ≤ (x7_1 : Int) := of_decide_eq_true (z3_)
           have q216 : x7_1 < (l0.length : Int) := of_decide_eq_true (z3_)
           obtain ⟨ad216, e216, hx216_0, hx216_1⟩ := at_T33 HR0.out x7_1 p216 q216
           cases e216
           replace hx216_0 := (HB.out.cell (World.block_lt_of_cell? w _ hx216_0)).trans hx216_0
           replace hx216_1 := (HB.out.cell (World.block_lt_of_cell? w _ hx216_1)).trans hx216_1
           replace p216 := eq_true p216
           replace q216 := eq_true q216
           try go_wp2_with (first | ((with_reducible refine gate_dst (N := 4) rfl ?_); refine box_event ?hg (N := 4) ?hd (cs := #[.int .i64 0, .int .i64 0]) (t := 33) ?hr ?_; (case hd => rfl); (case hg => rfl); (case hr => first | (go_simp; done) | (go_simp; rfl)); intro gb217 hg w17 hbox hb; have n_ := as4_ (below_step (z5_ HB.out) hb) (hbox) ((z7_ HB.out : w.heap.size ≤ gb217)) ((z7_ HB.out : w.heap.size ≤ gb217)); clear HB; have ⟨HB, BK217, GW217, GE217⟩ := n_; clear n_; clear hb hbox hg; have hcz18_0 : w17.cell? ⟨gb217, 0, none⟩ = some (.int .i64 0) := (blk_cell BK217.out 0).trans rfl; have hcz18_1 : w17.cell? ⟨gb217, 1, none⟩ = some (.int .i64 0) := (blk_cell BK217.out 1).trans rfl; have hfz18_0 := blk_frozen BK217.out 0; have hfz18_1 := blk_frozen BK217.out 1))
           have n0_ : Aside0 (((w17.setCell ⟨gb217, 0, none⟩ (.int .i64 ((rd_T33 l0 x7_1).f0))).setCell ⟨gb217, 1, none⟩ (.int .i64 ((rd_T33 l0 x7_1).f1))).heap[gb217]? = some (.cells #[.int .i64 ((rd_T33 l0 x7_1).f0), .int .i64 ((rd_T33 l0 x7_1).f1)] 33 (0, 0))) := ⟨z42_ BK217.out⟩
           have n1_ : Aside0 (Below w.heap.size w ((w17.setCell ⟨gb217, 0, none⟩ (.int .i64 ((rd_T33 l0 x7_1).f0))).setCell ⟨gb217, 1, none⟩ (.int .i64 ((rd_T33 l0 x7_1).f1)))) := ⟨z1_ HB.out GE217.out⟩
           (try clear BK217)
           (try clear HB)
           generalize ((w17.setCell ⟨gb217, 0, none⟩ (.int .i64 ((rd_T33 l0 x7_1).f0))).setCell ⟨gb217, 1, none⟩ (.int .i64 ((rd_T33 l0 x7_1).f1))) = w19 at n0_ n1_ ⊢
           have BK217 := n0_
           have HB := n1_
           clear n0_ n1_
           have n_ := as2_ (blk_drew BK217.out) (below_drew1 HB.out)
           clear BK217 HB
           have ⟨BK217, HB⟩ := n_
           clear n_
           have p219 : 0 ≤ ((ji8) : Int) := of_decide_eq_true (z3_)
           have q219 : (ji8) < (l0.length : Int) := of_decide_eq_true (z3_)
           obtain ⟨ad219, e219, hx219_0, hx219_1⟩ := at_T33 HR0.out (ji8) p219 q219
           have hw219_1 := hx219_1
           have hw219_0 := hx219_0
           obtain rfl : ad216 = ad219 := (by injection e219)
           replace hx219_0 := (HB.out.cell (World.block_lt_of_cell? w _ hx219_0)).trans hx219_0
           replace hx219_1 := (HB.out.cell (World.block_lt_of_cell? w _ hx219_1)).trans hx219_1
           replace p219 := eq_true p219
           replace q219 := eq_true q219
           refine start_ (n := 18) (S := fun w' => w'.cell? ⟨gb217, 0, none⟩ = some (.int .i64 ((rd_T33 l0 x7_1).f0)) ∧ w'.cell? ⟨gb217, 1, none⟩ = some (.int .i64 ((rd_T33 l0 x7_1).f1)) ∧ w'.cell? (ad216.add (((ji8)).toNat * 2)) = some (.int .i64 ((rd_T33 l0 (ji8)).f0)) ∧ w'.cell? ⟨(ad216.add (((ji8)).toNat * 2)).block, (ad216.add (((ji8)).toNat * 2)).off + 1, none⟩ = some (.int .i64 ((rd_T33 l0 (ji8)).f1))) (ds := []) impl_seenRight.q0 (by kernel_rfl) rfl rfl ⟨(blk_cell BK217.out 0).trans rfl, (blk_cell BK217.out 1).trans rfl, ((HB.out.cell (World.block_lt_of_cell? w _ hw219_0)).trans hw219_0), ((HB.out.cell (World.block_lt_of_cell? w _ hw219_1)).trans hw219_1)⟩ (fun hHeld => ?_); refine with_tabW impl_seenRight.tab4 impl_seenRight.bits4 (fun HT_ HW_ => ?_)
           generalize w19.drew = w20 at BK217 HB hx219_0 hx219_1 hHeld ⊢
           refine tk4_ 0 12 impl_seenRight.q1 HT_.out HW_.out hHeld ?_
           refine one_ (i := 1) (N := some 13) impl_seenRight.q2 rfl rfl (one_of HT_.out (by kernel_rfl)) (by decide) (fun K hK => ?_)
           refine goes_ Try.func88 (by kernel_rfl) rfl #[.agg #[.int .i64 ((rd_T33 l0 x7_1).f0), .int .i64 ((rd_T33 l0 x7_1).f1)]] (by rfl) rfl rfl (z0_) ?_
           with_reducible refine (impl_isDot.calls ((rd_T33 l0 x7_1).f0) ((rd_T33 l0 x7_1).f1) true _ A5.out).mono ?_
           rintro e w21 ⟨rfl, hb⟩
           refine ⟨_, rfl, ?_⟩
           have n_ := as2_ (blkB_ BK217.out hb) (below_step (z1_ HB.out GE217.out) hb)
           clear BK217 HB
           have ⟨BK217, HB⟩ := n_
           clear n_
           (try clear hb)
           (try clear hb2)
           (try clear hk)
           (try clear hi)
           refine hK.out _ _ ⟨(blk_cell BK217.out 0).trans rfl, (blk_cell BK217.out 1).trans rfl, ((HB.out.cell (World.block_lt_of_cell? w _ hw219_0)).trans hw219_0), ((HB.out.cell (World.block_lt_of_cell? w _ hw219_1)).trans hw219_1)⟩ (fun hHeld => ?_)
           clear hK K
           refine norm_ (a' := ?_) ?_ ?_
           rotate_left
           ·show Act.put _ (some 13) _ = _
            simp only [Act.put, sa_, s0_, ss_, i64_w, i32_w]
            rfl
           refine pu_ 2 14 impl_seenRight.q3 HT_.out ?_
           refine pu_ 3 15 impl_seenRight.q4 HT_.out ?_
           refine pu_ 4 16 impl_seenRight.q5 HT_.out ?_
           refine pu_ 5 17 impl_seenRight.q6 HT_.out ?_
           refine pu_ 6 18 impl_seenRight.q7 HT_.out ?_
           refine pu_ 7 19 impl_seenRight.q8 HT_.out ?_
           refine pu_ 8 20 impl_seenRight.q9 HT_.out ?_
           refine pu_ 9 21 impl_seenRight.q10 HT_.out ?_
           refine pu_ 10 22 impl_seenRight.q11 HT_.out ?_
           refine pu_ 11 23 impl_seenRight.q12 HT_.out ?_
           refine pu_ 13 25 impl_seenRight.q13 HT_.out ?_
           refine tk4_ 12 24 impl_seenRight.q14 HT_.out HW_.out hHeld ?_
           refine tk4_ 14 26 impl_seenRight.q15 HT_.out HW_.out hHeld ?_
           refine pu_ 15 27 impl_seenRight.q16 HT_.out ?_
           refine pu_ 16 28 impl_seenRight.q17 HT_.out ?_
           refine pu_ 17 29 impl_seenRight.q18 HT_.out ?_
           refine done_ (done_of HT_.out (by kernel_rfl)) ?_
           try go_wp2
           go_roundg k1
           case measure => have := HK1.out; omega
           case rel => exact ⟨(wrap64 (x7_1 + 1)), (z2_), H', ⟨by have := HK1.out; omega⟩, ⟨z1_ HB.out GE217.out⟩⟩
         ·rw [if_neg c10] at H
          exact absurd H (by simp)
        ·rw [if_neg c9] at H
         exact absurd H (by simp)
       ·rw [if_neg c7] at H
        have c7b0 : decide (0 < x7_1) = false := decide_eq_false c7
        clear c7
        have H' := Aside0.mk H
        clear H
        have p216 : 0 ≤ (x7_1 : Int) := of_decide_eq_true (z3_)
        have q216 : x7_1 < (l0.length : Int) := of_decide_eq_true (z3_)
        obtain ⟨ad216, e216, hx216_0, hx216_1⟩ := at_T33 HR0.out x7_1 p216 q216
        cases e216
        replace hx216_0 := (HB.out.cell (World.block_lt_of_cell? w _ hx216_0)).trans hx216_0
        replace hx216_1 := (HB.out.cell (World.block_lt_of_cell? w _ hx216_1)).trans hx216_1
        replace p216 := eq_true p216
        replace q216 := eq_true q216
        try go_wp2_with (first | ((with_reducible refine gate_dst (N := 4) rfl ?_); refine box_event ?hg (N := 4) ?hd (cs := #[.int .i64 0, .int .i64 0]) (t := 33) ?hr ?_; (case hd => rfl); (case hg => rfl); (case hr => first | (go_simp; done) | (go_simp; rfl)); intro gb217 hg w22 hbox hb; have n_ := as4_ (below_step (z5_ HB.out) hb) (hbox) ((z7_ HB.out : w.heap.size ≤ gb217)) ((z7_ HB.out : w.heap.size ≤ gb217)); clear HB; have ⟨HB, BK217, GW217, GE217⟩ := n_; clear n_; clear hb hbox hg; have hcz23_0 : w22.cell? ⟨gb217, 0, none⟩ = some (.int .i64 0) := (blk_cell BK217.out 0).trans rfl; have hcz23_1 : w22.cell? ⟨gb217, 1, none⟩ = some (.int .i64 0) := (blk_cell BK217.out 1).trans rfl; have hfz23_0 := blk_frozen BK217.out 0; have hfz23_1 := blk_frozen BK217.out 1))
        have n0_ : Aside0 (((w22.setCell ⟨gb217, 0, none⟩ (.int .i64 ((rd_T33 l0 x7_1).f0))).setCell ⟨gb217, 1, none⟩ (.int .i64 ((rd_T33 l0 x7_1).f1))).heap[gb217]? = some (.cells #[.int .i64 ((rd_T33 l0 x7_1).f0), .int .i64 ((rd_T33 l0 x7_1).f1)] 33 (0, 0))) := ⟨z42_ BK217.out⟩
        have n1_ : Aside0 (Below w.heap.size w ((w22.setCell ⟨gb217, 0, none⟩ (.int .i64 ((rd_T33 l0 x7_1).f0))).setCell ⟨gb217, 1, none⟩ (.int .i64 ((rd_T33 l0 x7_1).f1)))) := ⟨z1_ HB.out GE217.out⟩
        (try clear BK217)
        (try clear HB)
        generalize ((w22.setCell ⟨gb217, 0, none⟩ (.int .i64 ((rd_T33 l0 x7_1).f0))).setCell ⟨gb217, 1, none⟩ (.int .i64 ((rd_T33 l0 x7_1).f1))) = w24 at n0_ n1_ ⊢
        have BK217 := n0_
        have HB := n1_
        clear n0_ n1_
        have n_ := as2_ (blk_drew BK217.out) (below_drew1 HB.out)
        clear BK217 HB
        have ⟨BK217, HB⟩ := n_
        clear n_
        refine start_ (n := 18) (S := fun w' => w'.cell? ⟨gb217, 0, none⟩ = some (.int .i64 ((rd_T33 l0 x7_1).f0)) ∧ w'.cell? ⟨gb217, 1, none⟩ = some (.int .i64 ((rd_T33 l0 x7_1).f1))) (ds := []) impl_seenRight.q0 (by kernel_rfl) rfl rfl ⟨(blk_cell BK217.out 0).trans rfl, (blk_cell BK217.out 1).trans rfl⟩ (fun hHeld => ?_); refine with_tabW impl_seenRight.tab4 impl_seenRight.bits4 (fun HT_ HW_ => ?_)
        generalize w24.drew = w25 at BK217 HB hHeld ⊢
        refine tk2_ 0 12 impl_seenRight.q1 HT_.out HW_.out hHeld ?_
        refine one_ (i := 1) (N := some 13) impl_seenRight.q2 rfl rfl (one_of HT_.out (by kernel_rfl)) (by decide) (fun K hK => ?_)
        refine goes_ Try.func88 (by kernel_rfl) rfl #[.agg #[.int .i64 ((rd_T33 l0 x7_1).f0), .int .i64 ((rd_T33 l0 x7_1).f1)]] (by rfl) rfl rfl (z0_) ?_
        with_reducible refine (impl_isDot.calls ((rd_T33 l0 x7_1).f0) ((rd_T33 l0 x7_1).f1) true _ A5.out).mono ?_
        rintro e w26 ⟨rfl, hb⟩
        refine ⟨_, rfl, ?_⟩
        have n_ := as2_ (blkB_ BK217.out hb) (below_step (z1_ HB.out GE217.out) hb)
        clear BK217 HB
        have ⟨BK217, HB⟩ := n_
        clear n_
        (try clear hb)
        (try clear hb2)
        (try clear hk)
        (try clear hi)
        refine hK.out _ _ ⟨(blk_cell BK217.out 0).trans rfl, (blk_cell BK217.out 1).trans rfl⟩ (fun hHeld => ?_)
        clear hK K
        refine norm_ (a' := ?_) ?_ ?_
        rotate_left
        ·show Act.put _ (some 13) _ = _
         simp only [Act.put, sa_, s0_, ss_, i64_w, i32_w]
         rfl
        refine pu_ 2 14 impl_seenRight.q3 HT_.out ?_
        refine pu_ 3 15 impl_seenRight.q4 HT_.out ?_
        refine pu_ 4 16 impl_seenRight.q5 HT_.out ?_
        refine pu_ 5 17 impl_seenRight.q6 HT_.out ?_
        refine pu_ 6 18 impl_seenRight.q7 HT_.out ?_
        refine pn_ 7 19 impl_seenRight.q8 HT_.out ?_
        refine pn_ 8 20 impl_seenRight.q9 HT_.out ?_
        refine pn_ 9 21 impl_seenRight.q10 HT_.out ?_
        refine pn_ 10 22 impl_seenRight.q11 HT_.out ?_
        refine pn_ 11 23 impl_seenRight.q12 HT_.out ?_
        refine pn_ 12 24 impl_seenRight.q19 HT_.out ?_
        refine pn_ 13 25 impl_seenRight.q14 HT_.out ?_
        refine pn_ 14 26 impl_seenRight.q15 HT_.out ?_
        refine pn_ 15 27 impl_seenRight.q16 HT_.out ?_
        refine pu_ 16 28 impl_seenRight.q17 HT_.out ?_
        refine pu_ 17 29 impl_seenRight.q18 HT_.out ?_
        refine done_ (done_of HT_.out (by kernel_rfl)) ?_
        try go_wp2
        go_roundg k1
        case measure => have := HK1.out; omega
        case rel => exact ⟨(wrap64 (x7_1 + 1)), (z2_), H', ⟨by have := HK1.out; omega⟩, ⟨z1_ HB.out GE217.out⟩⟩
      ·replace c6 := Bool.eq_false_iff.mpr c6
       subst c6
       have H1 : (some false) = some r := by rw [if_neg (show ¬ (false = true) by decide)] at H; exact H
       clear H
       have H := H1
       clear H1
       obtain rfl := Option.some.inj H
       have p216 : 0 ≤ (x7_1 : Int) := of_decide_eq_true (z3_)
       have q216 : x7_1 < (l0.length : Int) := of_decide_eq_true (z3_)
       obtain ⟨ad216, e216, hx216_0, hx216_1⟩ := at_T33 HR0.out x7_1 p216 q216
       cases e216
       replace hx216_0 := (HB.out.cell (World.block_lt_of_cell? w _ hx216_0)).trans hx216_0
       replace hx216_1 := (HB.out.cell (World.block_lt_of_cell? w _ hx216_1)).trans hx216_1
       replace p216 := eq_true p216
       replace q216 := eq_true q216
       try go_wp2_with (first | ((with_reducible refine gate_dst (N := 4) rfl ?_); refine box_event ?hg (N := 4) ?hd (cs := #[.int .i64 0, .int .i64 0]) (t := 33) ?hr ?_; (case hd => rfl); (case hg => rfl); (case hr => first | (go_simp; done) | (go_simp; rfl)); intro gb217 hg w27 hbox hb; have n_ := as4_ (below_step (z5_ HB.out) hb) (hbox) ((z7_ HB.out : w.heap.size ≤ gb217)) ((z7_ HB.out : w.heap.size ≤ gb217)); clear HB; have ⟨HB, BK217, GW217, GE217⟩ := n_; clear n_; clear hb hbox hg; have hcz28_0 : w27.cell? ⟨gb217, 0, none⟩ = some (.int .i64 0) := (blk_cell BK217.out 0).trans rfl; have hcz28_1 : w27.cell? ⟨gb217, 1, none⟩ = some (.int .i64 0) := (blk_cell BK217.out 1).trans rfl; have hfz28_0 := blk_frozen BK217.out 0; have hfz28_1 := blk_frozen BK217.out 1))
       have n0_ : Aside0 (((w27.setCell ⟨gb217, 0, none⟩ (.int .i64 ((rd_T33 l0 x7_1).f0))).setCell ⟨gb217, 1, none⟩ (.int .i64 ((rd_T33 l0 x7_1).f1))).heap[gb217]? = some (.cells #[.int .i64 ((rd_T33 l0 x7_1).f0), .int .i64 ((rd_T33 l0 x7_1).f1)] 33 (0, 0))) := ⟨z42_ BK217.out⟩
       have n1_ : Aside0 (Below w.heap.size w ((w27.setCell ⟨gb217, 0, none⟩ (.int .i64 ((rd_T33 l0 x7_1).f0))).setCell ⟨gb217, 1, none⟩ (.int .i64 ((rd_T33 l0 x7_1).f1)))) := ⟨z1_ HB.out GE217.out⟩
       (try clear BK217)
       (try clear HB)
       generalize ((w27.setCell ⟨gb217, 0, none⟩ (.int .i64 ((rd_T33 l0 x7_1).f0))).setCell ⟨gb217, 1, none⟩ (.int .i64 ((rd_T33 l0 x7_1).f1))) = w29 at n0_ n1_ ⊢
       have BK217 := n0_
       have HB := n1_
       clear n0_ n1_
       have n_ := as2_ (blk_drew BK217.out) (below_drew1 HB.out)
       clear BK217 HB
       have ⟨BK217, HB⟩ := n_
       clear n_
       refine start_ (n := 18) (S := fun w' => w'.cell? ⟨gb217, 0, none⟩ = some (.int .i64 ((rd_T33 l0 x7_1).f0)) ∧ w'.cell? ⟨gb217, 1, none⟩ = some (.int .i64 ((rd_T33 l0 x7_1).f1))) (ds := []) impl_seenRight.q0 (by kernel_rfl) rfl rfl ⟨(blk_cell BK217.out 0).trans rfl, (blk_cell BK217.out 1).trans rfl⟩ (fun hHeld => ?_); refine with_tabW impl_seenRight.tab4 impl_seenRight.bits4 (fun HT_ HW_ => ?_)
       generalize w29.drew = w30 at BK217 HB hHeld ⊢
       refine tk2_ 0 12 impl_seenRight.q1 HT_.out HW_.out hHeld ?_
       refine one_ (i := 1) (N := some 13) impl_seenRight.q2 rfl rfl (one_of HT_.out (by kernel_rfl)) (by decide) (fun K hK => ?_)
       refine goes_ Try.func88 (by kernel_rfl) rfl #[.agg #[.int .i64 ((rd_T33 l0 x7_1).f0), .int .i64 ((rd_T33 l0 x7_1).f1)]] (by rfl) rfl rfl (z0_) ?_
       with_reducible refine (impl_isDot.calls ((rd_T33 l0 x7_1).f0) ((rd_T33 l0 x7_1).f1) false _ A5.out).mono ?_
       rintro e w31 ⟨rfl, hb⟩
       refine ⟨_, rfl, ?_⟩
       have n_ := as2_ (blkB_ BK217.out hb) (below_step (z1_ HB.out GE217.out) hb)
       clear BK217 HB
       have ⟨BK217, HB⟩ := n_
       clear n_
       (try clear hb)
       (try clear hb2)
       (try clear hk)
       (try clear hi)
       refine hK.out _ _ ⟨(blk_cell BK217.out 0).trans rfl, (blk_cell BK217.out 1).trans rfl⟩ (fun hHeld => ?_)
       clear hK K
       refine norm_ (a' := ?_) ?_ ?_
       rotate_left
       ·show Act.put _ (some 13) _ = _
        simp only [Act.put, sa_, s0_, ss_, i64_w, i32_w]
        rfl
       refine pu_ 2 14 impl_seenRight.q3 HT_.out ?_
       refine pu_ 3 15 impl_seenRight.q4 HT_.out ?_
       refine pn_ 4 16 impl_seenRight.q5 HT_.out ?_
       refine pn_ 5 17 impl_seenRight.q6 HT_.out ?_
       refine pn_ 6 18 impl_seenRight.q7 HT_.out ?_
       refine pn_ 7 19 impl_seenRight.q8 HT_.out ?_
       refine pn_ 8 20 impl_seenRight.q9 HT_.out ?_
       refine pn_ 9 21 impl_seenRight.q10 HT_.out ?_
       refine pn_ 10 22 impl_seenRight.q11 HT_.out ?_
       refine pn_ 11 23 impl_seenRight.q12 HT_.out ?_
       refine pn_ 12 24 impl_seenRight.q19 HT_.out ?_
       refine pn_ 13 25 impl_seenRight.q14 HT_.out ?_
       refine pn_ 14 26 impl_seenRight.q15 HT_.out ?_
       refine pn_ 15 27 impl_seenRight.q16 HT_.out ?_
       refine pn_ 16 28 impl_seenRight.q17 HT_.out ?_
       refine pu_ 17 29 impl_seenRight.q18 HT_.out ?_
       refine done_ (done_of HT_.out (by kernel_rfl)) ?_
       try go_wp2
       go_ret
       exact ⟨z8_, z1_ HB.out GE217.out⟩
     ·rw [if_neg c4] at H
      exact absurd H (by simp)
    ·rw [if_neg c3] at H
     exact absurd H (by simp)
   ·rw [if_neg c2] at H
    have c2b0 : decide (x7_1 < (l0.length : Int)) = false := decide_eq_false c2
    clear c2
    obtain rfl := Option.some.inj H
    go_wp2
    go_ret
    exact ⟨z8_, z5_ HB.out⟩


/-! ### impl_taker_seen: function 94 -/
mutual
def impl_taker_seen.l0 : Nat → List (S33) → Int → ByteArray → Int → Bool → Option ((List (S33)) × ByteArray × Int × Bool)
 | 0, _, _, _, _, _ => none
 | k + 1, x3, x4, x1000, x1001, x1002 => if x4 > 0 then (impl_taker_seen.j1 k x3 x4 (!x1002) x1000 x1001 x1002) else (impl_taker_seen.j1 k x3 x4 false x1000 x1001 x1002)
def impl_taker_seen.j1 : Nat → List (S33) → Int → Bool → ByteArray → Int → Bool → Option ((List (S33)) × ByteArray × Int × Bool)
 | 0, _, _, _, _, _, _ => none
 | k + 1, x3, x4, x16, x1000, x1001, x1002 => if x16 = true then ((impl_taker_num.f k x1000 x1001 x1002).bind fun bt398 => ((impl_taker_num.f k bt398.2.1 bt398.2.2.1 bt398.2.2.2).bind fun bt402 => (if x3.length < 8796093022208 then (impl_taker_seen.l0 k (x3 ++ [(⟨bt398.1, bt402.1⟩ : S33)]) (wrap64 (x4 - 1)) bt402.2.1 bt402.2.2.1 bt402.2.2.2) else (none)))) else (if x1002 = true then (some (x3, x1000, x1001, true)) else ((impl_seenRight.f k x3).bind fun t397 => (some (x3, x1000, x1001, !t397))))
end
def impl_taker_seen.f (k : Nat) (s0_0 : ByteArray) (s0_1 : Int) (s0_2 : Bool) : Option ((List (S33)) × ByteArray × Int × Bool) := (impl_taker_count.f k s0_0 s0_1 s0_2 5).bind fun bt393 => (impl_taker_seen.l0 k ([] : List (S33)) bt393.1 bt393.2.1 bt393.2.2.1 bt393.2.2.2)
theorem impl_taker_seen.mono_l : ∀ k, (∀ y0 y1 y2 y3 y4, LeO (impl_taker_seen.l0 k y0 y1 y2 y3 y4) (impl_taker_seen.l0 (k + 1) y0 y1 y2 y3 y4)) ∧ (∀ y0 y1 y2 y3 y4 y5, LeO (impl_taker_seen.j1 k y0 y1 y2 y3 y4 y5) (impl_taker_seen.j1 (k + 1) y0 y1 y2 y3 y4 y5))
 | 0 => ⟨fun _ _ _ _ _ r h => by simp [impl_taker_seen.l0] at h, fun _ _ _ _ _ _ r h => by simp [impl_taker_seen.j1] at h⟩
 | k + 1 => by
  obtain ⟨ih0, ih1⟩ := impl_taker_seen.mono_l k
  refine ⟨?_, ?_⟩
  ·intro y0 y1 y2 y3 y4
   unfold impl_taker_seen.l0
   repeat' first
   | (with_reducible exact ih0 _ _ _ _ _)
   | (with_reducible exact ih1 _ _ _ _ _ _)
   | (with_reducible exact impl_seenRight.mono _ _)
   | (with_reducible exact impl_taker_count.mono _ _ _ _ _)
   | (with_reducible exact impl_taker_num.mono _ _ _ _)
   | (with_reducible exact LeO.refl _)
   | (with_reducible exact LeO.none _)
   | (with_reducible refine LeO.ite ?_ ?_)
   | (with_reducible refine LeO.bind ?_ (fun _ => ?_))
   | exact ih0 _ _ _ _ _
   | exact ih1 _ _ _ _ _ _
   | exact impl_seenRight.mono _ _
   | exact impl_taker_count.mono _ _ _ _ _
   | exact impl_taker_num.mono _ _ _ _
   | exact LeO.none _
   | refine LeO.ite ?_ ?_
   | refine LeO.bind ?_ (fun _ => ?_)
  ·intro y0 y1 y2 y3 y4 y5
   unfold impl_taker_seen.j1
   repeat' first
   | (with_reducible exact ih0 _ _ _ _ _)
   | (with_reducible exact ih1 _ _ _ _ _ _)
   | (with_reducible exact impl_seenRight.mono _ _)
   | (with_reducible exact impl_taker_count.mono _ _ _ _ _)
   | (with_reducible exact impl_taker_num.mono _ _ _ _)
   | (with_reducible exact LeO.refl _)
   | (with_reducible exact LeO.none _)
   | (with_reducible refine LeO.ite ?_ ?_)
   | (with_reducible refine LeO.bind ?_ (fun _ => ?_))
   | exact ih0 _ _ _ _ _
   | exact ih1 _ _ _ _ _ _
   | exact impl_seenRight.mono _ _
   | exact impl_taker_count.mono _ _ _ _ _
   | exact impl_taker_num.mono _ _ _ _
   | exact LeO.none _
   | refine LeO.ite ?_ ?_
   | refine LeO.bind ?_ (fun _ => ?_)
theorem impl_taker_seen.mono : ∀ a0 a1 a2 k, LeO (impl_taker_seen.f k a0 a1 a2) (impl_taker_seen.f (k + 1) a0 a1 a2) := by
 intro a0 a1 a2 k
 obtain ⟨ih0, ih1⟩ := impl_taker_seen.mono_l k
 unfold impl_taker_seen.f
 repeat' first
   | (with_reducible exact ih0 _ _ _ _ _)
   | (with_reducible exact ih1 _ _ _ _ _ _)
   | (with_reducible exact impl_seenRight.mono _ _)
   | (with_reducible exact impl_taker_count.mono _ _ _ _ _)
   | (with_reducible exact impl_taker_num.mono _ _ _ _)
   | (with_reducible exact LeO.refl _)
   | (with_reducible exact LeO.none _)
   | (with_reducible refine LeO.ite ?_ ?_)
   | (with_reducible refine LeO.bind ?_ (fun _ => ?_))
   | exact ih0 _ _ _ _ _
   | exact ih1 _ _ _ _ _ _
   | exact impl_seenRight.mono _ _
   | exact impl_taker_count.mono _ _ _ _ _
   | exact impl_taker_num.mono _ _ _ _
   | exact LeO.none _
   | refine LeO.ite ?_ ?_
   | refine LeO.bind ?_ (fun _ => ?_)
set_option maxHeartbeats 8000000 in
set_option maxRecDepth 100000 in
theorem impl_taker_seen.calls (k : Nat) (g : Nat) (s0_0 : ByteArray) (s0_1 : Int) (s0_2 : Bool) (r1 : List (S33)) (r2 : ByteArray) (r3 : Int) (r4 : Bool) (w0 w : World) (hI : IsS127 w0 w g s0_0 s0_1 s0_2) (hB : Below w0.heap.size w0 w) (h : impl_taker_seen.f k s0_0 s0_1 s0_2 = some (r1, r2, r3, r4)) :
  Calls Try.prog 94 #[.pointer (some ⟨g, 0, none⟩)] w fun e w' => ∃ v0_ : Value, e = .returned (v0_) ∧ Kd.R k33 33 w' w.heap.size (fun _ => True) v0_ r1 ∧ IsS127 w0 w' g r2 r3 r4 ∧ Below w0.heap.size w0 w' ∧ KeepBut w w' g none := by
 have hu33 := Try.underlying33
 have HI0 := Aside0.mk hI
 have HK := Aside0.mk (KeepBut.refl w g none)
 have HL := Aside0.mk hB.size
 clear hI
 have HW0 := Aside0.mk hB.size
 have HB := Aside0.mk hB
 clear hB
 have H : ((impl_taker_count.f k s0_0 s0_1 s0_2 5).bind fun bt393 => (impl_taker_seen.l0 k ([] : List (S33)) bt393.1 bt393.2.1 bt393.2.2.1 bt393.2.2.2)) = some (r1, r2, r3, r4) := h
 clear h
 replace H := Option.bind_eq_some_iff.mp H
 obtain ⟨⟨t393, t394, t395, t396⟩, A20, H⟩ := H
 replace H : (impl_taker_seen.l0 k ([] : List (S33)) t393 t394 t395 t396) = some (r1, r2, r3, r4) := H
 have A2 := Aside0.mk A20
 clear A20
 have H' := Aside0.mk H
 clear H
 go_enter Try.func94, Try.ntmps94
 go_wp2_with (first | ((with_reducible refine gate_callee (f := 160) rfl ?_); refine goesL_ (some 7) rfl rfl Try.func160 (by kernel_rfl) rfl #[.pointer (some ⟨g, 0, none⟩), .int .i64 5] rfl (z0_) ?_; (with_reducible refine (impl_taker_count.calls k g s0_0 s0_1 s0_2 5 t393 t394 t395 t396 w0 _ ?side1 ?side2 A2.out).mono ?_); (case side1 => exact z16_ HI0.out); (case side2 => exact z17_ HB.out HI0.out); rintro e w3 ⟨rfl, hi, hb, hk⟩; refine ⟨_, rfl, ?_⟩; have n_ := as3_ (KeepBut.trans (z11_ HK.out) hk (.inl rfl)) (hb) (hi); clear HK HB HI0; have ⟨HK, HB, HI0⟩ := n_; clear n_; (try clear hb); (try clear hb2); (try clear hk); (try clear hi)))
 go_loopg [3, 4] k (fun kq v3 v4 w' => ∃ (x3_1 : List (S33)) (x4_1 : Int) (x1000_1 : ByteArray) (x1001_1 : Int) (x1002_1 : Bool), v4 = .int .i64 x4_1 ∧ Aside0 (impl_taker_seen.l0 kq x3_1 x4_1 x1000_1 x1001_1 x1002_1 = some (r1, r2, r3, r4)) ∧ Aside0 (kq ≤ k) ∧ Aside0 (Kd.R k33 33 w' w.heap.size (fun _ => True) v3 x3_1) ∧ Aside0 (IsS127 w0 w' g x1000_1 x1001_1 x1002_1) ∧ Aside0 (KeepBut w w' g none) ∧ Aside0 (Below w0.heap.size w0 w'))
 case atStart => exact ⟨(([] : List (S33))), (t393), (t394), (t395), (t396), (z2_), H', ⟨Nat.le_refl _⟩, ⟨z43_⟩, ⟨z16_ HI0.out⟩, ⟨z11_ HK.out⟩, ⟨z17_ HB.out HI0.out⟩⟩
 case round =>
  clear H'
  try clear c1
  try clear p2
  obtain ⟨x3_1, x4_1, x1000_1, x1001_1, x1002_1, rfl, HA, HK1, HO_3, HI0, HK, HB⟩ := hrel
  cases gk with
  | zero => exact absurd HA.out (by simp [impl_taker_seen.l0])
  | succ k1 =>
   have H := HA.out
   clear HA
   simp only [impl_taker_seen.l0] at H
   have HC4 := Aside0.mk H
   clear H
   go_upto_region 3 with (fail)
   go_cut [16] (fun v16 wc => ∃ (kq : Nat) (x16_3 : Bool), v16 = .bool x16_3 ∧ Aside0 (impl_taker_seen.j1 kq x3_1 x4_1 x16_3 x1000_1 x1001_1 x1002_1 = some (r1, r2, r3, r4)) ∧ Aside0 (kq ≤ k1) ∧ Aside0 (Kd.R k33 33 wc w.heap.size (fun _ => True) u3 x3_1) ∧ Aside0 (IsS127 w0 wc g x1000_1 x1001_1 x1002_1) ∧ Aside0 (KeepBut w wc g none) ∧ Aside0 (Below w0.heap.size w0 wc))
   case first =>
    have H := HC4.out
    clear HC4
    by_cases c5 : x4_1 > 0
    ·rw [if_pos c5] at H
     have c5b0 : decide (0 < x4_1) = true := decide_eq_true c5
     clear c5
     (first | rw [c5b0] | (simp only [i64_w, i32_w]; rw [c5b0]) | skip)
     have H' := Aside0.mk H
     clear H
     obtain ⟨HGz6, hgz6⟩ := HI0.out
     have hcz6_0 := cellS127_0 HGz6
     have hcz6_1 := cellS127_1 HGz6
     have hcz6_2 := cellS127_2 HGz6
     have hfz6_0 := blk_frozen HGz6 0
     have hfz6_1 := blk_frozen HGz6 1
     have hfz6_2 := blk_frozen HGz6 2
     clear HGz6 hgz6
     go_wp2
     go_meet
     case rel => exact ⟨_, (!x1002_1), (z2_), H', ⟨z26_ HK1.out⟩, ⟨z4_ HO_3.out⟩, ⟨z16_ HI0.out⟩, ⟨z11_ HK.out⟩, ⟨z17_ HB.out HI0.out⟩⟩
    ·rw [if_neg c5] at H
     have c5b0 : decide (0 < x4_1) = false := decide_eq_false c5
     clear c5
     (first | rw [c5b0] | (simp only [i64_w, i32_w]; rw [c5b0]) | skip)
     have H' := Aside0.mk H
     clear H
     go_wp2
     go_meet
     case rel => exact ⟨_, (false), (z2_), H', ⟨z26_ HK1.out⟩, ⟨z4_ HO_3.out⟩, ⟨z16_ HI0.out⟩, ⟨z11_ HK.out⟩, ⟨z17_ HB.out HI0.out⟩⟩
   case rest =>
    clear HC4
    try clear c1
    try clear p2
    try clear c5
    try clear c5b0
    try clear hcz6_0
    try clear hcz6_1
    try clear hcz6_2
    try clear hfz6_0
    try clear hfz6_1
    try clear hfz6_2
    try clear p2
    obtain ⟨kq, x16_3, rfl, HA, HJ3, HO_3, HI0, HK, HB⟩ := hcut
    cases kq with
    | zero => exact absurd HA.out (by simp [impl_taker_seen.j1])
    | succ kj3 =>
     have H := HA.out
     clear HA
     simp only [impl_taker_seen.j1] at H
     by_cases c7 : x16_3 = true
     ·subst c7
      have H1 : ((impl_taker_num.f kj3 x1000_1 x1001_1 x1002_1).bind fun bt398 => ((impl_taker_num.f kj3 bt398.2.1 bt398.2.2.1 bt398.2.2.2).bind fun bt402 => (if x3_1.length < 8796093022208 then (impl_taker_seen.l0 kj3 (x3_1 ++ [(⟨bt398.1, bt402.1⟩ : S33)]) (wrap64 (x4_1 - 1)) bt402.2.1 bt402.2.2.1 bt402.2.2.2) else (none)))) = some (r1, r2, r3, r4) := by rw [if_pos rfl] at H; exact H
      clear H
      have H := H1
      clear H1
      replace H := Option.bind_eq_some_iff.mp H
      obtain ⟨⟨t398, t399, t400, t401⟩, A80, H⟩ := H
      replace H : ((impl_taker_num.f kj3 t399 t400 t401).bind fun bt402 => (if x3_1.length < 8796093022208 then (impl_taker_seen.l0 kj3 (x3_1 ++ [(⟨t398, bt402.1⟩ : S33)]) (wrap64 (x4_1 - 1)) bt402.2.1 bt402.2.2.1 bt402.2.2.2) else (none))) = some (r1, r2, r3, r4) := H
      have A8 := Aside0.mk A80
      clear A80
      replace H := Option.bind_eq_some_iff.mp H
      obtain ⟨⟨t402, t403, t404, t405⟩, A90, H⟩ := H
      replace H : (if x3_1.length < 8796093022208 then (impl_taker_seen.l0 kj3 (x3_1 ++ [(⟨t398, t402⟩ : S33)]) (wrap64 (x4_1 - 1)) t403 t404 t405) else (none)) = some (r1, r2, r3, r4) := H
      have A9 := Aside0.mk A90
      clear A90
      by_cases c10 : x3_1.length < 8796093022208
      ·rw [if_pos c10] at H
       have LMc10 := Aside0.mk c10
       clear c10
       obtain ⟨y406, hy406⟩ : ∃ y_ : List (S33), y_ = (x3_1 ++ [(⟨t398, t402⟩ : S33)]) := ⟨_, rfl⟩
       replace H : (impl_taker_seen.l0 kj3 y406 (wrap64 (x4_1 - 1)) t403 t404 t405) = some (r1, r2, r3, r4) := by first | (rw [hy406]; with_reducible exact H) | (have H2_ := (Option.bind_some _ _).symm.trans H; rw [hy406]; with_reducible exact H2_) | (have H2_ := (Option.bind_some _ _).symm.trans H; with_reducible exact H2_) | with_reducible exact H | (rw [hy406]; exact H) | exact H
       have Ny406 := Aside0.mk hy406
       clear hy406
       have H' := Aside0.mk H
       clear H
       go_wp2_with (first | ((with_reducible refine gate_callee (f := 161) rfl ?_); refine goesL_ (some 20) rfl rfl Try.func161 (by kernel_rfl) rfl #[.pointer (some ⟨g, 0, none⟩)] rfl (z0_) ?_; (with_reducible refine (impl_taker_num.calls kj3 g x1000_1 x1001_1 x1002_1 t398 t399 t400 t401 w0 _ ?side1 ?side2 A8.out).mono ?_); (case side1 => exact z16_ HI0.out); (case side2 => exact z17_ HB.out HI0.out); rintro e w11 ⟨rfl, hi, hb, hk⟩; refine ⟨_, rfl, ?_⟩; have n_ := as4_ (Kd.R_mono (Kd.R_keep (IsS127.apart (show IsS127 w0 _ g x1000_1 x1001_1 x1002_1 from by repeat (first | (with_reducible first | exact HI0.out | apply IsS127.alloc | apply IsS127.drewN | apply IsS127.drew | apply IsS127.set_0 | apply IsS127.set_1 | apply IsS127.set_2) | exact HI0.out)) (z4_ HO_3.out) (by decide)) hk (fun _ h => h.2)) (fun _ h => h.1)) (KeepBut.trans (z11_ HK.out) hk (.inl rfl)) (hb) (hi); clear HO_3 HK HB HI0; have ⟨HO_3, HK, HB, HI0⟩ := n_; clear n_; (try clear hb); (try clear hb2); (try clear hk); (try clear hi)) | ((with_reducible refine gate_callee (f := 161) rfl ?_); refine goesL_ (some 24) rfl rfl Try.func161 (by kernel_rfl) rfl #[.pointer (some ⟨g, 0, none⟩)] rfl (z0_) ?_; (with_reducible refine (impl_taker_num.calls kj3 g t399 t400 t401 t402 t403 t404 t405 w0 _ ?side1 ?side2 A9.out).mono ?_); (case side1 => exact z16_ HI0.out); (case side2 => exact z17_ HB.out HI0.out); rintro e w12 ⟨rfl, hi, hb, hk⟩; refine ⟨_, rfl, ?_⟩; have n_ := as4_ (Kd.R_mono (Kd.R_keep (IsS127.apart (show IsS127 w0 _ g t399 t400 t401 from by repeat (first | (with_reducible first | exact HI0.out | apply IsS127.alloc | apply IsS127.drewN | apply IsS127.drew | apply IsS127.set_0 | apply IsS127.set_1 | apply IsS127.set_2) | exact HI0.out)) (z4_ HO_3.out) (by decide)) hk (fun _ h => h.2)) (fun _ h => h.1)) (KeepBut.trans (z11_ HK.out) hk (.inl rfl)) (hb) (hi); clear HO_3 HK HB HI0; have ⟨HO_3, HK, HB, HI0⟩ := n_; clear n_; (try clear hb); (try clear hb2); (try clear hk); (try clear hi)) | ((with_reducible refine gate_builtin (b := .append) (xs := #[.tmp 21, .tmp 26]) rfl ?_); at_builtin; refine Kd.R_append k33 w.heap.size rfl (.tmp 21) (.tmp 26) 28 33 (.agg #[(.int .i64 0), (.int .i64 0)]) 16 rfl Try.underlying28 info33 rfl (by decide) (by omega) u3 x3_1 (⟨t398, t402⟩ : S33) [.int .i64 t398, .int .i64 t402] (fun _ => True) (fun _ => False) rfl rfl ?aP (fun _ hk => hk.elim) ?aF ?aO (Below.refl _ _) ?aS ?aL ?_; (case aP => exact k33_mkM _ _ _ (⟨t398, t402⟩ : S33)); (case aF => exact (fun _ _ => trivial)); (case aO => exact (z4_ HO_3.out)); (case aS => exact (keep_size (w := w) (g := g) (row := none) (z11_ HK.out))); (case aL => have := LMc10.out; omega); intro v407 w13 ho hb hg hat; rw [← Ny406.out] at ho; have n_ := as4_ (IsS127.grown (z16_ HI0.out) hg (IsS127.own_ne HI0.out HO_3.out (by decide))) (below_weaken (z17_ HB.out HI0.out) HL.out hb) (KeepBut.trans (z11_ HK.out) (KeepBut.of_grown hg g) (Kd.R_base2 HO_3.out)) (ho); clear HI0 HB HK HO_3; have ⟨HI0, HB, HK, HO408⟩ := n_; clear n_; clear ho hb hg hat))
       go_roundg kj3
       case measure => have := HK1.out; have := HJ3.out; omega
       case rel => exact ⟨(y406), (wrap64 (x4_1 - 1)), (t403), (t404), (t405), (z2_), H', ⟨by have := HK1.out; have := HJ3.out; omega⟩, ⟨z4_ HO408.out⟩, ⟨z16_ HI0.out⟩, ⟨z11_ HK.out⟩, ⟨z17_ HB.out HI0.out⟩⟩
      ·rw [if_neg c10] at H
       exact absurd H (by simp)
     ·replace c7 := Bool.eq_false_iff.mpr c7
      subst c7
      have H1 : (if x1002_1 = true then (some (x3_1, x1000_1, x1001_1, true)) else ((impl_seenRight.f kj3 x3_1).bind fun t397 => (some (x3_1, x1000_1, x1001_1, !t397)))) = some (r1, r2, r3, r4) := by rw [if_neg (show ¬ (false = true) by decide)] at H; exact H
      clear H
      have H := H1
      clear H1
      by_cases c14 : x1002_1 = true
      ·subst c14
       have H1 : (some (x3_1, x1000_1, x1001_1, true)) = some (r1, r2, r3, r4) := by rw [if_pos rfl] at H; exact H
       clear H
       have H := H1
       clear H1
       simp only [Option.some.injEq, Prod.mk.injEq] at H
       obtain ⟨rfl, rfl, rfl, rfl⟩ := H
       obtain ⟨HGz15, hgz15⟩ := HI0.out
       have hcz15_0 := cellS127_0 HGz15
       have hcz15_1 := cellS127_1 HGz15
       have hcz15_2 := cellS127_2 HGz15
       have hfz15_0 := blk_frozen HGz15 0
       have hfz15_1 := blk_frozen HGz15 1
       have hfz15_2 := blk_frozen HGz15 2
       clear HGz15 hgz15
       go_wp2
       go_ret
       exact ⟨_, z8_, by (with_reducible repeat (first | apply Kd.R_alloc | apply Kd.R_drewN | apply Kd.R_drew)); exact Kd.R_mono (Kd.R_far (p := ⟨g, 2, none⟩) (IsS127.apart HI0.out HO_3.out (by decide)) (fun _ hk => hk.2) (.bool true)) (fun _ hk => trivial), z16_ HI0.out, z17_ HB.out HI0.out, z11_ HK.out⟩
      ·replace c14 := Bool.eq_false_iff.mpr c14
       subst c14
       have H1 : ((impl_seenRight.f kj3 x3_1).bind fun t397 => (some (x3_1, x1000_1, x1001_1, !t397))) = some (r1, r2, r3, r4) := by rw [if_neg (show ¬ (false = true) by decide)] at H; exact H
       clear H
       have H := H1
       clear H1
       replace H := Option.bind_eq_some_iff.mp H
       obtain ⟨t397, A160, H⟩ := H
       replace H : (some (x3_1, x1000_1, x1001_1, !t397)) = some (r1, r2, r3, r4) := H
       have A16 := Aside0.mk A160
       clear A160
       simp only [Option.some.injEq, Prod.mk.injEq] at H
       obtain ⟨rfl, rfl, rfl, rfl⟩ := H
       obtain ⟨HGz17, hgz17⟩ := HI0.out
       have hcz17_0 := cellS127_0 HGz17
       have hcz17_1 := cellS127_1 HGz17
       have hcz17_2 := cellS127_2 HGz17
       have hfz17_0 := blk_frozen HGz17 0
       have hfz17_1 := blk_frozen HGz17 1
       have hfz17_2 := blk_frozen HGz17 2
       clear HGz17 hgz17
       obtain ⟨Ao18, co18, eo18⟩ := Kd.R_slice HO_3.out
       subst eo18
       go_wp2_with (first | (go_at_call 87; (with_reducible refine (impl_seenRight.calls kj3 _ _ x3_1 t397 _ ?side1 ?side2 A16.out).mono ?_); (case side1 => exact z27_ HO_3.out); (case side2 => exact (Kd.R_reads' HO_3.out).2.1); rintro e w19 ⟨rfl, hb⟩; have n_ := as4_ (Kd.R_below (z4_ HO_3.out) hb) (IsS127.below (z16_ HI0.out) hb) (KeepBut.trans (z11_ HK.out) (KeepBut.of_below hb g none) (.inl rfl)) (below_step (z17_ HB.out HI0.out) hb); clear HO_3 HI0 HK HB; have ⟨HO_3, HI0, HK, HB⟩ := n_; clear n_; (try clear hb); (try clear hb2); (try clear hk); (try clear hi); obtain ⟨HGz20, hgz20⟩ := HI0.out; have hcz20_0 := cellS127_0 HGz20; have hcz20_1 := cellS127_1 HGz20; have hcz20_2 := cellS127_2 HGz20; have hfz20_0 := blk_frozen HGz20 0; have hfz20_1 := blk_frozen HGz20 1; have hfz20_2 := blk_frozen HGz20 2; clear HGz20 hgz20))
       go_ret
       exact ⟨_, z8_, by (with_reducible repeat (first | apply Kd.R_alloc | apply Kd.R_drewN | apply Kd.R_drew)); exact Kd.R_mono (Kd.R_far (p := ⟨g, 2, none⟩) (IsS127.apart HI0.out HO_3.out (by decide)) (fun _ hk => hk.2) (.bool (!t397))) (fun _ hk => trivial), z16_ HI0.out, z17_ HB.out HI0.out, z11_ HK.out⟩


/-! ### impl_seenOf: function 100 -/
def impl_seenOf.l0 : Nat → Int → List (S33) → Int → Int → Option (Int)
 | 0, _, _, _, _ => none
 | k + 1, x1, x7, x8, x9 => if x9 < x8 then (if 0 ≤ x9 then (if x9 < (x7.length : Int) then (if ((rd_T33 x7 x9).f0) = x1 then (some ((rd_T33 x7 x9).f1)) else (impl_seenOf.l0 k x1 x7 x8 (wrap64 (x9 + 1)))) else (none)) else (none)) else (some 0)
def impl_seenOf.f (k : Nat) (l0 : List (S33)) (a1 : Int) : Option (Int) := impl_seenOf.l0 k a1 l0 (l0.length : Int) 0
theorem impl_seenOf.mono_l : ∀ k, (∀ y0 y1 y2 y3, LeO (impl_seenOf.l0 k y0 y1 y2 y3) (impl_seenOf.l0 (k + 1) y0 y1 y2 y3))
 | 0 => fun _ _ _ _ r h => by simp [impl_seenOf.l0] at h
 | k + 1 => by
  have ih0 := impl_seenOf.mono_l k
  ·intro y0 y1 y2 y3
   unfold impl_seenOf.l0
   repeat' first
   | (with_reducible exact ih0 _ _ _ _)
   | (with_reducible exact LeO.refl _)
   | (with_reducible exact LeO.none _)
   | (with_reducible refine LeO.ite ?_ ?_)
   | (with_reducible refine LeO.bind ?_ (fun _ => ?_))
   | exact ih0 _ _ _ _
   | exact LeO.none _
   | refine LeO.ite ?_ ?_
   | refine LeO.bind ?_ (fun _ => ?_)
theorem impl_seenOf.mono : ∀ a0 a1 k, LeO (impl_seenOf.f k a0 a1) (impl_seenOf.f (k + 1) a0 a1) := by
 intro a0 a1 k
 have ih0 := impl_seenOf.mono_l k
 unfold impl_seenOf.f
 repeat' first
   | (with_reducible exact ih0 _ _ _ _)
   | (with_reducible exact LeO.refl _)
   | (with_reducible exact LeO.none _)
   | (with_reducible refine LeO.ite ?_ ?_)
   | (with_reducible refine LeO.bind ?_ (fun _ => ?_))
   | exact ih0 _ _ _ _
   | exact LeO.none _
   | refine LeO.ite ?_ ?_
   | refine LeO.bind ?_ (fun _ => ?_)
set_option maxHeartbeats 8000000 in
set_option maxRecDepth 100000 in
theorem impl_seenOf.calls (k : Nat) (A0 : Option Addr) (c0 : Nat) (l0 : List (S33)) (a1 : Int) (r : Int) (w : World) (hr0 : Kd.C k33 w A0 l0.length l0) (hc0 : l0.length ≤ c0) (h : impl_seenOf.f k l0 a1 = some r) :
  Calls Try.prog 100 #[.slice A0 l0.length c0, .int .i64 a1] w fun e w' => e = .returned (.int .i64 r) ∧ Below w.heap.size w w' := by
 have hu33 := Try.underlying33
 have HR0 := Aside0.mk hr0
 have HC0 := Aside0.mk hc0
 clear hr0 hc0
 have HB := Aside0.mk (Below.refl w.heap.size w)
 have H : (impl_seenOf.l0 k a1 l0 (l0.length : Int) 0) = some r := h
 clear h
 have H' := Aside0.mk H
 clear H
 go_enter Try.func100, Try.ntmps100
 go_wp2
 go_loopg [9] k (fun kq v9 w' => ∃ (x9_1 : Int), v9 = .int .i64 x9_1 ∧ Aside0 (impl_seenOf.l0 kq a1 l0 (l0.length : Int) x9_1 = some r) ∧ Aside0 (kq ≤ k) ∧ Aside0 (Below w.heap.size w w'))
 case atStart => exact ⟨(0), (z2_), H', ⟨Nat.le_refl _⟩, ⟨z5_ HB.out⟩⟩
 case round =>
  clear H'
  try clear c1
  try clear p2
  obtain ⟨x9_1, rfl, HA, HK1, HB⟩ := hrel
  cases gk with
  | zero => exact absurd HA.out (by simp [impl_seenOf.l0])
  | succ k1 =>
   have H := HA.out
   clear HA
   simp only [impl_seenOf.l0] at H
   by_cases c3 : x9_1 < (l0.length : Int)
   ·rw [if_pos c3] at H
    have c3b0 : decide (x9_1 < (l0.length : Int)) = true := decide_eq_true c3
    clear c3
    by_cases c4 : 0 ≤ x9_1
    ·rw [if_pos c4] at H
     have c4b0 : decide (0 ≤ x9_1) = true := decide_eq_true c4
     clear c4
     by_cases c5 : x9_1 < (l0.length : Int)
     ·rw [if_pos c5] at H
      have c5b0 : decide (x9_1 < (l0.length : Int)) = true := decide_eq_true c5
      clear c5
      by_cases c6 : ((rd_T33 l0 x9_1).f0) = a1
      ·rw [if_pos c6] at H
       have c6b0 : (((rd_T33 l0 x9_1).f0) == a1) = true := beq_iff_eq.mpr c6
       have c6b1 : (((rd_T33 l0 x9_1).f0) != a1) = false := bne_eq_false_iff_eq.mpr c6
       clear c6
       obtain rfl := Option.some.inj H
       have p222 : 0 ≤ (x9_1 : Int) := of_decide_eq_true (z3_)
       have q222 : x9_1 < (l0.length : Int) := of_decide_eq_true (z3_)
       obtain ⟨ad222, e222, hx222_0, hx222_1⟩ := at_T33 HR0.out x9_1 p222 q222
       cases e222
       replace hx222_0 := (HB.out.cell (World.block_lt_of_cell? w _ hx222_0)).trans hx222_0
       replace hx222_1 := (HB.out.cell (World.block_lt_of_cell? w _ hx222_1)).trans hx222_1
       replace p222 := eq_true p222
       replace q222 := eq_true q222
       go_wp2_with (first | ((with_reducible refine gate_dst (N := 6) rfl ?_); refine box_event ?hg (N := 6) ?hd (cs := #[.int .i64 0, .int .i64 0]) (t := 33) ?hr ?_; (case hd => rfl); (case hg => rfl); (case hr => first | (go_simp; done) | (go_simp; rfl)); intro gb223 hg w7 hbox hb; have n_ := as4_ (below_step (z5_ HB.out) hb) (hbox) ((z7_ HB.out : w.heap.size ≤ gb223)) ((z7_ HB.out : w.heap.size ≤ gb223)); clear HB; have ⟨HB, BK223, GW223, GE223⟩ := n_; clear n_; clear hb hbox hg; have hcz8_0 : w7.cell? ⟨gb223, 0, none⟩ = some (.int .i64 0) := (blk_cell BK223.out 0).trans rfl; have hcz8_1 : w7.cell? ⟨gb223, 1, none⟩ = some (.int .i64 0) := (blk_cell BK223.out 1).trans rfl; have hfz8_0 := blk_frozen BK223.out 0; have hfz8_1 := blk_frozen BK223.out 1))
       go_ret
       exact ⟨z8_, z1_ HB.out GE223.out⟩
      ·rw [if_neg c6] at H
       have c6b0 : (((rd_T33 l0 x9_1).f0) == a1) = false := beq_eq_false_iff_ne.mpr c6
       have c6b1 : (((rd_T33 l0 x9_1).f0) != a1) = true := bne_iff_ne.mpr c6
       have H' := Aside0.mk H
       clear H
       have p222 : 0 ≤ (x9_1 : Int) := of_decide_eq_true (z3_)
       have q222 : x9_1 < (l0.length : Int) := of_decide_eq_true (z3_)
       obtain ⟨ad222, e222, hx222_0, hx222_1⟩ := at_T33 HR0.out x9_1 p222 q222
       cases e222
       replace hx222_0 := (HB.out.cell (World.block_lt_of_cell? w _ hx222_0)).trans hx222_0
       replace hx222_1 := (HB.out.cell (World.block_lt_of_cell? w _ hx222_1)).trans hx222_1
       replace p222 := eq_true p222
       replace q222 := eq_true q222
       go_wp2_with (first | ((with_reducible refine gate_dst (N := 6) rfl ?_); refine box_event ?hg (N := 6) ?hd (cs := #[.int .i64 0, .int .i64 0]) (t := 33) ?hr ?_; (case hd => rfl); (case hg => rfl); (case hr => first | (go_simp; done) | (go_simp; rfl)); intro gb223 hg w9 hbox hb; have n_ := as4_ (below_step (z5_ HB.out) hb) (hbox) ((z7_ HB.out : w.heap.size ≤ gb223)) ((z7_ HB.out : w.heap.size ≤ gb223)); clear HB; have ⟨HB, BK223, GW223, GE223⟩ := n_; clear n_; clear hb hbox hg; have hcz10_0 : w9.cell? ⟨gb223, 0, none⟩ = some (.int .i64 0) := (blk_cell BK223.out 0).trans rfl; have hcz10_1 : w9.cell? ⟨gb223, 1, none⟩ = some (.int .i64 0) := (blk_cell BK223.out 1).trans rfl; have hfz10_0 := blk_frozen BK223.out 0; have hfz10_1 := blk_frozen BK223.out 1))
       go_roundg k1
       case measure => have := HK1.out; omega
       case rel => exact ⟨(wrap64 (x9_1 + 1)), (z2_), H', ⟨by have := HK1.out; omega⟩, ⟨z1_ HB.out GE223.out⟩⟩
     ·rw [if_neg c5] at H
      exact absurd H (by simp)
    ·rw [if_neg c4] at H
     exact absurd H (by simp)
   ·rw [if_neg c3] at H
    have c3b0 : decide (x9_1 < (l0.length : Int)) = false := decide_eq_false c3
    clear c3
    obtain rfl := Option.some.inj H
    go_wp2
    go_ret
    exact ⟨z8_, z5_ HB.out⟩


/-! ### impl_seenHas: function 101 -/
def impl_seenHas.f (k : Nat) (l0 : List (S33)) (a1_0 : Int) (a1_1 : Int) : Option (Bool) := (impl_seenOf.f k l0 a1_0).bind fun t440 => (some (decide (a1_1 ≤ t440)))
theorem impl_seenHas.mono : ∀ a0 a1 a2 k, LeO (impl_seenHas.f k a0 a1 a2) (impl_seenHas.f (k + 1) a0 a1 a2) := by
 intro a0 a1 a2 k
 unfold impl_seenHas.f
 repeat' first
   | (with_reducible exact impl_seenOf.mono _ _ _)
   | (with_reducible exact LeO.refl _)
   | (with_reducible exact LeO.none _)
   | (with_reducible refine LeO.ite ?_ ?_)
   | (with_reducible refine LeO.bind ?_ (fun _ => ?_))
   | exact impl_seenOf.mono _ _ _
   | exact LeO.none _
   | refine LeO.ite ?_ ?_
   | refine LeO.bind ?_ (fun _ => ?_)
def impl_seenHas.T1 : Bool × List (List Nat × List Nat) := (true, [([], []), ([0], [0]), ([], []), ([], []), ([3], [3]), ([2, 4], [2, 4]), ([1, 5], [1, 5]), ([6, 5, 0, 1, 2, 3, 4, 5, 6], [6])])
def impl_seenHas.B1 : List Nat := [0, 1, 0, 0, 8, 28, 63, 127]
theorem impl_seenHas.tab1 : rtab .any (opsOf Try.f101 1) = impl_seenHas.T1 := by kernel_rfl
theorem impl_seenHas.bits1 : waitsOk impl_seenHas.T1.2 impl_seenHas.B1 = true := by kernel_rfl
set_option maxHeartbeats 8000000 in
set_option maxRecDepth 100000 in
theorem impl_seenHas.calls (k : Nat) (A0 : Option Addr) (c0 : Nat) (l0 : List (S33)) (a1_0 : Int) (a1_1 : Int) (r : Bool) (w : World) (hr0 : Kd.C k33 w A0 l0.length l0) (hc0 : l0.length ≤ c0) (h : impl_seenHas.f k l0 a1_0 a1_1 = some r) :
  Calls Try.prog 101 #[.slice A0 l0.length c0, .agg #[.int .i64 a1_0, .int .i64 a1_1]] w fun e w' => e = .returned (.bool r) ∧ Below w.heap.size w w' := by
 have hu33 := Try.underlying33
 have HR0 := Aside0.mk hr0
 have HC0 := Aside0.mk hc0
 clear hr0 hc0
 have HB := Aside0.mk (Below.refl w.heap.size w)
 have H : ((impl_seenOf.f k l0 a1_0).bind fun t440 => (some (decide (a1_1 ≤ t440)))) = some r := h
 clear h
 replace H := Option.bind_eq_some_iff.mp H
 obtain ⟨t440, A30, H⟩ := H
 replace H : (some (decide (a1_1 ≤ t440))) = some r := H
 have A3 := Aside0.mk A30
 clear A30
 obtain rfl := Option.some.inj H
 go_enter Try.func101, Try.ntmps101
 try go_wp2_with (first | ((with_reducible refine gate_dst (N := 3) rfl ?_); refine box_event ?hg (N := 3) ?hd (cs := #[.int .i64 a1_0, .int .i64 a1_1]) (t := 33) ?hr ?_; (case hd => rfl); (case hg => rfl); (case hr => first | (go_simp; done) | (go_simp; rfl)); intro gb439 hg w4 hbox hb; have n_ := as4_ (below_step (z5_ HB.out) hb) (hbox) ((z7_ HB.out : w.heap.size ≤ gb439)) ((z7_ HB.out : w.heap.size ≤ gb439)); clear HB; have ⟨HB, BK439, GW439, GE439⟩ := n_; clear n_; clear hb hbox hg))
 have n_ := as2_ (blk_drew BK439.out) (below_drew1 HB.out)
 clear BK439 HB
 have ⟨BK439, HB⟩ := n_
 clear n_
 refine start_ (n := 8) (S := fun w' => w'.cell? ⟨gb439, 0, none⟩ = some (.int .i64 a1_0) ∧ w'.cell? ⟨gb439, 1, none⟩ = some (.int .i64 a1_1)) (ds := []) #[false, false, false, false, false, false, false, false] (by kernel_rfl) rfl rfl ⟨(blk_cell BK439.out 0).trans rfl, (blk_cell BK439.out 1).trans rfl⟩ (fun hHeld => ?_); refine with_tabW impl_seenHas.tab1 impl_seenHas.bits1 (fun HT_ HW_ => ?_)
 generalize w4.drew = w5 at BK439 HB hHeld ⊢
 refine pu_ 0 5 #[true, false, false, false, false, false, false, false] HT_.out ?_
 refine pu_ 2 7 #[true, false, true, false, false, false, false, false] HT_.out ?_
 refine pu_ 3 8 #[true, false, true, true, false, false, false, false] HT_.out ?_
 refine tk2_ 1 6 #[true, true, true, true, false, false, false, false] HT_.out HW_.out hHeld ?_
 refine tk2_ 4 9 #[true, true, true, true, true, false, false, false] HT_.out HW_.out hHeld ?_
 refine one_ (i := 5) (N := some 10) #[true, true, true, true, true, true, false, false] rfl rfl (one_of HT_.out (by kernel_rfl)) (by decide) (fun K hK => ?_)
 refine goes_ Try.func100 (by kernel_rfl) rfl #[.slice A0 l0.length c0, .int .i64 a1_0] (by rfl) rfl rfl (z0_) ?_
 with_reducible refine (impl_seenOf.calls k _ _ l0 a1_0 t440 _ ?side1 ?side2 A3.out).mono ?_
 (case side1 => exact z12_ HR0.out HB.out)
 (case side2 => exact HC0.out)
 rintro e w6 ⟨rfl, hb⟩
 refine ⟨_, rfl, ?_⟩
 have n_ := as2_ (blkB_ BK439.out hb) (below_step (z1_ HB.out GE439.out) hb)
 clear BK439 HB
 have ⟨BK439, HB⟩ := n_
 clear n_
 (try clear hb)
 (try clear hb2)
 (try clear hk)
 (try clear hi)
 refine hK.out _ _ ⟨(blk_cell BK439.out 0).trans rfl, (blk_cell BK439.out 1).trans rfl⟩ (fun hHeld => ?_)
 clear hK K
 refine norm_ (a' := ?_) ?_ ?_
 rotate_left
 ·show Act.put _ (some 10) _ = _
  simp only [Act.put, sa_, s0_, ss_, i64_w, i32_w]
  rfl
 refine pu_ 6 11 #[true, true, true, true, true, true, true, false] HT_.out ?_
 refine pu_ 7 4 #[true, true, true, true, true, true, true, true] HT_.out ?_
 refine done_ (done_of HT_.out (by kernel_rfl)) ?_
 try go_wp2
 go_ret
 exact ⟨z8_, z1_ HB.out GE439.out⟩


/-! ### cmp_Or_int: function 178 -/
def cmp_Or_int.l0 : Nat → Int → List Int → Int → Int → Option (Int)
 | 0, _, _, _, _ => none
 | k + 1, x3, x6, x7, x8 => if x8 < x7 then (if 0 ≤ x8 then (if x8 < (x6.length : Int) then (if (rd x6 x8) = x3 then (cmp_Or_int.l0 k x3 x6 x7 (wrap64 (x8 + 1))) else (some (rd x6 x8))) else (none)) else (none)) else (some x3)
def cmp_Or_int.f (k : Nat) (l0 : List Int) : Option (Int) := cmp_Or_int.l0 k 0 l0 (l0.length : Int) 0
theorem cmp_Or_int.mono_l : ∀ k, (∀ y0 y1 y2 y3, LeO (cmp_Or_int.l0 k y0 y1 y2 y3) (cmp_Or_int.l0 (k + 1) y0 y1 y2 y3))
 | 0 => fun _ _ _ _ r h => by simp [cmp_Or_int.l0] at h
 | k + 1 => by
  have ih0 := cmp_Or_int.mono_l k
  ·intro y0 y1 y2 y3
   unfold cmp_Or_int.l0
   repeat' first
   | (with_reducible exact ih0 _ _ _ _)
   | (with_reducible exact LeO.refl _)
   | (with_reducible exact LeO.none _)
   | (with_reducible refine LeO.ite ?_ ?_)
   | (with_reducible refine LeO.bind ?_ (fun _ => ?_))
   | exact ih0 _ _ _ _
   | exact LeO.none _
   | refine LeO.ite ?_ ?_
   | refine LeO.bind ?_ (fun _ => ?_)
theorem cmp_Or_int.mono : ∀ a0 k, LeO (cmp_Or_int.f k a0) (cmp_Or_int.f (k + 1) a0) := by
 intro a0 k
 have ih0 := cmp_Or_int.mono_l k
 unfold cmp_Or_int.f
 repeat' first
   | (with_reducible exact ih0 _ _ _ _)
   | (with_reducible exact LeO.refl _)
   | (with_reducible exact LeO.none _)
   | (with_reducible refine LeO.ite ?_ ?_)
   | (with_reducible refine LeO.bind ?_ (fun _ => ?_))
   | exact ih0 _ _ _ _
   | exact LeO.none _
   | refine LeO.ite ?_ ?_
   | refine LeO.bind ?_ (fun _ => ?_)
set_option maxHeartbeats 8000000 in
set_option maxRecDepth 100000 in
theorem cmp_Or_int.calls (k : Nat) (A0 : Option Addr) (c0 : Nat) (l0 : List Int) (r : Int) (w : World) (hr0 : Kd.C (Kd.int .i64) w A0 l0.length l0) (hc0 : l0.length ≤ c0) (h : cmp_Or_int.f k l0 = some r) :
  Calls Try.prog 178 #[.slice A0 l0.length c0] w fun e w' => e = .returned (.int .i64 r) ∧ Drawn0 w w' := by
 have HR0 := Aside0.mk hr0
 have HC0 := Aside0.mk hc0
 clear hr0 hc0
 have H : (cmp_Or_int.l0 k 0 l0 (l0.length : Int) 0) = some r := h
 clear h
 have H' := Aside0.mk H
 clear H
 go_enter Try.func178, Try.ntmps178
 go_wp2
 go_loopg [8] k (fun kq v8 w' => ∃ (x8_1 : Int), v8 = .int .i64 x8_1 ∧ Aside0 (cmp_Or_int.l0 kq 0 l0 (l0.length : Int) x8_1 = some r) ∧ Aside0 (kq ≤ k) ∧ Drawn0 w w')
 case atStart => exact ⟨(0), (z2_), H', ⟨Nat.le_refl _⟩, z13_⟩
 case round =>
  clear H'
  try clear c1
  obtain ⟨x8_1, rfl, HA, HK1, ⟨m1, rfl⟩⟩ := hrel
  cases gk with
  | zero => exact absurd HA.out (by simp [cmp_Or_int.l0])
  | succ k1 =>
   have H := HA.out
   clear HA
   simp only [cmp_Or_int.l0] at H
   by_cases c2 : x8_1 < (l0.length : Int)
   ·rw [if_pos c2] at H
    have c2b0 : decide (x8_1 < (l0.length : Int)) = true := decide_eq_true c2
    clear c2
    by_cases c3 : 0 ≤ x8_1
    ·rw [if_pos c3] at H
     have c3b0 : decide (0 ≤ x8_1) = true := decide_eq_true c3
     clear c3
     by_cases c4 : x8_1 < (l0.length : Int)
     ·rw [if_pos c4] at H
      have c4b0 : decide (x8_1 < (l0.length : Int)) = true := decide_eq_true c4
      clear c4
      by_cases c5 : (rd l0 x8_1) = 0
      ·rw [if_pos c5] at H
       have c5b0 : ((rd l0 x8_1) == 0) = true := beq_iff_eq.mpr c5
       have c5b1 : ((rd l0 x8_1) != 0) = false := bne_eq_false_iff_eq.mpr c5
       clear c5
       have H' := Aside0.mk H
       clear H
       have p749 : 0 ≤ (x8_1 : Int) := of_decide_eq_true (z3_)
       have q749 : x8_1 < (l0.length : Int) := of_decide_eq_true (z3_)
       obtain ⟨ad749, e749, hx749_0⟩ := Kd.at_int HR0.out x8_1 p749 q749
       cases e749
       replace p749 := eq_true p749
       replace q749 := eq_true q749
       go_wp2
       go_roundg k1
       case measure => have := HK1.out; omega
       case rel => exact ⟨(wrap64 (x8_1 + 1)), (z2_), H', ⟨by have := HK1.out; omega⟩, z13_⟩
      ·rw [if_neg c5] at H
       have c5b0 : ((rd l0 x8_1) == 0) = false := beq_eq_false_iff_ne.mpr c5
       have c5b1 : ((rd l0 x8_1) != 0) = true := bne_iff_ne.mpr c5
       obtain rfl := Option.some.inj H
       have p749 : 0 ≤ (x8_1 : Int) := of_decide_eq_true (z3_)
       have q749 : x8_1 < (l0.length : Int) := of_decide_eq_true (z3_)
       obtain ⟨ad749, e749, hx749_0⟩ := Kd.at_int HR0.out x8_1 p749 q749
       cases e749
       replace p749 := eq_true p749
       replace q749 := eq_true q749
       go_wp2
       go_ret
       exact ⟨z2_, z13_⟩
     ·rw [if_neg c4] at H
      exact absurd H (by simp)
    ·rw [if_neg c3] at H
     exact absurd H (by simp)
   ·rw [if_neg c2] at H
    have c2b0 : decide (x8_1 < (l0.length : Int)) = false := decide_eq_false c2
    clear c2
    obtain rfl := Option.some.inj H
    go_wp2
    go_ret
    exact ⟨z2_, z13_⟩


/-! ### cmp_isNaN_int64: function 209 -/
def cmp_isNaN_int64.f (a0 : Int) : Option (Bool) := some (a0 != a0)
set_option maxHeartbeats 8000000 in
set_option maxRecDepth 100000 in
theorem cmp_isNaN_int64.calls (a0 : Int) (r : Bool) (w : World) (h : cmp_isNaN_int64.f a0 = some r) :
  Calls Try.prog 209 #[.int .i64 a0] w fun e w' => e = .returned (.bool r) ∧ Drawn0 w w' := by
 have H : (some (a0 != a0)) = some r := h
 clear h
 obtain rfl := Option.some.inj H
 go_enter Try.func209, Try.ntmps209
 go_wp2
 go_ret
 exact ⟨z2_, z13_⟩


/-! ### cmp_Compare_int64: function 179 -/
def cmp_Compare_int64.f (a0 : Int) (a1 : Int) : Option (Int) := (cmp_isNaN_int64.f a0).bind fun t750 => ((cmp_isNaN_int64.f a1).bind fun t751 => (if t750 = true then (if t751 = true then (some 0) else (some (-1))) else (if t751 = true then (some 1) else (if a0 < a1 then (some (-1)) else (if a0 > a1 then (some 1) else (some 0))))))
set_option maxHeartbeats 8000000 in
set_option maxRecDepth 100000 in
theorem cmp_Compare_int64.calls (a0 : Int) (a1 : Int) (r : Int) (w : World) (h : cmp_Compare_int64.f a0 a1 = some r) :
  Calls Try.prog 179 #[.int .i64 a0, .int .i64 a1] w fun e w' => e = .returned (.int .i64 r) ∧ Drawn0 w w' := by
 have H : ((cmp_isNaN_int64.f a0).bind fun t750 => ((cmp_isNaN_int64.f a1).bind fun t751 => (if t750 = true then (if t751 = true then (some 0) else (some (-1))) else (if t751 = true then (some 1) else (if a0 < a1 then (some (-1)) else (if a0 > a1 then (some 1) else (some 0))))))) = some r := h
 clear h
 replace H := Option.bind_eq_some_iff.mp H
 obtain ⟨t750, A30, H⟩ := H
 replace H : ((cmp_isNaN_int64.f a1).bind fun t751 => (if t750 = true then (if t751 = true then (some 0) else (some (-1))) else (if t751 = true then (some 1) else (if a0 < a1 then (some (-1)) else (if a0 > a1 then (some 1) else (some 0)))))) = some r := H
 have A3 := Aside0.mk A30
 clear A30
 replace H := Option.bind_eq_some_iff.mp H
 obtain ⟨t751, A40, H⟩ := H
 replace H : (if t750 = true then (if t751 = true then (some 0) else (some (-1))) else (if t751 = true then (some 1) else (if a0 < a1 then (some (-1)) else (if a0 > a1 then (some 1) else (some 0))))) = some r := H
 have A4 := Aside0.mk A40
 clear A40
 by_cases c5 : t750 = true
 ·subst c5
  have H1 : (if t751 = true then (some 0) else (some (-1))) = some r := by rw [if_pos rfl] at H; exact H
  clear H
  have H := H1
  clear H1
  by_cases c6 : t751 = true
  ·subst c6
   have H1 : (some 0) = some r := by rw [if_pos rfl] at H; exact H
   clear H
   have H := H1
   clear H1
   obtain rfl := Option.some.inj H
   go_enter Try.func179, Try.ntmps179
   go_wp2_with (first | ((with_reducible refine gate_callee (f := 209) rfl ?_); refine goesL_ (some 8) rfl rfl Try.func209 (by kernel_rfl) rfl #[.int .i64 a0] rfl (z0_) ?_; (with_reducible refine (cmp_isNaN_int64.calls a0 true _ A3.out).mono ?_); rintro e w' ⟨rfl, ⟨nd, rfl⟩⟩; refine ⟨_, rfl, ?_⟩) | ((with_reducible refine gate_callee (f := 209) rfl ?_); refine goesL_ (some 10) rfl rfl Try.func209 (by kernel_rfl) rfl #[.int .i64 a1] rfl (z0_) ?_; (with_reducible refine (cmp_isNaN_int64.calls a1 true _ A4.out).mono ?_); rintro e w' ⟨rfl, ⟨nd, rfl⟩⟩; refine ⟨_, rfl, ?_⟩))
   go_ret
   exact ⟨z2_, z13_⟩
  ·replace c6 := Bool.eq_false_iff.mpr c6
   subst c6
   have H1 : (some (-1)) = some r := by rw [if_neg (show ¬ (false = true) by decide)] at H; exact H
   clear H
   have H := H1
   clear H1
   obtain rfl := Option.some.inj H
   go_enter Try.func179, Try.ntmps179
   go_wp2_with (first | ((with_reducible refine gate_callee (f := 209) rfl ?_); refine goesL_ (some 8) rfl rfl Try.func209 (by kernel_rfl) rfl #[.int .i64 a0] rfl (z0_) ?_; (with_reducible refine (cmp_isNaN_int64.calls a0 true _ A3.out).mono ?_); rintro e w' ⟨rfl, ⟨nd, rfl⟩⟩; refine ⟨_, rfl, ?_⟩) | ((with_reducible refine gate_callee (f := 209) rfl ?_); refine goesL_ (some 10) rfl rfl Try.func209 (by kernel_rfl) rfl #[.int .i64 a1] rfl (z0_) ?_; (with_reducible refine (cmp_isNaN_int64.calls a1 false _ A4.out).mono ?_); rintro e w' ⟨rfl, ⟨nd, rfl⟩⟩; refine ⟨_, rfl, ?_⟩))
   go_ret
   exact ⟨z2_, z13_⟩
 ·replace c5 := Bool.eq_false_iff.mpr c5
  subst c5
  have H1 : (if t751 = true then (some 1) else (if a0 < a1 then (some (-1)) else (if a0 > a1 then (some 1) else (some 0)))) = some r := by rw [if_neg (show ¬ (false = true) by decide)] at H; exact H
  clear H
  have H := H1
  clear H1
  by_cases c7 : t751 = true
  ·subst c7
   have H1 : (some 1) = some r := by rw [if_pos rfl] at H; exact H
   clear H
   have H := H1
   clear H1
   obtain rfl := Option.some.inj H
   go_enter Try.func179, Try.ntmps179
   go_wp2_with (first | ((with_reducible refine gate_callee (f := 209) rfl ?_); refine goesL_ (some 8) rfl rfl Try.func209 (by kernel_rfl) rfl #[.int .i64 a0] rfl (z0_) ?_; (with_reducible refine (cmp_isNaN_int64.calls a0 false _ A3.out).mono ?_); rintro e w' ⟨rfl, ⟨nd, rfl⟩⟩; refine ⟨_, rfl, ?_⟩) | ((with_reducible refine gate_callee (f := 209) rfl ?_); refine goesL_ (some 10) rfl rfl Try.func209 (by kernel_rfl) rfl #[.int .i64 a1] rfl (z0_) ?_; (with_reducible refine (cmp_isNaN_int64.calls a1 true _ A4.out).mono ?_); rintro e w' ⟨rfl, ⟨nd, rfl⟩⟩; refine ⟨_, rfl, ?_⟩))
   go_ret
   exact ⟨z2_, z13_⟩
  ·replace c7 := Bool.eq_false_iff.mpr c7
   subst c7
   have H1 : (if a0 < a1 then (some (-1)) else (if a0 > a1 then (some 1) else (some 0))) = some r := by rw [if_neg (show ¬ (false = true) by decide)] at H; exact H
   clear H
   have H := H1
   clear H1
   by_cases c8 : a0 < a1
   ·rw [if_pos c8] at H
    have c8b0 : decide (a0 < a1) = true := decide_eq_true c8
    clear c8
    obtain rfl := Option.some.inj H
    go_enter Try.func179, Try.ntmps179
    go_wp2_with (first | ((with_reducible refine gate_callee (f := 209) rfl ?_); refine goesL_ (some 8) rfl rfl Try.func209 (by kernel_rfl) rfl #[.int .i64 a0] rfl (z0_) ?_; (with_reducible refine (cmp_isNaN_int64.calls a0 false _ A3.out).mono ?_); rintro e w' ⟨rfl, ⟨nd, rfl⟩⟩; refine ⟨_, rfl, ?_⟩) | ((with_reducible refine gate_callee (f := 209) rfl ?_); refine goesL_ (some 10) rfl rfl Try.func209 (by kernel_rfl) rfl #[.int .i64 a1] rfl (z0_) ?_; (with_reducible refine (cmp_isNaN_int64.calls a1 false _ A4.out).mono ?_); rintro e w' ⟨rfl, ⟨nd, rfl⟩⟩; refine ⟨_, rfl, ?_⟩))
    go_ret
    exact ⟨z2_, z13_⟩
   ·rw [if_neg c8] at H
    have c8b0 : decide (a0 < a1) = false := decide_eq_false c8
    clear c8
    by_cases c9 : a0 > a1
    ·rw [if_pos c9] at H
     have c9b0 : decide (a1 < a0) = true := decide_eq_true c9
     clear c9
     obtain rfl := Option.some.inj H
     go_enter Try.func179, Try.ntmps179
     go_wp2_with (first | ((with_reducible refine gate_callee (f := 209) rfl ?_); refine goesL_ (some 8) rfl rfl Try.func209 (by kernel_rfl) rfl #[.int .i64 a0] rfl (z0_) ?_; (with_reducible refine (cmp_isNaN_int64.calls a0 false _ A3.out).mono ?_); rintro e w' ⟨rfl, ⟨nd, rfl⟩⟩; refine ⟨_, rfl, ?_⟩) | ((with_reducible refine gate_callee (f := 209) rfl ?_); refine goesL_ (some 10) rfl rfl Try.func209 (by kernel_rfl) rfl #[.int .i64 a1] rfl (z0_) ?_; (with_reducible refine (cmp_isNaN_int64.calls a1 false _ A4.out).mono ?_); rintro e w' ⟨rfl, ⟨nd, rfl⟩⟩; refine ⟨_, rfl, ?_⟩))
     go_ret
     exact ⟨z2_, z13_⟩
    ·rw [if_neg c9] at H
     have c9b0 : decide (a1 < a0) = false := decide_eq_false c9
     clear c9
     obtain rfl := Option.some.inj H
     go_enter Try.func179, Try.ntmps179
     go_wp2_with (first | ((with_reducible refine gate_callee (f := 209) rfl ?_); refine goesL_ (some 8) rfl rfl Try.func209 (by kernel_rfl) rfl #[.int .i64 a0] rfl (z0_) ?_; (with_reducible refine (cmp_isNaN_int64.calls a0 false _ A3.out).mono ?_); rintro e w' ⟨rfl, ⟨nd, rfl⟩⟩; refine ⟨_, rfl, ?_⟩) | ((with_reducible refine gate_callee (f := 209) rfl ?_); refine goesL_ (some 10) rfl rfl Try.func209 (by kernel_rfl) rfl #[.int .i64 a1] rfl (z0_) ?_; (with_reducible refine (cmp_isNaN_int64.calls a1 false _ A4.out).mono ?_); rintro e w' ⟨rfl, ⟨nd, rfl⟩⟩; refine ⟨_, rfl, ?_⟩))
     go_ret
     exact ⟨z2_, z13_⟩


/-! ### impl_compareDots: function 127 -/
def impl_compareDots.f (k : Nat) (a0_0 : Int) (a0_1 : Int) (a1_0 : Int) (a1_1 : Int) : Option (Int) := (cmp_Compare_int64.f a0_0 a1_0).bind fun t754 => ((cmp_Compare_int64.f a0_1 a1_1).bind fun t755 => ((cmp_Or_int.f k (([t754, t755] : List Int))).bind fun t759 => (some t759)))
theorem impl_compareDots.mono : ∀ a0 a1 a2 a3 k, LeO (impl_compareDots.f k a0 a1 a2 a3) (impl_compareDots.f (k + 1) a0 a1 a2 a3) := by
 intro a0 a1 a2 a3 k
 unfold impl_compareDots.f
 repeat' first
   | (with_reducible exact cmp_Or_int.mono _ _)
   | (with_reducible exact LeO.refl _)
   | (with_reducible exact LeO.none _)
   | (with_reducible refine LeO.ite ?_ ?_)
   | (with_reducible refine LeO.bind ?_ (fun _ => ?_))
   | exact cmp_Or_int.mono _ _
   | exact LeO.none _
   | refine LeO.ite ?_ ?_
   | refine LeO.bind ?_ (fun _ => ?_)
def impl_compareDots.T1 : Bool × List (List Nat × List Nat) := (true, [([], []), ([0], [0]), ([], []), ([2], [2]), ([1, 3], [1, 3]), ([], []), ([5], [5]), ([], []), ([7], [7]), ([6, 8, 4], [6, 8]), ([4, 9], [4, 9]), ([10, 9], [10]), ([11, 11, 0, 1, 2, 3, 4, 5, 6, 7, 8, 9, 10, 11], [11])])
def impl_compareDots.B1 : List Nat := [0, 1, 0, 4, 15, 0, 32, 0, 128, 511, 1023, 2047, 4095]
theorem impl_compareDots.tab1 : rtab .any (opsOf Try.f127 1) = impl_compareDots.T1 := by kernel_rfl
theorem impl_compareDots.bits1 : waitsOk impl_compareDots.T1.2 impl_compareDots.B1 = true := by kernel_rfl
set_option maxHeartbeats 8000000 in
set_option maxRecDepth 100000 in
theorem impl_compareDots.calls (k : Nat) (a0_0 : Int) (a0_1 : Int) (a1_0 : Int) (a1_1 : Int) (r : Int) (w : World) (h : impl_compareDots.f k a0_0 a0_1 a1_0 a1_1 = some r) :
  Calls Try.prog 127 #[.agg #[.int .i64 a0_0, .int .i64 a0_1], .agg #[.int .i64 a1_0, .int .i64 a1_1]] w fun e w' => e = .returned (.int .i64 r) ∧ Below w.heap.size w w' := by
 have hu33 := Try.underlying33
 have HB := Aside0.mk (Below.refl w.heap.size w)
 have H : ((cmp_Compare_int64.f a0_0 a1_0).bind fun t754 => ((cmp_Compare_int64.f a0_1 a1_1).bind fun t755 => ((cmp_Or_int.f k (([t754, t755] : List Int))).bind fun t759 => (some t759)))) = some r := h
 clear h
 replace H := Option.bind_eq_some_iff.mp H
 obtain ⟨t754, A30, H⟩ := H
 replace H : ((cmp_Compare_int64.f a0_1 a1_1).bind fun t755 => ((cmp_Or_int.f k (([t754, t755] : List Int))).bind fun t759 => (some t759))) = some r := H
 have A3 := Aside0.mk A30
 clear A30
 replace H := Option.bind_eq_some_iff.mp H
 obtain ⟨t755, A40, H⟩ := H
 replace H : ((cmp_Or_int.f k (([t754, t755] : List Int))).bind fun t759 => (some t759)) = some r := H
 have A4 := Aside0.mk A40
 clear A40
 obtain ⟨y756, hy756⟩ : ∃ y_ : List Int, y_ = (([t754, t755] : List Int)) := ⟨_, rfl⟩
 replace H : ((cmp_Or_int.f k y756).bind fun t759 => (some t759)) = some r := by first | (rw [hy756]; with_reducible exact H) | (have H2_ := (Option.bind_some _ _).symm.trans H; rw [hy756]; with_reducible exact H2_) | (have H2_ := (Option.bind_some _ _).symm.trans H; with_reducible exact H2_) | with_reducible exact H | (rw [hy756]; exact H) | exact H
 have Ny756 := Aside0.mk hy756
 clear hy756
 replace H := Option.bind_eq_some_iff.mp H
 obtain ⟨t759, A50, H⟩ := H
 replace H : (some t759) = some r := H
 have A5 := Aside0.mk A50
 clear A50
 obtain rfl := Option.some.inj H
 go_enter Try.func127, Try.ntmps127
 try go_wp2_with (first | ((with_reducible refine gate_dst (N := 2) rfl ?_); refine box_event ?hg (N := 2) ?hd (cs := #[.int .i64 a0_0, .int .i64 a0_1]) (t := 33) ?hr ?_; (case hd => rfl); (case hg => rfl); (case hr => first | (go_simp; done) | (go_simp; rfl)); intro gb752 hg w6 hbox hb; have n_ := as4_ (below_step (z5_ HB.out) hb) (hbox) ((z7_ HB.out : w.heap.size ≤ gb752)) ((z7_ HB.out : w.heap.size ≤ gb752)); clear HB; have ⟨HB, BK752, GW752, GE752⟩ := n_; clear n_; clear hb hbox hg) | ((with_reducible refine gate_dst (N := 3) rfl ?_); refine box_event ?hg (N := 3) ?hd (cs := #[.int .i64 a1_0, .int .i64 a1_1]) (t := 33) ?hr ?_; (case hd => rfl); (case hg => rfl); (case hr => first | (go_simp; done) | (go_simp; rfl)); intro gb753 hg w7 hbox hb; have n_ := as7_ (blkB_ BK752.out hb) (below_step (z1_ HB.out GE752.out) hb) (hbox) ((z10_ HB.out GE752.out : w.heap.size ≤ gb753)) ((z10_ HB.out GE752.out : w.heap.size ≤ gb753)) (neL_ BK752.out hg) (neG_ BK752.out hg); clear BK752 HB; have ⟨BK752, HB, BK753, GW753, GE753, NB752_753, NB753_752⟩ := n_; clear n_; clear hb hbox hg))
 have n_ := as3_ (blk_drew BK752.out) (blk_drew BK753.out) (below_drew1 HB.out)
 clear BK752 BK753 HB
 have ⟨BK752, BK753, HB⟩ := n_
 clear n_
 refine start_ (n := 13) (S := fun w' => w'.cell? ⟨gb752, 0, none⟩ = some (.int .i64 a0_0) ∧ w'.cell? ⟨gb752, 1, none⟩ = some (.int .i64 a0_1) ∧ w'.cell? ⟨gb753, 0, none⟩ = some (.int .i64 a1_0) ∧ w'.cell? ⟨gb753, 1, none⟩ = some (.int .i64 a1_1)) (ds := []) #[false, false, false, false, false, false, false, false, false, false, false, false, false] (by kernel_rfl) rfl rfl ⟨(blk_cell BK752.out 0).trans rfl, (blk_cell BK752.out 1).trans rfl, (blk_cell BK753.out 0).trans rfl, (blk_cell BK753.out 1).trans rfl⟩ (fun hHeld => ?_); refine with_tabW impl_compareDots.tab1 impl_compareDots.bits1 (fun HT_ HW_ => ?_)
 generalize w7.drew = w8 at BK752 BK753 HB hHeld ⊢
 refine pu_ 0 5 #[true, false, false, false, false, false, false, false, false, false, false, false, false] HT_.out ?_
 refine pu_ 2 7 #[true, false, true, false, false, false, false, false, false, false, false, false, false] HT_.out ?_
 refine pu_ 5 10 #[true, false, true, false, false, true, false, false, false, false, false, false, false] HT_.out ?_
 refine pu_ 7 12 #[true, false, true, false, false, true, false, true, false, false, false, false, false] HT_.out ?_
 refine tk4_ 1 6 #[true, true, true, false, false, true, false, true, false, false, false, false, false] HT_.out HW_.out hHeld ?_
 refine tk4_ 3 8 #[true, true, true, true, false, true, false, true, false, false, false, false, false] HT_.out HW_.out hHeld ?_
 refine tk4_ 6 11 #[true, true, true, true, false, true, true, true, false, false, false, false, false] HT_.out HW_.out hHeld ?_
 refine tk4_ 8 13 #[true, true, true, true, false, true, true, true, true, false, false, false, false] HT_.out HW_.out hHeld ?_
 refine one_ (i := 4) (N := some 9) #[true, true, true, true, true, true, true, true, true, false, false, false, false] rfl rfl (one_of HT_.out (by kernel_rfl)) (by decide) (fun K hK => ?_)
 refine goes_ Try.func179 (by kernel_rfl) rfl #[.int .i64 a0_0, .int .i64 a1_0] (by rfl) rfl rfl (z0_) ?_
 with_reducible refine (cmp_Compare_int64.calls a0_0 a1_0 t754 _ A3.out).mono ?_
 rintro e w' ⟨rfl, ⟨nd, rfl⟩⟩
 refine ⟨_, rfl, ?_⟩
 refine hK.out _ _ ⟨(blk_cell BK752.out 0).trans rfl, (blk_cell BK752.out 1).trans rfl, (blk_cell BK753.out 0).trans rfl, (blk_cell BK753.out 1).trans rfl⟩ (fun hHeld => ?_)
 clear hK K
 refine norm_ (a' := ?_) ?_ ?_
 rotate_left
 ·show Act.put _ (some 9) _ = _
  simp only [Act.put, sa_, s0_, ss_, i64_w, i32_w]
  rfl
 refine one_ (i := 9) (N := some 14) #[true, true, true, true, true, true, true, true, true, true, false, false, false] rfl rfl (one_of HT_.out (by kernel_rfl)) (by decide) (fun K hK => ?_)
 refine goes_ Try.func179 (by kernel_rfl) rfl #[.int .i64 a0_1, .int .i64 a1_1] (by rfl) rfl rfl (z0_) ?_
 with_reducible refine (cmp_Compare_int64.calls a0_1 a1_1 t755 _ A4.out).mono ?_
 rintro e w' ⟨rfl, ⟨nd, rfl⟩⟩
 refine ⟨_, rfl, ?_⟩
 refine hK.out _ _ ⟨(blk_cell BK752.out 0).trans rfl, (blk_cell BK752.out 1).trans rfl, (blk_cell BK753.out 0).trans rfl, (blk_cell BK753.out 1).trans rfl⟩ (fun hHeld => ?_)
 clear hK K
 refine norm_ (a' := ?_) ?_ ?_
 rotate_left
 ·show Act.put _ (some 14) _ = _
  simp only [Act.put, sa_, s0_, ss_, i64_w, i32_w]
  rfl
 refine one_ (i := 10) (N := some 15) #[true, true, true, true, true, true, true, true, true, true, true, false, false] rfl rfl (one_of HT_.out (by kernel_rfl)) (by decide) (fun K hK => ?_)
 refine Kd.R_lit_step (Kd.int .i64) _ 3 ?hg (N := 15) ?hd (xs := ([t754, t755] : List Int)) (inner := [.int .i64 t754, .int .i64 t755]) (ok := fun _ => True) (okp := fun _ => True) ?hr ?hp (fun _ hk => hk) trivial (Below.refl _ _) (Nat.le_refl _) (by simp) ?_; (case hd => rfl); (case hg => rfl); (case hr => first | (go_simp; done) | (go_simp; rfl)); (case hp => exact (Reps.one (show Kd.M (Kd.int .i64) _ _ _ t754 [.int .i64 t754] from rfl) (Reps.one (show Kd.M (Kd.int .i64) _ _ _ t755 [.int .i64 t755] from rfl) (Reps.none _ _))))
 intro v757 w9 ho10 hb hg_ hnew_
 clear hg_ hnew_
 (first | rw [← Ny756.out] at ho10 | (simp only [Int.reduceToNat] at ho10; rw [← Ny756.out] at ho10))
 have n_ := as4_ (Kd.R_lower ho10 (below_size (z6_ HB.out GE752.out GE753.out))) (blkB_ BK752.out hb) (blkB_ BK753.out hb) (below_step (z6_ HB.out GE752.out GE753.out) hb)
 clear BK752 BK753 HB
 have ⟨HO758, BK752, BK753, HB⟩ := n_
 clear n_
 clear hb ho10
 obtain ⟨Ao11, co11, eo11⟩ := Kd.R_slice HO758.out
 (first | subst eo11 | (injection eo11 with f1_ f2_ f3_; have f4_ := f1_.symm; have f5_ := f3_.symm; clear f1_ f2_ f3_; subst f4_; subst f5_))
 refine hK.out _ _ ⟨(blk_cell BK752.out 0).trans rfl, (blk_cell BK752.out 1).trans rfl, (blk_cell BK753.out 0).trans rfl, (blk_cell BK753.out 1).trans rfl⟩ (fun hHeld => ?_)
 clear hK K
 refine norm_ (a' := ?_) ?_ ?_
 rotate_left
 ·show Act.put _ (some 15) _ = _
  simp only [Act.put, sa_, s0_, ss_, i64_w, i32_w]
  rfl
 refine one_ (i := 11) (N := some 16) #[true, true, true, true, true, true, true, true, true, true, true, true, false] rfl rfl (one_of HT_.out (by kernel_rfl)) (by decide) (fun K hK => ?_)
 refine goes_ Try.func178 (by kernel_rfl) rfl #[.slice Ao11 y756.length co11] (by rfl) rfl rfl (z0_) ?_
 with_reducible refine (cmp_Or_int.calls k _ _ y756 t759 _ ?side1 ?side2 A5.out).mono ?_
 (case side1 => exact z27_ HO758.out)
 (case side2 => exact (Kd.R_reads' HO758.out).2.1)
 rintro e w' ⟨rfl, ⟨nd, rfl⟩⟩
 refine ⟨_, rfl, ?_⟩
 refine hK.out _ _ ⟨(blk_cell BK752.out 0).trans rfl, (blk_cell BK752.out 1).trans rfl, (blk_cell BK753.out 0).trans rfl, (blk_cell BK753.out 1).trans rfl⟩ (fun hHeld => ?_)
 clear hK K
 refine norm_ (a' := ?_) ?_ ?_
 rotate_left
 ·show Act.put _ (some 16) _ = _
  simp only [Act.put, sa_, s0_, ss_, i64_w, i32_w]
  rfl
 refine pu_ 12 4 #[true, true, true, true, true, true, true, true, true, true, true, true, true] HT_.out ?_
 refine done_ (done_of HT_.out (by kernel_rfl)) ?_
 try go_wp2
 go_ret
 exact ⟨z8_, z6_ HB.out GE752.out GE753.out⟩


/-! ### impl_isData: function 174 -/
def impl_isData.f (a0 : ByteArray) (a1 : Bool) : Option (Bool) := if (a0.size : Int) ≤ 16 then (if a1 = true then (some (a0.toList == ([] : List UInt8))) else (some true)) else (some false)
set_option maxHeartbeats 8000000 in
set_option maxRecDepth 100000 in
theorem impl_isData.calls (a0 : ByteArray) (a1 : Bool) (r : Bool) (w : World) (h : impl_isData.f a0 a1 = some r) :
  Calls Try.prog 174 #[.string a0, .bool a1] w fun e w' => e = .returned (.bool r) ∧ Drawn0 w w' := by
 have H : (if (a0.size : Int) ≤ 16 then (if a1 = true then (some (a0.toList == ([] : List UInt8))) else (some true)) else (some false)) = some r := h
 clear h
 by_cases c3 : (a0.size : Int) ≤ 16
 ·rw [if_pos c3] at H
  have c3b0 : decide ((a0.size : Int) ≤ 16) = true := decide_eq_true c3
  have c3b1 : decide (a0.size ≤ 16) = true := decide_eq_true (by omega)
  clear c3
  by_cases c4 : a1 = true
  ·subst c4
   have H1 : (some (a0.toList == ([] : List UInt8))) = some r := by rw [if_pos rfl] at H; exact H
   clear H
   have H := H1
   clear H1
   obtain rfl := Option.some.inj H
   go_enter Try.func174, Try.ntmps174
   go_wp2
   go_ret
   exact ⟨z2_, z13_⟩
  ·replace c4 := Bool.eq_false_iff.mpr c4
   subst c4
   have H1 : (some true) = some r := by rw [if_neg (show ¬ (false = true) by decide)] at H; exact H
   clear H
   have H := H1
   clear H1
   obtain rfl := Option.some.inj H
   go_enter Try.func174, Try.ntmps174
   go_wp2
   go_ret
   exact ⟨z2_, z13_⟩
 ·rw [if_neg c3] at H
  have c3b0 : decide ((a0.size : Int) ≤ 16) = false := decide_eq_false c3
  have c3b1 : decide (a0.size ≤ 16) = false := decide_eq_false (by omega)
  clear c3
  obtain rfl := Option.some.inj H
  go_enter Try.func174, Try.ntmps174
  go_wp2
  go_ret
  exact ⟨z2_, z13_⟩


/-! ### impl_SetRight: function 111 -/
mutual
def impl_SetRight.j0 : Nat → Bool → List (S33) → List (S158) → Option (Bool)
 | 0, _, _, _ => none
 | k + 1, x14, x761000, x761001 => if x14 = true then (some false) else (impl_SetRight.l0 k x761001 (x761001.length : Int) 0 x761000 x761001)
def impl_SetRight.l0 : Nat → List (S158) → Int → Int → List (S33) → List (S158) → Option (Bool)
 | 0, _, _, _, _, _ => none
 | k + 1, x16, x17, x18, x761000, x761001 => if x18 < x17 then (if 0 ≤ x18 then (if x18 < (x16.length : Int) then ((impl_isDot.f ((rd_T158 x16 x18).f0.f0) ((rd_T158 x16 x18).f0.f1)).bind fun t764 => (if t764 = true then ((impl_seenHas.f k x761000 ((rd_T158 x16 x18).f0.f0) ((rd_T158 x16 x18).f0.f1)).bind fun t765 => (if t765 = true then ((impl_isData.f ((rd_T158 x16 x18).f2) ((rd_T158 x16 x18).f1)).bind fun t766 => (if t766 = true then (if x18 > 0 then (if 0 ≤ (wrap64 (x18 - 1)) then (if (wrap64 (x18 - 1)) < (x761001.length : Int) then ((impl_compareDots.f k ((rd_T158 x761001 (wrap64 (x18 - 1))).f0.f0) ((rd_T158 x761001 (wrap64 (x18 - 1))).f0.f1) ((rd_T158 x16 x18).f0.f0) ((rd_T158 x16 x18).f0.f1)).bind fun t768 => (impl_SetRight.j2 k x16 x17 x18 (decide (t768 ≥ 0)) x761000 x761001)) else (none)) else (none)) else (impl_SetRight.j2 k x16 x17 x18 false x761000 x761001)) else (impl_SetRight.j2 k x16 x17 x18 true x761000 x761001))) else (impl_SetRight.j2 k x16 x17 x18 true x761000 x761001))) else (impl_SetRight.j2 k x16 x17 x18 true x761000 x761001))) else (none)) else (none)) else (some true)
def impl_SetRight.j2 : Nat → List (S158) → Int → Int → Bool → List (S33) → List (S158) → Option (Bool)
 | 0, _, _, _, _, _, _ => none
 | k + 1, x16, x17, x18, x59, x761000, x761001 => if x59 = true then (some false) else (impl_SetRight.l0 k x16 x17 (wrap64 (x18 + 1)) x761000 x761001)
end
def impl_SetRight.f (k : Nat) (l0_0 : List (S33)) (l0_1 : List (S158)) : Option (Bool) := (impl_seenRight.f k l0_0).bind fun t761 => (if t761 = true then (impl_SetRight.j0 k (decide ((l0_1.length : Int) > 8)) l0_0 l0_1) else (impl_SetRight.j0 k true l0_0 l0_1))
theorem impl_SetRight.mono_l : ∀ k, (∀ y0 y1 y2, LeO (impl_SetRight.j0 k y0 y1 y2) (impl_SetRight.j0 (k + 1) y0 y1 y2)) ∧ (∀ y0 y1 y2 y3 y4, LeO (impl_SetRight.l0 k y0 y1 y2 y3 y4) (impl_SetRight.l0 (k + 1) y0 y1 y2 y3 y4)) ∧ (∀ y0 y1 y2 y3 y4 y5, LeO (impl_SetRight.j2 k y0 y1 y2 y3 y4 y5) (impl_SetRight.j2 (k + 1) y0 y1 y2 y3 y4 y5))
 | 0 => ⟨fun _ _ _ r h => by simp [impl_SetRight.j0] at h, fun _ _ _ _ _ r h => by simp [impl_SetRight.l0] at h, fun _ _ _ _ _ _ r h => by simp [impl_SetRight.j2] at h⟩
 | k + 1 => by
  obtain ⟨ih0, ih1, ih2⟩ := impl_SetRight.mono_l k
  refine ⟨?_, ?_, ?_⟩
  ·intro y0 y1 y2
   unfold impl_SetRight.j0
   repeat' first
   | (with_reducible exact ih0 _ _ _)
   | (with_reducible exact ih1 _ _ _ _ _)
   | (with_reducible exact ih2 _ _ _ _ _ _)
   | (with_reducible exact impl_compareDots.mono _ _ _ _ _)
   | (with_reducible exact impl_seenHas.mono _ _ _ _)
   | (with_reducible exact impl_seenRight.mono _ _)
   | (with_reducible exact LeO.refl _)
   | (with_reducible exact LeO.none _)
   | (with_reducible refine LeO.ite ?_ ?_)
   | (with_reducible refine LeO.bind ?_ (fun _ => ?_))
   | exact ih0 _ _ _
   | exact ih1 _ _ _ _ _
   | exact ih2 _ _ _ _ _ _
   | exact impl_compareDots.mono _ _ _ _ _
   | exact impl_seenHas.mono _ _ _ _
   | exact impl_seenRight.mono _ _
   | exact LeO.none _
   | refine LeO.ite ?_ ?_
   | refine LeO.bind ?_ (fun _ => ?_)
  ·intro y0 y1 y2 y3 y4
   unfold impl_SetRight.l0
   repeat' first
   | (with_reducible exact ih0 _ _ _)
   | (with_reducible exact ih1 _ _ _ _ _)
   | (with_reducible exact ih2 _ _ _ _ _ _)
   | (with_reducible exact impl_compareDots.mono _ _ _ _ _)
   | (with_reducible exact impl_seenHas.mono _ _ _ _)
   | (with_reducible exact impl_seenRight.mono _ _)
   | (with_reducible exact LeO.refl _)
   | (with_reducible exact LeO.none _)
   | (with_reducible refine LeO.ite ?_ ?_)
   | (with_reducible refine LeO.bind ?_ (fun _ => ?_))
   | exact ih0 _ _ _
   | exact ih1 _ _ _ _ _
   | exact ih2 _ _ _ _ _ _
   | exact impl_compareDots.mono _ _ _ _ _
   | exact impl_seenHas.mono _ _ _ _
   | exact impl_seenRight.mono _ _
   | exact LeO.none _
   | refine LeO.ite ?_ ?_
   | refine LeO.bind ?_ (fun _ => ?_)
  ·intro y0 y1 y2 y3 y4 y5
   unfold impl_SetRight.j2
   repeat' first
   | (with_reducible exact ih0 _ _ _)
   | (with_reducible exact ih1 _ _ _ _ _)
   | (with_reducible exact ih2 _ _ _ _ _ _)
   | (with_reducible exact impl_compareDots.mono _ _ _ _ _)
   | (with_reducible exact impl_seenHas.mono _ _ _ _)
   | (with_reducible exact impl_seenRight.mono _ _)
   | (with_reducible exact LeO.refl _)
   | (with_reducible exact LeO.none _)
   | (with_reducible refine LeO.ite ?_ ?_)
   | (with_reducible refine LeO.bind ?_ (fun _ => ?_))
   | exact ih0 _ _ _
   | exact ih1 _ _ _ _ _
   | exact ih2 _ _ _ _ _ _
   | exact impl_compareDots.mono _ _ _ _ _
   | exact impl_seenHas.mono _ _ _ _
   | exact impl_seenRight.mono _ _
   | exact LeO.none _
   | refine LeO.ite ?_ ?_
   | refine LeO.bind ?_ (fun _ => ?_)
theorem impl_SetRight.mono : ∀ a0 a1 k, LeO (impl_SetRight.f k a0 a1) (impl_SetRight.f (k + 1) a0 a1) := by
 intro a0 a1 k
 obtain ⟨ih0, ih1, ih2⟩ := impl_SetRight.mono_l k
 unfold impl_SetRight.f
 repeat' first
   | (with_reducible exact ih0 _ _ _)
   | (with_reducible exact ih1 _ _ _ _ _)
   | (with_reducible exact ih2 _ _ _ _ _ _)
   | (with_reducible exact impl_compareDots.mono _ _ _ _ _)
   | (with_reducible exact impl_seenHas.mono _ _ _ _)
   | (with_reducible exact impl_seenRight.mono _ _)
   | (with_reducible exact LeO.refl _)
   | (with_reducible exact LeO.none _)
   | (with_reducible refine LeO.ite ?_ ?_)
   | (with_reducible refine LeO.bind ?_ (fun _ => ?_))
   | exact ih0 _ _ _
   | exact ih1 _ _ _ _ _
   | exact ih2 _ _ _ _ _ _
   | exact impl_compareDots.mono _ _ _ _ _
   | exact impl_seenHas.mono _ _ _ _
   | exact impl_seenRight.mono _ _
   | exact LeO.none _
   | refine LeO.ite ?_ ?_
   | refine LeO.bind ?_ (fun _ => ?_)
def impl_SetRight.T6 : Bool × List (List Nat × List Nat) := (true, [([], []), ([0], [0]), ([1], [1]), ([2], [2]), ([3, 2], [3]), ([4], [4]), ([5, 4], [4, 5]), ([4], [4]), ([7, 4], [4, 7]), ([6, 8, 4, 4], [4, 6, 8]), ([9, 4], [4, 9]), ([4, 10], [4, 10]), ([11, 9], [11]), ([12], [12]), ([13, 12], [12, 13]), ([12], [12]), ([15, 12], [12, 15]), ([14, 16, 12, 12], [12, 14, 16]), ([17, 12], [12, 17]), ([12, 18], [12, 18]), ([19, 17], [19]), ([20], [20]), ([21, 20], [20, 21]), ([22, 20, 20], [20, 22]), ([23], [23]), ([24, 23], [23, 24]), ([23], [23]), ([26, 23], [23, 26]), ([25, 27, 23], [23, 25, 27]), ([28, 23], [23, 28]), ([29, 23], [23, 29]), ([23], [23]), ([31, 23], [23, 31]), ([30, 32, 23, 23], [23, 30, 32]), ([33, 23], [23, 33]), ([23, 34, 20], [20, 23, 34]), ([20, 35], [20, 35])])
def impl_SetRight.B6 : List Nat := [0, 1, 3, 7, 15, 31, 63, 31, 159, 511, 1023, 2047, 4095, 8191, 16383, 8191, 40959, 131071, 262143, 524287, 1048575, 2097151, 4194303, 8388607, 16777215, 33554431, 16777215, 83886079, 268435455, 536870911, 1073741823, 16777215, 2164260863, 8589934591, 17179869183, 34359738367, 68719476735]
theorem impl_SetRight.tab6 : rtab .any (opsOf Try.f111 6) = impl_SetRight.T6 := by kernel_rfl
theorem impl_SetRight.bits6 : waitsOk impl_SetRight.T6.2 impl_SetRight.B6 = true := by kernel_rfl
abbrev impl_SetRight.q0 : Array Bool := #[false, false, false, false, false, false, false, false, false, false, false, false, false, false, false, false, false, false, false, false, false, false, false, false, false, false, false, false, false, false, false, false, false, false, false, false, false]
abbrev impl_SetRight.q1 : Array Bool := #[true, false, false, false, false, false, false, false, false, false, false, false, false, false, false, false, false, false, false, false, false, false, false, false, false, false, false, false, false, false, false, false, false, false, false, false, false]
abbrev impl_SetRight.q2 : Array Bool := #[true, true, false, false, false, false, false, false, false, false, false, false, false, false, false, false, false, false, false, false, false, false, false, false, false, false, false, false, false, false, false, false, false, false, false, false, false]
abbrev impl_SetRight.q3 : Array Bool := #[true, true, true, false, false, false, false, false, false, false, false, false, false, false, false, false, false, false, false, false, false, false, false, false, false, false, false, false, false, false, false, false, false, false, false, false, false]
abbrev impl_SetRight.q4 : Array Bool := #[true, true, true, true, false, false, false, false, false, false, false, false, false, false, false, false, false, false, false, false, false, false, false, false, false, false, false, false, false, false, false, false, false, false, false, false, false]
abbrev impl_SetRight.q5 : Array Bool := #[true, true, true, true, true, false, false, false, false, false, false, false, false, false, false, false, false, false, false, false, false, false, false, false, false, false, false, false, false, false, false, false, false, false, false, false, false]
abbrev impl_SetRight.q6 : Array Bool := #[true, true, true, true, true, true, false, false, false, false, false, false, false, false, false, false, false, false, false, false, false, false, false, false, false, false, false, false, false, false, false, false, false, false, false, false, false]
abbrev impl_SetRight.q7 : Array Bool := #[true, true, true, true, true, true, false, true, false, false, false, false, false, false, false, false, false, false, false, false, false, false, false, false, false, false, false, false, false, false, false, false, false, false, false, false, false]
abbrev impl_SetRight.q8 : Array Bool := #[true, true, true, true, true, true, true, true, false, false, false, false, false, false, false, false, false, false, false, false, false, false, false, false, false, false, false, false, false, false, false, false, false, false, false, false, false]
abbrev impl_SetRight.q9 : Array Bool := #[true, true, true, true, true, true, true, true, true, false, false, false, false, false, false, false, false, false, false, false, false, false, false, false, false, false, false, false, false, false, false, false, false, false, false, false, false]
abbrev impl_SetRight.q10 : Array Bool := #[true, true, true, true, true, true, true, true, true, true, false, false, false, false, false, false, false, false, false, false, false, false, false, false, false, false, false, false, false, false, false, false, false, false, false, false, false]
abbrev impl_SetRight.q11 : Array Bool := #[true, true, true, true, true, true, true, true, true, true, true, false, false, false, false, false, false, false, false, false, false, false, false, false, false, false, false, false, false, false, false, false, false, false, false, false, false]
abbrev impl_SetRight.q12 : Array Bool := #[true, true, true, true, true, true, true, true, true, true, true, true, false, false, false, false, false, false, false, false, false, false, false, false, false, false, false, false, false, false, false, false, false, false, false, false, false]
abbrev impl_SetRight.q13 : Array Bool := #[true, true, true, true, true, true, true, true, true, true, true, true, true, false, false, false, false, false, false, false, false, false, false, false, false, false, false, false, false, false, false, false, false, false, false, false, false]
abbrev impl_SetRight.q14 : Array Bool := #[true, true, true, true, true, true, true, true, true, true, true, true, true, true, false, false, false, false, false, false, false, false, false, false, false, false, false, false, false, false, false, false, false, false, false, false, false]
abbrev impl_SetRight.q15 : Array Bool := #[true, true, true, true, true, true, true, true, true, true, true, true, true, true, false, true, false, false, false, false, false, false, false, false, false, false, false, false, false, false, false, false, false, false, false, false, false]
abbrev impl_SetRight.q16 : Array Bool := #[true, true, true, true, true, true, true, true, true, true, true, true, true, true, true, true, false, false, false, false, false, false, false, false, false, false, false, false, false, false, false, false, false, false, false, false, false]
abbrev impl_SetRight.q17 : Array Bool := #[true, true, true, true, true, true, true, true, true, true, true, true, true, true, true, true, true, false, false, false, false, false, false, false, false, false, false, false, false, false, false, false, false, false, false, false, false]
abbrev impl_SetRight.q18 : Array Bool := #[true, true, true, true, true, true, true, true, true, true, true, true, true, true, true, true, true, true, false, false, false, false, false, false, false, false, false, false, false, false, false, false, false, false, false, false, false]
abbrev impl_SetRight.q19 : Array Bool := #[true, true, true, true, true, true, true, true, true, true, true, true, true, true, true, true, true, true, true, false, false, false, false, false, false, false, false, false, false, false, false, false, false, false, false, false, false]
abbrev impl_SetRight.q20 : Array Bool := #[true, true, true, true, true, true, true, true, true, true, true, true, true, true, true, true, true, true, true, true, false, false, false, false, false, false, false, false, false, false, false, false, false, false, false, false, false]
abbrev impl_SetRight.q21 : Array Bool := #[true, true, true, true, true, true, true, true, true, true, true, true, true, true, true, true, true, true, true, true, true, false, false, false, false, false, false, false, false, false, false, false, false, false, false, false, false]
abbrev impl_SetRight.q22 : Array Bool := #[true, true, true, true, true, true, true, true, true, true, true, true, true, true, true, true, true, true, true, true, true, true, false, false, false, false, false, false, false, false, false, false, false, false, false, false, false]
abbrev impl_SetRight.q23 : Array Bool := #[true, true, true, true, true, true, true, true, true, true, true, true, true, true, true, true, true, true, true, true, true, true, true, false, false, false, false, false, false, false, false, false, false, false, false, false, false]
abbrev impl_SetRight.q24 : Array Bool := #[true, true, true, true, true, true, true, true, true, true, true, true, true, true, true, true, true, true, true, true, true, true, true, true, false, false, false, false, false, false, false, false, false, false, false, false, false]
abbrev impl_SetRight.q25 : Array Bool := #[true, true, true, true, true, true, true, true, true, true, true, true, true, true, true, true, true, true, true, true, true, true, true, true, true, false, false, false, false, false, false, false, false, false, false, false, false]
abbrev impl_SetRight.q26 : Array Bool := #[true, true, true, true, true, true, true, true, true, true, true, true, true, true, true, true, true, true, true, true, true, true, true, true, true, true, true, true, true, true, true, true, false, false, false, false, false]
abbrev impl_SetRight.q27 : Array Bool := #[true, true, true, true, true, true, true, true, true, true, true, true, true, true, true, true, true, true, true, true, true, true, true, true, true, true, true, true, true, true, true, true, true, false, false, false, false]
abbrev impl_SetRight.q28 : Array Bool := #[true, true, true, true, true, true, true, true, true, true, true, true, true, true, true, true, true, true, true, true, true, true, true, true, true, true, true, true, true, true, true, true, true, true, false, false, false]
abbrev impl_SetRight.q29 : Array Bool := #[true, true, true, true, true, true, true, true, true, true, true, true, true, true, true, true, true, true, true, true, true, true, true, true, true, true, true, true, true, true, true, true, true, true, true, false, false]
abbrev impl_SetRight.q30 : Array Bool := #[true, true, true, true, true, true, true, true, true, true, true, true, true, true, true, true, true, true, true, true, true, true, true, true, true, true, true, true, true, true, true, true, true, true, true, true, false]
abbrev impl_SetRight.q31 : Array Bool := #[true, true, true, true, true, true, true, true, true, true, true, true, true, true, true, true, true, true, true, true, true, true, true, true, true, true, true, true, true, true, true, true, true, true, true, true, true]
abbrev impl_SetRight.q32 : Array Bool := #[true, true, true, true, true, true, true, true, true, true, true, true, true, true, true, true, true, true, true, true, true, true, true, true, true, true, false, false, false, false, false, false, false, false, false, false, false]
abbrev impl_SetRight.q33 : Array Bool := #[true, true, true, true, true, true, true, true, true, true, true, true, true, true, true, true, true, true, true, true, true, true, true, true, true, true, true, false, false, false, false, false, false, false, false, false, false]
abbrev impl_SetRight.q34 : Array Bool := #[true, true, true, true, true, true, true, true, true, true, true, true, true, true, true, true, true, true, true, true, true, true, true, true, true, true, true, true, false, false, false, false, false, false, false, false, false]
abbrev impl_SetRight.q35 : Array Bool := #[true, true, true, true, true, true, true, true, true, true, true, true, true, true, true, true, true, true, true, true, true, true, true, true, true, true, true, true, true, false, false, false, false, false, false, false, false]
abbrev impl_SetRight.q36 : Array Bool := #[true, true, true, true, true, true, true, true, true, true, true, true, true, true, true, true, true, true, true, true, true, true, true, true, true, true, true, true, true, true, false, false, false, false, false, false, false]
abbrev impl_SetRight.q37 : Array Bool := #[true, true, true, true, true, true, true, true, true, true, true, true, true, true, true, true, true, true, true, true, true, true, true, true, true, true, true, true, true, true, true, false, false, false, false, false, false]
abbrev impl_SetRight.q38 : Array Bool := #[true, true, true, true, true, true, true, true, true, true, true, true, true, true, true, false, false, false, false, false, false, false, false, false, false, false, false, false, false, false, false, false, false, false, false, false, false]
set_option maxHeartbeats 8000000 in
set_option maxRecDepth 100000 in
theorem impl_SetRight.calls (k : Nat) (A0_0 : Option Addr) (c0_0 : Nat) (l0_0 : List (S33)) (A0_1 : Option Addr) (c0_1 : Nat) (l0_1 : List (S158)) (r : Bool) (w : World) (hr0_0 : Kd.C k33 w A0_0 l0_0.length l0_0) (hc0_0 : l0_0.length ≤ c0_0) (hr0_1 : Kd.C k158 w A0_1 l0_1.length l0_1) (hc0_1 : l0_1.length ≤ c0_1) (h : impl_SetRight.f k l0_0 l0_1 = some r) :
  Calls Try.prog 111 #[.agg #[.slice A0_0 l0_0.length c0_0, .slice A0_1 l0_1.length c0_1]] w fun e w' => e = .returned (.bool r) ∧ Below w.heap.size w w' := by
 have hu60 := Try.underlying60
 have hu158 := Try.underlying158
 have hu33 := Try.underlying33
 have HR0_0 := Aside0.mk hr0_0
 have HC0_0 := Aside0.mk hc0_0
 clear hr0_0 hc0_0
 have HR0_1 := Aside0.mk hr0_1
 have HC0_1 := Aside0.mk hc0_1
 clear hr0_1 hc0_1
 have HB := Aside0.mk (Below.refl w.heap.size w)
 have H : ((impl_seenRight.f k l0_0).bind fun t761 => (if t761 = true then (impl_SetRight.j0 k (decide ((l0_1.length : Int) > 8)) l0_0 l0_1) else (impl_SetRight.j0 k true l0_0 l0_1))) = some r := h
 clear h
 have HC2 := Aside0.mk H
 clear H
 go_enter Try.func111, Try.ntmps111
 go_upto_region 1 with (first | ((with_reducible refine gate_dst (N := 1) rfl ?_); (try (refine gate_guard (by rfl) ?_; dsimp only)); refine box_event ?hg (N := 1) ?hd (cs := #[.slice A0_0 l0_0.length c0_0, .slice A0_1 l0_1.length c0_1]) (t := 60) ?hr ?_; (case hd => rfl); (case hg => rfl); (case hr => first | (go_simp; done) | (go_simp; rfl)); intro gb760 hg w3 hbox hb; have n_ := as4_ (below_step (z5_ HB.out) hb) (hbox) ((z7_ HB.out : w.heap.size ≤ gb760)) ((z7_ HB.out : w.heap.size ≤ gb760)); clear HB; have ⟨HB, BK760, GW760, GE760⟩ := n_; clear n_; clear hb hbox hg))
 (try simp only [Act.put, sa_, s0_, ss_])
 go_cut [14] (fun v14 wc => ∃ (kq : Nat) (x14_1 : Bool), v14 = .bool x14_1 ∧ Aside0 (impl_SetRight.j0 kq x14_1 l0_0 l0_1 = some r) ∧ Aside0 (kq ≤ k) ∧ Aside0 (wc.heap[gb760]? = some (.cells #[(.slice A0_0 l0_0.length c0_0), (.slice A0_1 l0_1.length c0_1)] 60 (0, 0))) ∧ Aside0 (Below w.heap.size w wc))
 case first =>
  have H := HC2.out
  clear HC2
  replace H := Option.bind_eq_some_iff.mp H
  obtain ⟨t761, A40, H⟩ := H
  replace H : (if t761 = true then (impl_SetRight.j0 k (decide ((l0_1.length : Int) > 8)) l0_0 l0_1) else (impl_SetRight.j0 k true l0_0 l0_1)) = some r := H
  have A4 := Aside0.mk A40
  clear A40
  by_cases c5 : t761 = true
  ·subst c5
   have H1 : (impl_SetRight.j0 k (decide ((l0_1.length : Int) > 8)) l0_0 l0_1) = some r := by rw [if_pos rfl] at H; exact H
   clear H
   have H := H1
   clear H1
   have H' := Aside0.mk H
   clear H
   have ⟨hcz6_0, hcz6_1, hfz6_0, hfz6_1⟩ := cz2_ BK760.out
   go_wp2_with (first | ((with_reducible refine gate_callee (f := 87) rfl ?_); refine goesL_ (some 7) rfl rfl Try.func87 (by kernel_rfl) rfl #[.slice A0_0 l0_0.length c0_0] rfl (z0_) ?_; (with_reducible refine (impl_seenRight.calls k _ _ l0_0 true _ ?side1 ?side2 A4.out).mono ?_); (case side1 => exact z12_ HR0_0.out HB.out); (case side2 => exact HC0_0.out); rintro e w7 ⟨rfl, hb⟩; refine ⟨_, rfl, ?_⟩; have n_ := as2_ (blkB_ BK760.out hb) (below_step (z1_ HB.out GE760.out) hb); clear BK760 HB; have ⟨BK760, HB⟩ := n_; clear n_; (try clear hb); (try clear hb2); (try clear hk); (try clear hi); have hcz8_0 : w7.cell? ⟨gb760, 0, none⟩ = some (.slice A0_0 l0_0.length c0_0) := (blk_cell BK760.out 0).trans rfl; have hcz8_1 : w7.cell? ⟨gb760, 1, none⟩ = some (.slice A0_1 l0_1.length c0_1) := (blk_cell BK760.out 1).trans rfl; have hfz8_0 := blk_frozen BK760.out 0; have hfz8_1 := blk_frozen BK760.out 1))
   go_meet
   case rel => exact ⟨_, (decide ((l0_1.length : Int) > 8)), (z2_), H', ⟨by first | omega | exact Nat.le_refl _⟩, ⟨z9_ BK760.out⟩, ⟨z1_ HB.out GE760.out⟩⟩
  ·replace c5 := Bool.eq_false_iff.mpr c5
   subst c5
   have H1 : (impl_SetRight.j0 k true l0_0 l0_1) = some r := by rw [if_neg (show ¬ (false = true) by decide)] at H; exact H
   clear H
   have H := H1
   clear H1
   have H' := Aside0.mk H
   clear H
   have ⟨hcz9_0, hcz9_1, hfz9_0, hfz9_1⟩ := cz2_ BK760.out
   go_wp2_with (first | ((with_reducible refine gate_callee (f := 87) rfl ?_); refine goesL_ (some 7) rfl rfl Try.func87 (by kernel_rfl) rfl #[.slice A0_0 l0_0.length c0_0] rfl (z0_) ?_; (with_reducible refine (impl_seenRight.calls k _ _ l0_0 false _ ?side1 ?side2 A4.out).mono ?_); (case side1 => exact z12_ HR0_0.out HB.out); (case side2 => exact HC0_0.out); rintro e w10 ⟨rfl, hb⟩; refine ⟨_, rfl, ?_⟩; have n_ := as2_ (blkB_ BK760.out hb) (below_step (z1_ HB.out GE760.out) hb); clear BK760 HB; have ⟨BK760, HB⟩ := n_; clear n_; (try clear hb); (try clear hb2); (try clear hk); (try clear hi)))
   go_meet
   case rel => exact ⟨_, (true), (z2_), H', ⟨by first | omega | exact Nat.le_refl _⟩, ⟨z9_ BK760.out⟩, ⟨z1_ HB.out GE760.out⟩⟩
 case rest =>
  clear HC2
  try clear c1
  try clear p2
  try clear c5
  try clear c8
  try clear hcz6_0
  try clear hcz6_1
  try clear hcz8_0
  try clear hcz8_1
  try clear hcz9_0
  try clear hcz9_1
  try clear hfz6_0
  try clear hfz6_1
  try clear hfz8_0
  try clear hfz8_1
  try clear hfz9_0
  try clear hfz9_1
  obtain ⟨kq, x14_1, rfl, HA, HJ1, BK760, HB⟩ := hcut
  cases kq with
  | zero => exact absurd HA.out (by simp [impl_SetRight.j0])
  | succ kj1 =>
   have H := HA.out
   clear HA
   simp only [impl_SetRight.j0] at H
   by_cases c11 : x14_1 = true
   ·subst c11
    have H1 : (some false) = some r := by rw [if_pos rfl] at H; exact H
    clear H
    have H := H1
    clear H1
    obtain rfl := Option.some.inj H
    go_wp2
    go_ret
    exact ⟨z8_, z1_ HB.out GE760.out⟩
   ·replace c11 := Bool.eq_false_iff.mpr c11
    subst c11
    have H1 : (impl_SetRight.l0 kj1 l0_1 (l0_1.length : Int) 0 l0_0 l0_1) = some r := by rw [if_neg (show ¬ (false = true) by decide)] at H; exact H
    clear H
    have H := H1
    clear H1
    have H' := Aside0.mk H
    clear H
    have ⟨hcz12_0, hcz12_1, hfz12_0, hfz12_1⟩ := cz2_ BK760.out
    go_wp2
    go_loopg [18] kj1 (fun kq v18 w' => ∃ (x18_2 : Int), v18 = .int .i64 x18_2 ∧ Aside0 (impl_SetRight.l0 kq l0_1 (l0_1.length : Int) x18_2 l0_0 l0_1 = some r) ∧ Aside0 (kq ≤ kj1) ∧ Aside0 (w'.heap[gb760]? = some (.cells #[(.slice A0_0 l0_0.length c0_0), (.slice A0_1 l0_1.length c0_1)] 60 (0, 0))) ∧ Aside0 (Below w.heap.size w w'))
    case atStart => exact ⟨(0), (z2_), H', ⟨Nat.le_refl _⟩, ⟨z9_ BK760.out⟩, ⟨z1_ HB.out GE760.out⟩⟩
    case round =>
     clear H'
     try clear c1
     try clear p2
     try clear c5
     try clear c8
     try clear c11
     try clear hcz12_0
     try clear hcz12_1
     try clear hcz6_0
     try clear hcz6_1
     try clear hcz8_0
     try clear hcz8_1
     try clear hcz9_0
     try clear hcz9_1
     try clear hfz12_0
     try clear hfz12_1
     try clear hfz6_0
     try clear hfz6_1
     try clear hfz8_0
     try clear hfz8_1
     try clear hfz9_0
     try clear hfz9_1
     try clear p2
     obtain ⟨x18_2, rfl, HA, HK2, BK760, HB⟩ := hrel
     cases gk with
     | zero => exact absurd HA.out (by simp [impl_SetRight.l0])
     | succ k2 =>
      have H := HA.out
      clear HA
      simp only [impl_SetRight.l0] at H
      by_cases c13 : x18_2 < (l0_1.length : Int)
      ·rw [if_pos c13] at H
       have c13b0 : decide (x18_2 < (l0_1.length : Int)) = true := decide_eq_true c13
       clear c13
       by_cases c14 : 0 ≤ x18_2
       ·rw [if_pos c14] at H
        have c14b0 : decide (0 ≤ x18_2) = true := decide_eq_true c14
        clear c14
        by_cases c15 : x18_2 < (l0_1.length : Int)
        ·rw [if_pos c15] at H
         have c15b0 : decide (x18_2 < (l0_1.length : Int)) = true := decide_eq_true c15
         clear c15
         have HC16 := Aside0.mk H
         clear H
         have p762 : 0 ≤ (x18_2 : Int) := of_decide_eq_true (z3_)
         have q762 : x18_2 < (l0_1.length : Int) := of_decide_eq_true (z3_)
         obtain ⟨ad762, e762, hx762_0, hx762_1, hx762_2, hx762_3⟩ := at_T158 HR0_1.out x18_2 p762 q762
         cases e762
         replace hx762_0 := (HB.out.cell (World.block_lt_of_cell? w _ hx762_0)).trans hx762_0
         replace hx762_1 := (HB.out.cell (World.block_lt_of_cell? w _ hx762_1)).trans hx762_1
         replace hx762_2 := (HB.out.cell (World.block_lt_of_cell? w _ hx762_2)).trans hx762_2
         replace hx762_3 := (HB.out.cell (World.block_lt_of_cell? w _ hx762_3)).trans hx762_3
         replace p762 := eq_true p762
         replace q762 := eq_true q762
         go_upto_region 6 with (first | ((with_reducible refine gate_dst (N := 4) rfl ?_); (try (refine gate_guard (by rfl) ?_; dsimp only)); refine box_event ?hg (N := 4) ?hd (cs := #[.int .i64 0, .int .i64 0, .bool false, .string (⟨#[]⟩ : ByteArray)]) (t := 158) ?hr ?_; (case hd => rfl); (case hg => rfl); (case hr => first | (go_simp; done) | (go_simp; rfl)); intro gb763 hg w17 hbox hb; have n_ := as7_ (blkB_ BK760.out hb) (below_step (z1_ HB.out GE760.out) hb) (hbox) ((z10_ HB.out GE760.out : w.heap.size ≤ gb763)) ((z10_ HB.out GE760.out : w.heap.size ≤ gb763)) (neL_ BK760.out hg) (neG_ BK760.out hg); clear BK760 HB; have ⟨BK760, HB, BK763, GW763, GE763, NB760_763, NB763_760⟩ := n_; clear n_; clear hb hbox hg; have hnb18 := NB763_760.out; have hnc18 := NB760_763.out; have hcz19_0 : w17.cell? ⟨gb763, 0, none⟩ = some (.int .i64 0) := (blk_cell BK763.out 0).trans rfl; have hcz19_1 : w17.cell? ⟨gb763, 1, none⟩ = some (.int .i64 0) := (blk_cell BK763.out 1).trans rfl; have hcz19_2 : w17.cell? ⟨gb763, 2, none⟩ = some (.bool false) := (blk_cell BK763.out 2).trans rfl; have hcz19_3 : w17.cell? ⟨gb763, 3, none⟩ = some (.string (⟨#[]⟩ : ByteArray)) := (blk_cell BK763.out 3).trans rfl; have hfz19_0 := blk_frozen BK763.out 0; have hfz19_1 := blk_frozen BK763.out 1; have hfz19_2 := blk_frozen BK763.out 2; have hfz19_3 := blk_frozen BK763.out 3))
         (try simp only [Act.put, sa_, s0_, ss_])
         go_cut [59] (fun v59 wc => ∃ (kq : Nat) (x59_15 : Bool), v59 = .bool x59_15 ∧ Aside0 (impl_SetRight.j2 kq l0_1 (l0_1.length : Int) x18_2 x59_15 l0_0 l0_1 = some r) ∧ Aside0 (kq ≤ k2) ∧ Aside0 (wc.heap[gb760]? = some (.cells #[(.slice A0_0 l0_0.length c0_0), (.slice (some ad762) l0_1.length c0_1)] 60 (0, 0))) ∧ Aside0 (wc.heap[gb763]? = some (.cells #[.int .i64 ((rd_T158 l0_1 x18_2).f0.f0), .int .i64 ((rd_T158 l0_1 x18_2).f0.f1), .bool ((rd_T158 l0_1 x18_2).f1), .string ((rd_T158 l0_1 x18_2).f2)] 158 (0, 0))) ∧ Aside0 (Below w.heap.size w wc))
         case first =>
          have H := HC16.out
          clear HC16
          replace H := Option.bind_eq_some_iff.mp H
          obtain ⟨t764, A200, H⟩ := H
          replace H : (if t764 = true then ((impl_seenHas.f k2 l0_0 ((rd_T158 l0_1 x18_2).f0.f0) ((rd_T158 l0_1 x18_2).f0.f1)).bind fun t765 => (if t765 = true then ((impl_isData.f ((rd_T158 l0_1 x18_2).f2) ((rd_T158 l0_1 x18_2).f1)).bind fun t766 => (if t766 = true then (if x18_2 > 0 then (if 0 ≤ (wrap64 (x18_2 - 1)) then (if (wrap64 (x18_2 - 1)) < (l0_1.length : Int) then ((impl_compareDots.f k2 ((rd_T158 l0_1 (wrap64 (x18_2 - 1))).f0.f0) ((rd_T158 l0_1 (wrap64 (x18_2 - 1))).f0.f1) ((rd_T158 l0_1 x18_2).f0.f0) ((rd_T158 l0_1 x18_2).f0.f1)).bind fun t768 => (impl_SetRight.j2 k2 l0_1 (l0_1.length : Int) x18_2 (decide (t768 ≥ 0)) l0_0 l0_1)) else (none)) else (none)) else (impl_SetRight.j2 k2 l0_1 (l0_1.length : Int) x18_2 false l0_0 l0_1)) else (impl_SetRight.j2 k2 l0_1 (l0_1.length : Int) x18_2 true l0_0 l0_1))) else (impl_SetRight.j2 k2 l0_1 (l0_1.length : Int) x18_2 true l0_0 l0_1))) else (impl_SetRight.j2 k2 l0_1 (l0_1.length : Int) x18_2 true l0_0 l0_1)) = some r := H
          have A20 := Aside0.mk A200
          clear A200
          by_cases c21 : t764 = true
          ·subst c21
           have H1 : ((impl_seenHas.f k2 l0_0 ((rd_T158 l0_1 x18_2).f0.f0) ((rd_T158 l0_1 x18_2).f0.f1)).bind fun t765 => (if t765 = true then ((impl_isData.f ((rd_T158 l0_1 x18_2).f2) ((rd_T158 l0_1 x18_2).f1)).bind fun t766 => (if t766 = true then (if x18_2 > 0 then (if 0 ≤ (wrap64 (x18_2 - 1)) then (if (wrap64 (x18_2 - 1)) < (l0_1.length : Int) then ((impl_compareDots.f k2 ((rd_T158 l0_1 (wrap64 (x18_2 - 1))).f0.f0) ((rd_T158 l0_1 (wrap64 (x18_2 - 1))).f0.f1) ((rd_T158 l0_1 x18_2).f0.f0) ((rd_T158 l0_1 x18_2).f0.f1)).bind fun t768 => (impl_SetRight.j2 k2 l0_1 (l0_1.length : Int) x18_2 (decide (t768 ≥ 0)) l0_0 l0_1)) else (none)) else (none)) else (impl_SetRight.j2 k2 l0_1 (l0_1.length : Int) x18_2 false l0_0 l0_1)) else (impl_SetRight.j2 k2 l0_1 (l0_1.length : Int) x18_2 true l0_0 l0_1))) else (impl_SetRight.j2 k2 l0_1 (l0_1.length : Int) x18_2 true l0_0 l0_1))) = some r := by rw [if_pos rfl] at H; exact H
           clear H
           have H := H1
           clear H1
           replace H := Option.bind_eq_some_iff.mp H
           obtain ⟨t765, A220, H⟩ := H
           replace H : (if t765 = true then ((impl_isData.f ((rd_T158 l0_1 x18_2).f2) ((rd_T158 l0_1 x18_2).f1)).bind fun t766 => (if t766 = true then (if x18_2 > 0 then (if 0 ≤ (wrap64 (x18_2 - 1)) then (if (wrap64 (x18_2 - 1)) < (l0_1.length : Int) then ((impl_compareDots.f k2 ((rd_T158 l0_1 (wrap64 (x18_2 - 1))).f0.f0) ((rd_T158 l0_1 (wrap64 (x18_2 - 1))).f0.f1) ((rd_T158 l0_1 x18_2).f0.f0) ((rd_T158 l0_1 x18_2).f0.f1)).bind fun t768 => (impl_SetRight.j2 k2 l0_1 (l0_1.length : Int) x18_2 (decide (t768 ≥ 0)) l0_0 l0_1)) else (none)) else (none)) else (impl_SetRight.j2 k2 l0_1 (l0_1.length : Int) x18_2 false l0_0 l0_1)) else (impl_SetRight.j2 k2 l0_1 (l0_1.length : Int) x18_2 true l0_0 l0_1))) else (impl_SetRight.j2 k2 l0_1 (l0_1.length : Int) x18_2 true l0_0 l0_1)) = some r := H
           have A22 := Aside0.mk A220
           clear A220
           by_cases c23 : t765 = true
           ·subst c23
            have H1 : ((impl_isData.f ((rd_T158 l0_1 x18_2).f2) ((rd_T158 l0_1 x18_2).f1)).bind fun t766 => (if t766 = true then (if x18_2 > 0 then (if 0 ≤ (wrap64 (x18_2 - 1)) then (if (wrap64 (x18_2 - 1)) < (l0_1.length : Int) then ((impl_compareDots.f k2 ((rd_T158 l0_1 (wrap64 (x18_2 - 1))).f0.f0) ((rd_T158 l0_1 (wrap64 (x18_2 - 1))).f0.f1) ((rd_T158 l0_1 x18_2).f0.f0) ((rd_T158 l0_1 x18_2).f0.f1)).bind fun t768 => (impl_SetRight.j2 k2 l0_1 (l0_1.length : Int) x18_2 (decide (t768 ≥ 0)) l0_0 l0_1)) else (none)) else (none)) else (impl_SetRight.j2 k2 l0_1 (l0_1.length : Int) x18_2 false l0_0 l0_1)) else (impl_SetRight.j2 k2 l0_1 (l0_1.length : Int) x18_2 true l0_0 l0_1))) = some r := by rw [if_pos rfl] at H; exact H
            clear H
            have H := H1
            clear H1
            replace H := Option.bind_eq_some_iff.mp H
            obtain ⟨t766, A240, H⟩ := H
            replace H : (if t766 = true then (if x18_2 > 0 then (if 0 ≤ (wrap64 (x18_2 - 1)) then (if (wrap64 (x18_2 - 1)) < (l0_1.length : Int) then ((impl_compareDots.f k2 ((rd_T158 l0_1 (wrap64 (x18_2 - 1))).f0.f0) ((rd_T158 l0_1 (wrap64 (x18_2 - 1))).f0.f1) ((rd_T158 l0_1 x18_2).f0.f0) ((rd_T158 l0_1 x18_2).f0.f1)).bind fun t768 => (impl_SetRight.j2 k2 l0_1 (l0_1.length : Int) x18_2 (decide (t768 ≥ 0)) l0_0 l0_1)) else (none)) else (none)) else (impl_SetRight.j2 k2 l0_1 (l0_1.length : Int) x18_2 false l0_0 l0_1)) else (impl_SetRight.j2 k2 l0_1 (l0_1.length : Int) x18_2 true l0_0 l0_1)) = some r := H
            have A24 := Aside0.mk A240
            clear A240
            by_cases c25 : t766 = true
            ·subst c25
             have H1 : (if x18_2 > 0 then (if 0 ≤ (wrap64 (x18_2 - 1)) then (if (wrap64 (x18_2 - 1)) < (l0_1.length : Int) then ((impl_compareDots.f k2 ((rd_T158 l0_1 (wrap64 (x18_2 - 1))).f0.f0) ((rd_T158 l0_1 (wrap64 (x18_2 - 1))).f0.f1) ((rd_T158 l0_1 x18_2).f0.f0) ((rd_T158 l0_1 x18_2).f0.f1)).bind fun t768 => (impl_SetRight.j2 k2 l0_1 (l0_1.length : Int) x18_2 (decide (t768 ≥ 0)) l0_0 l0_1)) else (none)) else (none)) else (impl_SetRight.j2 k2 l0_1 (l0_1.length : Int) x18_2 false l0_0 l0_1)) = some r := by rw [if_pos rfl] at H; exact H
             clear H
             have H := H1
             clear H1
             by_cases c26 : x18_2 > 0
             ·rw [if_pos c26] at H
              have c26b0 : decide (0 < x18_2) = true := decide_eq_true c26
              clear c26
              (first | rw [c26b0] | (simp only [i64_w, i32_w]; rw [c26b0]) | skip)
              obtain ⟨ji27, hji27⟩ : ∃ j_ : Int, (wrap64 (x18_2 - 1)) = j_ := ⟨_, rfl⟩
              replace H : (if 0 ≤ (ji27) then (if (ji27) < (l0_1.length : Int) then ((impl_compareDots.f k2 ((rd_T158 l0_1 (ji27)).f0.f0) ((rd_T158 l0_1 (ji27)).f0.f1) ((rd_T158 l0_1 x18_2).f0.f0) ((rd_T158 l0_1 x18_2).f0.f1)).bind fun t768 => (impl_SetRight.j2 k2 l0_1 (l0_1.length : Int) x18_2 (decide (t768 ≥ 0)) l0_0 l0_1)) else (none)) else (none)) = some r := by first | (rw [hji27] at H; exact H) | (simp only [hji27] at H ⊢; exact H)
              (try rw [hji27] at A20)
              (try rw [hji27] at A22)
              (try rw [hji27] at A24)
              have hji27w : (IntKind.i64.wrap (x18_2 - 1)) = ji27 := (i64_w _).trans hji27
              by_cases c28 : 0 ≤ (ji27)
              ·rw [if_pos c28] at H
               have c28b0 : decide (0 ≤ (ji27)) = true := decide_eq_true c28
               clear c28
               by_cases c29 : (ji27) < (l0_1.length : Int)
               ·rw [if_pos c29] at H
                have c29b0 : decide ((ji27) < (l0_1.length : Int)) = true := decide_eq_true c29
                clear c29
                replace H := Option.bind_eq_some_iff.mp H
                obtain ⟨t768, A300, H⟩ := H
                replace H : (impl_SetRight.j2 k2 l0_1 (l0_1.length : Int) x18_2 (decide (t768 ≥ 0)) l0_0 l0_1) = some r := H
                have A30 := Aside0.mk A300
                clear A300
                have H' := Aside0.mk H
                clear H
                try go_wp2
                have n0_ : Aside0 (((((w17.setCell ⟨gb763, 0, none⟩ (.int .i64 ((rd_T158 l0_1 x18_2).f0.f0))).setCell ⟨gb763, 1, none⟩ (.int .i64 ((rd_T158 l0_1 x18_2).f0.f1))).setCell ⟨gb763, 2, none⟩ (.bool ((rd_T158 l0_1 x18_2).f1))).setCell ⟨gb763, 3, none⟩ (.string ((rd_T158 l0_1 x18_2).f2))).heap[gb760]? = some (.cells #[.slice A0_0 l0_0.length c0_0, .slice (some ad762) l0_1.length c0_1] 60 (0, 0))) := ⟨z18_ NB760_763.out BK760.out⟩
                have n1_ : Aside0 (((((w17.setCell ⟨gb763, 0, none⟩ (.int .i64 ((rd_T158 l0_1 x18_2).f0.f0))).setCell ⟨gb763, 1, none⟩ (.int .i64 ((rd_T158 l0_1 x18_2).f0.f1))).setCell ⟨gb763, 2, none⟩ (.bool ((rd_T158 l0_1 x18_2).f1))).setCell ⟨gb763, 3, none⟩ (.string ((rd_T158 l0_1 x18_2).f2))).heap[gb763]? = some (.cells #[.int .i64 ((rd_T158 l0_1 x18_2).f0.f0), .int .i64 ((rd_T158 l0_1 x18_2).f0.f1), .bool ((rd_T158 l0_1 x18_2).f1), .string ((rd_T158 l0_1 x18_2).f2)] 158 (0, 0))) := ⟨z22_ BK763.out⟩
                have n2_ : Aside0 (Below w.heap.size w ((((w17.setCell ⟨gb763, 0, none⟩ (.int .i64 ((rd_T158 l0_1 x18_2).f0.f0))).setCell ⟨gb763, 1, none⟩ (.int .i64 ((rd_T158 l0_1 x18_2).f0.f1))).setCell ⟨gb763, 2, none⟩ (.bool ((rd_T158 l0_1 x18_2).f1))).setCell ⟨gb763, 3, none⟩ (.string ((rd_T158 l0_1 x18_2).f2)))) := ⟨z6_ HB.out GE760.out GE763.out⟩
                (try clear BK760)
                (try clear BK763)
                (try clear HB)
                generalize ((((w17.setCell ⟨gb763, 0, none⟩ (.int .i64 ((rd_T158 l0_1 x18_2).f0.f0))).setCell ⟨gb763, 1, none⟩ (.int .i64 ((rd_T158 l0_1 x18_2).f0.f1))).setCell ⟨gb763, 2, none⟩ (.bool ((rd_T158 l0_1 x18_2).f1))).setCell ⟨gb763, 3, none⟩ (.string ((rd_T158 l0_1 x18_2).f2))) = w31 at n0_ n1_ n2_ ⊢
                have BK760 := n0_
                have BK763 := n1_
                have HB := n2_
                clear n0_ n1_ n2_
                have n_ := as3_ (blk_drew BK760.out) (blk_drew BK763.out) (below_drew1 HB.out)
                clear BK760 BK763 HB
                have ⟨BK760, BK763, HB⟩ := n_
                clear n_
                have p767 : 0 ≤ ((ji27) : Int) := of_decide_eq_true (z3_)
                have q767 : (ji27) < (l0_1.length : Int) := of_decide_eq_true (z3_)
                obtain ⟨ad767, e767, hx767_0, hx767_1, hx767_2, hx767_3⟩ := at_T158 HR0_1.out (ji27) p767 q767
                have hw767_3 := hx767_3
                have hw767_2 := hx767_2
                have hw767_1 := hx767_1
                have hw767_0 := hx767_0
                obtain rfl : ad762 = ad767 := (by injection e767)
                replace hx767_0 := (HB.out.cell (World.block_lt_of_cell? w _ hx767_0)).trans hx767_0
                replace hx767_1 := (HB.out.cell (World.block_lt_of_cell? w _ hx767_1)).trans hx767_1
                replace hx767_2 := (HB.out.cell (World.block_lt_of_cell? w _ hx767_2)).trans hx767_2
                replace hx767_3 := (HB.out.cell (World.block_lt_of_cell? w _ hx767_3)).trans hx767_3
                replace p767 := eq_true p767
                replace q767 := eq_true q767
                refine start_ (n := 37) (S := fun w' => w'.cell? ⟨gb763, 0, none⟩ = some (.int .i64 ((rd_T158 l0_1 x18_2).f0.f0)) ∧ w'.cell? ⟨gb763, 1, none⟩ = some (.int .i64 ((rd_T158 l0_1 x18_2).f0.f1)) ∧ w'.cell? ⟨gb763, 2, none⟩ = some (.bool ((rd_T158 l0_1 x18_2).f1)) ∧ w'.cell? ⟨gb763, 3, none⟩ = some (.string ((rd_T158 l0_1 x18_2).f2)) ∧ w'.cell? ⟨gb760, 0, none⟩ = some (.slice A0_0 l0_0.length c0_0) ∧ w'.cell? ⟨gb760, 1, none⟩ = some (.slice (some ad762) l0_1.length c0_1) ∧ w'.cell? (ad762.add (((ji27)).toNat * 4)) = some (.int .i64 ((rd_T158 l0_1 (ji27)).f0.f0)) ∧ w'.cell? ⟨(ad762.add (((ji27)).toNat * 4)).block, (ad762.add (((ji27)).toNat * 4)).off + 1, none⟩ = some (.int .i64 ((rd_T158 l0_1 (ji27)).f0.f1)) ∧ w'.cell? ⟨(ad762.add (((ji27)).toNat * 4)).block, (ad762.add (((ji27)).toNat * 4)).off + 2, none⟩ = some (.bool ((rd_T158 l0_1 (ji27)).f1)) ∧ w'.cell? ⟨(ad762.add (((ji27)).toNat * 4)).block, (ad762.add (((ji27)).toNat * 4)).off + 3, none⟩ = some (.string ((rd_T158 l0_1 (ji27)).f2))) (ds := []) impl_SetRight.q0 (by kernel_rfl) rfl rfl ⟨(blk_cell BK763.out 0).trans rfl, (blk_cell BK763.out 1).trans rfl, (blk_cell BK763.out 2).trans rfl, (blk_cell BK763.out 3).trans rfl, (blk_cell BK760.out 0).trans rfl, (blk_cell BK760.out 1).trans rfl, ((HB.out.cell (World.block_lt_of_cell? w _ hw767_0)).trans hw767_0), ((HB.out.cell (World.block_lt_of_cell? w _ hw767_1)).trans hw767_1), ((HB.out.cell (World.block_lt_of_cell? w _ hw767_2)).trans hw767_2), ((HB.out.cell (World.block_lt_of_cell? w _ hw767_3)).trans hw767_3)⟩ (fun hHeld => ?_); refine with_tabW impl_SetRight.tab6 impl_SetRight.bits6 (fun HT_ HW_ => ?_)
                generalize w31.drew = w32 at BK760 BK763 HB hx767_0 hx767_1 hx767_2 hx767_3 hHeld ⊢
                refine pu_ 0 23 impl_SetRight.q1 HT_.out ?_
                refine tk10_ 1 24 impl_SetRight.q2 HT_.out HW_.out hHeld ?_
                refine one_ (i := 2) (N := some 25) impl_SetRight.q3 rfl rfl (one_of HT_.out (by kernel_rfl)) (by decide) (fun K hK => ?_)
                refine goes_ Try.func88 (by kernel_rfl) rfl #[.agg #[.int .i64 ((rd_T158 l0_1 x18_2).f0.f0), .int .i64 ((rd_T158 l0_1 x18_2).f0.f1)]] (by rfl) rfl rfl (z0_) ?_
                with_reducible refine (impl_isDot.calls ((rd_T158 l0_1 x18_2).f0.f0) ((rd_T158 l0_1 x18_2).f0.f1) true _ A20.out).mono ?_
                rintro e w33 ⟨rfl, hb⟩
                refine ⟨_, rfl, ?_⟩
                have n_ := as3_ (blkB_ BK760.out hb) (blkB_ BK763.out hb) (below_step (z6_ HB.out GE760.out GE763.out) hb)
                clear BK760 BK763 HB
                have ⟨BK760, BK763, HB⟩ := n_
                clear n_
                (try clear hb)
                (try clear hb2)
                (try clear hk)
                (try clear hi)
                refine hK.out _ _ ⟨(blk_cell BK763.out 0).trans rfl, (blk_cell BK763.out 1).trans rfl, (blk_cell BK763.out 2).trans rfl, (blk_cell BK763.out 3).trans rfl, (blk_cell BK760.out 0).trans rfl, (blk_cell BK760.out 1).trans rfl, ((HB.out.cell (World.block_lt_of_cell? w _ hw767_0)).trans hw767_0), ((HB.out.cell (World.block_lt_of_cell? w _ hw767_1)).trans hw767_1), ((HB.out.cell (World.block_lt_of_cell? w _ hw767_2)).trans hw767_2), ((HB.out.cell (World.block_lt_of_cell? w _ hw767_3)).trans hw767_3)⟩ (fun hHeld => ?_)
                clear hK K
                refine norm_ (a' := ?_) ?_ ?_
                rotate_left
                ·show Act.put _ (some 25) _ = _
                 simp only [Act.put, sa_, s0_, ss_, i64_w, i32_w]
                 rfl
                refine pu_ 3 26 impl_SetRight.q4 HT_.out ?_
                refine pu_ 4 27 impl_SetRight.q5 HT_.out ?_
                refine pu_ 5 28 impl_SetRight.q6 HT_.out ?_
                refine pu_ 7 30 impl_SetRight.q7 HT_.out ?_
                refine tk10_ 6 29 impl_SetRight.q8 HT_.out HW_.out hHeld ?_
                refine tk10_ 8 31 impl_SetRight.q9 HT_.out HW_.out hHeld ?_
                refine one_ (i := 9) (N := some 32) impl_SetRight.q10 rfl rfl (one_of HT_.out (by kernel_rfl)) (by decide) (fun K hK => ?_)
                refine goes_ Try.func101 (by kernel_rfl) rfl #[.slice A0_0 l0_0.length c0_0, .agg #[.int .i64 ((rd_T158 l0_1 x18_2).f0.f0), .int .i64 ((rd_T158 l0_1 x18_2).f0.f1)]] (by rfl) rfl rfl (z0_) ?_
                with_reducible refine (impl_seenHas.calls k2 _ _ l0_0 ((rd_T158 l0_1 x18_2).f0.f0) ((rd_T158 l0_1 x18_2).f0.f1) true _ ?side1 ?side2 A22.out).mono ?_
                (case side1 => exact z12_ HR0_0.out HB.out)
                (case side2 => exact HC0_0.out)
                rintro e w34 ⟨rfl, hb⟩
                refine ⟨_, rfl, ?_⟩
                have n_ := as3_ (blkB_ BK760.out hb) (blkB_ BK763.out hb) (below_step (z6_ HB.out GE760.out GE763.out) hb)
                clear BK760 BK763 HB
                have ⟨BK760, BK763, HB⟩ := n_
                clear n_
                (try clear hb)
                (try clear hb2)
                (try clear hk)
                (try clear hi)
                refine hK.out _ _ ⟨(blk_cell BK763.out 0).trans rfl, (blk_cell BK763.out 1).trans rfl, (blk_cell BK763.out 2).trans rfl, (blk_cell BK763.out 3).trans rfl, (blk_cell BK760.out 0).trans rfl, (blk_cell BK760.out 1).trans rfl, ((HB.out.cell (World.block_lt_of_cell? w _ hw767_0)).trans hw767_0), ((HB.out.cell (World.block_lt_of_cell? w _ hw767_1)).trans hw767_1), ((HB.out.cell (World.block_lt_of_cell? w _ hw767_2)).trans hw767_2), ((HB.out.cell (World.block_lt_of_cell? w _ hw767_3)).trans hw767_3)⟩ (fun hHeld => ?_)
                clear hK K
                refine norm_ (a' := ?_) ?_ ?_
                rotate_left
                ·show Act.put _ (some 32) _ = _
                 simp only [Act.put, sa_, s0_, ss_, i64_w, i32_w]
                 rfl
                refine pu_ 10 33 impl_SetRight.q11 HT_.out ?_
                refine pu_ 11 34 impl_SetRight.q12 HT_.out ?_
                refine pu_ 12 35 impl_SetRight.q13 HT_.out ?_
                refine pu_ 13 36 impl_SetRight.q14 HT_.out ?_
                refine pu_ 15 38 impl_SetRight.q15 HT_.out ?_
                refine tk10_ 14 37 impl_SetRight.q16 HT_.out HW_.out hHeld ?_
                refine tk10_ 16 39 impl_SetRight.q17 HT_.out HW_.out hHeld ?_
                refine one_ (i := 17) (N := some 40) impl_SetRight.q18 rfl rfl (one_of HT_.out (by kernel_rfl)) (by decide) (fun K hK => ?_)
                refine goes_ Try.func174 (by kernel_rfl) rfl #[.string ((rd_T158 l0_1 x18_2).f2), .bool ((rd_T158 l0_1 x18_2).f1)] (by rfl) rfl rfl (z0_) ?_
                with_reducible refine (impl_isData.calls ((rd_T158 l0_1 x18_2).f2) ((rd_T158 l0_1 x18_2).f1) true _ A24.out).mono ?_
                rintro e w' ⟨rfl, ⟨nd, rfl⟩⟩
                refine ⟨_, rfl, ?_⟩
                refine hK.out _ _ ⟨(blk_cell BK763.out 0).trans rfl, (blk_cell BK763.out 1).trans rfl, (blk_cell BK763.out 2).trans rfl, (blk_cell BK763.out 3).trans rfl, (blk_cell BK760.out 0).trans rfl, (blk_cell BK760.out 1).trans rfl, ((HB.out.cell (World.block_lt_of_cell? w _ hw767_0)).trans hw767_0), ((HB.out.cell (World.block_lt_of_cell? w _ hw767_1)).trans hw767_1), ((HB.out.cell (World.block_lt_of_cell? w _ hw767_2)).trans hw767_2), ((HB.out.cell (World.block_lt_of_cell? w _ hw767_3)).trans hw767_3)⟩ (fun hHeld => ?_)
                clear hK K
                refine norm_ (a' := ?_) ?_ ?_
                rotate_left
                ·show Act.put _ (some 40) _ = _
                 simp only [Act.put, sa_, s0_, ss_, i64_w, i32_w]
                 rfl
                refine pu_ 18 41 impl_SetRight.q19 HT_.out ?_
                refine pu_ 19 42 impl_SetRight.q20 HT_.out ?_
                refine pu_ 20 43 impl_SetRight.q21 HT_.out ?_
                refine pu_ 21 44 impl_SetRight.q22 HT_.out ?_
                refine pu_ 22 45 impl_SetRight.q23 HT_.out ?_
                refine pu_ 23 46 impl_SetRight.q24 HT_.out ?_
                refine pu_ 24 47 impl_SetRight.q25 HT_.out ?_
                refine pu_ 26 49 #[true, true, true, true, true, true, true, true, true, true, true, true, true, true, true, true, true, true, true, true, true, true, true, true, true, false, true, false, false, false, false, false, false, false, false, false, false] HT_.out ?_
                refine pu_ 27 50 #[true, true, true, true, true, true, true, true, true, true, true, true, true, true, true, true, true, true, true, true, true, true, true, true, true, false, true, true, false, false, false, false, false, false, false, false, false] HT_.out ?_
                refine pu_ 31 54 #[true, true, true, true, true, true, true, true, true, true, true, true, true, true, true, true, true, true, true, true, true, true, true, true, true, false, true, true, false, false, false, true, false, false, false, false, false] HT_.out ?_
                refine tk10_ 25 48 #[true, true, true, true, true, true, true, true, true, true, true, true, true, true, true, true, true, true, true, true, true, true, true, true, true, true, true, true, false, false, false, true, false, false, false, false, false] HT_.out HW_.out hHeld ?_
                refine pu_ 28 51 #[true, true, true, true, true, true, true, true, true, true, true, true, true, true, true, true, true, true, true, true, true, true, true, true, true, true, true, true, true, false, false, true, false, false, false, false, false] HT_.out ?_
                refine pu_ 29 52 #[true, true, true, true, true, true, true, true, true, true, true, true, true, true, true, true, true, true, true, true, true, true, true, true, true, true, true, true, true, true, false, true, false, false, false, false, false] HT_.out ?_
                refine tk10_ 30 53 impl_SetRight.q26 HT_.out HW_.out hHeld ?_
                refine tk10_ 32 55 impl_SetRight.q27 HT_.out HW_.out hHeld ?_
                refine one_ (i := 33) (N := some 56) impl_SetRight.q28 rfl rfl (one_of HT_.out (by kernel_rfl)) (by decide) (fun K hK => ?_)
                refine goes_ Try.func127 (by kernel_rfl) rfl #[.agg #[.int .i64 ((rd_T158 l0_1 (ji27)).f0.f0), .int .i64 ((rd_T158 l0_1 (ji27)).f0.f1)], .agg #[.int .i64 ((rd_T158 l0_1 x18_2).f0.f0), .int .i64 ((rd_T158 l0_1 x18_2).f0.f1)]] (by rfl) rfl rfl (by (try simp only [List.map_toArray, List.map_cons, List.map_nil]); first | done | (simp only [hji27]; rfl) | rfl | (simp only [List.length_drop, List.length_take]; rfl)) ?_
                with_reducible refine (impl_compareDots.calls k2 ((rd_T158 l0_1 (ji27)).f0.f0) ((rd_T158 l0_1 (ji27)).f0.f1) ((rd_T158 l0_1 x18_2).f0.f0) ((rd_T158 l0_1 x18_2).f0.f1) t768 _ A30.out).mono ?_
                rintro e w35 ⟨rfl, hb⟩
                refine ⟨_, rfl, ?_⟩
                have n_ := as3_ (blkB_ BK760.out hb) (blkB_ BK763.out hb) (below_step (z6_ HB.out GE760.out GE763.out) hb)
                clear BK760 BK763 HB
                have ⟨BK760, BK763, HB⟩ := n_
                clear n_
                (try clear hb)
                (try clear hb2)
                (try clear hk)
                (try clear hi)
                refine hK.out _ _ ⟨(blk_cell BK763.out 0).trans rfl, (blk_cell BK763.out 1).trans rfl, (blk_cell BK763.out 2).trans rfl, (blk_cell BK763.out 3).trans rfl, (blk_cell BK760.out 0).trans rfl, (blk_cell BK760.out 1).trans rfl, ((HB.out.cell (World.block_lt_of_cell? w _ hw767_0)).trans hw767_0), ((HB.out.cell (World.block_lt_of_cell? w _ hw767_1)).trans hw767_1), ((HB.out.cell (World.block_lt_of_cell? w _ hw767_2)).trans hw767_2), ((HB.out.cell (World.block_lt_of_cell? w _ hw767_3)).trans hw767_3)⟩ (fun hHeld => ?_)
                clear hK K
                refine norm_ (a' := ?_) ?_ ?_
                rotate_left
                ·show Act.put _ (some 56) _ = _
                 simp only [Act.put, sa_, s0_, ss_, i64_w, i32_w]
                 rfl
                refine pu_ 34 57 impl_SetRight.q29 HT_.out ?_
                refine pu_ 35 58 impl_SetRight.q30 HT_.out ?_
                refine pu_ 36 59 impl_SetRight.q31 HT_.out ?_
                refine done_ (done_of HT_.out (by kernel_rfl)) ?_
                try go_wp2
                go_meet
                case rel => exact ⟨_, (decide (t768 ≥ 0)), (z2_), H', ⟨z33_ HJ1.out HK2.out⟩, ⟨z9_ BK760.out⟩, ⟨z9_ BK763.out⟩, ⟨z6_ HB.out GE760.out GE763.out⟩⟩
               ·rw [if_neg c29] at H
                exact absurd H (by simp)
              ·rw [if_neg c28] at H
               exact absurd H (by simp)
             ·rw [if_neg c26] at H
              have c26b0 : decide (0 < x18_2) = false := decide_eq_false c26
              clear c26
              (first | rw [c26b0] | (simp only [i64_w, i32_w]; rw [c26b0]) | skip)
              have H' := Aside0.mk H
              clear H
              try go_wp2
              have n0_ : Aside0 (((((w17.setCell ⟨gb763, 0, none⟩ (.int .i64 ((rd_T158 l0_1 x18_2).f0.f0))).setCell ⟨gb763, 1, none⟩ (.int .i64 ((rd_T158 l0_1 x18_2).f0.f1))).setCell ⟨gb763, 2, none⟩ (.bool ((rd_T158 l0_1 x18_2).f1))).setCell ⟨gb763, 3, none⟩ (.string ((rd_T158 l0_1 x18_2).f2))).heap[gb760]? = some (.cells #[.slice A0_0 l0_0.length c0_0, .slice (some ad762) l0_1.length c0_1] 60 (0, 0))) := ⟨z18_ NB760_763.out BK760.out⟩
              have n1_ : Aside0 (((((w17.setCell ⟨gb763, 0, none⟩ (.int .i64 ((rd_T158 l0_1 x18_2).f0.f0))).setCell ⟨gb763, 1, none⟩ (.int .i64 ((rd_T158 l0_1 x18_2).f0.f1))).setCell ⟨gb763, 2, none⟩ (.bool ((rd_T158 l0_1 x18_2).f1))).setCell ⟨gb763, 3, none⟩ (.string ((rd_T158 l0_1 x18_2).f2))).heap[gb763]? = some (.cells #[.int .i64 ((rd_T158 l0_1 x18_2).f0.f0), .int .i64 ((rd_T158 l0_1 x18_2).f0.f1), .bool ((rd_T158 l0_1 x18_2).f1), .string ((rd_T158 l0_1 x18_2).f2)] 158 (0, 0))) := ⟨z22_ BK763.out⟩
              have n2_ : Aside0 (Below w.heap.size w ((((w17.setCell ⟨gb763, 0, none⟩ (.int .i64 ((rd_T158 l0_1 x18_2).f0.f0))).setCell ⟨gb763, 1, none⟩ (.int .i64 ((rd_T158 l0_1 x18_2).f0.f1))).setCell ⟨gb763, 2, none⟩ (.bool ((rd_T158 l0_1 x18_2).f1))).setCell ⟨gb763, 3, none⟩ (.string ((rd_T158 l0_1 x18_2).f2)))) := ⟨z6_ HB.out GE760.out GE763.out⟩
              (try clear BK760)
              (try clear BK763)
              (try clear HB)
              generalize ((((w17.setCell ⟨gb763, 0, none⟩ (.int .i64 ((rd_T158 l0_1 x18_2).f0.f0))).setCell ⟨gb763, 1, none⟩ (.int .i64 ((rd_T158 l0_1 x18_2).f0.f1))).setCell ⟨gb763, 2, none⟩ (.bool ((rd_T158 l0_1 x18_2).f1))).setCell ⟨gb763, 3, none⟩ (.string ((rd_T158 l0_1 x18_2).f2))) = w36 at n0_ n1_ n2_ ⊢
              have BK760 := n0_
              have BK763 := n1_
              have HB := n2_
              clear n0_ n1_ n2_
              have n_ := as3_ (blk_drew BK760.out) (blk_drew BK763.out) (below_drew1 HB.out)
              clear BK760 BK763 HB
              have ⟨BK760, BK763, HB⟩ := n_
              clear n_
              refine start_ (n := 37) (S := fun w' => w'.cell? ⟨gb763, 0, none⟩ = some (.int .i64 ((rd_T158 l0_1 x18_2).f0.f0)) ∧ w'.cell? ⟨gb763, 1, none⟩ = some (.int .i64 ((rd_T158 l0_1 x18_2).f0.f1)) ∧ w'.cell? ⟨gb763, 2, none⟩ = some (.bool ((rd_T158 l0_1 x18_2).f1)) ∧ w'.cell? ⟨gb763, 3, none⟩ = some (.string ((rd_T158 l0_1 x18_2).f2)) ∧ w'.cell? ⟨gb760, 0, none⟩ = some (.slice A0_0 l0_0.length c0_0) ∧ w'.cell? ⟨gb760, 1, none⟩ = some (.slice (some ad762) l0_1.length c0_1)) (ds := []) impl_SetRight.q0 (by kernel_rfl) rfl rfl ⟨(blk_cell BK763.out 0).trans rfl, (blk_cell BK763.out 1).trans rfl, (blk_cell BK763.out 2).trans rfl, (blk_cell BK763.out 3).trans rfl, (blk_cell BK760.out 0).trans rfl, (blk_cell BK760.out 1).trans rfl⟩ (fun hHeld => ?_); refine with_tabW impl_SetRight.tab6 impl_SetRight.bits6 (fun HT_ HW_ => ?_)
              generalize w36.drew = w37 at BK760 BK763 HB hHeld ⊢
              refine pu_ 0 23 impl_SetRight.q1 HT_.out ?_
              refine tk6_ 1 24 impl_SetRight.q2 HT_.out HW_.out hHeld ?_
              refine one_ (i := 2) (N := some 25) impl_SetRight.q3 rfl rfl (one_of HT_.out (by kernel_rfl)) (by decide) (fun K hK => ?_)
              refine goes_ Try.func88 (by kernel_rfl) rfl #[.agg #[.int .i64 ((rd_T158 l0_1 x18_2).f0.f0), .int .i64 ((rd_T158 l0_1 x18_2).f0.f1)]] (by rfl) rfl rfl (z0_) ?_
              with_reducible refine (impl_isDot.calls ((rd_T158 l0_1 x18_2).f0.f0) ((rd_T158 l0_1 x18_2).f0.f1) true _ A20.out).mono ?_
              rintro e w38 ⟨rfl, hb⟩
              refine ⟨_, rfl, ?_⟩
              have n_ := as3_ (blkB_ BK760.out hb) (blkB_ BK763.out hb) (below_step (z6_ HB.out GE760.out GE763.out) hb)
              clear BK760 BK763 HB
              have ⟨BK760, BK763, HB⟩ := n_
              clear n_
              (try clear hb)
              (try clear hb2)
              (try clear hk)
              (try clear hi)
              refine hK.out _ _ ⟨(blk_cell BK763.out 0).trans rfl, (blk_cell BK763.out 1).trans rfl, (blk_cell BK763.out 2).trans rfl, (blk_cell BK763.out 3).trans rfl, (blk_cell BK760.out 0).trans rfl, (blk_cell BK760.out 1).trans rfl⟩ (fun hHeld => ?_)
              clear hK K
              refine norm_ (a' := ?_) ?_ ?_
              rotate_left
              ·show Act.put _ (some 25) _ = _
               simp only [Act.put, sa_, s0_, ss_, i64_w, i32_w]
               rfl
              refine pu_ 3 26 impl_SetRight.q4 HT_.out ?_
              refine pu_ 4 27 impl_SetRight.q5 HT_.out ?_
              refine pu_ 5 28 impl_SetRight.q6 HT_.out ?_
              refine pu_ 7 30 impl_SetRight.q7 HT_.out ?_
              refine tk6_ 6 29 impl_SetRight.q8 HT_.out HW_.out hHeld ?_
              refine tk6_ 8 31 impl_SetRight.q9 HT_.out HW_.out hHeld ?_
              refine one_ (i := 9) (N := some 32) impl_SetRight.q10 rfl rfl (one_of HT_.out (by kernel_rfl)) (by decide) (fun K hK => ?_)
              refine goes_ Try.func101 (by kernel_rfl) rfl #[.slice A0_0 l0_0.length c0_0, .agg #[.int .i64 ((rd_T158 l0_1 x18_2).f0.f0), .int .i64 ((rd_T158 l0_1 x18_2).f0.f1)]] (by rfl) rfl rfl (z0_) ?_
              with_reducible refine (impl_seenHas.calls k2 _ _ l0_0 ((rd_T158 l0_1 x18_2).f0.f0) ((rd_T158 l0_1 x18_2).f0.f1) true _ ?side1 ?side2 A22.out).mono ?_
              (case side1 => exact z12_ HR0_0.out HB.out)
              (case side2 => exact HC0_0.out)
              rintro e w39 ⟨rfl, hb⟩
              refine ⟨_, rfl, ?_⟩
              have n_ := as3_ (blkB_ BK760.out hb) (blkB_ BK763.out hb) (below_step (z6_ HB.out GE760.out GE763.out) hb)
              clear BK760 BK763 HB
              have ⟨BK760, BK763, HB⟩ := n_
              clear n_
              (try clear hb)
              (try clear hb2)
              (try clear hk)
              (try clear hi)
              refine hK.out _ _ ⟨(blk_cell BK763.out 0).trans rfl, (blk_cell BK763.out 1).trans rfl, (blk_cell BK763.out 2).trans rfl, (blk_cell BK763.out 3).trans rfl, (blk_cell BK760.out 0).trans rfl, (blk_cell BK760.out 1).trans rfl⟩ (fun hHeld => ?_)
              clear hK K
              refine norm_ (a' := ?_) ?_ ?_
              rotate_left
              ·show Act.put _ (some 32) _ = _
               simp only [Act.put, sa_, s0_, ss_, i64_w, i32_w]
               rfl
              refine pu_ 10 33 impl_SetRight.q11 HT_.out ?_
              refine pu_ 11 34 impl_SetRight.q12 HT_.out ?_
              refine pu_ 12 35 impl_SetRight.q13 HT_.out ?_
              refine pu_ 13 36 impl_SetRight.q14 HT_.out ?_
              refine pu_ 15 38 impl_SetRight.q15 HT_.out ?_
              refine tk6_ 14 37 impl_SetRight.q16 HT_.out HW_.out hHeld ?_
              refine tk6_ 16 39 impl_SetRight.q17 HT_.out HW_.out hHeld ?_
              refine one_ (i := 17) (N := some 40) impl_SetRight.q18 rfl rfl (one_of HT_.out (by kernel_rfl)) (by decide) (fun K hK => ?_)
              refine goes_ Try.func174 (by kernel_rfl) rfl #[.string ((rd_T158 l0_1 x18_2).f2), .bool ((rd_T158 l0_1 x18_2).f1)] (by rfl) rfl rfl (z0_) ?_
              with_reducible refine (impl_isData.calls ((rd_T158 l0_1 x18_2).f2) ((rd_T158 l0_1 x18_2).f1) true _ A24.out).mono ?_
              rintro e w' ⟨rfl, ⟨nd, rfl⟩⟩
              refine ⟨_, rfl, ?_⟩
              refine hK.out _ _ ⟨(blk_cell BK763.out 0).trans rfl, (blk_cell BK763.out 1).trans rfl, (blk_cell BK763.out 2).trans rfl, (blk_cell BK763.out 3).trans rfl, (blk_cell BK760.out 0).trans rfl, (blk_cell BK760.out 1).trans rfl⟩ (fun hHeld => ?_)
              clear hK K
              refine norm_ (a' := ?_) ?_ ?_
              rotate_left
              ·show Act.put _ (some 40) _ = _
               simp only [Act.put, sa_, s0_, ss_, i64_w, i32_w]
               rfl
              refine pu_ 18 41 impl_SetRight.q19 HT_.out ?_
              refine pu_ 19 42 impl_SetRight.q20 HT_.out ?_
              refine pu_ 20 43 impl_SetRight.q21 HT_.out ?_
              refine pu_ 21 44 impl_SetRight.q22 HT_.out ?_
              refine pu_ 22 45 impl_SetRight.q23 HT_.out ?_
              refine pu_ 23 46 impl_SetRight.q24 HT_.out ?_
              refine pn_ 24 47 impl_SetRight.q25 HT_.out ?_
              refine pn_ 25 48 impl_SetRight.q32 HT_.out ?_
              refine pn_ 26 49 impl_SetRight.q33 HT_.out ?_
              refine pn_ 27 50 impl_SetRight.q34 HT_.out ?_
              refine pn_ 28 51 impl_SetRight.q35 HT_.out ?_
              refine pn_ 29 52 impl_SetRight.q36 HT_.out ?_
              refine pn_ 30 53 impl_SetRight.q37 HT_.out ?_
              refine pn_ 31 54 impl_SetRight.q26 HT_.out ?_
              refine pn_ 32 55 impl_SetRight.q27 HT_.out ?_
              refine pn_ 33 56 impl_SetRight.q28 HT_.out ?_
              refine pn_ 34 57 impl_SetRight.q29 HT_.out ?_
              refine pu_ 35 58 impl_SetRight.q30 HT_.out ?_
              refine pu_ 36 59 impl_SetRight.q31 HT_.out ?_
              refine done_ (done_of HT_.out (by kernel_rfl)) ?_
              try go_wp2
              go_meet
              case rel => exact ⟨_, (false), (z2_), H', ⟨z33_ HJ1.out HK2.out⟩, ⟨z9_ BK760.out⟩, ⟨z9_ BK763.out⟩, ⟨z6_ HB.out GE760.out GE763.out⟩⟩
            ·replace c25 := Bool.eq_false_iff.mpr c25
             subst c25
             have H1 : (impl_SetRight.j2 k2 l0_1 (l0_1.length : Int) x18_2 true l0_0 l0_1) = some r := by rw [if_neg (show ¬ (false = true) by decide)] at H; exact H
             clear H
             have H := H1
             clear H1
             have H' := Aside0.mk H
             clear H
             try go_wp2
             have n0_ : Aside0 (((((w17.setCell ⟨gb763, 0, none⟩ (.int .i64 ((rd_T158 l0_1 x18_2).f0.f0))).setCell ⟨gb763, 1, none⟩ (.int .i64 ((rd_T158 l0_1 x18_2).f0.f1))).setCell ⟨gb763, 2, none⟩ (.bool ((rd_T158 l0_1 x18_2).f1))).setCell ⟨gb763, 3, none⟩ (.string ((rd_T158 l0_1 x18_2).f2))).heap[gb760]? = some (.cells #[.slice A0_0 l0_0.length c0_0, .slice (some ad762) l0_1.length c0_1] 60 (0, 0))) := ⟨z18_ NB760_763.out BK760.out⟩
             have n1_ : Aside0 (((((w17.setCell ⟨gb763, 0, none⟩ (.int .i64 ((rd_T158 l0_1 x18_2).f0.f0))).setCell ⟨gb763, 1, none⟩ (.int .i64 ((rd_T158 l0_1 x18_2).f0.f1))).setCell ⟨gb763, 2, none⟩ (.bool ((rd_T158 l0_1 x18_2).f1))).setCell ⟨gb763, 3, none⟩ (.string ((rd_T158 l0_1 x18_2).f2))).heap[gb763]? = some (.cells #[.int .i64 ((rd_T158 l0_1 x18_2).f0.f0), .int .i64 ((rd_T158 l0_1 x18_2).f0.f1), .bool ((rd_T158 l0_1 x18_2).f1), .string ((rd_T158 l0_1 x18_2).f2)] 158 (0, 0))) := ⟨z22_ BK763.out⟩
             have n2_ : Aside0 (Below w.heap.size w ((((w17.setCell ⟨gb763, 0, none⟩ (.int .i64 ((rd_T158 l0_1 x18_2).f0.f0))).setCell ⟨gb763, 1, none⟩ (.int .i64 ((rd_T158 l0_1 x18_2).f0.f1))).setCell ⟨gb763, 2, none⟩ (.bool ((rd_T158 l0_1 x18_2).f1))).setCell ⟨gb763, 3, none⟩ (.string ((rd_T158 l0_1 x18_2).f2)))) := ⟨z6_ HB.out GE760.out GE763.out⟩
             (try clear BK760)
             (try clear BK763)
             (try clear HB)
             generalize ((((w17.setCell ⟨gb763, 0, none⟩ (.int .i64 ((rd_T158 l0_1 x18_2).f0.f0))).setCell ⟨gb763, 1, none⟩ (.int .i64 ((rd_T158 l0_1 x18_2).f0.f1))).setCell ⟨gb763, 2, none⟩ (.bool ((rd_T158 l0_1 x18_2).f1))).setCell ⟨gb763, 3, none⟩ (.string ((rd_T158 l0_1 x18_2).f2))) = w40 at n0_ n1_ n2_ ⊢
             have BK760 := n0_
             have BK763 := n1_
             have HB := n2_
             clear n0_ n1_ n2_
             have n_ := as3_ (blk_drew BK760.out) (blk_drew BK763.out) (below_drew1 HB.out)
             clear BK760 BK763 HB
             have ⟨BK760, BK763, HB⟩ := n_
             clear n_
             refine start_ (n := 37) (S := fun w' => w'.cell? ⟨gb763, 0, none⟩ = some (.int .i64 ((rd_T158 l0_1 x18_2).f0.f0)) ∧ w'.cell? ⟨gb763, 1, none⟩ = some (.int .i64 ((rd_T158 l0_1 x18_2).f0.f1)) ∧ w'.cell? ⟨gb763, 2, none⟩ = some (.bool ((rd_T158 l0_1 x18_2).f1)) ∧ w'.cell? ⟨gb763, 3, none⟩ = some (.string ((rd_T158 l0_1 x18_2).f2)) ∧ w'.cell? ⟨gb760, 0, none⟩ = some (.slice A0_0 l0_0.length c0_0) ∧ w'.cell? ⟨gb760, 1, none⟩ = some (.slice (some ad762) l0_1.length c0_1)) (ds := []) impl_SetRight.q0 (by kernel_rfl) rfl rfl ⟨(blk_cell BK763.out 0).trans rfl, (blk_cell BK763.out 1).trans rfl, (blk_cell BK763.out 2).trans rfl, (blk_cell BK763.out 3).trans rfl, (blk_cell BK760.out 0).trans rfl, (blk_cell BK760.out 1).trans rfl⟩ (fun hHeld => ?_); refine with_tabW impl_SetRight.tab6 impl_SetRight.bits6 (fun HT_ HW_ => ?_)
             generalize w40.drew = w41 at BK760 BK763 HB hHeld ⊢
             refine pu_ 0 23 impl_SetRight.q1 HT_.out ?_
             refine tk6_ 1 24 impl_SetRight.q2 HT_.out HW_.out hHeld ?_
             refine one_ (i := 2) (N := some 25) impl_SetRight.q3 rfl rfl (one_of HT_.out (by kernel_rfl)) (by decide) (fun K hK => ?_)
             refine goes_ Try.func88 (by kernel_rfl) rfl #[.agg #[.int .i64 ((rd_T158 l0_1 x18_2).f0.f0), .int .i64 ((rd_T158 l0_1 x18_2).f0.f1)]] (by rfl) rfl rfl (z0_) ?_
             with_reducible refine (impl_isDot.calls ((rd_T158 l0_1 x18_2).f0.f0) ((rd_T158 l0_1 x18_2).f0.f1) true _ A20.out).mono ?_
             rintro e w42 ⟨rfl, hb⟩
             refine ⟨_, rfl, ?_⟩
             have n_ := as3_ (blkB_ BK760.out hb) (blkB_ BK763.out hb) (below_step (z6_ HB.out GE760.out GE763.out) hb)
             clear BK760 BK763 HB
             have ⟨BK760, BK763, HB⟩ := n_
             clear n_
             (try clear hb)
             (try clear hb2)
             (try clear hk)
             (try clear hi)
             refine hK.out _ _ ⟨(blk_cell BK763.out 0).trans rfl, (blk_cell BK763.out 1).trans rfl, (blk_cell BK763.out 2).trans rfl, (blk_cell BK763.out 3).trans rfl, (blk_cell BK760.out 0).trans rfl, (blk_cell BK760.out 1).trans rfl⟩ (fun hHeld => ?_)
             clear hK K
             refine norm_ (a' := ?_) ?_ ?_
             rotate_left
             ·show Act.put _ (some 25) _ = _
              simp only [Act.put, sa_, s0_, ss_, i64_w, i32_w]
              rfl
             refine pu_ 3 26 impl_SetRight.q4 HT_.out ?_
             refine pu_ 4 27 impl_SetRight.q5 HT_.out ?_
             refine pu_ 5 28 impl_SetRight.q6 HT_.out ?_
             refine pu_ 7 30 impl_SetRight.q7 HT_.out ?_
             refine tk6_ 6 29 impl_SetRight.q8 HT_.out HW_.out hHeld ?_
             refine tk6_ 8 31 impl_SetRight.q9 HT_.out HW_.out hHeld ?_
             refine one_ (i := 9) (N := some 32) impl_SetRight.q10 rfl rfl (one_of HT_.out (by kernel_rfl)) (by decide) (fun K hK => ?_)
             refine goes_ Try.func101 (by kernel_rfl) rfl #[.slice A0_0 l0_0.length c0_0, .agg #[.int .i64 ((rd_T158 l0_1 x18_2).f0.f0), .int .i64 ((rd_T158 l0_1 x18_2).f0.f1)]] (by rfl) rfl rfl (z0_) ?_
             with_reducible refine (impl_seenHas.calls k2 _ _ l0_0 ((rd_T158 l0_1 x18_2).f0.f0) ((rd_T158 l0_1 x18_2).f0.f1) true _ ?side1 ?side2 A22.out).mono ?_
             (case side1 => exact z12_ HR0_0.out HB.out)
             (case side2 => exact HC0_0.out)
             rintro e w43 ⟨rfl, hb⟩
             refine ⟨_, rfl, ?_⟩
             have n_ := as3_ (blkB_ BK760.out hb) (blkB_ BK763.out hb) (below_step (z6_ HB.out GE760.out GE763.out) hb)
             clear BK760 BK763 HB
             have ⟨BK760, BK763, HB⟩ := n_
             clear n_
             (try clear hb)
             (try clear hb2)
             (try clear hk)
             (try clear hi)
             refine hK.out _ _ ⟨(blk_cell BK763.out 0).trans rfl, (blk_cell BK763.out 1).trans rfl, (blk_cell BK763.out 2).trans rfl, (blk_cell BK763.out 3).trans rfl, (blk_cell BK760.out 0).trans rfl, (blk_cell BK760.out 1).trans rfl⟩ (fun hHeld => ?_)
             clear hK K
             refine norm_ (a' := ?_) ?_ ?_
             rotate_left
             ·show Act.put _ (some 32) _ = _
              simp only [Act.put, sa_, s0_, ss_, i64_w, i32_w]
              rfl
             refine pu_ 10 33 impl_SetRight.q11 HT_.out ?_
             refine pu_ 11 34 impl_SetRight.q12 HT_.out ?_
             refine pu_ 12 35 impl_SetRight.q13 HT_.out ?_
             refine pu_ 13 36 impl_SetRight.q14 HT_.out ?_
             refine pu_ 15 38 impl_SetRight.q15 HT_.out ?_
             refine tk6_ 14 37 impl_SetRight.q16 HT_.out HW_.out hHeld ?_
             refine tk6_ 16 39 impl_SetRight.q17 HT_.out HW_.out hHeld ?_
             refine one_ (i := 17) (N := some 40) impl_SetRight.q18 rfl rfl (one_of HT_.out (by kernel_rfl)) (by decide) (fun K hK => ?_)
             refine goes_ Try.func174 (by kernel_rfl) rfl #[.string ((rd_T158 l0_1 x18_2).f2), .bool ((rd_T158 l0_1 x18_2).f1)] (by rfl) rfl rfl (z0_) ?_
             with_reducible refine (impl_isData.calls ((rd_T158 l0_1 x18_2).f2) ((rd_T158 l0_1 x18_2).f1) false _ A24.out).mono ?_
             rintro e w' ⟨rfl, ⟨nd, rfl⟩⟩
             refine ⟨_, rfl, ?_⟩
             refine hK.out _ _ ⟨(blk_cell BK763.out 0).trans rfl, (blk_cell BK763.out 1).trans rfl, (blk_cell BK763.out 2).trans rfl, (blk_cell BK763.out 3).trans rfl, (blk_cell BK760.out 0).trans rfl, (blk_cell BK760.out 1).trans rfl⟩ (fun hHeld => ?_)
             clear hK K
             refine norm_ (a' := ?_) ?_ ?_
             rotate_left
             ·show Act.put _ (some 40) _ = _
              simp only [Act.put, sa_, s0_, ss_, i64_w, i32_w]
              rfl
             refine pu_ 18 41 impl_SetRight.q19 HT_.out ?_
             refine pu_ 19 42 impl_SetRight.q20 HT_.out ?_
             refine pu_ 20 43 impl_SetRight.q21 HT_.out ?_
             refine pn_ 21 44 impl_SetRight.q22 HT_.out ?_
             refine pn_ 22 45 impl_SetRight.q23 HT_.out ?_
             refine pn_ 23 46 impl_SetRight.q24 HT_.out ?_
             refine pn_ 24 47 impl_SetRight.q25 HT_.out ?_
             refine pn_ 25 48 impl_SetRight.q32 HT_.out ?_
             refine pn_ 26 49 impl_SetRight.q33 HT_.out ?_
             refine pn_ 27 50 impl_SetRight.q34 HT_.out ?_
             refine pn_ 28 51 impl_SetRight.q35 HT_.out ?_
             refine pn_ 29 52 impl_SetRight.q36 HT_.out ?_
             refine pn_ 30 53 impl_SetRight.q37 HT_.out ?_
             refine pn_ 31 54 impl_SetRight.q26 HT_.out ?_
             refine pn_ 32 55 impl_SetRight.q27 HT_.out ?_
             refine pn_ 33 56 impl_SetRight.q28 HT_.out ?_
             refine pn_ 34 57 impl_SetRight.q29 HT_.out ?_
             refine pn_ 35 58 impl_SetRight.q30 HT_.out ?_
             refine pu_ 36 59 impl_SetRight.q31 HT_.out ?_
             refine done_ (done_of HT_.out (by kernel_rfl)) ?_
             try go_wp2
             go_meet
             case rel => exact ⟨_, (true), (z2_), H', ⟨z33_ HJ1.out HK2.out⟩, ⟨z9_ BK760.out⟩, ⟨z9_ BK763.out⟩, ⟨z6_ HB.out GE760.out GE763.out⟩⟩
           ·replace c23 := Bool.eq_false_iff.mpr c23
            subst c23
            have H1 : (impl_SetRight.j2 k2 l0_1 (l0_1.length : Int) x18_2 true l0_0 l0_1) = some r := by rw [if_neg (show ¬ (false = true) by decide)] at H; exact H
            clear H
            have H := H1
            clear H1
            have H' := Aside0.mk H
            clear H
            try go_wp2
            have n0_ : Aside0 (((((w17.setCell ⟨gb763, 0, none⟩ (.int .i64 ((rd_T158 l0_1 x18_2).f0.f0))).setCell ⟨gb763, 1, none⟩ (.int .i64 ((rd_T158 l0_1 x18_2).f0.f1))).setCell ⟨gb763, 2, none⟩ (.bool ((rd_T158 l0_1 x18_2).f1))).setCell ⟨gb763, 3, none⟩ (.string ((rd_T158 l0_1 x18_2).f2))).heap[gb760]? = some (.cells #[.slice A0_0 l0_0.length c0_0, .slice (some ad762) l0_1.length c0_1] 60 (0, 0))) := ⟨z18_ NB760_763.out BK760.out⟩
            have n1_ : Aside0 (((((w17.setCell ⟨gb763, 0, none⟩ (.int .i64 ((rd_T158 l0_1 x18_2).f0.f0))).setCell ⟨gb763, 1, none⟩ (.int .i64 ((rd_T158 l0_1 x18_2).f0.f1))).setCell ⟨gb763, 2, none⟩ (.bool ((rd_T158 l0_1 x18_2).f1))).setCell ⟨gb763, 3, none⟩ (.string ((rd_T158 l0_1 x18_2).f2))).heap[gb763]? = some (.cells #[.int .i64 ((rd_T158 l0_1 x18_2).f0.f0), .int .i64 ((rd_T158 l0_1 x18_2).f0.f1), .bool ((rd_T158 l0_1 x18_2).f1), .string ((rd_T158 l0_1 x18_2).f2)] 158 (0, 0))) := ⟨z22_ BK763.out⟩
            have n2_ : Aside0 (Below w.heap.size w ((((w17.setCell ⟨gb763, 0, none⟩ (.int .i64 ((rd_T158 l0_1 x18_2).f0.f0))).setCell ⟨gb763, 1, none⟩ (.int .i64 ((rd_T158 l0_1 x18_2).f0.f1))).setCell ⟨gb763, 2, none⟩ (.bool ((rd_T158 l0_1 x18_2).f1))).setCell ⟨gb763, 3, none⟩ (.string ((rd_T158 l0_1 x18_2).f2)))) := ⟨z6_ HB.out GE760.out GE763.out⟩
            (try clear BK760)
            (try clear BK763)
            (try clear HB)
            generalize ((((w17.setCell ⟨gb763, 0, none⟩ (.int .i64 ((rd_T158 l0_1 x18_2).f0.f0))).setCell ⟨gb763, 1, none⟩ (.int .i64 ((rd_T158 l0_1 x18_2).f0.f1))).setCell ⟨gb763, 2, none⟩ (.bool ((rd_T158 l0_1 x18_2).f1))).setCell ⟨gb763, 3, none⟩ (.string ((rd_T158 l0_1 x18_2).f2))) = w44 at n0_ n1_ n2_ ⊢
            have BK760 := n0_
            have BK763 := n1_
            have HB := n2_
            clear n0_ n1_ n2_
            have n_ := as3_ (blk_drew BK760.out) (blk_drew BK763.out) (below_drew1 HB.out)
            clear BK760 BK763 HB
            have ⟨BK760, BK763, HB⟩ := n_
            clear n_
            refine start_ (n := 37) (S := fun w' => w'.cell? ⟨gb763, 0, none⟩ = some (.int .i64 ((rd_T158 l0_1 x18_2).f0.f0)) ∧ w'.cell? ⟨gb763, 1, none⟩ = some (.int .i64 ((rd_T158 l0_1 x18_2).f0.f1)) ∧ w'.cell? ⟨gb763, 2, none⟩ = some (.bool ((rd_T158 l0_1 x18_2).f1)) ∧ w'.cell? ⟨gb763, 3, none⟩ = some (.string ((rd_T158 l0_1 x18_2).f2)) ∧ w'.cell? ⟨gb760, 0, none⟩ = some (.slice A0_0 l0_0.length c0_0) ∧ w'.cell? ⟨gb760, 1, none⟩ = some (.slice (some ad762) l0_1.length c0_1)) (ds := []) impl_SetRight.q0 (by kernel_rfl) rfl rfl ⟨(blk_cell BK763.out 0).trans rfl, (blk_cell BK763.out 1).trans rfl, (blk_cell BK763.out 2).trans rfl, (blk_cell BK763.out 3).trans rfl, (blk_cell BK760.out 0).trans rfl, (blk_cell BK760.out 1).trans rfl⟩ (fun hHeld => ?_); refine with_tabW impl_SetRight.tab6 impl_SetRight.bits6 (fun HT_ HW_ => ?_)
            generalize w44.drew = w45 at BK760 BK763 HB hHeld ⊢
            refine pu_ 0 23 impl_SetRight.q1 HT_.out ?_
            refine tk6_ 1 24 impl_SetRight.q2 HT_.out HW_.out hHeld ?_
            refine one_ (i := 2) (N := some 25) impl_SetRight.q3 rfl rfl (one_of HT_.out (by kernel_rfl)) (by decide) (fun K hK => ?_)
            refine goes_ Try.func88 (by kernel_rfl) rfl #[.agg #[.int .i64 ((rd_T158 l0_1 x18_2).f0.f0), .int .i64 ((rd_T158 l0_1 x18_2).f0.f1)]] (by rfl) rfl rfl (z0_) ?_
            with_reducible refine (impl_isDot.calls ((rd_T158 l0_1 x18_2).f0.f0) ((rd_T158 l0_1 x18_2).f0.f1) true _ A20.out).mono ?_
            rintro e w46 ⟨rfl, hb⟩
            refine ⟨_, rfl, ?_⟩
            have n_ := as3_ (blkB_ BK760.out hb) (blkB_ BK763.out hb) (below_step (z6_ HB.out GE760.out GE763.out) hb)
            clear BK760 BK763 HB
            have ⟨BK760, BK763, HB⟩ := n_
            clear n_
            (try clear hb)
            (try clear hb2)
            (try clear hk)
            (try clear hi)
            refine hK.out _ _ ⟨(blk_cell BK763.out 0).trans rfl, (blk_cell BK763.out 1).trans rfl, (blk_cell BK763.out 2).trans rfl, (blk_cell BK763.out 3).trans rfl, (blk_cell BK760.out 0).trans rfl, (blk_cell BK760.out 1).trans rfl⟩ (fun hHeld => ?_)
            clear hK K
            refine norm_ (a' := ?_) ?_ ?_
            rotate_left
            ·show Act.put _ (some 25) _ = _
             simp only [Act.put, sa_, s0_, ss_, i64_w, i32_w]
             rfl
            refine pu_ 3 26 impl_SetRight.q4 HT_.out ?_
            refine pu_ 4 27 impl_SetRight.q5 HT_.out ?_
            refine pu_ 5 28 impl_SetRight.q6 HT_.out ?_
            refine pu_ 7 30 impl_SetRight.q7 HT_.out ?_
            refine tk6_ 6 29 impl_SetRight.q8 HT_.out HW_.out hHeld ?_
            refine tk6_ 8 31 impl_SetRight.q9 HT_.out HW_.out hHeld ?_
            refine one_ (i := 9) (N := some 32) impl_SetRight.q10 rfl rfl (one_of HT_.out (by kernel_rfl)) (by decide) (fun K hK => ?_)
            refine goes_ Try.func101 (by kernel_rfl) rfl #[.slice A0_0 l0_0.length c0_0, .agg #[.int .i64 ((rd_T158 l0_1 x18_2).f0.f0), .int .i64 ((rd_T158 l0_1 x18_2).f0.f1)]] (by rfl) rfl rfl (z0_) ?_
            with_reducible refine (impl_seenHas.calls k2 _ _ l0_0 ((rd_T158 l0_1 x18_2).f0.f0) ((rd_T158 l0_1 x18_2).f0.f1) false _ ?side1 ?side2 A22.out).mono ?_
            (case side1 => exact z12_ HR0_0.out HB.out)
            (case side2 => exact HC0_0.out)
            rintro e w47 ⟨rfl, hb⟩
            refine ⟨_, rfl, ?_⟩
            have n_ := as3_ (blkB_ BK760.out hb) (blkB_ BK763.out hb) (below_step (z6_ HB.out GE760.out GE763.out) hb)
            clear BK760 BK763 HB
            have ⟨BK760, BK763, HB⟩ := n_
            clear n_
            (try clear hb)
            (try clear hb2)
            (try clear hk)
            (try clear hi)
            refine hK.out _ _ ⟨(blk_cell BK763.out 0).trans rfl, (blk_cell BK763.out 1).trans rfl, (blk_cell BK763.out 2).trans rfl, (blk_cell BK763.out 3).trans rfl, (blk_cell BK760.out 0).trans rfl, (blk_cell BK760.out 1).trans rfl⟩ (fun hHeld => ?_)
            clear hK K
            refine norm_ (a' := ?_) ?_ ?_
            rotate_left
            ·show Act.put _ (some 32) _ = _
             simp only [Act.put, sa_, s0_, ss_, i64_w, i32_w]
             rfl
            refine pu_ 10 33 impl_SetRight.q11 HT_.out ?_
            refine pu_ 11 34 impl_SetRight.q12 HT_.out ?_
            refine pu_ 12 35 impl_SetRight.q13 HT_.out ?_
            refine pn_ 13 36 impl_SetRight.q14 HT_.out ?_
            refine pn_ 14 37 impl_SetRight.q38 HT_.out ?_
            refine pn_ 15 38 impl_SetRight.q16 HT_.out ?_
            refine pn_ 16 39 impl_SetRight.q17 HT_.out ?_
            refine pn_ 17 40 impl_SetRight.q18 HT_.out ?_
            refine pn_ 18 41 impl_SetRight.q19 HT_.out ?_
            refine pu_ 19 42 impl_SetRight.q20 HT_.out ?_
            refine pu_ 20 43 impl_SetRight.q21 HT_.out ?_
            refine pn_ 21 44 impl_SetRight.q22 HT_.out ?_
            refine pn_ 22 45 impl_SetRight.q23 HT_.out ?_
            refine pn_ 23 46 impl_SetRight.q24 HT_.out ?_
            refine pn_ 24 47 impl_SetRight.q25 HT_.out ?_
            refine pn_ 25 48 impl_SetRight.q32 HT_.out ?_
            refine pn_ 26 49 impl_SetRight.q33 HT_.out ?_
            refine pn_ 27 50 impl_SetRight.q34 HT_.out ?_
            refine pn_ 28 51 impl_SetRight.q35 HT_.out ?_
            refine pn_ 29 52 impl_SetRight.q36 HT_.out ?_
            refine pn_ 30 53 impl_SetRight.q37 HT_.out ?_
            refine pn_ 31 54 impl_SetRight.q26 HT_.out ?_
            refine pn_ 32 55 impl_SetRight.q27 HT_.out ?_
            refine pn_ 33 56 impl_SetRight.q28 HT_.out ?_
            refine pn_ 34 57 impl_SetRight.q29 HT_.out ?_
            refine pn_ 35 58 impl_SetRight.q30 HT_.out ?_
            refine pu_ 36 59 impl_SetRight.q31 HT_.out ?_
            refine done_ (done_of HT_.out (by kernel_rfl)) ?_
            try go_wp2
            go_meet
            case rel => exact ⟨_, (true), (z2_), H', ⟨z33_ HJ1.out HK2.out⟩, ⟨z9_ BK760.out⟩, ⟨z9_ BK763.out⟩, ⟨z6_ HB.out GE760.out GE763.out⟩⟩
          ·replace c21 := Bool.eq_false_iff.mpr c21
           subst c21
           have H1 : (impl_SetRight.j2 k2 l0_1 (l0_1.length : Int) x18_2 true l0_0 l0_1) = some r := by rw [if_neg (show ¬ (false = true) by decide)] at H; exact H
           clear H
           have H := H1
           clear H1
           have H' := Aside0.mk H
           clear H
           try go_wp2
           have n0_ : Aside0 (((((w17.setCell ⟨gb763, 0, none⟩ (.int .i64 ((rd_T158 l0_1 x18_2).f0.f0))).setCell ⟨gb763, 1, none⟩ (.int .i64 ((rd_T158 l0_1 x18_2).f0.f1))).setCell ⟨gb763, 2, none⟩ (.bool ((rd_T158 l0_1 x18_2).f1))).setCell ⟨gb763, 3, none⟩ (.string ((rd_T158 l0_1 x18_2).f2))).heap[gb760]? = some (.cells #[.slice A0_0 l0_0.length c0_0, .slice (some ad762) l0_1.length c0_1] 60 (0, 0))) := ⟨z18_ NB760_763.out BK760.out⟩
           have n1_ : Aside0 (((((w17.setCell ⟨gb763, 0, none⟩ (.int .i64 ((rd_T158 l0_1 x18_2).f0.f0))).setCell ⟨gb763, 1, none⟩ (.int .i64 ((rd_T158 l0_1 x18_2).f0.f1))).setCell ⟨gb763, 2, none⟩ (.bool ((rd_T158 l0_1 x18_2).f1))).setCell ⟨gb763, 3, none⟩ (.string ((rd_T158 l0_1 x18_2).f2))).heap[gb763]? = some (.cells #[.int .i64 ((rd_T158 l0_1 x18_2).f0.f0), .int .i64 ((rd_T158 l0_1 x18_2).f0.f1), .bool ((rd_T158 l0_1 x18_2).f1), .string ((rd_T158 l0_1 x18_2).f2)] 158 (0, 0))) := ⟨z22_ BK763.out⟩
           have n2_ : Aside0 (Below w.heap.size w ((((w17.setCell ⟨gb763, 0, none⟩ (.int .i64 ((rd_T158 l0_1 x18_2).f0.f0))).setCell ⟨gb763, 1, none⟩ (.int .i64 ((rd_T158 l0_1 x18_2).f0.f1))).setCell ⟨gb763, 2, none⟩ (.bool ((rd_T158 l0_1 x18_2).f1))).setCell ⟨gb763, 3, none⟩ (.string ((rd_T158 l0_1 x18_2).f2)))) := ⟨z6_ HB.out GE760.out GE763.out⟩
           (try clear BK760)
           (try clear BK763)
           (try clear HB)
           generalize ((((w17.setCell ⟨gb763, 0, none⟩ (.int .i64 ((rd_T158 l0_1 x18_2).f0.f0))).setCell ⟨gb763, 1, none⟩ (.int .i64 ((rd_T158 l0_1 x18_2).f0.f1))).setCell ⟨gb763, 2, none⟩ (.bool ((rd_T158 l0_1 x18_2).f1))).setCell ⟨gb763, 3, none⟩ (.string ((rd_T158 l0_1 x18_2).f2))) = w48 at n0_ n1_ n2_ ⊢
           have BK760 := n0_
           have BK763 := n1_
           have HB := n2_
           clear n0_ n1_ n2_
           have n_ := as3_ (blk_drew BK760.out) (blk_drew BK763.out) (below_drew1 HB.out)
           clear BK760 BK763 HB
           have ⟨BK760, BK763, HB⟩ := n_
           clear n_
           refine start_ (n := 37) (S := fun w' => w'.cell? ⟨gb763, 0, none⟩ = some (.int .i64 ((rd_T158 l0_1 x18_2).f0.f0)) ∧ w'.cell? ⟨gb763, 1, none⟩ = some (.int .i64 ((rd_T158 l0_1 x18_2).f0.f1)) ∧ w'.cell? ⟨gb763, 2, none⟩ = some (.bool ((rd_T158 l0_1 x18_2).f1)) ∧ w'.cell? ⟨gb763, 3, none⟩ = some (.string ((rd_T158 l0_1 x18_2).f2))) (ds := []) impl_SetRight.q0 (by kernel_rfl) rfl rfl ⟨(blk_cell BK763.out 0).trans rfl, (blk_cell BK763.out 1).trans rfl, (blk_cell BK763.out 2).trans rfl, (blk_cell BK763.out 3).trans rfl⟩ (fun hHeld => ?_); refine with_tabW impl_SetRight.tab6 impl_SetRight.bits6 (fun HT_ HW_ => ?_)
           generalize w48.drew = w49 at BK760 BK763 HB hHeld ⊢
           refine pu_ 0 23 impl_SetRight.q1 HT_.out ?_
           refine tk4_ 1 24 impl_SetRight.q2 HT_.out HW_.out hHeld ?_
           refine one_ (i := 2) (N := some 25) impl_SetRight.q3 rfl rfl (one_of HT_.out (by kernel_rfl)) (by decide) (fun K hK => ?_)
           refine goes_ Try.func88 (by kernel_rfl) rfl #[.agg #[.int .i64 ((rd_T158 l0_1 x18_2).f0.f0), .int .i64 ((rd_T158 l0_1 x18_2).f0.f1)]] (by rfl) rfl rfl (z0_) ?_
           with_reducible refine (impl_isDot.calls ((rd_T158 l0_1 x18_2).f0.f0) ((rd_T158 l0_1 x18_2).f0.f1) false _ A20.out).mono ?_
           rintro e w50 ⟨rfl, hb⟩
           refine ⟨_, rfl, ?_⟩
           have n_ := as3_ (blkB_ BK760.out hb) (blkB_ BK763.out hb) (below_step (z6_ HB.out GE760.out GE763.out) hb)
           clear BK760 BK763 HB
           have ⟨BK760, BK763, HB⟩ := n_
           clear n_
           (try clear hb)
           (try clear hb2)
           (try clear hk)
           (try clear hi)
           refine hK.out _ _ ⟨(blk_cell BK763.out 0).trans rfl, (blk_cell BK763.out 1).trans rfl, (blk_cell BK763.out 2).trans rfl, (blk_cell BK763.out 3).trans rfl⟩ (fun hHeld => ?_)
           clear hK K
           refine norm_ (a' := ?_) ?_ ?_
           rotate_left
           ·show Act.put _ (some 25) _ = _
            simp only [Act.put, sa_, s0_, ss_, i64_w, i32_w]
            rfl
           refine pu_ 3 26 impl_SetRight.q4 HT_.out ?_
           refine pu_ 4 27 impl_SetRight.q5 HT_.out ?_
           refine pn_ 5 28 impl_SetRight.q6 HT_.out ?_
           refine pn_ 6 29 #[true, true, true, true, true, true, true, false, false, false, false, false, false, false, false, false, false, false, false, false, false, false, false, false, false, false, false, false, false, false, false, false, false, false, false, false, false] HT_.out ?_
           refine pn_ 7 30 impl_SetRight.q8 HT_.out ?_
           refine pn_ 8 31 impl_SetRight.q9 HT_.out ?_
           refine pn_ 9 32 impl_SetRight.q10 HT_.out ?_
           refine pn_ 10 33 impl_SetRight.q11 HT_.out ?_
           refine pu_ 11 34 impl_SetRight.q12 HT_.out ?_
           refine pu_ 12 35 impl_SetRight.q13 HT_.out ?_
           refine pn_ 13 36 impl_SetRight.q14 HT_.out ?_
           refine pn_ 14 37 impl_SetRight.q38 HT_.out ?_
           refine pn_ 15 38 impl_SetRight.q16 HT_.out ?_
           refine pn_ 16 39 impl_SetRight.q17 HT_.out ?_
           refine pn_ 17 40 impl_SetRight.q18 HT_.out ?_
           refine pn_ 18 41 impl_SetRight.q19 HT_.out ?_
           refine pu_ 19 42 impl_SetRight.q20 HT_.out ?_
           refine pu_ 20 43 impl_SetRight.q21 HT_.out ?_
           refine pn_ 21 44 impl_SetRight.q22 HT_.out ?_
           refine pn_ 22 45 impl_SetRight.q23 HT_.out ?_
           refine pn_ 23 46 impl_SetRight.q24 HT_.out ?_
           refine pn_ 24 47 impl_SetRight.q25 HT_.out ?_
           refine pn_ 25 48 impl_SetRight.q32 HT_.out ?_
           refine pn_ 26 49 impl_SetRight.q33 HT_.out ?_
           refine pn_ 27 50 impl_SetRight.q34 HT_.out ?_
           refine pn_ 28 51 impl_SetRight.q35 HT_.out ?_
           refine pn_ 29 52 impl_SetRight.q36 HT_.out ?_
           refine pn_ 30 53 impl_SetRight.q37 HT_.out ?_
           refine pn_ 31 54 impl_SetRight.q26 HT_.out ?_
           refine pn_ 32 55 impl_SetRight.q27 HT_.out ?_
           refine pn_ 33 56 impl_SetRight.q28 HT_.out ?_
           refine pn_ 34 57 impl_SetRight.q29 HT_.out ?_
           refine pn_ 35 58 impl_SetRight.q30 HT_.out ?_
           refine pu_ 36 59 impl_SetRight.q31 HT_.out ?_
           refine done_ (done_of HT_.out (by kernel_rfl)) ?_
           try go_wp2
           go_meet
           case rel => exact ⟨_, (true), (z2_), H', ⟨z33_ HJ1.out HK2.out⟩, ⟨z9_ BK760.out⟩, ⟨z9_ BK763.out⟩, ⟨z6_ HB.out GE760.out GE763.out⟩⟩
         case rest =>
          clear HC16
          try clear c1
          try clear c2
          try clear p2
          try clear c8
          try clear c10
          try clear c21
          try clear c23
          obtain ⟨kq, x59_15, rfl, HA, HJ15, BK760, BK763, HB⟩ := hcut
          cases kq with
          | zero => exact absurd HA.out (by simp [impl_SetRight.j2])
          | succ kj15 =>
           have H := HA.out
           clear HA
           simp only [impl_SetRight.j2] at H
           by_cases c51 : x59_15 = true
           ·subst c51
            have H1 : (some false) = some r := by rw [if_pos rfl] at H; exact H
            clear H
            have H := H1
            clear H1
            obtain rfl := Option.some.inj H
            go_wp2
            go_ret
            exact ⟨z8_, z6_ HB.out GE760.out GE763.out⟩
           ·replace c51 := Bool.eq_false_iff.mpr c51
            subst c51
            have H1 : (impl_SetRight.l0 kj15 l0_1 (l0_1.length : Int) (wrap64 (x18_2 + 1)) l0_0 l0_1) = some r := by rw [if_neg (show ¬ (false = true) by decide)] at H; exact H
            clear H
            have H := H1
            clear H1
            have H' := Aside0.mk H
            clear H
            go_wp2
            go_roundg kj15
            case measure => have := HJ1.out; have := HK2.out; have := HJ15.out; omega
            case rel => exact ⟨(wrap64 (x18_2 + 1)), (z2_), H', ⟨by have := HJ1.out; have := HK2.out; have := HJ15.out; omega⟩, ⟨z9_ BK760.out⟩, ⟨z6_ HB.out GE760.out GE763.out⟩⟩
        ·rw [if_neg c15] at H
         exact absurd H (by simp)
       ·rw [if_neg c14] at H
        exact absurd H (by simp)
      ·rw [if_neg c13] at H
       have c13b0 : decide (x18_2 < (l0_1.length : Int)) = false := decide_eq_false c13
       clear c13
       obtain rfl := Option.some.inj H
       go_wp2
       go_ret
       exact ⟨z8_, z1_ HB.out GE760.out⟩

end Go.Proofs.Ytconpopbpphpgaa.P
