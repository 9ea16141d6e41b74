/- For all texts the program's SetRead and the reference's return the same, of its own memory. No condition. (Part 2 of 5: written by programs of this workplace and by hand, merged.) -/
import Derived.Test.YtconpopbpphpgaaMFnExactSetReada
set_option linter.unusedVariables false
set_option linter.unusedSimpArgs false

namespace Go.Proofs.Ytconpopbpphpgaa.P
open Go.RowKit Go.Proofs.YtconpopbpphpgaaW.PrintWords Go.Proofs.YtconpopbpphpgaaW.PrintLast Go.Proofs.YtconpopbpphpgaaW.PrintMore
attribute [local go_sem] max2_int min2_int max_two min_two max_three min_three max_four min_four   -- for this text's walks alone
set_option linter.unusedVariables false
set_option linter.unusedSimpArgs false

/-! ### spec_SetRight: function 106 -/
mutual
def spec_SetRight.j0 : Nat → Bool → List (S33) → List (S158) → Option (Bool)
 | 0, _, _, _ => none
 | k + 1, x14, x619000, x619001 => if x14 = true then (some false) else (spec_SetRight.l0 k 0 x619000 x619001)
def spec_SetRight.l0 : Nat → Int → List (S33) → List (S158) → Option (Bool)
 | 0, _, _, _ => none
 | k + 1, x3, x619000, x619001 => if x3 < (x619001.length : Int) then (if 0 ≤ x3 then ((spec_SeenHas.f k x619000 ((rd_T158 x619001 x3).f0.f0) ((rd_T158 x619001 x3).f0.f1)).bind fun t622 => (if t622 = true then (if (((rd_T158 x619001 x3).f2).size : Int) > 16 then (some false) else (if (rd_T158 x619001 x3).f1 = true then (if ((rd_T158 x619001 x3).f2).toList = ([] : List UInt8) then (if x3 > 0 then (if 0 ≤ (wrap64 (x3 - 1)) then (if (wrap64 (x3 - 1)) < (x619001.length : Int) then ((spec_l03Less.f ((rd_T158 x619001 (wrap64 (x3 - 1))).f0.f0) ((rd_T158 x619001 (wrap64 (x3 - 1))).f0.f1) ((rd_T158 x619001 x3).f0.f0) ((rd_T158 x619001 x3).f0.f1)).bind fun t624 => (if t624 = true then (spec_SetRight.l0 k (wrap64 (x3 + 1)) x619000 x619001) else (some false))) else (none)) else (none)) else (spec_SetRight.l0 k (wrap64 (x3 + 1)) x619000 x619001)) else (some false)) else (if x3 > 0 then (if 0 ≤ (wrap64 (x3 - 1)) then (if (wrap64 (x3 - 1)) < (x619001.length : Int) then ((spec_l03Less.f ((rd_T158 x619001 (wrap64 (x3 - 1))).f0.f0) ((rd_T158 x619001 (wrap64 (x3 - 1))).f0.f1) ((rd_T158 x619001 x3).f0.f0) ((rd_T158 x619001 x3).f0.f1)).bind fun t626 => (if t626 = true then (spec_SetRight.l0 k (wrap64 (x3 + 1)) x619000 x619001) else (some false))) else (none)) else (none)) else (spec_SetRight.l0 k (wrap64 (x3 + 1)) x619000 x619001)))) else (some false))) else (none)) else (some true)
end
def spec_SetRight.f (k : Nat) (l0_0 : List (S33)) (l0_1 : List (S158)) : Option (Bool) := (spec_SeenRight.f k l0_0).bind fun t619 => (if t619 = true then (spec_SetRight.j0 k (decide ((l0_1.length : Int) > 8)) l0_0 l0_1) else (spec_SetRight.j0 k true l0_0 l0_1))
theorem spec_SetRight.mono_l : ∀ k, (∀ y0 y1 y2, LeO (spec_SetRight.j0 k y0 y1 y2) (spec_SetRight.j0 (k + 1) y0 y1 y2)) ∧ (∀ y0 y1 y2, LeO (spec_SetRight.l0 k y0 y1 y2) (spec_SetRight.l0 (k + 1) y0 y1 y2))
 | 0 => ⟨fun _ _ _ r h => by simp [spec_SetRight.j0] at h, fun _ _ _ r h => by simp [spec_SetRight.l0] at h⟩
 | k + 1 => by
  obtain ⟨ih0, ih1⟩ := spec_SetRight.mono_l k
  refine ⟨?_, ?_⟩
  ·intro y0 y1 y2
   unfold spec_SetRight.j0
   repeat' first
   | (with_reducible exact ih0 _ _ _)
   | (with_reducible exact ih1 _ _ _)
   | (with_reducible exact spec_SeenHas.mono _ _ _ _)
   | (with_reducible exact spec_SeenRight.mono _ _)
   | (with_reducible exact LeO.refl _)
   | (with_reducible exact LeO.none _)
   | (with_reducible refine LeO.ite ?_ ?_)
   | (with_reducible refine LeO.bind ?_ (fun _ => ?_))
   | exact ih0 _ _ _
   | exact ih1 _ _ _
   | exact spec_SeenHas.mono _ _ _ _
   | exact spec_SeenRight.mono _ _
   | exact LeO.none _
   | refine LeO.ite ?_ ?_
   | refine LeO.bind ?_ (fun _ => ?_)
  ·intro y0 y1 y2
   unfold spec_SetRight.l0
   repeat' first
   | (with_reducible exact ih0 _ _ _)
   | (with_reducible exact ih1 _ _ _)
   | (with_reducible exact spec_SeenHas.mono _ _ _ _)
   | (with_reducible exact spec_SeenRight.mono _ _)
   | (with_reducible exact LeO.refl _)
   | (with_reducible exact LeO.none _)
   | (with_reducible refine LeO.ite ?_ ?_)
   | (with_reducible refine LeO.bind ?_ (fun _ => ?_))
   | exact ih0 _ _ _
   | exact ih1 _ _ _
   | exact spec_SeenHas.mono _ _ _ _
   | exact spec_SeenRight.mono _ _
   | exact LeO.none _
   | refine LeO.ite ?_ ?_
   | refine LeO.bind ?_ (fun _ => ?_)
theorem spec_SetRight.mono : ∀ a0 a1 k, LeO (spec_SetRight.f k a0 a1) (spec_SetRight.f (k + 1) a0 a1) := by
 intro a0 a1 k
 obtain ⟨ih0, ih1⟩ := spec_SetRight.mono_l k
 unfold spec_SetRight.f
 repeat' first
   | (with_reducible exact ih0 _ _ _)
   | (with_reducible exact ih1 _ _ _)
   | (with_reducible exact spec_SeenHas.mono _ _ _ _)
   | (with_reducible exact spec_SeenRight.mono _ _)
   | (with_reducible exact LeO.refl _)
   | (with_reducible exact LeO.none _)
   | (with_reducible refine LeO.ite ?_ ?_)
   | (with_reducible refine LeO.bind ?_ (fun _ => ?_))
   | exact ih0 _ _ _
   | exact ih1 _ _ _
   | exact spec_SeenHas.mono _ _ _ _
   | exact spec_SeenRight.mono _ _
   | exact LeO.none _
   | refine LeO.ite ?_ ?_
   | refine LeO.bind ?_ (fun _ => ?_)
def spec_SetRight.T7 : Bool × List (List Nat × List Nat) := (true, [([], []), ([0], [0]), ([], []), ([2], [2]), ([1, 3], [1, 3]), ([4], [4]), ([5, 4], [5]), ([6], [6]), ([7, 6], [6, 7]), ([8, 6], [6, 8]), ([9, 6], [6, 9]), ([6, 10], [6, 10]), ([11, 6], [11]), ([12], [12]), ([13, 12], [12, 13]), ([14, 12, 12], [12, 14]), ([15], [15]), ([16, 15], [15, 16]), ([17, 15], [15, 17]), ([15, 18, 12], [12, 15, 18]), ([12, 19], [12, 19]), ([20, 15], [20]), ([21], [21]), ([22, 21], [21, 22]), ([23, 21, 21], [21, 23]), ([24], [24]), ([25, 24], [24, 25]), ([24], [24]), ([27, 24], [24, 27]), ([26, 28, 24], [24, 26, 28]), ([29, 24], [24, 29]), ([30, 24], [24, 30]), ([24], [24]), ([32, 24], [24, 32]), ([31, 33, 24, 24], [24, 31, 33]), ([34, 24], [24, 34]), ([24, 35, 21], [21, 24, 35]), ([21, 36], [21, 36])])
def spec_SetRight.B7 : List Nat := [0, 1, 0, 4, 15, 31, 63, 127, 255, 511, 1023, 2047, 4095, 8191, 16383, 32767, 65535, 131071, 262143, 524287, 1048575, 2097151, 4194303, 8388607, 16777215, 33554431, 67108863, 33554431, 167772159, 536870911, 1073741823, 2147483647, 33554431, 4328521727, 17179869183, 34359738367, 68719476735, 137438953471]
theorem spec_SetRight.tab7 : rtab .any (opsOf Try.f106 7) = spec_SetRight.T7 := by kernel_rfl
theorem spec_SetRight.bits7 : waitsOk spec_SetRight.T7.2 spec_SetRight.B7 = true := by kernel_rfl
abbrev spec_SetRight.q0 : Array Bool := #[false, false, false, false, false, false, false, false, false, false, false, false, false, false, false, false, false, false, false, false, false, false, false, false, false, false, false, false, false, false, false, false, false, false, false, false, false, false]
abbrev spec_SetRight.q1 : Array Bool := #[true, false, false, false, false, false, false, false, false, false, false, false, false, false, false, false, false, false, false, false, false, false, false, false, false, false, false, false, false, false, false, false, false, false, false, false, false, false]
abbrev spec_SetRight.q2 : Array Bool := #[true, false, true, false, false, false, false, false, false, false, false, false, false, false, false, false, false, false, false, false, false, false, false, false, false, false, false, false, false, false, false, false, false, false, false, false, false, false]
abbrev spec_SetRight.q3 : Array Bool := #[true, true, true, false, false, false, false, false, false, false, false, false, false, false, false, false, false, false, false, false, false, false, false, false, false, false, false, false, false, false, false, false, false, false, false, false, false, false]
abbrev spec_SetRight.q4 : Array Bool := #[true, true, true, true, false, false, false, false, false, false, false, false, false, false, false, false, false, false, false, false, false, false, false, false, false, false, false, false, false, false, false, false, false, false, false, false, false, false]
abbrev spec_SetRight.q5 : Array Bool := #[true, true, true, true, true, false, false, false, false, false, false, false, false, false, false, false, false, false, false, false, false, false, false, false, false, false, false, false, false, false, false, false, false, false, false, false, false, false]
abbrev spec_SetRight.q6 : Array Bool := #[true, true, true, true, true, true, false, false, false, false, false, false, false, false, false, false, false, false, false, false, false, false, false, false, false, false, false, false, false, false, false, false, false, false, false, false, false, false]
abbrev spec_SetRight.q7 : Array Bool := #[true, true, true, true, true, true, true, false, false, false, false, false, false, false, false, false, false, false, false, false, false, false, false, false, false, false, false, false, false, false, false, false, false, false, false, false, false, false]
abbrev spec_SetRight.q8 : Array Bool := #[true, true, true, true, true, true, true, true, false, false, false, false, false, false, false, false, false, false, false, false, false, false, false, false, false, false, false, false, false, false, false, false, false, false, false, false, false, false]
abbrev spec_SetRight.q9 : Array Bool := #[true, true, true, true, true, true, true, true, true, false, false, false, false, false, false, false, false, false, false, false, false, false, false, false, false, false, false, false, false, false, false, false, false, false, false, false, false, false]
abbrev spec_SetRight.q10 : Array Bool := #[true, true, true, true, true, true, true, true, true, true, false, false, false, false, false, false, false, false, false, false, false, false, false, false, false, false, false, false, false, false, false, false, false, false, false, false, false, false]
abbrev spec_SetRight.q11 : Array Bool := #[true, true, true, true, true, true, true, true, true, true, true, false, false, false, false, false, false, false, false, false, false, false, false, false, false, false, false, false, false, false, false, false, false, false, false, false, false, false]
abbrev spec_SetRight.q12 : Array Bool := #[true, true, true, true, true, true, true, true, true, true, true, true, false, false, false, false, false, false, false, false, false, false, false, false, false, false, false, false, false, false, false, false, false, false, false, false, false, false]
abbrev spec_SetRight.q13 : Array Bool := #[true, true, true, true, true, true, true, true, true, true, true, true, true, false, false, false, false, false, false, false, false, false, false, false, false, false, false, false, false, false, false, false, false, false, false, false, false, false]
abbrev spec_SetRight.q14 : Array Bool := #[true, true, true, true, true, true, true, true, true, true, true, true, true, true, false, false, false, false, false, false, false, false, false, false, false, false, false, false, false, false, false, false, false, false, false, false, false, false]
abbrev spec_SetRight.q15 : Array Bool := #[true, true, true, true, true, true, true, true, true, true, true, true, true, true, true, false, false, false, false, false, false, false, false, false, false, false, false, false, false, false, false, false, false, false, false, false, false, false]
abbrev spec_SetRight.q16 : Array Bool := #[true, true, true, true, true, true, true, true, true, true, true, true, true, true, true, true, false, false, false, false, false, false, false, false, false, false, false, false, false, false, false, false, false, false, false, false, false, false]
abbrev spec_SetRight.q17 : Array Bool := #[true, true, true, true, true, true, true, true, true, true, true, true, true, true, true, true, true, false, false, false, false, false, false, false, false, false, false, false, false, false, false, false, false, false, false, false, false, false]
abbrev spec_SetRight.q18 : Array Bool := #[true, true, true, true, true, true, true, true, true, true, true, true, true, true, true, true, true, true, false, false, false, false, false, false, false, false, false, false, false, false, false, false, false, false, false, false, false, false]
abbrev spec_SetRight.q19 : Array Bool := #[true, true, true, true, true, true, true, true, true, true, true, true, true, true, true, true, true, true, true, false, false, false, false, false, false, false, false, false, false, false, false, false, false, false, false, false, false, false]
abbrev spec_SetRight.q20 : Array Bool := #[true, true, true, true, true, true, true, true, true, true, true, true, true, true, true, true, true, true, true, true, false, false, false, false, false, false, false, false, false, false, false, false, false, false, false, false, false, false]
abbrev spec_SetRight.q21 : Array Bool := #[true, true, true, true, true, true, true, true, true, true, true, true, true, true, true, true, true, true, true, true, true, false, false, false, false, false, false, false, false, false, false, false, false, false, false, false, false, false]
abbrev spec_SetRight.q22 : Array Bool := #[true, true, true, true, true, true, true, true, true, true, true, true, true, true, true, true, true, true, true, true, true, true, false, false, false, false, false, false, false, false, false, false, false, false, false, false, false, false]
abbrev spec_SetRight.q23 : Array Bool := #[true, true, true, true, true, true, true, true, true, true, true, true, true, true, true, true, true, true, true, true, true, true, true, false, false, false, false, false, false, false, false, false, false, false, false, false, false, false]
abbrev spec_SetRight.q24 : Array Bool := #[true, true, true, true, true, true, true, true, true, true, true, true, true, true, true, true, true, true, true, true, true, true, true, true, false, false, false, false, false, false, false, false, false, false, false, false, false, false]
abbrev spec_SetRight.q25 : Array Bool := #[true, true, true, true, true, true, true, true, true, true, true, true, true, true, true, true, true, true, true, true, true, true, true, true, true, false, false, false, false, false, false, false, false, false, false, false, false, false]
abbrev spec_SetRight.q26 : Array Bool := #[true, true, true, true, true, true, true, true, true, true, true, true, true, true, true, true, true, true, true, true, true, true, true, true, true, true, false, false, false, false, false, false, false, false, false, false, false, false]
abbrev spec_SetRight.q27 : Array Bool := #[true, true, true, true, true, true, true, true, true, true, true, true, true, true, true, true, true, true, true, true, true, true, true, true, true, true, true, false, false, false, false, false, false, false, false, false, false, false]
abbrev spec_SetRight.q28 : Array Bool := #[true, true, true, true, true, true, true, true, true, true, true, true, true, true, true, true, true, true, true, true, true, true, true, true, true, true, true, true, false, false, false, false, false, false, false, false, false, false]
abbrev spec_SetRight.q29 : Array Bool := #[true, true, true, true, true, true, true, true, true, true, true, true, true, true, true, true, true, true, true, true, true, true, true, true, true, true, true, true, true, false, false, false, false, false, false, false, false, false]
abbrev spec_SetRight.q30 : Array Bool := #[true, true, true, true, true, true, true, true, true, true, true, true, true, true, true, true, true, true, true, true, true, true, true, true, true, true, true, true, true, true, false, false, false, false, false, false, false, false]
abbrev spec_SetRight.q31 : Array Bool := #[true, true, true, true, true, true, true, true, true, true, true, true, true, true, true, true, true, true, true, true, true, true, true, true, true, true, true, true, true, true, true, false, false, false, false, false, false, false]
abbrev spec_SetRight.q32 : Array Bool := #[true, true, true, true, true, true, true, true, true, true, true, true, true, true, true, true, true, true, true, true, true, true, true, true, true, true, true, true, true, true, true, true, false, false, false, false, false, false]
abbrev spec_SetRight.q33 : Array Bool := #[true, true, true, true, true, true, true, true, true, true, true, true, true, true, true, true, true, true, true, true, true, true, true, true, true, true, true, true, true, true, true, true, true, false, false, false, false, false]
abbrev spec_SetRight.q34 : Array Bool := #[true, true, true, true, true, true, true, true, true, true, true, true, true, true, true, true, true, true, true, true, true, true, true, true, true, true, true, true, true, true, true, true, true, true, false, false, false, false]
abbrev spec_SetRight.q35 : Array Bool := #[true, true, true, true, true, true, true, true, true, true, true, true, true, true, true, true, true, true, true, true, true, true, true, true, true, true, true, true, true, true, true, true, true, true, true, false, false, false]
abbrev spec_SetRight.q36 : Array Bool := #[true, true, true, true, true, true, true, true, true, true, true, true, true, true, true, true, true, true, true, true, true, true, true, true, true, true, true, true, true, true, true, true, true, true, true, true, false, false]
abbrev spec_SetRight.q37 : Array Bool := #[true, true, true, true, true, true, true, true, true, true, true, true, true, true, true, true, true, true, true, true, true, true, true, true, true, true, true, true, true, true, true, true, true, true, true, true, true, false]
abbrev spec_SetRight.q38 : Array Bool := #[true, true, true, true, true, true, true, true, true, true, true, true, true, true, true, true, true, true, true, true, true, true, true, true, true, true, true, true, true, true, true, true, true, true, true, true, true, true]
abbrev spec_SetRight.q39 : Array Bool := #[true, true, true, true, true, true, true, true, true, true, true, true, true, true, true, true, true, true, true, true, true, true, true, true, true, true, false, true, false, false, false, false, false, false, false, false, false, false]
abbrev spec_SetRight.q40 : Array Bool := #[true, true, true, true, true, true, true, true, true, true, true, true, true, true, true, true, true, true, true, true, true, true, true, true, true, true, false, true, true, false, false, false, false, false, false, false, false, false]
abbrev spec_SetRight.q41 : Array Bool := #[true, true, true, true, true, true, true, true, true, true, true, true, true, true, true, true, true, true, true, true, true, true, true, true, true, true, false, true, true, false, false, false, true, false, false, false, false, false]
abbrev spec_SetRight.q42 : Array Bool := #[true, true, true, true, true, true, true, true, true, true, true, true, true, true, true, true, true, true, true, true, true, true, true, true, true, true, true, true, true, false, false, false, true, false, false, false, false, false]
abbrev spec_SetRight.q43 : Array Bool := #[true, true, true, true, true, true, true, true, true, true, true, true, true, true, true, true, true, true, true, true, true, true, true, true, true, true, true, true, true, true, false, false, true, false, false, false, false, false]
abbrev spec_SetRight.q44 : Array Bool := #[true, true, true, true, true, true, true, true, true, true, true, true, true, true, true, true, true, true, true, true, true, true, true, true, true, true, true, true, true, true, true, false, true, false, false, false, false, false]
set_option maxHeartbeats 8000000 in
set_option maxRecDepth 100000 in
theorem spec_SetRight.calls (k : Nat) (A0_0 : Option Addr) (c0_0 : Nat) (l0_0 : List (S33)) (A0_1 : Option Addr) (c0_1 : Nat) (l0_1 : List (S158)) (r : Bool) (w : World) (hr0_0 : Kd.C k33 w A0_0 l0_0.length l0_0) (hc0_0 : l0_0.length ≤ c0_0) (hr0_1 : Kd.C k158 w A0_1 l0_1.length l0_1) (hc0_1 : l0_1.length ≤ c0_1) (h : spec_SetRight.f k l0_0 l0_1 = some r) :
  Calls Try.prog 106 #[.agg #[.slice A0_0 l0_0.length c0_0, .slice A0_1 l0_1.length c0_1]] w fun e w' => e = .returned (.bool r) ∧ Below w.heap.size w w' := by
 have hu60 := Try.underlying60
 have hu158 := Try.underlying158
 have hu33 := Try.underlying33
 have HR0_0 := Aside0.mk hr0_0
 have HC0_0 := Aside0.mk hc0_0
 clear hr0_0 hc0_0
 have HR0_1 := Aside0.mk hr0_1
 have HC0_1 := Aside0.mk hc0_1
 clear hr0_1 hc0_1
 have HB := Aside0.mk (Below.refl w.heap.size w)
 have H : ((spec_SeenRight.f k l0_0).bind fun t619 => (if t619 = true then (spec_SetRight.j0 k (decide ((l0_1.length : Int) > 8)) l0_0 l0_1) else (spec_SetRight.j0 k true l0_0 l0_1))) = some r := h
 clear h
 have HC2 := Aside0.mk H
 clear H
 go_enter Try.func106, Try.ntmps106
 go_upto_region 1 with (first | ((with_reducible refine gate_dst (N := 1) rfl ?_); (try (refine gate_guard (by rfl) ?_; dsimp only)); refine box_event ?hg (N := 1) ?hd (cs := #[.slice A0_0 l0_0.length c0_0, .slice A0_1 l0_1.length c0_1]) (t := 60) ?hr ?_; (case hd => rfl); (case hg => rfl); (case hr => first | (go_simp; done) | (go_simp; rfl)); intro gb618 hg w3 hbox hb; have n_ := as4_ (below_step (z5_ HB.out) hb) (hbox) ((z7_ HB.out : w.heap.size ≤ gb618)) ((z7_ HB.out : w.heap.size ≤ gb618)); clear HB; have ⟨HB, BK618, GW618, GE618⟩ := n_; clear n_; clear hb hbox hg))
 (try simp only [Act.put, sa_, s0_, ss_])
 go_cut [14] (fun v14 wc => ∃ (kq : Nat) (x14_1 : Bool), v14 = .bool x14_1 ∧ Aside0 (spec_SetRight.j0 kq x14_1 l0_0 l0_1 = some r) ∧ Aside0 (kq ≤ k) ∧ Aside0 (wc.heap[gb618]? = some (.cells #[(.slice A0_0 l0_0.length c0_0), (.slice A0_1 l0_1.length c0_1)] 60 (0, 0))) ∧ Aside0 (Below w.heap.size w wc))
 case first =>
  have H := HC2.out
  clear HC2
  replace H := Option.bind_eq_some_iff.mp H
  obtain ⟨t619, A40, H⟩ := H
  replace H : (if t619 = true then (spec_SetRight.j0 k (decide ((l0_1.length : Int) > 8)) l0_0 l0_1) else (spec_SetRight.j0 k true l0_0 l0_1)) = some r := H
  have A4 := Aside0.mk A40
  clear A40
  by_cases c5 : t619 = true
  ·subst c5
   have H1 : (spec_SetRight.j0 k (decide ((l0_1.length : Int) > 8)) l0_0 l0_1) = some r := by rw [if_pos rfl] at H; exact H
   clear H
   have H := H1
   clear H1
   have H' := Aside0.mk H
   clear H
   have ⟨hcz6_0, hcz6_1, hfz6_0, hfz6_1⟩ := cz2_ BK618.out
   go_wp2_with (first | ((with_reducible refine gate_callee (f := 38) rfl ?_); refine goesL_ (some 7) rfl rfl Try.func38 (by kernel_rfl) rfl #[.slice A0_0 l0_0.length c0_0] rfl (z0_) ?_; (with_reducible refine (spec_SeenRight.calls k _ _ l0_0 true _ ?side1 ?side2 A4.out).mono ?_); (case side1 => exact z12_ HR0_0.out HB.out); (case side2 => exact HC0_0.out); rintro e w7 ⟨rfl, hb⟩; refine ⟨_, rfl, ?_⟩; have n_ := as2_ (blkB_ BK618.out hb) (below_step (z1_ HB.out GE618.out) hb); clear BK618 HB; have ⟨BK618, HB⟩ := n_; clear n_; (try clear hb); (try clear hb2); (try clear hk); (try clear hi); have hcz8_0 : w7.cell? ⟨gb618, 0, none⟩ = some (.slice A0_0 l0_0.length c0_0) := (blk_cell BK618.out 0).trans rfl; have hcz8_1 : w7.cell? ⟨gb618, 1, none⟩ = some (.slice A0_1 l0_1.length c0_1) := (blk_cell BK618.out 1).trans rfl; have hfz8_0 := blk_frozen BK618.out 0; have hfz8_1 := blk_frozen BK618.out 1))
   go_meet
   case rel => exact ⟨_, (decide ((l0_1.length : Int) > 8)), (z2_), H', ⟨by first | omega | exact Nat.le_refl _⟩, ⟨z9_ BK618.out⟩, ⟨z1_ HB.out GE618.out⟩⟩
  ·replace c5 := Bool.eq_false_iff.mpr c5
   subst c5
   have H1 : (spec_SetRight.j0 k true l0_0 l0_1) = some r := by rw [if_neg (show ¬ (false = true) by decide)] at H; exact H
   clear H
   have H := H1
   clear H1
   have H' := Aside0.mk H
   clear H
   have ⟨hcz9_0, hcz9_1, hfz9_0, hfz9_1⟩ := cz2_ BK618.out
   go_wp2_with (first | ((with_reducible refine gate_callee (f := 38) rfl ?_); refine goesL_ (some 7) rfl rfl Try.func38 (by kernel_rfl) rfl #[.slice A0_0 l0_0.length c0_0] rfl (z0_) ?_; (with_reducible refine (spec_SeenRight.calls k _ _ l0_0 false _ ?side1 ?side2 A4.out).mono ?_); (case side1 => exact z12_ HR0_0.out HB.out); (case side2 => exact HC0_0.out); rintro e w10 ⟨rfl, hb⟩; refine ⟨_, rfl, ?_⟩; have n_ := as2_ (blkB_ BK618.out hb) (below_step (z1_ HB.out GE618.out) hb); clear BK618 HB; have ⟨BK618, HB⟩ := n_; clear n_; (try clear hb); (try clear hb2); (try clear hk); (try clear hi)))
   go_meet
   case rel => exact ⟨_, (true), (z2_), H', ⟨by first | omega | exact Nat.le_refl _⟩, ⟨z9_ BK618.out⟩, ⟨z1_ HB.out GE618.out⟩⟩
 case rest =>
  clear HC2
  try clear c1
  try clear p2
  try clear c3
  try clear c5
  try clear c10
  try clear hcz6_0
  try clear hcz6_1
  try clear hcz8_0
  try clear hcz8_1
  try clear hcz9_0
  try clear hcz9_1
  try clear hfz6_0
  try clear hfz6_1
  try clear hfz8_0
  try clear hfz8_1
  try clear hfz9_0
  try clear hfz9_1
  obtain ⟨kq, x14_1, rfl, HA, HJ1, BK618, HB⟩ := hcut
  cases kq with
  | zero => exact absurd HA.out (by simp [spec_SetRight.j0])
  | succ kj1 =>
   have H := HA.out
   clear HA
   simp only [spec_SetRight.j0] at H
   by_cases c11 : x14_1 = true
   ·subst c11
    have H1 : (some false) = some r := by rw [if_pos rfl] at H; exact H
    clear H
    have H := H1
    clear H1
    obtain rfl := Option.some.inj H
    go_wp2
    go_ret
    exact ⟨z8_, z1_ HB.out GE618.out⟩
   ·replace c11 := Bool.eq_false_iff.mpr c11
    subst c11
    have H1 : (spec_SetRight.l0 kj1 0 l0_0 l0_1) = some r := by rw [if_neg (show ¬ (false = true) by decide)] at H; exact H
    clear H
    have H := H1
    clear H1
    have H' := Aside0.mk H
    clear H
    go_wp2
    go_loopg [3] kj1 (fun kq v3 w' => ∃ (x3_2 : Int), v3 = .int .i64 x3_2 ∧ Aside0 (spec_SetRight.l0 kq x3_2 l0_0 l0_1 = some r) ∧ Aside0 (kq ≤ kj1) ∧ Aside0 (w'.heap[gb618]? = some (.cells #[(.slice A0_0 l0_0.length c0_0), (.slice A0_1 l0_1.length c0_1)] 60 (0, 0))) ∧ Aside0 (Below w.heap.size w w'))
    case atStart => exact ⟨(0), (z2_), H', ⟨Nat.le_refl _⟩, ⟨z9_ BK618.out⟩, ⟨z1_ HB.out GE618.out⟩⟩
    case round =>
     clear H'
     try clear c1
     try clear p2
     try clear c3
     try clear c5
     try clear c10
     try clear c11
     try clear hcz6_0
     try clear hcz6_1
     try clear hcz8_0
     try clear hcz8_1
     try clear hcz9_0
     try clear hcz9_1
     try clear hfz6_0
     try clear hfz6_1
     try clear hfz8_0
     try clear hfz8_1
     try clear hfz9_0
     try clear hfz9_1
     try clear p2
     obtain ⟨x3_2, rfl, HA, HK2, BK618, HB⟩ := hrel
     cases gk with
     | zero => exact absurd HA.out (by simp [spec_SetRight.l0])
     | succ k2 =>
      have H := HA.out
      clear HA
      simp only [spec_SetRight.l0] at H
      by_cases c12 : x3_2 < (l0_1.length : Int)
      ·rw [if_pos c12] at H
       have c12b0 : decide (x3_2 < (l0_1.length : Int)) = true := decide_eq_true c12
       clear c12
       by_cases c13 : 0 ≤ x3_2
       ·rw [if_pos c13] at H
        have c13b0 : decide (0 ≤ x3_2) = true := decide_eq_true c13
        clear c13
        replace H := Option.bind_eq_some_iff.mp H
        obtain ⟨t622, A140, H⟩ := H
        replace H : (if t622 = true then (if (((rd_T158 l0_1 x3_2).f2).size : Int) > 16 then (some false) else (if (rd_T158 l0_1 x3_2).f1 = true then (if ((rd_T158 l0_1 x3_2).f2).toList = ([] : List UInt8) then (if x3_2 > 0 then (if 0 ≤ (wrap64 (x3_2 - 1)) then (if (wrap64 (x3_2 - 1)) < (l0_1.length : Int) then ((spec_l03Less.f ((rd_T158 l0_1 (wrap64 (x3_2 - 1))).f0.f0) ((rd_T158 l0_1 (wrap64 (x3_2 - 1))).f0.f1) ((rd_T158 l0_1 x3_2).f0.f0) ((rd_T158 l0_1 x3_2).f0.f1)).bind fun t624 => (if t624 = true then (spec_SetRight.l0 k2 (wrap64 (x3_2 + 1)) l0_0 l0_1) else (some false))) else (none)) else (none)) else (spec_SetRight.l0 k2 (wrap64 (x3_2 + 1)) l0_0 l0_1)) else (some false)) else (if x3_2 > 0 then (if 0 ≤ (wrap64 (x3_2 - 1)) then (if (wrap64 (x3_2 - 1)) < (l0_1.length : Int) then ((spec_l03Less.f ((rd_T158 l0_1 (wrap64 (x3_2 - 1))).f0.f0) ((rd_T158 l0_1 (wrap64 (x3_2 - 1))).f0.f1) ((rd_T158 l0_1 x3_2).f0.f0) ((rd_T158 l0_1 x3_2).f0.f1)).bind fun t626 => (if t626 = true then (spec_SetRight.l0 k2 (wrap64 (x3_2 + 1)) l0_0 l0_1) else (some false))) else (none)) else (none)) else (spec_SetRight.l0 k2 (wrap64 (x3_2 + 1)) l0_0 l0_1)))) else (some false)) = some r := H
        have A14 := Aside0.mk A140
        clear A140
        by_cases c15 : t622 = true
        ·subst c15
         have H1 : (if (((rd_T158 l0_1 x3_2).f2).size : Int) > 16 then (some false) else (if (rd_T158 l0_1 x3_2).f1 = true then (if ((rd_T158 l0_1 x3_2).f2).toList = ([] : List UInt8) then (if x3_2 > 0 then (if 0 ≤ (wrap64 (x3_2 - 1)) then (if (wrap64 (x3_2 - 1)) < (l0_1.length : Int) then ((spec_l03Less.f ((rd_T158 l0_1 (wrap64 (x3_2 - 1))).f0.f0) ((rd_T158 l0_1 (wrap64 (x3_2 - 1))).f0.f1) ((rd_T158 l0_1 x3_2).f0.f0) ((rd_T158 l0_1 x3_2).f0.f1)).bind fun t624 => (if t624 = true then (spec_SetRight.l0 k2 (wrap64 (x3_2 + 1)) l0_0 l0_1) else (some false))) else (none)) else (none)) else (spec_SetRight.l0 k2 (wrap64 (x3_2 + 1)) l0_0 l0_1)) else (some false)) else (if x3_2 > 0 then (if 0 ≤ (wrap64 (x3_2 - 1)) then (if (wrap64 (x3_2 - 1)) < (l0_1.length : Int) then ((spec_l03Less.f ((rd_T158 l0_1 (wrap64 (x3_2 - 1))).f0.f0) ((rd_T158 l0_1 (wrap64 (x3_2 - 1))).f0.f1) ((rd_T158 l0_1 x3_2).f0.f0) ((rd_T158 l0_1 x3_2).f0.f1)).bind fun t626 => (if t626 = true then (spec_SetRight.l0 k2 (wrap64 (x3_2 + 1)) l0_0 l0_1) else (some false))) else (none)) else (none)) else (spec_SetRight.l0 k2 (wrap64 (x3_2 + 1)) l0_0 l0_1)))) = some r := by rw [if_pos rfl] at H; exact H
         clear H
         have H := H1
         clear H1
         by_cases c16 : (((rd_T158 l0_1 x3_2).f2).size : Int) > 16
         ·rw [if_pos c16] at H
          have c16b0 : decide (16 < (((rd_T158 l0_1 x3_2).f2).size : Int)) = true := decide_eq_true c16
          have c16b1 : decide (16 < ((rd_T158 l0_1 x3_2).f2).size) = true := decide_eq_true (by omega)
          clear c16
          obtain rfl := Option.some.inj H
          have ⟨hcz17_0, hcz17_1, hfz17_0, hfz17_1⟩ := cz2_ BK618.out
          have p620 : 0 ≤ (x3_2 : Int) := of_decide_eq_true (z3_)
          have q620 : x3_2 < (l0_1.length : Int) := of_decide_eq_true (z3_)
          obtain ⟨ad620, e620, hx620_0, hx620_1, hx620_2, hx620_3⟩ := at_T158 HR0_1.out x3_2 p620 q620
          cases e620
          replace hx620_0 := (HB.out.cell (World.block_lt_of_cell? w _ hx620_0)).trans hx620_0
          replace hx620_1 := (HB.out.cell (World.block_lt_of_cell? w _ hx620_1)).trans hx620_1
          replace hx620_2 := (HB.out.cell (World.block_lt_of_cell? w _ hx620_2)).trans hx620_2
          replace hx620_3 := (HB.out.cell (World.block_lt_of_cell? w _ hx620_3)).trans hx620_3
          replace p620 := eq_true p620
          replace q620 := eq_true q620
          try go_wp2_with (first | ((with_reducible refine gate_dst (N := 4) rfl ?_); (try (refine gate_guard (by rfl) ?_; dsimp only)); refine box_event ?hg (N := 4) ?hd (cs := #[.int .i64 0, .int .i64 0, .bool false, .string (⟨#[]⟩ : ByteArray)]) (t := 158) ?hr ?_; (case hd => rfl); (case hg => rfl); (case hr => first | (go_simp; done) | (go_simp; rfl)); intro gb621 hg w18 hbox hb; have n_ := as7_ (blkB_ BK618.out hb) (below_step (z1_ HB.out GE618.out) hb) (hbox) ((z10_ HB.out GE618.out : w.heap.size ≤ gb621)) ((z10_ HB.out GE618.out : w.heap.size ≤ gb621)) (neL_ BK618.out hg) (neG_ BK618.out hg); clear BK618 HB; have ⟨BK618, HB, BK621, GW621, GE621, NB618_621, NB621_618⟩ := n_; clear n_; clear hb hbox hg; have hnb19 := NB621_618.out; have hnc19 := NB618_621.out; have hcz20_0 : w18.cell? ⟨gb621, 0, none⟩ = some (.int .i64 0) := (blk_cell BK621.out 0).trans rfl; have hcz20_1 : w18.cell? ⟨gb621, 1, none⟩ = some (.int .i64 0) := (blk_cell BK621.out 1).trans rfl; have hcz20_2 : w18.cell? ⟨gb621, 2, none⟩ = some (.bool false) := (blk_cell BK621.out 2).trans rfl; have hcz20_3 : w18.cell? ⟨gb621, 3, none⟩ = some (.string (⟨#[]⟩ : ByteArray)) := (blk_cell BK621.out 3).trans rfl; have hfz20_0 := blk_frozen BK621.out 0; have hfz20_1 := blk_frozen BK621.out 1; have hfz20_2 := blk_frozen BK621.out 2; have hfz20_3 := blk_frozen BK621.out 3))
          have n0_ : Aside0 (((((w18.setCell ⟨gb621, 0, none⟩ (.int .i64 ((rd_T158 l0_1 x3_2).f0.f0))).setCell ⟨gb621, 1, none⟩ (.int .i64 ((rd_T158 l0_1 x3_2).f0.f1))).setCell ⟨gb621, 2, none⟩ (.bool ((rd_T158 l0_1 x3_2).f1))).setCell ⟨gb621, 3, none⟩ (.string ((rd_T158 l0_1 x3_2).f2))).heap[gb618]? = some (.cells #[.slice A0_0 l0_0.length c0_0, .slice (some ad620) l0_1.length c0_1] 60 (0, 0))) := ⟨z18_ NB618_621.out BK618.out⟩
          have n1_ : Aside0 (((((w18.setCell ⟨gb621, 0, none⟩ (.int .i64 ((rd_T158 l0_1 x3_2).f0.f0))).setCell ⟨gb621, 1, none⟩ (.int .i64 ((rd_T158 l0_1 x3_2).f0.f1))).setCell ⟨gb621, 2, none⟩ (.bool ((rd_T158 l0_1 x3_2).f1))).setCell ⟨gb621, 3, none⟩ (.string ((rd_T158 l0_1 x3_2).f2))).heap[gb621]? = some (.cells #[.int .i64 ((rd_T158 l0_1 x3_2).f0.f0), .int .i64 ((rd_T158 l0_1 x3_2).f0.f1), .bool ((rd_T158 l0_1 x3_2).f1), .string ((rd_T158 l0_1 x3_2).f2)] 158 (0, 0))) := ⟨z22_ BK621.out⟩
          have n2_ : Aside0 (Below w.heap.size w ((((w18.setCell ⟨gb621, 0, none⟩ (.int .i64 ((rd_T158 l0_1 x3_2).f0.f0))).setCell ⟨gb621, 1, none⟩ (.int .i64 ((rd_T158 l0_1 x3_2).f0.f1))).setCell ⟨gb621, 2, none⟩ (.bool ((rd_T158 l0_1 x3_2).f1))).setCell ⟨gb621, 3, none⟩ (.string ((rd_T158 l0_1 x3_2).f2)))) := ⟨z6_ HB.out GE618.out GE621.out⟩
          (try clear BK618)
          (try clear BK621)
          (try clear HB)
          generalize ((((w18.setCell ⟨gb621, 0, none⟩ (.int .i64 ((rd_T158 l0_1 x3_2).f0.f0))).setCell ⟨gb621, 1, none⟩ (.int .i64 ((rd_T158 l0_1 x3_2).f0.f1))).setCell ⟨gb621, 2, none⟩ (.bool ((rd_T158 l0_1 x3_2).f1))).setCell ⟨gb621, 3, none⟩ (.string ((rd_T158 l0_1 x3_2).f2))) = w21 at n0_ n1_ n2_ ⊢
          have BK618 := n0_
          have BK621 := n1_
          have HB := n2_
          clear n0_ n1_ n2_
          have n_ := as3_ (blk_drew BK618.out) (blk_drew BK621.out) (below_drew1 HB.out)
          clear BK618 BK621 HB
          have ⟨BK618, BK621, HB⟩ := n_
          clear n_
          refine start_ (n := 38) (S := fun w' => w'.cell? ⟨gb618, 0, none⟩ = some (.slice A0_0 l0_0.length c0_0) ∧ w'.cell? ⟨gb618, 1, none⟩ = some (.slice (some ad620) l0_1.length c0_1) ∧ w'.cell? ⟨gb621, 0, none⟩ = some (.int .i64 ((rd_T158 l0_1 x3_2).f0.f0)) ∧ w'.cell? ⟨gb621, 1, none⟩ = some (.int .i64 ((rd_T158 l0_1 x3_2).f0.f1)) ∧ w'.cell? ⟨gb621, 2, none⟩ = some (.bool ((rd_T158 l0_1 x3_2).f1)) ∧ w'.cell? ⟨gb621, 3, none⟩ = some (.string ((rd_T158 l0_1 x3_2).f2))) (ds := []) spec_SetRight.q0 (by kernel_rfl) rfl rfl ⟨(blk_cell BK618.out 0).trans rfl, (blk_cell BK618.out 1).trans rfl, (blk_cell BK621.out 0).trans rfl, (blk_cell BK621.out 1).trans rfl, (blk_cell BK621.out 2).trans rfl, (blk_cell BK621.out 3).trans rfl⟩ (fun hHeld => ?_); refine with_tabW spec_SetRight.tab7 spec_SetRight.bits7 (fun HT_ HW_ => ?_)
          generalize w21.drew = w22 at BK618 BK621 HB hHeld ⊢
          refine pu_ 0 27 spec_SetRight.q1 HT_.out ?_
          refine pu_ 2 29 spec_SetRight.q2 HT_.out ?_
          refine tk6_ 1 28 spec_SetRight.q3 HT_.out HW_.out hHeld ?_
          refine tk6_ 3 30 spec_SetRight.q4 HT_.out HW_.out hHeld ?_
          refine one_ (i := 4) (N := some 31) spec_SetRight.q5 rfl rfl (one_of HT_.out (by kernel_rfl)) (by decide) (fun K hK => ?_)
          refine goes_ Try.func34 (by kernel_rfl) rfl #[.slice A0_0 l0_0.length c0_0, .agg #[.int .i64 ((rd_T158 l0_1 x3_2).f0.f0), .int .i64 ((rd_T158 l0_1 x3_2).f0.f1)]] (by rfl) rfl rfl (z0_) ?_
          with_reducible refine (spec_SeenHas.calls k2 _ _ l0_0 ((rd_T158 l0_1 x3_2).f0.f0) ((rd_T158 l0_1 x3_2).f0.f1) true _ ?side1 ?side2 A14.out).mono ?_
          (case side1 => exact z12_ HR0_0.out HB.out)
          (case side2 => exact HC0_0.out)
          rintro e w23 ⟨rfl, hb⟩
          refine ⟨_, rfl, ?_⟩
          have n_ := as3_ (blkB_ BK618.out hb) (blkB_ BK621.out hb) (below_step (z6_ HB.out GE618.out GE621.out) hb)
          clear BK618 BK621 HB
          have ⟨BK618, BK621, HB⟩ := n_
          clear n_
          (try clear hb)
          (try clear hb2)
          (try clear hk)
          (try clear hi)
          refine hK.out _ _ ⟨(blk_cell BK618.out 0).trans rfl, (blk_cell BK618.out 1).trans rfl, (blk_cell BK621.out 0).trans rfl, (blk_cell BK621.out 1).trans rfl, (blk_cell BK621.out 2).trans rfl, (blk_cell BK621.out 3).trans rfl⟩ (fun hHeld => ?_)
          clear hK K
          refine norm_ (a' := ?_) ?_ ?_
          rotate_left
          ·show Act.put _ (some 31) _ = _
           simp only [Act.put, sa_, s0_, ss_, i64_w, i32_w]
           rfl
          refine pu_ 5 32 spec_SetRight.q6 HT_.out ?_
          refine pu_ 6 33 spec_SetRight.q7 HT_.out ?_
          refine pu_ 7 34 spec_SetRight.q8 HT_.out ?_
          refine tk6_ 8 35 spec_SetRight.q9 HT_.out HW_.out hHeld ?_
          refine pu_ 9 36 spec_SetRight.q10 HT_.out ?_
          refine pu_ 10 37 spec_SetRight.q11 HT_.out ?_
          refine pu_ 11 38 spec_SetRight.q12 HT_.out ?_
          refine pu_ 12 39 spec_SetRight.q13 HT_.out ?_
          refine pn_ 13 40 spec_SetRight.q14 HT_.out ?_
          refine pn_ 14 41 spec_SetRight.q15 HT_.out ?_
          refine pn_ 15 42 spec_SetRight.q16 HT_.out ?_
          refine pn_ 16 43 spec_SetRight.q17 HT_.out ?_
          refine pn_ 17 44 spec_SetRight.q18 HT_.out ?_
          refine pn_ 18 45 spec_SetRight.q19 HT_.out ?_
          refine pn_ 19 46 spec_SetRight.q20 HT_.out ?_
          refine pu_ 20 47 spec_SetRight.q21 HT_.out ?_
          refine pu_ 21 48 spec_SetRight.q22 HT_.out ?_
          refine pn_ 22 49 spec_SetRight.q23 HT_.out ?_
          refine pn_ 23 50 spec_SetRight.q24 HT_.out ?_
          refine pn_ 24 51 spec_SetRight.q25 HT_.out ?_
          refine pn_ 25 52 spec_SetRight.q26 HT_.out ?_
          refine pn_ 26 53 spec_SetRight.q27 HT_.out ?_
          refine pn_ 27 54 spec_SetRight.q28 HT_.out ?_
          refine pn_ 28 55 spec_SetRight.q29 HT_.out ?_
          refine pn_ 29 56 spec_SetRight.q30 HT_.out ?_
          refine pn_ 30 57 spec_SetRight.q31 HT_.out ?_
          refine pn_ 31 58 spec_SetRight.q32 HT_.out ?_
          refine pn_ 32 59 spec_SetRight.q33 HT_.out ?_
          refine pn_ 33 60 spec_SetRight.q34 HT_.out ?_
          refine pn_ 34 61 spec_SetRight.q35 HT_.out ?_
          refine pn_ 35 62 spec_SetRight.q36 HT_.out ?_
          refine pn_ 36 63 spec_SetRight.q37 HT_.out ?_
          refine pu_ 37 64 spec_SetRight.q38 HT_.out ?_
          refine done_ (done_of HT_.out (by kernel_rfl)) ?_
          try go_wp2
          go_ret
          exact ⟨z8_, z6_ HB.out GE618.out GE621.out⟩
         ·rw [if_neg c16] at H
          have c16b0 : decide (16 < (((rd_T158 l0_1 x3_2).f2).size : Int)) = false := decide_eq_false c16
          have c16b1 : decide (16 < ((rd_T158 l0_1 x3_2).f2).size) = false := decide_eq_false (by omega)
          clear c16
          obtain ⟨bq24, hbq24⟩ : ∃ b_ : Bool, b_ = ((rd_T158 l0_1 x3_2).f1) := ⟨_, rfl⟩
          replace H : (if bq24 = true then (if ((rd_T158 l0_1 x3_2).f2).toList = ([] : List UInt8) then (if x3_2 > 0 then (if 0 ≤ (wrap64 (x3_2 - 1)) then (if (wrap64 (x3_2 - 1)) < (l0_1.length : Int) then ((spec_l03Less.f ((rd_T158 l0_1 (wrap64 (x3_2 - 1))).f0.f0) ((rd_T158 l0_1 (wrap64 (x3_2 - 1))).f0.f1) ((rd_T158 l0_1 x3_2).f0.f0) ((rd_T158 l0_1 x3_2).f0.f1)).bind fun t624 => (if t624 = true then (spec_SetRight.l0 k2 (wrap64 (x3_2 + 1)) l0_0 l0_1) else (some false))) else (none)) else (none)) else (spec_SetRight.l0 k2 (wrap64 (x3_2 + 1)) l0_0 l0_1)) else (some false)) else (if x3_2 > 0 then (if 0 ≤ (wrap64 (x3_2 - 1)) then (if (wrap64 (x3_2 - 1)) < (l0_1.length : Int) then ((spec_l03Less.f ((rd_T158 l0_1 (wrap64 (x3_2 - 1))).f0.f0) ((rd_T158 l0_1 (wrap64 (x3_2 - 1))).f0.f1) ((rd_T158 l0_1 x3_2).f0.f0) ((rd_T158 l0_1 x3_2).f0.f1)).bind fun t626 => (if t626 = true then (spec_SetRight.l0 k2 (wrap64 (x3_2 + 1)) l0_0 l0_1) else (some false))) else (none)) else (none)) else (spec_SetRight.l0 k2 (wrap64 (x3_2 + 1)) l0_0 l0_1))) = some r := by rw [← hbq24] at H; exact H
          have Nbq24 := Aside0.mk hbq24
          clear hbq24
          by_cases c25 : bq24 = true
          ·subst c25
           have H1 : (if ((rd_T158 l0_1 x3_2).f2).toList = ([] : List UInt8) then (if x3_2 > 0 then (if 0 ≤ (wrap64 (x3_2 - 1)) then (if (wrap64 (x3_2 - 1)) < (l0_1.length : Int) then ((spec_l03Less.f ((rd_T158 l0_1 (wrap64 (x3_2 - 1))).f0.f0) ((rd_T158 l0_1 (wrap64 (x3_2 - 1))).f0.f1) ((rd_T158 l0_1 x3_2).f0.f0) ((rd_T158 l0_1 x3_2).f0.f1)).bind fun t624 => (if t624 = true then (spec_SetRight.l0 k2 (wrap64 (x3_2 + 1)) l0_0 l0_1) else (some false))) else (none)) else (none)) else (spec_SetRight.l0 k2 (wrap64 (x3_2 + 1)) l0_0 l0_1)) else (some false)) = some r := by rw [if_pos rfl] at H; exact H
           clear H
           have H := H1
           clear H1
           by_cases c26 : ((rd_T158 l0_1 x3_2).f2).toList = ([] : List UInt8)
           ·rw [if_pos c26] at H
            have c26b0 : (((rd_T158 l0_1 x3_2).f2).toList == ([] : List UInt8)) = true := beq_iff_eq.mpr c26
            have c26b1 : (((rd_T158 l0_1 x3_2).f2).toList != ([] : List UInt8)) = false := bne_eq_false_iff_eq.mpr c26
            clear c26
            by_cases c27 : x3_2 > 0
            ·rw [if_pos c27] at H
             have c27b0 : decide (0 < x3_2) = true := decide_eq_true c27
             clear c27
             obtain ⟨ji28, hji28⟩ : ∃ j_ : Int, (wrap64 (x3_2 - 1)) = j_ := ⟨_, rfl⟩
             replace H : (if 0 ≤ (ji28) then (if (ji28) < (l0_1.length : Int) then ((spec_l03Less.f ((rd_T158 l0_1 (ji28)).f0.f0) ((rd_T158 l0_1 (ji28)).f0.f1) ((rd_T158 l0_1 x3_2).f0.f0) ((rd_T158 l0_1 x3_2).f0.f1)).bind fun t624 => (if t624 = true then (spec_SetRight.l0 k2 (wrap64 (x3_2 + 1)) l0_0 l0_1) else (some false))) else (none)) else (none)) = some r := by first | (rw [hji28] at H; exact H) | (simp only [hji28] at H ⊢; exact H)
             (try rw [hji28] at A14)
             have hji28w : (IntKind.i64.wrap (x3_2 - 1)) = ji28 := (i64_w _).trans hji28
             by_cases c29 : 0 ≤ (ji28)
             ·rw [if_pos c29] at H
              have c29b0 : decide (0 ≤ (ji28)) = true := decide_eq_true c29
              clear c29
              by_cases c30 : (ji28) < (l0_1.length : Int)
              ·rw [if_pos c30] at H
               have c30b0 : decide ((ji28) < (l0_1.length : Int)) = true := decide_eq_true c30
               clear c30
               replace H := Option.bind_eq_some_iff.mp H
               obtain ⟨t624, A310, H⟩ := H
               replace H : (if t624 = true then (spec_SetRight.l0 k2 (wrap64 (x3_2 + 1)) l0_0 l0_1) else (some false)) = some r := H
               have A31 := Aside0.mk A310
               clear A310
               by_cases c32 : t624 = true
               ·subst c32
                have H1 : (spec_SetRight.l0 k2 (wrap64 (x3_2 + 1)) l0_0 l0_1) = some r := by rw [if_pos rfl] at H; exact H
                clear H
                have H := H1
                clear H1
                have H' := Aside0.mk H
                clear H
                have ⟨hcz33_0, hcz33_1, hfz33_0, hfz33_1⟩ := cz2_ BK618.out
                have p620 : 0 ≤ (x3_2 : Int) := of_decide_eq_true (z3_)
                have q620 : x3_2 < (l0_1.length : Int) := of_decide_eq_true (z3_)
                obtain ⟨ad620, e620, hx620_0, hx620_1, hx620_2, hx620_3⟩ := at_T158 HR0_1.out x3_2 p620 q620
                (try rw [← Nbq24.out] at hx620_2)
                cases e620
                replace hx620_0 := (HB.out.cell (World.block_lt_of_cell? w _ hx620_0)).trans hx620_0
                replace hx620_1 := (HB.out.cell (World.block_lt_of_cell? w _ hx620_1)).trans hx620_1
                replace hx620_2 := (HB.out.cell (World.block_lt_of_cell? w _ hx620_2)).trans hx620_2
                replace hx620_3 := (HB.out.cell (World.block_lt_of_cell? w _ hx620_3)).trans hx620_3
                replace p620 := eq_true p620
                replace q620 := eq_true q620
                try go_wp2_with (first | ((with_reducible refine gate_dst (N := 4) rfl ?_); (try (refine gate_guard (by rfl) ?_; dsimp only)); refine box_event ?hg (N := 4) ?hd (cs := #[.int .i64 0, .int .i64 0, .bool false, .string (⟨#[]⟩ : ByteArray)]) (t := 158) ?hr ?_; (case hd => rfl); (case hg => rfl); (case hr => first | (go_simp; done) | (go_simp; rfl)); intro gb621 hg w34 hbox hb; have n_ := as7_ (blkB_ BK618.out hb) (below_step (z1_ HB.out GE618.out) hb) (hbox) ((z10_ HB.out GE618.out : w.heap.size ≤ gb621)) ((z10_ HB.out GE618.out : w.heap.size ≤ gb621)) (neL_ BK618.out hg) (neG_ BK618.out hg); clear BK618 HB; have ⟨BK618, HB, BK621, GW621, GE621, NB618_621, NB621_618⟩ := n_; clear n_; clear hb hbox hg; have hnb35 := NB621_618.out; have hnc35 := NB618_621.out; have hcz36_0 : w34.cell? ⟨gb621, 0, none⟩ = some (.int .i64 0) := (blk_cell BK621.out 0).trans rfl; have hcz36_1 : w34.cell? ⟨gb621, 1, none⟩ = some (.int .i64 0) := (blk_cell BK621.out 1).trans rfl; have hcz36_2 : w34.cell? ⟨gb621, 2, none⟩ = some (.bool false) := (blk_cell BK621.out 2).trans rfl; have hcz36_3 : w34.cell? ⟨gb621, 3, none⟩ = some (.string (⟨#[]⟩ : ByteArray)) := (blk_cell BK621.out 3).trans rfl; have hfz36_0 := blk_frozen BK621.out 0; have hfz36_1 := blk_frozen BK621.out 1; have hfz36_2 := blk_frozen BK621.out 2; have hfz36_3 := blk_frozen BK621.out 3))
                have n0_ : Aside0 (((((w34.setCell ⟨gb621, 0, none⟩ (.int .i64 ((rd_T158 l0_1 x3_2).f0.f0))).setCell ⟨gb621, 1, none⟩ (.int .i64 ((rd_T158 l0_1 x3_2).f0.f1))).setCell ⟨gb621, 2, none⟩ (.bool true)).setCell ⟨gb621, 3, none⟩ (.string ((rd_T158 l0_1 x3_2).f2))).heap[gb618]? = some (.cells #[.slice A0_0 l0_0.length c0_0, .slice (some ad620) l0_1.length c0_1] 60 (0, 0))) := ⟨z18_ NB618_621.out BK618.out⟩
                have n1_ : Aside0 (((((w34.setCell ⟨gb621, 0, none⟩ (.int .i64 ((rd_T158 l0_1 x3_2).f0.f0))).setCell ⟨gb621, 1, none⟩ (.int .i64 ((rd_T158 l0_1 x3_2).f0.f1))).setCell ⟨gb621, 2, none⟩ (.bool true)).setCell ⟨gb621, 3, none⟩ (.string ((rd_T158 l0_1 x3_2).f2))).heap[gb621]? = some (.cells #[.int .i64 ((rd_T158 l0_1 x3_2).f0.f0), .int .i64 ((rd_T158 l0_1 x3_2).f0.f1), .bool true, .string ((rd_T158 l0_1 x3_2).f2)] 158 (0, 0))) := ⟨z22_ BK621.out⟩
                have n2_ : Aside0 (Below w.heap.size w ((((w34.setCell ⟨gb621, 0, none⟩ (.int .i64 ((rd_T158 l0_1 x3_2).f0.f0))).setCell ⟨gb621, 1, none⟩ (.int .i64 ((rd_T158 l0_1 x3_2).f0.f1))).setCell ⟨gb621, 2, none⟩ (.bool true)).setCell ⟨gb621, 3, none⟩ (.string ((rd_T158 l0_1 x3_2).f2)))) := ⟨z6_ HB.out GE618.out GE621.out⟩
                (try clear BK618)
                (try clear BK621)
                (try clear HB)
                generalize ((((w34.setCell ⟨gb621, 0, none⟩ (.int .i64 ((rd_T158 l0_1 x3_2).f0.f0))).setCell ⟨gb621, 1, none⟩ (.int .i64 ((rd_T158 l0_1 x3_2).f0.f1))).setCell ⟨gb621, 2, none⟩ (.bool true)).setCell ⟨gb621, 3, none⟩ (.string ((rd_T158 l0_1 x3_2).f2))) = w37 at n0_ n1_ n2_ ⊢
                have BK618 := n0_
                have BK621 := n1_
                have HB := n2_
                clear n0_ n1_ n2_
                have n_ := as3_ (blk_drew BK618.out) (blk_drew BK621.out) (below_drew1 HB.out)
                clear BK618 BK621 HB
                have ⟨BK618, BK621, HB⟩ := n_
                clear n_
                have p623 : 0 ≤ ((ji28) : Int) := of_decide_eq_true (z3_)
                have q623 : (ji28) < (l0_1.length : Int) := of_decide_eq_true (z3_)
                obtain ⟨ad623, e623, hx623_0, hx623_1, hx623_2, hx623_3⟩ := at_T158 HR0_1.out (ji28) p623 q623
                have hw623_3 := hx623_3
                have hw623_2 := hx623_2
                have hw623_1 := hx623_1
                have hw623_0 := hx623_0
                (try rw [← Nbq24.out] at hx623_2)
                obtain rfl : ad620 = ad623 := (by injection e623)
                replace hx623_0 := (HB.out.cell (World.block_lt_of_cell? w _ hx623_0)).trans hx623_0
                replace hx623_1 := (HB.out.cell (World.block_lt_of_cell? w _ hx623_1)).trans hx623_1
                replace hx623_2 := (HB.out.cell (World.block_lt_of_cell? w _ hx623_2)).trans hx623_2
                replace hx623_3 := (HB.out.cell (World.block_lt_of_cell? w _ hx623_3)).trans hx623_3
                replace p623 := eq_true p623
                replace q623 := eq_true q623
                refine start_ (n := 38) (S := fun w' => w'.cell? ⟨gb618, 0, none⟩ = some (.slice A0_0 l0_0.length c0_0) ∧ w'.cell? ⟨gb618, 1, none⟩ = some (.slice (some ad620) l0_1.length c0_1) ∧ w'.cell? ⟨gb621, 0, none⟩ = some (.int .i64 ((rd_T158 l0_1 x3_2).f0.f0)) ∧ w'.cell? ⟨gb621, 1, none⟩ = some (.int .i64 ((rd_T158 l0_1 x3_2).f0.f1)) ∧ w'.cell? ⟨gb621, 2, none⟩ = some (.bool true) ∧ w'.cell? ⟨gb621, 3, none⟩ = some (.string ((rd_T158 l0_1 x3_2).f2)) ∧ w'.cell? (ad620.add (((ji28)).toNat * 4)) = some (.int .i64 ((rd_T158 l0_1 (ji28)).f0.f0)) ∧ w'.cell? ⟨(ad620.add (((ji28)).toNat * 4)).block, (ad620.add (((ji28)).toNat * 4)).off + 1, none⟩ = some (.int .i64 ((rd_T158 l0_1 (ji28)).f0.f1)) ∧ w'.cell? ⟨(ad620.add (((ji28)).toNat * 4)).block, (ad620.add (((ji28)).toNat * 4)).off + 2, none⟩ = some (.bool ((rd_T158 l0_1 (ji28)).f1)) ∧ w'.cell? ⟨(ad620.add (((ji28)).toNat * 4)).block, (ad620.add (((ji28)).toNat * 4)).off + 3, none⟩ = some (.string ((rd_T158 l0_1 (ji28)).f2))) (ds := []) spec_SetRight.q0 (by kernel_rfl) rfl rfl ⟨(blk_cell BK618.out 0).trans rfl, (blk_cell BK618.out 1).trans rfl, (blk_cell BK621.out 0).trans rfl, (blk_cell BK621.out 1).trans rfl, (blk_cell BK621.out 2).trans rfl, (blk_cell BK621.out 3).trans rfl, ((HB.out.cell (World.block_lt_of_cell? w _ hw623_0)).trans hw623_0), ((HB.out.cell (World.block_lt_of_cell? w _ hw623_1)).trans hw623_1), ((HB.out.cell (World.block_lt_of_cell? w _ hw623_2)).trans hw623_2), ((HB.out.cell (World.block_lt_of_cell? w _ hw623_3)).trans hw623_3)⟩ (fun hHeld => ?_); refine with_tabW spec_SetRight.tab7 spec_SetRight.bits7 (fun HT_ HW_ => ?_)
                generalize w37.drew = w38 at BK618 BK621 HB hx623_0 hx623_1 hx623_2 hx623_3 hHeld ⊢
                refine pu_ 0 27 spec_SetRight.q1 HT_.out ?_
                refine pu_ 2 29 spec_SetRight.q2 HT_.out ?_
                refine tk10_ 1 28 spec_SetRight.q3 HT_.out HW_.out hHeld ?_
                refine tk10_ 3 30 spec_SetRight.q4 HT_.out HW_.out hHeld ?_
                refine one_ (i := 4) (N := some 31) spec_SetRight.q5 rfl rfl (one_of HT_.out (by kernel_rfl)) (by decide) (fun K hK => ?_)
                refine goes_ Try.func34 (by kernel_rfl) rfl #[.slice A0_0 l0_0.length c0_0, .agg #[.int .i64 ((rd_T158 l0_1 x3_2).f0.f0), .int .i64 ((rd_T158 l0_1 x3_2).f0.f1)]] (by rfl) rfl rfl (z0_) ?_
                with_reducible refine (spec_SeenHas.calls k2 _ _ l0_0 ((rd_T158 l0_1 x3_2).f0.f0) ((rd_T158 l0_1 x3_2).f0.f1) true _ ?side1 ?side2 A14.out).mono ?_
                (case side1 => exact z12_ HR0_0.out HB.out)
                (case side2 => exact HC0_0.out)
                rintro e w39 ⟨rfl, hb⟩
                refine ⟨_, rfl, ?_⟩
                have n_ := as3_ (blkB_ BK618.out hb) (blkB_ BK621.out hb) (below_step (z6_ HB.out GE618.out GE621.out) hb)
                clear BK618 BK621 HB
                have ⟨BK618, BK621, HB⟩ := n_
                clear n_
                (try clear hb)
                (try clear hb2)
                (try clear hk)
                (try clear hi)
                refine hK.out _ _ ⟨(blk_cell BK618.out 0).trans rfl, (blk_cell BK618.out 1).trans rfl, (blk_cell BK621.out 0).trans rfl, (blk_cell BK621.out 1).trans rfl, (blk_cell BK621.out 2).trans rfl, (blk_cell BK621.out 3).trans rfl, ((HB.out.cell (World.block_lt_of_cell? w _ hw623_0)).trans hw623_0), ((HB.out.cell (World.block_lt_of_cell? w _ hw623_1)).trans hw623_1), ((HB.out.cell (World.block_lt_of_cell? w _ hw623_2)).trans hw623_2), ((HB.out.cell (World.block_lt_of_cell? w _ hw623_3)).trans hw623_3)⟩ (fun hHeld => ?_)
                clear hK K
                refine norm_ (a' := ?_) ?_ ?_
                rotate_left
                ·show Act.put _ (some 31) _ = _
                 simp only [Act.put, sa_, s0_, ss_, i64_w, i32_w]
                 rfl
                refine pu_ 5 32 spec_SetRight.q6 HT_.out ?_
                refine pu_ 6 33 spec_SetRight.q7 HT_.out ?_
                refine pu_ 7 34 spec_SetRight.q8 HT_.out ?_
                refine tk10_ 8 35 spec_SetRight.q9 HT_.out HW_.out hHeld ?_
                refine pu_ 9 36 spec_SetRight.q10 HT_.out ?_
                refine pu_ 10 37 spec_SetRight.q11 HT_.out ?_
                refine pu_ 11 38 spec_SetRight.q12 HT_.out ?_
                refine pu_ 12 39 spec_SetRight.q13 HT_.out ?_
                refine pu_ 13 40 spec_SetRight.q14 HT_.out ?_
                refine tk10_ 14 41 spec_SetRight.q15 HT_.out HW_.out hHeld ?_
                refine pu_ 15 42 spec_SetRight.q16 HT_.out ?_
                refine pu_ 16 43 spec_SetRight.q17 HT_.out ?_
                refine tk10_ 17 44 spec_SetRight.q18 HT_.out HW_.out hHeld ?_
                refine pu_ 18 45 spec_SetRight.q19 HT_.out ?_
                refine pu_ 19 46 spec_SetRight.q20 HT_.out ?_
                refine pu_ 20 47 spec_SetRight.q21 HT_.out ?_
                refine pu_ 21 48 spec_SetRight.q22 HT_.out ?_
                refine pu_ 22 49 spec_SetRight.q23 HT_.out ?_
                refine pu_ 23 50 spec_SetRight.q24 HT_.out ?_
                refine pu_ 24 51 spec_SetRight.q25 HT_.out ?_
                refine pu_ 25 52 spec_SetRight.q26 HT_.out ?_
                refine pu_ 27 54 spec_SetRight.q39 HT_.out ?_
                refine pu_ 28 55 spec_SetRight.q40 HT_.out ?_
                refine pu_ 32 59 spec_SetRight.q41 HT_.out ?_
                refine tk10_ 26 53 spec_SetRight.q42 HT_.out HW_.out hHeld ?_
                refine pu_ 29 56 spec_SetRight.q43 HT_.out ?_
                refine pu_ 30 57 spec_SetRight.q44 HT_.out ?_
                refine tk10_ 31 58 spec_SetRight.q33 HT_.out HW_.out hHeld ?_
                refine tk10_ 33 60 spec_SetRight.q34 HT_.out HW_.out hHeld ?_
                refine one_ (i := 34) (N := some 61) spec_SetRight.q35 rfl rfl (one_of HT_.out (by kernel_rfl)) (by decide) (fun K hK => ?_)
                refine goes_ Try.func118 (by kernel_rfl) rfl #[.agg #[.int .i64 ((rd_T158 l0_1 (ji28)).f0.f0), .int .i64 ((rd_T158 l0_1 (ji28)).f0.f1)], .agg #[.int .i64 ((rd_T158 l0_1 x3_2).f0.f0), .int .i64 ((rd_T158 l0_1 x3_2).f0.f1)]] (by rfl) rfl rfl (by (try simp only [List.map_toArray, List.map_cons, List.map_nil]); first | done | (simp only [hji28]; rfl) | rfl | (simp only [List.length_drop, List.length_take]; rfl)) ?_
                with_reducible refine (spec_l03Less.calls ((rd_T158 l0_1 (ji28)).f0.f0) ((rd_T158 l0_1 (ji28)).f0.f1) ((rd_T158 l0_1 x3_2).f0.f0) ((rd_T158 l0_1 x3_2).f0.f1) true _ A31.out).mono ?_
                rintro e w40 ⟨rfl, hb⟩
                refine ⟨_, rfl, ?_⟩
                have n_ := as3_ (blkB_ BK618.out hb) (blkB_ BK621.out hb) (below_step (z6_ HB.out GE618.out GE621.out) hb)
                clear BK618 BK621 HB
                have ⟨BK618, BK621, HB⟩ := n_
                clear n_
                (try clear hb)
                (try clear hb2)
                (try clear hk)
                (try clear hi)
                refine hK.out _ _ ⟨(blk_cell BK618.out 0).trans rfl, (blk_cell BK618.out 1).trans rfl, (blk_cell BK621.out 0).trans rfl, (blk_cell BK621.out 1).trans rfl, (blk_cell BK621.out 2).trans rfl, (blk_cell BK621.out 3).trans rfl, ((HB.out.cell (World.block_lt_of_cell? w _ hw623_0)).trans hw623_0), ((HB.out.cell (World.block_lt_of_cell? w _ hw623_1)).trans hw623_1), ((HB.out.cell (World.block_lt_of_cell? w _ hw623_2)).trans hw623_2), ((HB.out.cell (World.block_lt_of_cell? w _ hw623_3)).trans hw623_3)⟩ (fun hHeld => ?_)
                clear hK K
                refine norm_ (a' := ?_) ?_ ?_
                rotate_left
                ·show Act.put _ (some 61) _ = _
                 simp only [Act.put, sa_, s0_, ss_, i64_w, i32_w]
                 rfl
                refine pu_ 35 62 spec_SetRight.q36 HT_.out ?_
                refine pu_ 36 63 spec_SetRight.q37 HT_.out ?_
                refine pu_ 37 64 spec_SetRight.q38 HT_.out ?_
                refine done_ (done_of HT_.out (by kernel_rfl)) ?_
                try go_wp2
                go_roundg k2
                case measure => have := HJ1.out; have := HK2.out; omega
                case rel => exact ⟨(wrap64 (x3_2 + 1)), (z2_), H', ⟨by have := HJ1.out; have := HK2.out; omega⟩, ⟨z9_ BK618.out⟩, ⟨z6_ HB.out GE618.out GE621.out⟩⟩
               ·replace c32 := Bool.eq_false_iff.mpr c32
                subst c32
                have H1 : (some false) = some r := by rw [if_neg (show ¬ (false = true) by decide)] at H; exact H
                clear H
                have H := H1
                clear H1
                obtain rfl := Option.some.inj H
                have ⟨hcz41_0, hcz41_1, hfz41_0, hfz41_1⟩ := cz2_ BK618.out
                have p620 : 0 ≤ (x3_2 : Int) := of_decide_eq_true (z3_)
                have q620 : x3_2 < (l0_1.length : Int) := of_decide_eq_true (z3_)
                obtain ⟨ad620, e620, hx620_0, hx620_1, hx620_2, hx620_3⟩ := at_T158 HR0_1.out x3_2 p620 q620
                (try rw [← Nbq24.out] at hx620_2)
                cases e620
                replace hx620_0 := (HB.out.cell (World.block_lt_of_cell? w _ hx620_0)).trans hx620_0
                replace hx620_1 := (HB.out.cell (World.block_lt_of_cell? w _ hx620_1)).trans hx620_1
                replace hx620_2 := (HB.out.cell (World.block_lt_of_cell? w _ hx620_2)).trans hx620_2
                replace hx620_3 := (HB.out.cell (World.block_lt_of_cell? w _ hx620_3)).trans hx620_3
                replace p620 := eq_true p620
                replace q620 := eq_true q620
                try go_wp2_with (first | ((with_reducible refine gate_dst (N := 4) rfl ?_); (try (refine gate_guard (by rfl) ?_; dsimp only)); refine box_event ?hg (N := 4) ?hd (cs := #[.int .i64 0, .int .i64 0, .bool false, .string (⟨#[]⟩ : ByteArray)]) (t := 158) ?hr ?_; (case hd => rfl); (case hg => rfl); (case hr => first | (go_simp; done) | (go_simp; rfl)); intro gb621 hg w42 hbox hb; have n_ := as7_ (blkB_ BK618.out hb) (below_step (z1_ HB.out GE618.out) hb) (hbox) ((z10_ HB.out GE618.out : w.heap.size ≤ gb621)) ((z10_ HB.out GE618.out : w.heap.size ≤ gb621)) (neL_ BK618.out hg) (neG_ BK618.out hg); clear BK618 HB; have ⟨BK618, HB, BK621, GW621, GE621, NB618_621, NB621_618⟩ := n_; clear n_; clear hb hbox hg; have hnb43 := NB621_618.out; have hnc43 := NB618_621.out; have hcz44_0 : w42.cell? ⟨gb621, 0, none⟩ = some (.int .i64 0) := (blk_cell BK621.out 0).trans rfl; have hcz44_1 : w42.cell? ⟨gb621, 1, none⟩ = some (.int .i64 0) := (blk_cell BK621.out 1).trans rfl; have hcz44_2 : w42.cell? ⟨gb621, 2, none⟩ = some (.bool false) := (blk_cell BK621.out 2).trans rfl; have hcz44_3 : w42.cell? ⟨gb621, 3, none⟩ = some (.string (⟨#[]⟩ : ByteArray)) := (blk_cell BK621.out 3).trans rfl; have hfz44_0 := blk_frozen BK621.out 0; have hfz44_1 := blk_frozen BK621.out 1; have hfz44_2 := blk_frozen BK621.out 2; have hfz44_3 := blk_frozen BK621.out 3))
                have n0_ : Aside0 (((((w42.setCell ⟨gb621, 0, none⟩ (.int .i64 ((rd_T158 l0_1 x3_2).f0.f0))).setCell ⟨gb621, 1, none⟩ (.int .i64 ((rd_T158 l0_1 x3_2).f0.f1))).setCell ⟨gb621, 2, none⟩ (.bool true)).setCell ⟨gb621, 3, none⟩ (.string ((rd_T158 l0_1 x3_2).f2))).heap[gb618]? = some (.cells #[.slice A0_0 l0_0.length c0_0, .slice (some ad620) l0_1.length c0_1] 60 (0, 0))) := ⟨z18_ NB618_621.out BK618.out⟩
                have n1_ : Aside0 (((((w42.setCell ⟨gb621, 0, none⟩ (.int .i64 ((rd_T158 l0_1 x3_2).f0.f0))).setCell ⟨gb621, 1, none⟩ (.int .i64 ((rd_T158 l0_1 x3_2).f0.f1))).setCell ⟨gb621, 2, none⟩ (.bool true)).setCell ⟨gb621, 3, none⟩ (.string ((rd_T158 l0_1 x3_2).f2))).heap[gb621]? = some (.cells #[.int .i64 ((rd_T158 l0_1 x3_2).f0.f0), .int .i64 ((rd_T158 l0_1 x3_2).f0.f1), .bool true, .string ((rd_T158 l0_1 x3_2).f2)] 158 (0, 0))) := ⟨z22_ BK621.out⟩
                have n2_ : Aside0 (Below w.heap.size w ((((w42.setCell ⟨gb621, 0, none⟩ (.int .i64 ((rd_T158 l0_1 x3_2).f0.f0))).setCell ⟨gb621, 1, none⟩ (.int .i64 ((rd_T158 l0_1 x3_2).f0.f1))).setCell ⟨gb621, 2, none⟩ (.bool true)).setCell ⟨gb621, 3, none⟩ (.string ((rd_T158 l0_1 x3_2).f2)))) := ⟨z6_ HB.out GE618.out GE621.out⟩
                (try clear BK618)
                (try clear BK621)
                (try clear HB)
                generalize ((((w42.setCell ⟨gb621, 0, none⟩ (.int .i64 ((rd_T158 l0_1 x3_2).f0.f0))).setCell ⟨gb621, 1, none⟩ (.int .i64 ((rd_T158 l0_1 x3_2).f0.f1))).setCell ⟨gb621, 2, none⟩ (.bool true)).setCell ⟨gb621, 3, none⟩ (.string ((rd_T158 l0_1 x3_2).f2))) = w45 at n0_ n1_ n2_ ⊢
                have BK618 := n0_
                have BK621 := n1_
                have HB := n2_
                clear n0_ n1_ n2_
                have n_ := as3_ (blk_drew BK618.out) (blk_drew BK621.out) (below_drew1 HB.out)
                clear BK618 BK621 HB
                have ⟨BK618, BK621, HB⟩ := n_
                clear n_
                have p623 : 0 ≤ ((ji28) : Int) := of_decide_eq_true (z3_)
                have q623 : (ji28) < (l0_1.length : Int) := of_decide_eq_true (z3_)
                obtain ⟨ad623, e623, hx623_0, hx623_1, hx623_2, hx623_3⟩ := at_T158 HR0_1.out (ji28) p623 q623
                have hw623_3 := hx623_3
                have hw623_2 := hx623_2
                have hw623_1 := hx623_1
                have hw623_0 := hx623_0
                (try rw [← Nbq24.out] at hx623_2)
                obtain rfl : ad620 = ad623 := (by injection e623)
                replace hx623_0 := (HB.out.cell (World.block_lt_of_cell? w _ hx623_0)).trans hx623_0
                replace hx623_1 := (HB.out.cell (World.block_lt_of_cell? w _ hx623_1)).trans hx623_1
                replace hx623_2 := (HB.out.cell (World.block_lt_of_cell? w _ hx623_2)).trans hx623_2
                replace hx623_3 := (HB.out.cell (World.block_lt_of_cell? w _ hx623_3)).trans hx623_3
                replace p623 := eq_true p623
                replace q623 := eq_true q623
                refine start_ (n := 38) (S := fun w' => w'.cell? ⟨gb618, 0, none⟩ = some (.slice A0_0 l0_0.length c0_0) ∧ w'.cell? ⟨gb618, 1, none⟩ = some (.slice (some ad620) l0_1.length c0_1) ∧ w'.cell? ⟨gb621, 0, none⟩ = some (.int .i64 ((rd_T158 l0_1 x3_2).f0.f0)) ∧ w'.cell? ⟨gb621, 1, none⟩ = some (.int .i64 ((rd_T158 l0_1 x3_2).f0.f1)) ∧ w'.cell? ⟨gb621, 2, none⟩ = some (.bool true) ∧ w'.cell? ⟨gb621, 3, none⟩ = some (.string ((rd_T158 l0_1 x3_2).f2)) ∧ w'.cell? (ad620.add (((ji28)).toNat * 4)) = some (.int .i64 ((rd_T158 l0_1 (ji28)).f0.f0)) ∧ w'.cell? ⟨(ad620.add (((ji28)).toNat * 4)).block, (ad620.add (((ji28)).toNat * 4)).off + 1, none⟩ = some (.int .i64 ((rd_T158 l0_1 (ji28)).f0.f1)) ∧ w'.cell? ⟨(ad620.add (((ji28)).toNat * 4)).block, (ad620.add (((ji28)).toNat * 4)).off + 2, none⟩ = some (.bool ((rd_T158 l0_1 (ji28)).f1)) ∧ w'.cell? ⟨(ad620.add (((ji28)).toNat * 4)).block, (ad620.add (((ji28)).toNat * 4)).off + 3, none⟩ = some (.string ((rd_T158 l0_1 (ji28)).f2))) (ds := []) spec_SetRight.q0 (by kernel_rfl) rfl rfl ⟨(blk_cell BK618.out 0).trans rfl, (blk_cell BK618.out 1).trans rfl, (blk_cell BK621.out 0).trans rfl, (blk_cell BK621.out 1).trans rfl, (blk_cell BK621.out 2).trans rfl, (blk_cell BK621.out 3).trans rfl, ((HB.out.cell (World.block_lt_of_cell? w _ hw623_0)).trans hw623_0), ((HB.out.cell (World.block_lt_of_cell? w _ hw623_1)).trans hw623_1), ((HB.out.cell (World.block_lt_of_cell? w _ hw623_2)).trans hw623_2), ((HB.out.cell (World.block_lt_of_cell? w _ hw623_3)).trans hw623_3)⟩ (fun hHeld => ?_); refine with_tabW spec_SetRight.tab7 spec_SetRight.bits7 (fun HT_ HW_ => ?_)
                generalize w45.drew = w46 at BK618 BK621 HB hx623_0 hx623_1 hx623_2 hx623_3 hHeld ⊢
                refine pu_ 0 27 spec_SetRight.q1 HT_.out ?_
                refine pu_ 2 29 spec_SetRight.q2 HT_.out ?_
                refine tk10_ 1 28 spec_SetRight.q3 HT_.out HW_.out hHeld ?_
                refine tk10_ 3 30 spec_SetRight.q4 HT_.out HW_.out hHeld ?_
                refine one_ (i := 4) (N := some 31) spec_SetRight.q5 rfl rfl (one_of HT_.out (by kernel_rfl)) (by decide) (fun K hK => ?_)
                refine goes_ Try.func34 (by kernel_rfl) rfl #[.slice A0_0 l0_0.length c0_0, .agg #[.int .i64 ((rd_T158 l0_1 x3_2).f0.f0), .int .i64 ((rd_T158 l0_1 x3_2).f0.f1)]] (by rfl) rfl rfl (z0_) ?_
                with_reducible refine (spec_SeenHas.calls k2 _ _ l0_0 ((rd_T158 l0_1 x3_2).f0.f0) ((rd_T158 l0_1 x3_2).f0.f1) true _ ?side1 ?side2 A14.out).mono ?_
                (case side1 => exact z12_ HR0_0.out HB.out)
                (case side2 => exact HC0_0.out)
                rintro e w47 ⟨rfl, hb⟩
                refine ⟨_, rfl, ?_⟩
                have n_ := as3_ (blkB_ BK618.out hb) (blkB_ BK621.out hb) (below_step (z6_ HB.out GE618.out GE621.out) hb)
                clear BK618 BK621 HB
                have ⟨BK618, BK621, HB⟩ := n_
                clear n_
                (try clear hb)
                (try clear hb2)
                (try clear hk)
                (try clear hi)
                refine hK.out _ _ ⟨(blk_cell BK618.out 0).trans rfl, (blk_cell BK618.out 1).trans rfl, (blk_cell BK621.out 0).trans rfl, (blk_cell BK621.out 1).trans rfl, (blk_cell BK621.out 2).trans rfl, (blk_cell BK621.out 3).trans rfl, ((HB.out.cell (World.block_lt_of_cell? w _ hw623_0)).trans hw623_0), ((HB.out.cell (World.block_lt_of_cell? w _ hw623_1)).trans hw623_1), ((HB.out.cell (World.block_lt_of_cell? w _ hw623_2)).trans hw623_2), ((HB.out.cell (World.block_lt_of_cell? w _ hw623_3)).trans hw623_3)⟩ (fun hHeld => ?_)
                clear hK K
                refine norm_ (a' := ?_) ?_ ?_
                rotate_left
                ·show Act.put _ (some 31) _ = _
                 simp only [Act.put, sa_, s0_, ss_, i64_w, i32_w]
                 rfl
                refine pu_ 5 32 spec_SetRight.q6 HT_.out ?_
                refine pu_ 6 33 spec_SetRight.q7 HT_.out ?_
                refine pu_ 7 34 spec_SetRight.q8 HT_.out ?_
                refine tk10_ 8 35 spec_SetRight.q9 HT_.out HW_.out hHeld ?_
                refine pu_ 9 36 spec_SetRight.q10 HT_.out ?_
                refine pu_ 10 37 spec_SetRight.q11 HT_.out ?_
                refine pu_ 11 38 spec_SetRight.q12 HT_.out ?_
                refine pu_ 12 39 spec_SetRight.q13 HT_.out ?_
                refine pu_ 13 40 spec_SetRight.q14 HT_.out ?_
                refine tk10_ 14 41 spec_SetRight.q15 HT_.out HW_.out hHeld ?_
                refine pu_ 15 42 spec_SetRight.q16 HT_.out ?_
                refine pu_ 16 43 spec_SetRight.q17 HT_.out ?_
                refine tk10_ 17 44 spec_SetRight.q18 HT_.out HW_.out hHeld ?_
                refine pu_ 18 45 spec_SetRight.q19 HT_.out ?_
                refine pu_ 19 46 spec_SetRight.q20 HT_.out ?_
                refine pu_ 20 47 spec_SetRight.q21 HT_.out ?_
                refine pu_ 21 48 spec_SetRight.q22 HT_.out ?_
                refine pu_ 22 49 spec_SetRight.q23 HT_.out ?_
                refine pu_ 23 50 spec_SetRight.q24 HT_.out ?_
                refine pu_ 24 51 spec_SetRight.q25 HT_.out ?_
                refine pu_ 25 52 spec_SetRight.q26 HT_.out ?_
                refine pu_ 27 54 spec_SetRight.q39 HT_.out ?_
                refine pu_ 28 55 spec_SetRight.q40 HT_.out ?_
                refine pu_ 32 59 spec_SetRight.q41 HT_.out ?_
                refine tk10_ 26 53 spec_SetRight.q42 HT_.out HW_.out hHeld ?_
                refine pu_ 29 56 spec_SetRight.q43 HT_.out ?_
                refine pu_ 30 57 spec_SetRight.q44 HT_.out ?_
                refine tk10_ 31 58 spec_SetRight.q33 HT_.out HW_.out hHeld ?_
                refine tk10_ 33 60 spec_SetRight.q34 HT_.out HW_.out hHeld ?_
                refine one_ (i := 34) (N := some 61) spec_SetRight.q35 rfl rfl (one_of HT_.out (by kernel_rfl)) (by decide) (fun K hK => ?_)
                refine goes_ Try.func118 (by kernel_rfl) rfl #[.agg #[.int .i64 ((rd_T158 l0_1 (ji28)).f0.f0), .int .i64 ((rd_T158 l0_1 (ji28)).f0.f1)], .agg #[.int .i64 ((rd_T158 l0_1 x3_2).f0.f0), .int .i64 ((rd_T158 l0_1 x3_2).f0.f1)]] (by rfl) rfl rfl (by (try simp only [List.map_toArray, List.map_cons, List.map_nil]); first | done | (simp only [hji28]; rfl) | rfl | (simp only [List.length_drop, List.length_take]; rfl)) ?_
                with_reducible refine (spec_l03Less.calls ((rd_T158 l0_1 (ji28)).f0.f0) ((rd_T158 l0_1 (ji28)).f0.f1) ((rd_T158 l0_1 x3_2).f0.f0) ((rd_T158 l0_1 x3_2).f0.f1) false _ A31.out).mono ?_
                rintro e w48 ⟨rfl, hb⟩
                refine ⟨_, rfl, ?_⟩
                have n_ := as3_ (blkB_ BK618.out hb) (blkB_ BK621.out hb) (below_step (z6_ HB.out GE618.out GE621.out) hb)
                clear BK618 BK621 HB
                have ⟨BK618, BK621, HB⟩ := n_
                clear n_
                (try clear hb)
                (try clear hb2)
                (try clear hk)
                (try clear hi)
                refine hK.out _ _ ⟨(blk_cell BK618.out 0).trans rfl, (blk_cell BK618.out 1).trans rfl, (blk_cell BK621.out 0).trans rfl, (blk_cell BK621.out 1).trans rfl, (blk_cell BK621.out 2).trans rfl, (blk_cell BK621.out 3).trans rfl, ((HB.out.cell (World.block_lt_of_cell? w _ hw623_0)).trans hw623_0), ((HB.out.cell (World.block_lt_of_cell? w _ hw623_1)).trans hw623_1), ((HB.out.cell (World.block_lt_of_cell? w _ hw623_2)).trans hw623_2), ((HB.out.cell (World.block_lt_of_cell? w _ hw623_3)).trans hw623_3)⟩ (fun hHeld => ?_)
                clear hK K
                refine norm_ (a' := ?_) ?_ ?_
                rotate_left
                ·show Act.put _ (some 61) _ = _
                 simp only [Act.put, sa_, s0_, ss_, i64_w, i32_w]
                 rfl
                refine pu_ 35 62 spec_SetRight.q36 HT_.out ?_
                refine pu_ 36 63 spec_SetRight.q37 HT_.out ?_
                refine pu_ 37 64 spec_SetRight.q38 HT_.out ?_
                refine done_ (done_of HT_.out (by kernel_rfl)) ?_
                try go_wp2
                go_ret
                exact ⟨by first | rfl | (simp [errW_none, errW_some] <;> rfl) | (simp only [← hji28]; first | rfl | (simp [errW_none, errW_some] <;> rfl)) | (simp [*, errW_none, errW_some] <;> rfl), z6_ HB.out GE618.out GE621.out⟩
              ·rw [if_neg c30] at H
               exact absurd H (by simp)
             ·rw [if_neg c29] at H
              exact absurd H (by simp)
            ·rw [if_neg c27] at H
             have c27b0 : decide (0 < x3_2) = false := decide_eq_false c27
             clear c27
             have H' := Aside0.mk H
             clear H
             have ⟨hcz49_0, hcz49_1, hfz49_0, hfz49_1⟩ := cz2_ BK618.out
             have p620 : 0 ≤ (x3_2 : Int) := of_decide_eq_true (z3_)
             have q620 : x3_2 < (l0_1.length : Int) := of_decide_eq_true (z3_)
             obtain ⟨ad620, e620, hx620_0, hx620_1, hx620_2, hx620_3⟩ := at_T158 HR0_1.out x3_2 p620 q620
             (try rw [← Nbq24.out] at hx620_2)
             cases e620
             replace hx620_0 := (HB.out.cell (World.block_lt_of_cell? w _ hx620_0)).trans hx620_0
             replace hx620_1 := (HB.out.cell (World.block_lt_of_cell? w _ hx620_1)).trans hx620_1
             replace hx620_2 := (HB.out.cell (World.block_lt_of_cell? w _ hx620_2)).trans hx620_2
             replace hx620_3 := (HB.out.cell (World.block_lt_of_cell? w _ hx620_3)).trans hx620_3
             replace p620 := eq_true p620
             replace q620 := eq_true q620
             try go_wp2_with (first | ((with_reducible refine gate_dst (N := 4) rfl ?_); (try (refine gate_guard (by rfl) ?_; dsimp only)); refine box_event ?hg (N := 4) ?hd (cs := #[.int .i64 0, .int .i64 0, .bool false, .string (⟨#[]⟩ : ByteArray)]) (t := 158) ?hr ?_; (case hd => rfl); (case hg => rfl); (case hr => first | (go_simp; done) | (go_simp; rfl)); intro gb621 hg w50 hbox hb; have n_ := as7_ (blkB_ BK618.out hb) (below_step (z1_ HB.out GE618.out) hb) (hbox) ((z10_ HB.out GE618.out : w.heap.size ≤ gb621)) ((z10_ HB.out GE618.out : w.heap.size ≤ gb621)) (neL_ BK618.out hg) (neG_ BK618.out hg); clear BK618 HB; have ⟨BK618, HB, BK621, GW621, GE621, NB618_621, NB621_618⟩ := n_; clear n_; clear hb hbox hg; have hnb51 := NB621_618.out; have hnc51 := NB618_621.out; have hcz52_0 : w50.cell? ⟨gb621, 0, none⟩ = some (.int .i64 0) := (blk_cell BK621.out 0).trans rfl; have hcz52_1 : w50.cell? ⟨gb621, 1, none⟩ = some (.int .i64 0) := (blk_cell BK621.out 1).trans rfl; have hcz52_2 : w50.cell? ⟨gb621, 2, none⟩ = some (.bool false) := (blk_cell BK621.out 2).trans rfl; have hcz52_3 : w50.cell? ⟨gb621, 3, none⟩ = some (.string (⟨#[]⟩ : ByteArray)) := (blk_cell BK621.out 3).trans rfl; have hfz52_0 := blk_frozen BK621.out 0; have hfz52_1 := blk_frozen BK621.out 1; have hfz52_2 := blk_frozen BK621.out 2; have hfz52_3 := blk_frozen BK621.out 3))
             have n0_ : Aside0 (((((w50.setCell ⟨gb621, 0, none⟩ (.int .i64 ((rd_T158 l0_1 x3_2).f0.f0))).setCell ⟨gb621, 1, none⟩ (.int .i64 ((rd_T158 l0_1 x3_2).f0.f1))).setCell ⟨gb621, 2, none⟩ (.bool true)).setCell ⟨gb621, 3, none⟩ (.string ((rd_T158 l0_1 x3_2).f2))).heap[gb618]? = some (.cells #[.slice A0_0 l0_0.length c0_0, .slice (some ad620) l0_1.length c0_1] 60 (0, 0))) := ⟨z18_ NB618_621.out BK618.out⟩
             have n1_ : Aside0 (((((w50.setCell ⟨gb621, 0, none⟩ (.int .i64 ((rd_T158 l0_1 x3_2).f0.f0))).setCell ⟨gb621, 1, none⟩ (.int .i64 ((rd_T158 l0_1 x3_2).f0.f1))).setCell ⟨gb621, 2, none⟩ (.bool true)).setCell ⟨gb621, 3, none⟩ (.string ((rd_T158 l0_1 x3_2).f2))).heap[gb621]? = some (.cells #[.int .i64 ((rd_T158 l0_1 x3_2).f0.f0), .int .i64 ((rd_T158 l0_1 x3_2).f0.f1), .bool true, .string ((rd_T158 l0_1 x3_2).f2)] 158 (0, 0))) := ⟨z22_ BK621.out⟩
             have n2_ : Aside0 (Below w.heap.size w ((((w50.setCell ⟨gb621, 0, none⟩ (.int .i64 ((rd_T158 l0_1 x3_2).f0.f0))).setCell ⟨gb621, 1, none⟩ (.int .i64 ((rd_T158 l0_1 x3_2).f0.f1))).setCell ⟨gb621, 2, none⟩ (.bool true)).setCell ⟨gb621, 3, none⟩ (.string ((rd_T158 l0_1 x3_2).f2)))) := ⟨z6_ HB.out GE618.out GE621.out⟩
             (try clear BK618)
             (try clear BK621)
             (try clear HB)
             generalize ((((w50.setCell ⟨gb621, 0, none⟩ (.int .i64 ((rd_T158 l0_1 x3_2).f0.f0))).setCell ⟨gb621, 1, none⟩ (.int .i64 ((rd_T158 l0_1 x3_2).f0.f1))).setCell ⟨gb621, 2, none⟩ (.bool true)).setCell ⟨gb621, 3, none⟩ (.string ((rd_T158 l0_1 x3_2).f2))) = w53 at n0_ n1_ n2_ ⊢
             have BK618 := n0_
             have BK621 := n1_
             have HB := n2_
             clear n0_ n1_ n2_
             have n_ := as3_ (blk_drew BK618.out) (blk_drew BK621.out) (below_drew1 HB.out)
             clear BK618 BK621 HB
             have ⟨BK618, BK621, HB⟩ := n_
             clear n_
             refine start_ (n := 38) (S := fun w' => w'.cell? ⟨gb618, 0, none⟩ = some (.slice A0_0 l0_0.length c0_0) ∧ w'.cell? ⟨gb618, 1, none⟩ = some (.slice (some ad620) l0_1.length c0_1) ∧ w'.cell? ⟨gb621, 0, none⟩ = some (.int .i64 ((rd_T158 l0_1 x3_2).f0.f0)) ∧ w'.cell? ⟨gb621, 1, none⟩ = some (.int .i64 ((rd_T158 l0_1 x3_2).f0.f1)) ∧ w'.cell? ⟨gb621, 2, none⟩ = some (.bool true) ∧ w'.cell? ⟨gb621, 3, none⟩ = some (.string ((rd_T158 l0_1 x3_2).f2))) (ds := []) spec_SetRight.q0 (by kernel_rfl) rfl rfl ⟨(blk_cell BK618.out 0).trans rfl, (blk_cell BK618.out 1).trans rfl, (blk_cell BK621.out 0).trans rfl, (blk_cell BK621.out 1).trans rfl, (blk_cell BK621.out 2).trans rfl, (blk_cell BK621.out 3).trans rfl⟩ (fun hHeld => ?_); refine with_tabW spec_SetRight.tab7 spec_SetRight.bits7 (fun HT_ HW_ => ?_)
             generalize w53.drew = w54 at BK618 BK621 HB hHeld ⊢
             refine pu_ 0 27 spec_SetRight.q1 HT_.out ?_
             refine pu_ 2 29 spec_SetRight.q2 HT_.out ?_
             refine tk6_ 1 28 spec_SetRight.q3 HT_.out HW_.out hHeld ?_
             refine tk6_ 3 30 spec_SetRight.q4 HT_.out HW_.out hHeld ?_
             refine one_ (i := 4) (N := some 31) spec_SetRight.q5 rfl rfl (one_of HT_.out (by kernel_rfl)) (by decide) (fun K hK => ?_)
             refine goes_ Try.func34 (by kernel_rfl) rfl #[.slice A0_0 l0_0.length c0_0, .agg #[.int .i64 ((rd_T158 l0_1 x3_2).f0.f0), .int .i64 ((rd_T158 l0_1 x3_2).f0.f1)]] (by rfl) rfl rfl (z0_) ?_
             with_reducible refine (spec_SeenHas.calls k2 _ _ l0_0 ((rd_T158 l0_1 x3_2).f0.f0) ((rd_T158 l0_1 x3_2).f0.f1) true _ ?side1 ?side2 A14.out).mono ?_
             (case side1 => exact z12_ HR0_0.out HB.out)
             (case side2 => exact HC0_0.out)
             rintro e w55 ⟨rfl, hb⟩
             refine ⟨_, rfl, ?_⟩
             have n_ := as3_ (blkB_ BK618.out hb) (blkB_ BK621.out hb) (below_step (z6_ HB.out GE618.out GE621.out) hb)
             clear BK618 BK621 HB
             have ⟨BK618, BK621, HB⟩ := n_
             clear n_
             (try clear hb)
             (try clear hb2)
             (try clear hk)
             (try clear hi)
             refine hK.out _ _ ⟨(blk_cell BK618.out 0).trans rfl, (blk_cell BK618.out 1).trans rfl, (blk_cell BK621.out 0).trans rfl, (blk_cell BK621.out 1).trans rfl, (blk_cell BK621.out 2).trans rfl, (blk_cell BK621.out 3).trans rfl⟩ (fun hHeld => ?_)
             clear hK K
             refine norm_ (a' := ?_) ?_ ?_
             rotate_left
             ·show Act.put _ (some 31) _ = _
              simp only [Act.put, sa_, s0_, ss_, i64_w, i32_w]
              rfl
             refine pu_ 5 32 spec_SetRight.q6 HT_.out ?_
             refine pu_ 6 33 spec_SetRight.q7 HT_.out ?_
             refine pu_ 7 34 spec_SetRight.q8 HT_.out ?_
             refine tk6_ 8 35 spec_SetRight.q9 HT_.out HW_.out hHeld ?_
             refine pu_ 9 36 spec_SetRight.q10 HT_.out ?_
             refine pu_ 10 37 spec_SetRight.q11 HT_.out ?_
             refine pu_ 11 38 spec_SetRight.q12 HT_.out ?_
             refine pu_ 12 39 spec_SetRight.q13 HT_.out ?_
             refine pu_ 13 40 spec_SetRight.q14 HT_.out ?_
             refine tk6_ 14 41 spec_SetRight.q15 HT_.out HW_.out hHeld ?_
             refine pu_ 15 42 spec_SetRight.q16 HT_.out ?_
             refine pu_ 16 43 spec_SetRight.q17 HT_.out ?_
             refine tk6_ 17 44 spec_SetRight.q18 HT_.out HW_.out hHeld ?_
             refine pu_ 18 45 spec_SetRight.q19 HT_.out ?_
             refine pu_ 19 46 spec_SetRight.q20 HT_.out ?_
             refine pu_ 20 47 spec_SetRight.q21 HT_.out ?_
             refine pu_ 21 48 spec_SetRight.q22 HT_.out ?_
             refine pu_ 22 49 spec_SetRight.q23 HT_.out ?_
             refine pu_ 23 50 spec_SetRight.q24 HT_.out ?_
             refine pu_ 24 51 spec_SetRight.q25 HT_.out ?_
             refine pn_ 25 52 spec_SetRight.q26 HT_.out ?_
             refine pn_ 26 53 spec_SetRight.q27 HT_.out ?_
             refine pn_ 27 54 spec_SetRight.q28 HT_.out ?_
             refine pn_ 28 55 spec_SetRight.q29 HT_.out ?_
             refine pn_ 29 56 spec_SetRight.q30 HT_.out ?_
             refine pn_ 30 57 spec_SetRight.q31 HT_.out ?_
             refine pn_ 31 58 spec_SetRight.q32 HT_.out ?_
             refine pn_ 32 59 spec_SetRight.q33 HT_.out ?_
             refine pn_ 33 60 spec_SetRight.q34 HT_.out ?_
             refine pn_ 34 61 spec_SetRight.q35 HT_.out ?_
             refine pn_ 35 62 spec_SetRight.q36 HT_.out ?_
             refine pu_ 36 63 spec_SetRight.q37 HT_.out ?_
             refine pu_ 37 64 spec_SetRight.q38 HT_.out ?_
             refine done_ (done_of HT_.out (by kernel_rfl)) ?_
             try go_wp2
             go_roundg k2
             case measure => have := HJ1.out; have := HK2.out; omega
             case rel => exact ⟨(wrap64 (x3_2 + 1)), (z2_), H', ⟨by have := HJ1.out; have := HK2.out; omega⟩, ⟨z9_ BK618.out⟩, ⟨z6_ HB.out GE618.out GE621.out⟩⟩
           ·rw [if_neg c26] at H
            have c26b0 : (((rd_T158 l0_1 x3_2).f2).toList == ([] : List UInt8)) = false := beq_eq_false_iff_ne.mpr c26
            have c26b1 : (((rd_T158 l0_1 x3_2).f2).toList != ([] : List UInt8)) = true := bne_iff_ne.mpr c26
            obtain rfl := Option.some.inj H
            have ⟨hcz56_0, hcz56_1, hfz56_0, hfz56_1⟩ := cz2_ BK618.out
            have p620 : 0 ≤ (x3_2 : Int) := of_decide_eq_true (z3_)
            have q620 : x3_2 < (l0_1.length : Int) := of_decide_eq_true (z3_)
            obtain ⟨ad620, e620, hx620_0, hx620_1, hx620_2, hx620_3⟩ := at_T158 HR0_1.out x3_2 p620 q620
            (try rw [← Nbq24.out] at hx620_2)
            cases e620
            replace hx620_0 := (HB.out.cell (World.block_lt_of_cell? w _ hx620_0)).trans hx620_0
            replace hx620_1 := (HB.out.cell (World.block_lt_of_cell? w _ hx620_1)).trans hx620_1
            replace hx620_2 := (HB.out.cell (World.block_lt_of_cell? w _ hx620_2)).trans hx620_2
            replace hx620_3 := (HB.out.cell (World.block_lt_of_cell? w _ hx620_3)).trans hx620_3
            replace p620 := eq_true p620
            replace q620 := eq_true q620
            try go_wp2_with (first | ((with_reducible refine gate_dst (N := 4) rfl ?_); (try (refine gate_guard (by rfl) ?_; dsimp only)); refine box_event ?hg (N := 4) ?hd (cs := #[.int .i64 0, .int .i64 0, .bool false, .string (⟨#[]⟩ : ByteArray)]) (t := 158) ?hr ?_; (case hd => rfl); (case hg => rfl); (case hr => first | (go_simp; done) | (go_simp; rfl)); intro gb621 hg w57 hbox hb; have n_ := as7_ (blkB_ BK618.out hb) (below_step (z1_ HB.out GE618.out) hb) (hbox) ((z10_ HB.out GE618.out : w.heap.size ≤ gb621)) ((z10_ HB.out GE618.out : w.heap.size ≤ gb621)) (neL_ BK618.out hg) (neG_ BK618.out hg); clear BK618 HB; have ⟨BK618, HB, BK621, GW621, GE621, NB618_621, NB621_618⟩ := n_; clear n_; clear hb hbox hg; have hnb58 := NB621_618.out; have hnc58 := NB618_621.out; have hcz59_0 : w57.cell? ⟨gb621, 0, none⟩ = some (.int .i64 0) := (blk_cell BK621.out 0).trans rfl; have hcz59_1 : w57.cell? ⟨gb621, 1, none⟩ = some (.int .i64 0) := (blk_cell BK621.out 1).trans rfl; have hcz59_2 : w57.cell? ⟨gb621, 2, none⟩ = some (.bool false) := (blk_cell BK621.out 2).trans rfl; have hcz59_3 : w57.cell? ⟨gb621, 3, none⟩ = some (.string (⟨#[]⟩ : ByteArray)) := (blk_cell BK621.out 3).trans rfl; have hfz59_0 := blk_frozen BK621.out 0; have hfz59_1 := blk_frozen BK621.out 1; have hfz59_2 := blk_frozen BK621.out 2; have hfz59_3 := blk_frozen BK621.out 3))
            have n0_ : Aside0 (((((w57.setCell ⟨gb621, 0, none⟩ (.int .i64 ((rd_T158 l0_1 x3_2).f0.f0))).setCell ⟨gb621, 1, none⟩ (.int .i64 ((rd_T158 l0_1 x3_2).f0.f1))).setCell ⟨gb621, 2, none⟩ (.bool true)).setCell ⟨gb621, 3, none⟩ (.string ((rd_T158 l0_1 x3_2).f2))).heap[gb618]? = some (.cells #[.slice A0_0 l0_0.length c0_0, .slice (some ad620) l0_1.length c0_1] 60 (0, 0))) := ⟨z18_ NB618_621.out BK618.out⟩
            have n1_ : Aside0 (((((w57.setCell ⟨gb621, 0, none⟩ (.int .i64 ((rd_T158 l0_1 x3_2).f0.f0))).setCell ⟨gb621, 1, none⟩ (.int .i64 ((rd_T158 l0_1 x3_2).f0.f1))).setCell ⟨gb621, 2, none⟩ (.bool true)).setCell ⟨gb621, 3, none⟩ (.string ((rd_T158 l0_1 x3_2).f2))).heap[gb621]? = some (.cells #[.int .i64 ((rd_T158 l0_1 x3_2).f0.f0), .int .i64 ((rd_T158 l0_1 x3_2).f0.f1), .bool true, .string ((rd_T158 l0_1 x3_2).f2)] 158 (0, 0))) := ⟨z22_ BK621.out⟩
            have n2_ : Aside0 (Below w.heap.size w ((((w57.setCell ⟨gb621, 0, none⟩ (.int .i64 ((rd_T158 l0_1 x3_2).f0.f0))).setCell ⟨gb621, 1, none⟩ (.int .i64 ((rd_T158 l0_1 x3_2).f0.f1))).setCell ⟨gb621, 2, none⟩ (.bool true)).setCell ⟨gb621, 3, none⟩ (.string ((rd_T158 l0_1 x3_2).f2)))) := ⟨z6_ HB.out GE618.out GE621.out⟩
            (try clear BK618)
            (try clear BK621)
            (try clear HB)
            generalize ((((w57.setCell ⟨gb621, 0, none⟩ (.int .i64 ((rd_T158 l0_1 x3_2).f0.f0))).setCell ⟨gb621, 1, none⟩ (.int .i64 ((rd_T158 l0_1 x3_2).f0.f1))).setCell ⟨gb621, 2, none⟩ (.bool true)).setCell ⟨gb621, 3, none⟩ (.string ((rd_T158 l0_1 x3_2).f2))) = w60 at n0_ n1_ n2_ ⊢
            have BK618 := n0_
            have BK621 := n1_
            have HB := n2_
            clear n0_ n1_ n2_
            have n_ := as3_ (blk_drew BK618.out) (blk_drew BK621.out) (below_drew1 HB.out)
            clear BK618 BK621 HB
            have ⟨BK618, BK621, HB⟩ := n_
            clear n_
            refine start_ (n := 38) (S := fun w' => w'.cell? ⟨gb618, 0, none⟩ = some (.slice A0_0 l0_0.length c0_0) ∧ w'.cell? ⟨gb618, 1, none⟩ = some (.slice (some ad620) l0_1.length c0_1) ∧ w'.cell? ⟨gb621, 0, none⟩ = some (.int .i64 ((rd_T158 l0_1 x3_2).f0.f0)) ∧ w'.cell? ⟨gb621, 1, none⟩ = some (.int .i64 ((rd_T158 l0_1 x3_2).f0.f1)) ∧ w'.cell? ⟨gb621, 2, none⟩ = some (.bool true) ∧ w'.cell? ⟨gb621, 3, none⟩ = some (.string ((rd_T158 l0_1 x3_2).f2))) (ds := []) spec_SetRight.q0 (by kernel_rfl) rfl rfl ⟨(blk_cell BK618.out 0).trans rfl, (blk_cell BK618.out 1).trans rfl, (blk_cell BK621.out 0).trans rfl, (blk_cell BK621.out 1).trans rfl, (blk_cell BK621.out 2).trans rfl, (blk_cell BK621.out 3).trans rfl⟩ (fun hHeld => ?_); refine with_tabW spec_SetRight.tab7 spec_SetRight.bits7 (fun HT_ HW_ => ?_)
            generalize w60.drew = w61 at BK618 BK621 HB hHeld ⊢
            refine pu_ 0 27 spec_SetRight.q1 HT_.out ?_
            refine pu_ 2 29 spec_SetRight.q2 HT_.out ?_
            refine tk6_ 1 28 spec_SetRight.q3 HT_.out HW_.out hHeld ?_
            refine tk6_ 3 30 spec_SetRight.q4 HT_.out HW_.out hHeld ?_
            refine one_ (i := 4) (N := some 31) spec_SetRight.q5 rfl rfl (one_of HT_.out (by kernel_rfl)) (by decide) (fun K hK => ?_)
            refine goes_ Try.func34 (by kernel_rfl) rfl #[.slice A0_0 l0_0.length c0_0, .agg #[.int .i64 ((rd_T158 l0_1 x3_2).f0.f0), .int .i64 ((rd_T158 l0_1 x3_2).f0.f1)]] (by rfl) rfl rfl (z0_) ?_
            with_reducible refine (spec_SeenHas.calls k2 _ _ l0_0 ((rd_T158 l0_1 x3_2).f0.f0) ((rd_T158 l0_1 x3_2).f0.f1) true _ ?side1 ?side2 A14.out).mono ?_
            (case side1 => exact z12_ HR0_0.out HB.out)
            (case side2 => exact HC0_0.out)
            rintro e w62 ⟨rfl, hb⟩
            refine ⟨_, rfl, ?_⟩
            have n_ := as3_ (blkB_ BK618.out hb) (blkB_ BK621.out hb) (below_step (z6_ HB.out GE618.out GE621.out) hb)
            clear BK618 BK621 HB
            have ⟨BK618, BK621, HB⟩ := n_
            clear n_
            (try clear hb)
            (try clear hb2)
            (try clear hk)
            (try clear hi)
            refine hK.out _ _ ⟨(blk_cell BK618.out 0).trans rfl, (blk_cell BK618.out 1).trans rfl, (blk_cell BK621.out 0).trans rfl, (blk_cell BK621.out 1).trans rfl, (blk_cell BK621.out 2).trans rfl, (blk_cell BK621.out 3).trans rfl⟩ (fun hHeld => ?_)
            clear hK K
            refine norm_ (a' := ?_) ?_ ?_
            rotate_left
            ·show Act.put _ (some 31) _ = _
             simp only [Act.put, sa_, s0_, ss_, i64_w, i32_w]
             rfl
            refine pu_ 5 32 spec_SetRight.q6 HT_.out ?_
            refine pu_ 6 33 spec_SetRight.q7 HT_.out ?_
            refine pu_ 7 34 spec_SetRight.q8 HT_.out ?_
            refine tk6_ 8 35 spec_SetRight.q9 HT_.out HW_.out hHeld ?_
            refine pu_ 9 36 spec_SetRight.q10 HT_.out ?_
            refine pu_ 10 37 spec_SetRight.q11 HT_.out ?_
            refine pu_ 11 38 spec_SetRight.q12 HT_.out ?_
            refine pu_ 12 39 spec_SetRight.q13 HT_.out ?_
            refine pu_ 13 40 spec_SetRight.q14 HT_.out ?_
            refine tk6_ 14 41 spec_SetRight.q15 HT_.out HW_.out hHeld ?_
            refine pu_ 15 42 spec_SetRight.q16 HT_.out ?_
            refine pu_ 16 43 spec_SetRight.q17 HT_.out ?_
            refine tk6_ 17 44 spec_SetRight.q18 HT_.out HW_.out hHeld ?_
            refine pu_ 18 45 spec_SetRight.q19 HT_.out ?_
            refine pu_ 19 46 spec_SetRight.q20 HT_.out ?_
            refine pu_ 20 47 spec_SetRight.q21 HT_.out ?_
            refine pu_ 21 48 spec_SetRight.q22 HT_.out ?_
            refine pn_ 22 49 spec_SetRight.q23 HT_.out ?_
            refine pn_ 23 50 spec_SetRight.q24 HT_.out ?_
            refine pn_ 24 51 spec_SetRight.q25 HT_.out ?_
            refine pn_ 25 52 spec_SetRight.q26 HT_.out ?_
            refine pn_ 26 53 spec_SetRight.q27 HT_.out ?_
            refine pn_ 27 54 spec_SetRight.q28 HT_.out ?_
            refine pn_ 28 55 spec_SetRight.q29 HT_.out ?_
            refine pn_ 29 56 spec_SetRight.q30 HT_.out ?_
            refine pn_ 30 57 spec_SetRight.q31 HT_.out ?_
            refine pn_ 31 58 spec_SetRight.q32 HT_.out ?_
            refine pn_ 32 59 spec_SetRight.q33 HT_.out ?_
            refine pn_ 33 60 spec_SetRight.q34 HT_.out ?_
            refine pn_ 34 61 spec_SetRight.q35 HT_.out ?_
            refine pn_ 35 62 spec_SetRight.q36 HT_.out ?_
            refine pn_ 36 63 spec_SetRight.q37 HT_.out ?_
            refine pu_ 37 64 spec_SetRight.q38 HT_.out ?_
            refine done_ (done_of HT_.out (by kernel_rfl)) ?_
            try go_wp2
            go_ret
            exact ⟨z8_, z6_ HB.out GE618.out GE621.out⟩
          ·replace c25 := Bool.eq_false_iff.mpr c25
           subst c25
           have H1 : (if x3_2 > 0 then (if 0 ≤ (wrap64 (x3_2 - 1)) then (if (wrap64 (x3_2 - 1)) < (l0_1.length : Int) then ((spec_l03Less.f ((rd_T158 l0_1 (wrap64 (x3_2 - 1))).f0.f0) ((rd_T158 l0_1 (wrap64 (x3_2 - 1))).f0.f1) ((rd_T158 l0_1 x3_2).f0.f0) ((rd_T158 l0_1 x3_2).f0.f1)).bind fun t626 => (if t626 = true then (spec_SetRight.l0 k2 (wrap64 (x3_2 + 1)) l0_0 l0_1) else (some false))) else (none)) else (none)) else (spec_SetRight.l0 k2 (wrap64 (x3_2 + 1)) l0_0 l0_1)) = some r := by rw [if_neg (show ¬ (false = true) by decide)] at H; exact H
           clear H
           have H := H1
           clear H1
           by_cases c63 : x3_2 > 0
           ·rw [if_pos c63] at H
            have c63b0 : decide (0 < x3_2) = true := decide_eq_true c63
            clear c63
            obtain ⟨ji64, hji64⟩ : ∃ j_ : Int, (wrap64 (x3_2 - 1)) = j_ := ⟨_, rfl⟩
            replace H : (if 0 ≤ (ji64) then (if (ji64) < (l0_1.length : Int) then ((spec_l03Less.f ((rd_T158 l0_1 (ji64)).f0.f0) ((rd_T158 l0_1 (ji64)).f0.f1) ((rd_T158 l0_1 x3_2).f0.f0) ((rd_T158 l0_1 x3_2).f0.f1)).bind fun t626 => (if t626 = true then (spec_SetRight.l0 k2 (wrap64 (x3_2 + 1)) l0_0 l0_1) else (some false))) else (none)) else (none)) = some r := by first | (rw [hji64] at H; exact H) | (simp only [hji64] at H ⊢; exact H)
            (try rw [hji64] at A14)
            have hji64w : (IntKind.i64.wrap (x3_2 - 1)) = ji64 := (i64_w _).trans hji64
            by_cases c65 : 0 ≤ (ji64)
            ·rw [if_pos c65] at H
             have c65b0 : decide (0 ≤ (ji64)) = true := decide_eq_true c65
             clear c65
             by_cases c66 : (ji64) < (l0_1.length : Int)
             ·rw [if_pos c66] at H
              have c66b0 : decide ((ji64) < (l0_1.length : Int)) = true := decide_eq_true c66
              clear c66
              replace H := Option.bind_eq_some_iff.mp H
              obtain ⟨t626, A670, H⟩ := H
              replace H : (if t626 = true then (spec_SetRight.l0 k2 (wrap64 (x3_2 + 1)) l0_0 l0_1) else (some false)) = some r := H
              have A67 := Aside0.mk A670
              clear A670
              by_cases c68 : t626 = true
              ·subst c68
               have H1 : (spec_SetRight.l0 k2 (wrap64 (x3_2 + 1)) l0_0 l0_1) = some r := by rw [if_pos rfl] at H; exact H
               clear H
               have H := H1
               clear H1
               have H' := Aside0.mk H
               clear H
               have ⟨hcz69_0, hcz69_1, hfz69_0, hfz69_1⟩ := cz2_ BK618.out
               have p620 : 0 ≤ (x3_2 : Int) := of_decide_eq_true (z3_)
               have q620 : x3_2 < (l0_1.length : Int) := of_decide_eq_true (z3_)
               obtain ⟨ad620, e620, hx620_0, hx620_1, hx620_2, hx620_3⟩ := at_T158 HR0_1.out x3_2 p620 q620
               (try rw [← Nbq24.out] at hx620_2)
               cases e620
               replace hx620_0 := (HB.out.cell (World.block_lt_of_cell? w _ hx620_0)).trans hx620_0
               replace hx620_1 := (HB.out.cell (World.block_lt_of_cell? w _ hx620_1)).trans hx620_1
               replace hx620_2 := (HB.out.cell (World.block_lt_of_cell? w _ hx620_2)).trans hx620_2
               replace hx620_3 := (HB.out.cell (World.block_lt_of_cell? w _ hx620_3)).trans hx620_3
               replace p620 := eq_true p620
               replace q620 := eq_true q620
               try go_wp2_with (first | ((with_reducible refine gate_dst (N := 4) rfl ?_); (try (refine gate_guard (by rfl) ?_; dsimp only)); refine box_event ?hg (N := 4) ?hd (cs := #[.int .i64 0, .int .i64 0, .bool false, .string (⟨#[]⟩ : ByteArray)]) (t := 158) ?hr ?_; (case hd => rfl); (case hg => rfl); (case hr => first | (go_simp; done) | (go_simp; rfl)); intro gb621 hg w70 hbox hb; have n_ := as7_ (blkB_ BK618.out hb) (below_step (z1_ HB.out GE618.out) hb) (hbox) ((z10_ HB.out GE618.out : w.heap.size ≤ gb621)) ((z10_ HB.out GE618.out : w.heap.size ≤ gb621)) (neL_ BK618.out hg) (neG_ BK618.out hg); clear BK618 HB; have ⟨BK618, HB, BK621, GW621, GE621, NB618_621, NB621_618⟩ := n_; clear n_; clear hb hbox hg; have hnb71 := NB621_618.out; have hnc71 := NB618_621.out; have hcz72_0 : w70.cell? ⟨gb621, 0, none⟩ = some (.int .i64 0) := (blk_cell BK621.out 0).trans rfl; have hcz72_1 : w70.cell? ⟨gb621, 1, none⟩ = some (.int .i64 0) := (blk_cell BK621.out 1).trans rfl; have hcz72_2 : w70.cell? ⟨gb621, 2, none⟩ = some (.bool false) := (blk_cell BK621.out 2).trans rfl; have hcz72_3 : w70.cell? ⟨gb621, 3, none⟩ = some (.string (⟨#[]⟩ : ByteArray)) := (blk_cell BK621.out 3).trans rfl; have hfz72_0 := blk_frozen BK621.out 0; have hfz72_1 := blk_frozen BK621.out 1; have hfz72_2 := blk_frozen BK621.out 2; have hfz72_3 := blk_frozen BK621.out 3))
               have n0_ : Aside0 (((((w70.setCell ⟨gb621, 0, none⟩ (.int .i64 ((rd_T158 l0_1 x3_2).f0.f0))).setCell ⟨gb621, 1, none⟩ (.int .i64 ((rd_T158 l0_1 x3_2).f0.f1))).setCell ⟨gb621, 2, none⟩ (.bool false)).setCell ⟨gb621, 3, none⟩ (.string ((rd_T158 l0_1 x3_2).f2))).heap[gb618]? = some (.cells #[.slice A0_0 l0_0.length c0_0, .slice (some ad620) l0_1.length c0_1] 60 (0, 0))) := ⟨z18_ NB618_621.out BK618.out⟩
               have n1_ : Aside0 (((((w70.setCell ⟨gb621, 0, none⟩ (.int .i64 ((rd_T158 l0_1 x3_2).f0.f0))).setCell ⟨gb621, 1, none⟩ (.int .i64 ((rd_T158 l0_1 x3_2).f0.f1))).setCell ⟨gb621, 2, none⟩ (.bool false)).setCell ⟨gb621, 3, none⟩ (.string ((rd_T158 l0_1 x3_2).f2))).heap[gb621]? = some (.cells #[.int .i64 ((rd_T158 l0_1 x3_2).f0.f0), .int .i64 ((rd_T158 l0_1 x3_2).f0.f1), .bool false, .string ((rd_T158 l0_1 x3_2).f2)] 158 (0, 0))) := ⟨z22_ BK621.out⟩
               have n2_ : Aside0 (Below w.heap.size w ((((w70.setCell ⟨gb621, 0, none⟩ (.int .i64 ((rd_T158 l0_1 x3_2).f0.f0))).setCell ⟨gb621, 1, none⟩ (.int .i64 ((rd_T158 l0_1 x3_2).f0.f1))).setCell ⟨gb621, 2, none⟩ (.bool false)).setCell ⟨gb621, 3, none⟩ (.string ((rd_T158 l0_1 x3_2).f2)))) := ⟨z6_ HB.out GE618.out GE621.out⟩
               (try clear BK618)
               (try clear BK621)
               (try clear HB)
               generalize ((((w70.setCell ⟨gb621, 0, none⟩ (.int .i64 ((rd_T158 l0_1 x3_2).f0.f0))).setCell ⟨gb621, 1, none⟩ (.int .i64 ((rd_T158 l0_1 x3_2).f0.f1))).setCell ⟨gb621, 2, none⟩ (.bool false)).setCell ⟨gb621, 3, none⟩ (.string ((rd_T158 l0_1 x3_2).f2))) = w73 at n0_ n1_ n2_ ⊢
               have BK618 := n0_
               have BK621 := n1_
               have HB := n2_
               clear n0_ n1_ n2_
               have n_ := as3_ (blk_drew BK618.out) (blk_drew BK621.out) (below_drew1 HB.out)
               clear BK618 BK621 HB
               have ⟨BK618, BK621, HB⟩ := n_
               clear n_
               have p625 : 0 ≤ ((ji64) : Int) := of_decide_eq_true (z3_)
               have q625 : (ji64) < (l0_1.length : Int) := of_decide_eq_true (z3_)
               obtain ⟨ad625, e625, hx625_0, hx625_1, hx625_2, hx625_3⟩ := at_T158 HR0_1.out (ji64) p625 q625
               have hw625_3 := hx625_3
               have hw625_2 := hx625_2
               have hw625_1 := hx625_1
               have hw625_0 := hx625_0
               (try rw [← Nbq24.out] at hx625_2)
               obtain rfl : ad620 = ad625 := (by injection e625)
               replace hx625_0 := (HB.out.cell (World.block_lt_of_cell? w _ hx625_0)).trans hx625_0
               replace hx625_1 := (HB.out.cell (World.block_lt_of_cell? w _ hx625_1)).trans hx625_1
               replace hx625_2 := (HB.out.cell (World.block_lt_of_cell? w _ hx625_2)).trans hx625_2
               replace hx625_3 := (HB.out.cell (World.block_lt_of_cell? w _ hx625_3)).trans hx625_3
               replace p625 := eq_true p625
               replace q625 := eq_true q625
               refine start_ (n := 38) (S := fun w' => w'.cell? ⟨gb618, 0, none⟩ = some (.slice A0_0 l0_0.length c0_0) ∧ w'.cell? ⟨gb618, 1, none⟩ = some (.slice (some ad620) l0_1.length c0_1) ∧ w'.cell? ⟨gb621, 0, none⟩ = some (.int .i64 ((rd_T158 l0_1 x3_2).f0.f0)) ∧ w'.cell? ⟨gb621, 1, none⟩ = some (.int .i64 ((rd_T158 l0_1 x3_2).f0.f1)) ∧ w'.cell? ⟨gb621, 2, none⟩ = some (.bool false) ∧ w'.cell? ⟨gb621, 3, none⟩ = some (.string ((rd_T158 l0_1 x3_2).f2)) ∧ w'.cell? (ad620.add (((ji64)).toNat * 4)) = some (.int .i64 ((rd_T158 l0_1 (ji64)).f0.f0)) ∧ w'.cell? ⟨(ad620.add (((ji64)).toNat * 4)).block, (ad620.add (((ji64)).toNat * 4)).off + 1, none⟩ = some (.int .i64 ((rd_T158 l0_1 (ji64)).f0.f1)) ∧ w'.cell? ⟨(ad620.add (((ji64)).toNat * 4)).block, (ad620.add (((ji64)).toNat * 4)).off + 2, none⟩ = some (.bool ((rd_T158 l0_1 (ji64)).f1)) ∧ w'.cell? ⟨(ad620.add (((ji64)).toNat * 4)).block, (ad620.add (((ji64)).toNat * 4)).off + 3, none⟩ = some (.string ((rd_T158 l0_1 (ji64)).f2))) (ds := []) spec_SetRight.q0 (by kernel_rfl) rfl rfl ⟨(blk_cell BK618.out 0).trans rfl, (blk_cell BK618.out 1).trans rfl, (blk_cell BK621.out 0).trans rfl, (blk_cell BK621.out 1).trans rfl, (blk_cell BK621.out 2).trans rfl, (blk_cell BK621.out 3).trans rfl, ((HB.out.cell (World.block_lt_of_cell? w _ hw625_0)).trans hw625_0), ((HB.out.cell (World.block_lt_of_cell? w _ hw625_1)).trans hw625_1), ((HB.out.cell (World.block_lt_of_cell? w _ hw625_2)).trans hw625_2), ((HB.out.cell (World.block_lt_of_cell? w _ hw625_3)).trans hw625_3)⟩ (fun hHeld => ?_); refine with_tabW spec_SetRight.tab7 spec_SetRight.bits7 (fun HT_ HW_ => ?_)
               generalize w73.drew = w74 at BK618 BK621 HB hx625_0 hx625_1 hx625_2 hx625_3 hHeld ⊢
               refine pu_ 0 27 spec_SetRight.q1 HT_.out ?_
               refine pu_ 2 29 spec_SetRight.q2 HT_.out ?_
               refine tk10_ 1 28 spec_SetRight.q3 HT_.out HW_.out hHeld ?_
               refine tk10_ 3 30 spec_SetRight.q4 HT_.out HW_.out hHeld ?_
               refine one_ (i := 4) (N := some 31) spec_SetRight.q5 rfl rfl (one_of HT_.out (by kernel_rfl)) (by decide) (fun K hK => ?_)
               refine goes_ Try.func34 (by kernel_rfl) rfl #[.slice A0_0 l0_0.length c0_0, .agg #[.int .i64 ((rd_T158 l0_1 x3_2).f0.f0), .int .i64 ((rd_T158 l0_1 x3_2).f0.f1)]] (by rfl) rfl rfl (z0_) ?_
               with_reducible refine (spec_SeenHas.calls k2 _ _ l0_0 ((rd_T158 l0_1 x3_2).f0.f0) ((rd_T158 l0_1 x3_2).f0.f1) true _ ?side1 ?side2 A14.out).mono ?_
               (case side1 => exact z12_ HR0_0.out HB.out)
               (case side2 => exact HC0_0.out)
               rintro e w75 ⟨rfl, hb⟩
               refine ⟨_, rfl, ?_⟩
               have n_ := as3_ (blkB_ BK618.out hb) (blkB_ BK621.out hb) (below_step (z6_ HB.out GE618.out GE621.out) hb)
               clear BK618 BK621 HB
               have ⟨BK618, BK621, HB⟩ := n_
               clear n_
               (try clear hb)
               (try clear hb2)
               (try clear hk)
               (try clear hi)
               refine hK.out _ _ ⟨(blk_cell BK618.out 0).trans rfl, (blk_cell BK618.out 1).trans rfl, (blk_cell BK621.out 0).trans rfl, (blk_cell BK621.out 1).trans rfl, (blk_cell BK621.out 2).trans rfl, (blk_cell BK621.out 3).trans rfl, ((HB.out.cell (World.block_lt_of_cell? w _ hw625_0)).trans hw625_0), ((HB.out.cell (World.block_lt_of_cell? w _ hw625_1)).trans hw625_1), ((HB.out.cell (World.block_lt_of_cell? w _ hw625_2)).trans hw625_2), ((HB.out.cell (World.block_lt_of_cell? w _ hw625_3)).trans hw625_3)⟩ (fun hHeld => ?_)
               clear hK K
               refine norm_ (a' := ?_) ?_ ?_
               rotate_left
               ·show Act.put _ (some 31) _ = _
                simp only [Act.put, sa_, s0_, ss_, i64_w, i32_w]
                rfl
               refine pu_ 5 32 spec_SetRight.q6 HT_.out ?_
               refine pu_ 6 33 spec_SetRight.q7 HT_.out ?_
               refine pu_ 7 34 spec_SetRight.q8 HT_.out ?_
               refine tk10_ 8 35 spec_SetRight.q9 HT_.out HW_.out hHeld ?_
               refine pu_ 9 36 spec_SetRight.q10 HT_.out ?_
               refine pu_ 10 37 spec_SetRight.q11 HT_.out ?_
               refine pu_ 11 38 spec_SetRight.q12 HT_.out ?_
               refine pu_ 12 39 spec_SetRight.q13 HT_.out ?_
               refine pu_ 13 40 spec_SetRight.q14 HT_.out ?_
               refine tk10_ 14 41 spec_SetRight.q15 HT_.out HW_.out hHeld ?_
               refine pu_ 15 42 spec_SetRight.q16 HT_.out ?_
               refine pn_ 16 43 spec_SetRight.q17 HT_.out ?_
               refine pn_ 17 44 spec_SetRight.q18 HT_.out ?_
               refine pn_ 18 45 spec_SetRight.q19 HT_.out ?_
               refine pu_ 19 46 spec_SetRight.q20 HT_.out ?_
               refine pu_ 20 47 spec_SetRight.q21 HT_.out ?_
               refine pu_ 21 48 spec_SetRight.q22 HT_.out ?_
               refine pu_ 22 49 spec_SetRight.q23 HT_.out ?_
               refine pu_ 23 50 spec_SetRight.q24 HT_.out ?_
               refine pu_ 24 51 spec_SetRight.q25 HT_.out ?_
               refine pu_ 25 52 spec_SetRight.q26 HT_.out ?_
               refine pu_ 27 54 spec_SetRight.q39 HT_.out ?_
               refine pu_ 28 55 spec_SetRight.q40 HT_.out ?_
               refine pu_ 32 59 spec_SetRight.q41 HT_.out ?_
               refine tk10_ 26 53 spec_SetRight.q42 HT_.out HW_.out hHeld ?_
               refine pu_ 29 56 spec_SetRight.q43 HT_.out ?_
               refine pu_ 30 57 spec_SetRight.q44 HT_.out ?_
               refine tk10_ 31 58 spec_SetRight.q33 HT_.out HW_.out hHeld ?_
               refine tk10_ 33 60 spec_SetRight.q34 HT_.out HW_.out hHeld ?_
               refine one_ (i := 34) (N := some 61) spec_SetRight.q35 rfl rfl (one_of HT_.out (by kernel_rfl)) (by decide) (fun K hK => ?_)
               refine goes_ Try.func118 (by kernel_rfl) rfl #[.agg #[.int .i64 ((rd_T158 l0_1 (ji64)).f0.f0), .int .i64 ((rd_T158 l0_1 (ji64)).f0.f1)], .agg #[.int .i64 ((rd_T158 l0_1 x3_2).f0.f0), .int .i64 ((rd_T158 l0_1 x3_2).f0.f1)]] (by rfl) rfl rfl (by (try simp only [List.map_toArray, List.map_cons, List.map_nil]); first | done | (simp only [hji64]; rfl) | rfl | (simp only [List.length_drop, List.length_take]; rfl)) ?_
               with_reducible refine (spec_l03Less.calls ((rd_T158 l0_1 (ji64)).f0.f0) ((rd_T158 l0_1 (ji64)).f0.f1) ((rd_T158 l0_1 x3_2).f0.f0) ((rd_T158 l0_1 x3_2).f0.f1) true _ A67.out).mono ?_
               rintro e w76 ⟨rfl, hb⟩
               refine ⟨_, rfl, ?_⟩
               have n_ := as3_ (blkB_ BK618.out hb) (blkB_ BK621.out hb) (below_step (z6_ HB.out GE618.out GE621.out) hb)
               clear BK618 BK621 HB
               have ⟨BK618, BK621, HB⟩ := n_
               clear n_
               (try clear hb)
               (try clear hb2)
               (try clear hk)
               (try clear hi)
               refine hK.out _ _ ⟨(blk_cell BK618.out 0).trans rfl, (blk_cell BK618.out 1).trans rfl, (blk_cell BK621.out 0).trans rfl, (blk_cell BK621.out 1).trans rfl, (blk_cell BK621.out 2).trans rfl, (blk_cell BK621.out 3).trans rfl, ((HB.out.cell (World.block_lt_of_cell? w _ hw625_0)).trans hw625_0), ((HB.out.cell (World.block_lt_of_cell? w _ hw625_1)).trans hw625_1), ((HB.out.cell (World.block_lt_of_cell? w _ hw625_2)).trans hw625_2), ((HB.out.cell (World.block_lt_of_cell? w _ hw625_3)).trans hw625_3)⟩ (fun hHeld => ?_)
               clear hK K
               refine norm_ (a' := ?_) ?_ ?_
               rotate_left
               ·show Act.put _ (some 61) _ = _
                simp only [Act.put, sa_, s0_, ss_, i64_w, i32_w]
                rfl
               refine pu_ 35 62 spec_SetRight.q36 HT_.out ?_
               refine pu_ 36 63 spec_SetRight.q37 HT_.out ?_
               refine pu_ 37 64 spec_SetRight.q38 HT_.out ?_
               refine done_ (done_of HT_.out (by kernel_rfl)) ?_
               try go_wp2
               go_roundg k2
               case measure => have := HJ1.out; have := HK2.out; omega
               case rel => exact ⟨(wrap64 (x3_2 + 1)), (z2_), H', ⟨by have := HJ1.out; have := HK2.out; omega⟩, ⟨z9_ BK618.out⟩, ⟨z6_ HB.out GE618.out GE621.out⟩⟩
              ·replace c68 := Bool.eq_false_iff.mpr c68
               subst c68
               have H1 : (some false) = some r := by rw [if_neg (show ¬ (false = true) by decide)] at H; exact H
               clear H
               have H := H1
               clear H1
               obtain rfl := Option.some.inj H
               have ⟨hcz77_0, hcz77_1, hfz77_0, hfz77_1⟩ := cz2_ BK618.out
               have p620 : 0 ≤ (x3_2 : Int) := of_decide_eq_true (z3_)
               have q620 : x3_2 < (l0_1.length : Int) := of_decide_eq_true (z3_)
               obtain ⟨ad620, e620, hx620_0, hx620_1, hx620_2, hx620_3⟩ := at_T158 HR0_1.out x3_2 p620 q620
               (try rw [← Nbq24.out] at hx620_2)
               cases e620
               replace hx620_0 := (HB.out.cell (World.block_lt_of_cell? w _ hx620_0)).trans hx620_0
               replace hx620_1 := (HB.out.cell (World.block_lt_of_cell? w _ hx620_1)).trans hx620_1
               replace hx620_2 := (HB.out.cell (World.block_lt_of_cell? w _ hx620_2)).trans hx620_2
               replace hx620_3 := (HB.out.cell (World.block_lt_of_cell? w _ hx620_3)).trans hx620_3
               replace p620 := eq_true p620
               replace q620 := eq_true q620
               try go_wp2_with (first | ((with_reducible refine gate_dst (N := 4) rfl ?_); (try (refine gate_guard (by rfl) ?_; dsimp only)); refine box_event ?hg (N := 4) ?hd (cs := #[.int .i64 0, .int .i64 0, .bool false, .string (⟨#[]⟩ : ByteArray)]) (t := 158) ?hr ?_; (case hd => rfl); (case hg => rfl); (case hr => first | (go_simp; done) | (go_simp; rfl)); intro gb621 hg w78 hbox hb; have n_ := as7_ (blkB_ BK618.out hb) (below_step (z1_ HB.out GE618.out) hb) (hbox) ((z10_ HB.out GE618.out : w.heap.size ≤ gb621)) ((z10_ HB.out GE618.out : w.heap.size ≤ gb621)) (neL_ BK618.out hg) (neG_ BK618.out hg); clear BK618 HB; have ⟨BK618, HB, BK621, GW621, GE621, NB618_621, NB621_618⟩ := n_; clear n_; clear hb hbox hg; have hnb79 := NB621_618.out; have hnc79 := NB618_621.out; have hcz80_0 : w78.cell? ⟨gb621, 0, none⟩ = some (.int .i64 0) := (blk_cell BK621.out 0).trans rfl; have hcz80_1 : w78.cell? ⟨gb621, 1, none⟩ = some (.int .i64 0) := (blk_cell BK621.out 1).trans rfl; have hcz80_2 : w78.cell? ⟨gb621, 2, none⟩ = some (.bool false) := (blk_cell BK621.out 2).trans rfl; have hcz80_3 : w78.cell? ⟨gb621, 3, none⟩ = some (.string (⟨#[]⟩ : ByteArray)) := (blk_cell BK621.out 3).trans rfl; have hfz80_0 := blk_frozen BK621.out 0; have hfz80_1 := blk_frozen BK621.out 1; have hfz80_2 := blk_frozen BK621.out 2; have hfz80_3 := blk_frozen BK621.out 3))
               have n0_ : Aside0 (((((w78.setCell ⟨gb621, 0, none⟩ (.int .i64 ((rd_T158 l0_1 x3_2).f0.f0))).setCell ⟨gb621, 1, none⟩ (.int .i64 ((rd_T158 l0_1 x3_2).f0.f1))).setCell ⟨gb621, 2, none⟩ (.bool false)).setCell ⟨gb621, 3, none⟩ (.string ((rd_T158 l0_1 x3_2).f2))).heap[gb618]? = some (.cells #[.slice A0_0 l0_0.length c0_0, .slice (some ad620) l0_1.length c0_1] 60 (0, 0))) := ⟨z18_ NB618_621.out BK618.out⟩
               have n1_ : Aside0 (((((w78.setCell ⟨gb621, 0, none⟩ (.int .i64 ((rd_T158 l0_1 x3_2).f0.f0))).setCell ⟨gb621, 1, none⟩ (.int .i64 ((rd_T158 l0_1 x3_2).f0.f1))).setCell ⟨gb621, 2, none⟩ (.bool false)).setCell ⟨gb621, 3, none⟩ (.string ((rd_T158 l0_1 x3_2).f2))).heap[gb621]? = some (.cells #[.int .i64 ((rd_T158 l0_1 x3_2).f0.f0), .int .i64 ((rd_T158 l0_1 x3_2).f0.f1), .bool false, .string ((rd_T158 l0_1 x3_2).f2)] 158 (0, 0))) := ⟨z22_ BK621.out⟩
               have n2_ : Aside0 (Below w.heap.size w ((((w78.setCell ⟨gb621, 0, none⟩ (.int .i64 ((rd_T158 l0_1 x3_2).f0.f0))).setCell ⟨gb621, 1, none⟩ (.int .i64 ((rd_T158 l0_1 x3_2).f0.f1))).setCell ⟨gb621, 2, none⟩ (.bool false)).setCell ⟨gb621, 3, none⟩ (.string ((rd_T158 l0_1 x3_2).f2)))) := ⟨z6_ HB.out GE618.out GE621.out⟩
               (try clear BK618)
               (try clear BK621)
               (try clear HB)
               generalize ((((w78.setCell ⟨gb621, 0, none⟩ (.int .i64 ((rd_T158 l0_1 x3_2).f0.f0))).setCell ⟨gb621, 1, none⟩ (.int .i64 ((rd_T158 l0_1 x3_2).f0.f1))).setCell ⟨gb621, 2, none⟩ (.bool false)).setCell ⟨gb621, 3, none⟩ (.string ((rd_T158 l0_1 x3_2).f2))) = w81 at n0_ n1_ n2_ ⊢
               have BK618 := n0_
               have BK621 := n1_
               have HB := n2_
               clear n0_ n1_ n2_
               have n_ := as3_ (blk_drew BK618.out) (blk_drew BK621.out) (below_drew1 HB.out)
               clear BK618 BK621 HB
               have ⟨BK618, BK621, HB⟩ := n_
               clear n_
               have p625 : 0 ≤ ((ji64) : Int) := of_decide_eq_true (z3_)
               have q625 : (ji64) < (l0_1.length : Int) := of_decide_eq_true (z3_)
               obtain ⟨ad625, e625, hx625_0, hx625_1, hx625_2, hx625_3⟩ := at_T158 HR0_1.out (ji64) p625 q625
               have hw625_3 := hx625_3
               have hw625_2 := hx625_2
               have hw625_1 := hx625_1
               have hw625_0 := hx625_0
               (try rw [← Nbq24.out] at hx625_2)
               obtain rfl : ad620 = ad625 := (by injection e625)
               replace hx625_0 := (HB.out.cell (World.block_lt_of_cell? w _ hx625_0)).trans hx625_0
               replace hx625_1 := (HB.out.cell (World.block_lt_of_cell? w _ hx625_1)).trans hx625_1
               replace hx625_2 := (HB.out.cell (World.block_lt_of_cell? w _ hx625_2)).trans hx625_2
               replace hx625_3 := (HB.out.cell (World.block_lt_of_cell? w _ hx625_3)).trans hx625_3
               replace p625 := eq_true p625
               replace q625 := eq_true q625
               refine start_ (n := 38) (S := fun w' => w'.cell? ⟨gb618, 0, none⟩ = some (.slice A0_0 l0_0.length c0_0) ∧ w'.cell? ⟨gb618, 1, none⟩ = some (.slice (some ad620) l0_1.length c0_1) ∧ w'.cell? ⟨gb621, 0, none⟩ = some (.int .i64 ((rd_T158 l0_1 x3_2).f0.f0)) ∧ w'.cell? ⟨gb621, 1, none⟩ = some (.int .i64 ((rd_T158 l0_1 x3_2).f0.f1)) ∧ w'.cell? ⟨gb621, 2, none⟩ = some (.bool false) ∧ w'.cell? ⟨gb621, 3, none⟩ = some (.string ((rd_T158 l0_1 x3_2).f2)) ∧ w'.cell? (ad620.add (((ji64)).toNat * 4)) = some (.int .i64 ((rd_T158 l0_1 (ji64)).f0.f0)) ∧ w'.cell? ⟨(ad620.add (((ji64)).toNat * 4)).block, (ad620.add (((ji64)).toNat * 4)).off + 1, none⟩ = some (.int .i64 ((rd_T158 l0_1 (ji64)).f0.f1)) ∧ w'.cell? ⟨(ad620.add (((ji64)).toNat * 4)).block, (ad620.add (((ji64)).toNat * 4)).off + 2, none⟩ = some (.bool ((rd_T158 l0_1 (ji64)).f1)) ∧ w'.cell? ⟨(ad620.add (((ji64)).toNat * 4)).block, (ad620.add (((ji64)).toNat * 4)).off + 3, none⟩ = some (.string ((rd_T158 l0_1 (ji64)).f2))) (ds := []) spec_SetRight.q0 (by kernel_rfl) rfl rfl ⟨(blk_cell BK618.out 0).trans rfl, (blk_cell BK618.out 1).trans rfl, (blk_cell BK621.out 0).trans rfl, (blk_cell BK621.out 1).trans rfl, (blk_cell BK621.out 2).trans rfl, (blk_cell BK621.out 3).trans rfl, ((HB.out.cell (World.block_lt_of_cell? w _ hw625_0)).trans hw625_0), ((HB.out.cell (World.block_lt_of_cell? w _ hw625_1)).trans hw625_1), ((HB.out.cell (World.block_lt_of_cell? w _ hw625_2)).trans hw625_2), ((HB.out.cell (World.block_lt_of_cell? w _ hw625_3)).trans hw625_3)⟩ (fun hHeld => ?_); refine with_tabW spec_SetRight.tab7 spec_SetRight.bits7 (fun HT_ HW_ => ?_)
               generalize w81.drew = w82 at BK618 BK621 HB hx625_0 hx625_1 hx625_2 hx625_3 hHeld ⊢
               refine pu_ 0 27 spec_SetRight.q1 HT_.out ?_
               refine pu_ 2 29 spec_SetRight.q2 HT_.out ?_
               refine tk10_ 1 28 spec_SetRight.q3 HT_.out HW_.out hHeld ?_
               refine tk10_ 3 30 spec_SetRight.q4 HT_.out HW_.out hHeld ?_
               refine one_ (i := 4) (N := some 31) spec_SetRight.q5 rfl rfl (one_of HT_.out (by kernel_rfl)) (by decide) (fun K hK => ?_)
               refine goes_ Try.func34 (by kernel_rfl) rfl #[.slice A0_0 l0_0.length c0_0, .agg #[.int .i64 ((rd_T158 l0_1 x3_2).f0.f0), .int .i64 ((rd_T158 l0_1 x3_2).f0.f1)]] (by rfl) rfl rfl (z0_) ?_
               with_reducible refine (spec_SeenHas.calls k2 _ _ l0_0 ((rd_T158 l0_1 x3_2).f0.f0) ((rd_T158 l0_1 x3_2).f0.f1) true _ ?side1 ?side2 A14.out).mono ?_
               (case side1 => exact z12_ HR0_0.out HB.out)
               (case side2 => exact HC0_0.out)
               rintro e w83 ⟨rfl, hb⟩
               refine ⟨_, rfl, ?_⟩
               have n_ := as3_ (blkB_ BK618.out hb) (blkB_ BK621.out hb) (below_step (z6_ HB.out GE618.out GE621.out) hb)
               clear BK618 BK621 HB
               have ⟨BK618, BK621, HB⟩ := n_
               clear n_
               (try clear hb)
               (try clear hb2)
               (try clear hk)
               (try clear hi)
               refine hK.out _ _ ⟨(blk_cell BK618.out 0).trans rfl, (blk_cell BK618.out 1).trans rfl, (blk_cell BK621.out 0).trans rfl, (blk_cell BK621.out 1).trans rfl, (blk_cell BK621.out 2).trans rfl, (blk_cell BK621.out 3).trans rfl, ((HB.out.cell (World.block_lt_of_cell? w _ hw625_0)).trans hw625_0), ((HB.out.cell (World.block_lt_of_cell? w _ hw625_1)).trans hw625_1), ((HB.out.cell (World.block_lt_of_cell? w _ hw625_2)).trans hw625_2), ((HB.out.cell (World.block_lt_of_cell? w _ hw625_3)).trans hw625_3)⟩ (fun hHeld => ?_)
               clear hK K
               refine norm_ (a' := ?_) ?_ ?_
               rotate_left
               ·show Act.put _ (some 31) _ = _
                simp only [Act.put, sa_, s0_, ss_, i64_w, i32_w]
                rfl
               refine pu_ 5 32 spec_SetRight.q6 HT_.out ?_
               refine pu_ 6 33 spec_SetRight.q7 HT_.out ?_
               refine pu_ 7 34 spec_SetRight.q8 HT_.out ?_
               refine tk10_ 8 35 spec_SetRight.q9 HT_.out HW_.out hHeld ?_
               refine pu_ 9 36 spec_SetRight.q10 HT_.out ?_
               refine pu_ 10 37 spec_SetRight.q11 HT_.out ?_
               refine pu_ 11 38 spec_SetRight.q12 HT_.out ?_
               refine pu_ 12 39 spec_SetRight.q13 HT_.out ?_
               refine pu_ 13 40 spec_SetRight.q14 HT_.out ?_
               refine tk10_ 14 41 spec_SetRight.q15 HT_.out HW_.out hHeld ?_
               refine pu_ 15 42 spec_SetRight.q16 HT_.out ?_
               refine pn_ 16 43 spec_SetRight.q17 HT_.out ?_
               refine pn_ 17 44 spec_SetRight.q18 HT_.out ?_
               refine pn_ 18 45 spec_SetRight.q19 HT_.out ?_
               refine pu_ 19 46 spec_SetRight.q20 HT_.out ?_
               refine pu_ 20 47 spec_SetRight.q21 HT_.out ?_
               refine pu_ 21 48 spec_SetRight.q22 HT_.out ?_
               refine pu_ 22 49 spec_SetRight.q23 HT_.out ?_
               refine pu_ 23 50 spec_SetRight.q24 HT_.out ?_
               refine pu_ 24 51 spec_SetRight.q25 HT_.out ?_
               refine pu_ 25 52 spec_SetRight.q26 HT_.out ?_
               refine pu_ 27 54 spec_SetRight.q39 HT_.out ?_
               refine pu_ 28 55 spec_SetRight.q40 HT_.out ?_
               refine pu_ 32 59 spec_SetRight.q41 HT_.out ?_
               refine tk10_ 26 53 spec_SetRight.q42 HT_.out HW_.out hHeld ?_
               refine pu_ 29 56 spec_SetRight.q43 HT_.out ?_
               refine pu_ 30 57 spec_SetRight.q44 HT_.out ?_
               refine tk10_ 31 58 spec_SetRight.q33 HT_.out HW_.out hHeld ?_
               refine tk10_ 33 60 spec_SetRight.q34 HT_.out HW_.out hHeld ?_
               refine one_ (i := 34) (N := some 61) spec_SetRight.q35 rfl rfl (one_of HT_.out (by kernel_rfl)) (by decide) (fun K hK => ?_)
               refine goes_ Try.func118 (by kernel_rfl) rfl #[.agg #[.int .i64 ((rd_T158 l0_1 (ji64)).f0.f0), .int .i64 ((rd_T158 l0_1 (ji64)).f0.f1)], .agg #[.int .i64 ((rd_T158 l0_1 x3_2).f0.f0), .int .i64 ((rd_T158 l0_1 x3_2).f0.f1)]] (by rfl) rfl rfl (by (try simp only [List.map_toArray, List.map_cons, List.map_nil]); first | done | (simp only [hji64]; rfl) | rfl | (simp only [List.length_drop, List.length_take]; rfl)) ?_
               with_reducible refine (spec_l03Less.calls ((rd_T158 l0_1 (ji64)).f0.f0) ((rd_T158 l0_1 (ji64)).f0.f1) ((rd_T158 l0_1 x3_2).f0.f0) ((rd_T158 l0_1 x3_2).f0.f1) false _ A67.out).mono ?_
               rintro e w84 ⟨rfl, hb⟩
               refine ⟨_, rfl, ?_⟩
               have n_ := as3_ (blkB_ BK618.out hb) (blkB_ BK621.out hb) (below_step (z6_ HB.out GE618.out GE621.out) hb)
               clear BK618 BK621 HB
               have ⟨BK618, BK621, HB⟩ := n_
               clear n_
               (try clear hb)
               (try clear hb2)
               (try clear hk)
               (try clear hi)
               refine hK.out _ _ ⟨(blk_cell BK618.out 0).trans rfl, (blk_cell BK618.out 1).trans rfl, (blk_cell BK621.out 0).trans rfl, (blk_cell BK621.out 1).trans rfl, (blk_cell BK621.out 2).trans rfl, (blk_cell BK621.out 3).trans rfl, ((HB.out.cell (World.block_lt_of_cell? w _ hw625_0)).trans hw625_0), ((HB.out.cell (World.block_lt_of_cell? w _ hw625_1)).trans hw625_1), ((HB.out.cell (World.block_lt_of_cell? w _ hw625_2)).trans hw625_2), ((HB.out.cell (World.block_lt_of_cell? w _ hw625_3)).trans hw625_3)⟩ (fun hHeld => ?_)
               clear hK K
               refine norm_ (a' := ?_) ?_ ?_
               rotate_left
               ·show Act.put _ (some 61) _ = _
                simp only [Act.put, sa_, s0_, ss_, i64_w, i32_w]
                rfl
               refine pu_ 35 62 spec_SetRight.q36 HT_.out ?_
               refine pu_ 36 63 spec_SetRight.q37 HT_.out ?_
               refine pu_ 37 64 spec_SetRight.q38 HT_.out ?_
               refine done_ (done_of HT_.out (by kernel_rfl)) ?_
               try go_wp2
               go_ret
               exact ⟨by first | rfl | (simp [errW_none, errW_some] <;> rfl) | (simp only [← hji64]; first | rfl | (simp [errW_none, errW_some] <;> rfl)) | (simp [*, errW_none, errW_some] <;> rfl), z6_ HB.out GE618.out GE621.out⟩
             ·rw [if_neg c66] at H
              exact absurd H (by simp)
            ·rw [if_neg c65] at H
             exact absurd H (by simp)
           ·rw [if_neg c63] at H
            have c63b0 : decide (0 < x3_2) = false := decide_eq_false c63
            clear c63
            have H' := Aside0.mk H
            clear H
            have ⟨hcz85_0, hcz85_1, hfz85_0, hfz85_1⟩ := cz2_ BK618.out
            have p620 : 0 ≤ (x3_2 : Int) := of_decide_eq_true (z3_)
            have q620 : x3_2 < (l0_1.length : Int) := of_decide_eq_true (z3_)
            obtain ⟨ad620, e620, hx620_0, hx620_1, hx620_2, hx620_3⟩ := at_T158 HR0_1.out x3_2 p620 q620
            (try rw [← Nbq24.out] at hx620_2)
            cases e620
            replace hx620_0 := (HB.out.cell (World.block_lt_of_cell? w _ hx620_0)).trans hx620_0
            replace hx620_1 := (HB.out.cell (World.block_lt_of_cell? w _ hx620_1)).trans hx620_1
            replace hx620_2 := (HB.out.cell (World.block_lt_of_cell? w _ hx620_2)).trans hx620_2
            replace hx620_3 := (HB.out.cell (World.block_lt_of_cell? w _ hx620_3)).trans hx620_3
            replace p620 := eq_true p620
            replace q620 := eq_true q620
            try go_wp2_with (first | ((with_reducible refine gate_dst (N := 4) rfl ?_); (try (refine gate_guard (by rfl) ?_; dsimp only)); refine box_event ?hg (N := 4) ?hd (cs := #[.int .i64 0, .int .i64 0, .bool false, .string (⟨#[]⟩ : ByteArray)]) (t := 158) ?hr ?_; (case hd => rfl); (case hg => rfl); (case hr => first | (go_simp; done) | (go_simp; rfl)); intro gb621 hg w86 hbox hb; have n_ := as7_ (blkB_ BK618.out hb) (below_step (z1_ HB.out GE618.out) hb) (hbox) ((z10_ HB.out GE618.out : w.heap.size ≤ gb621)) ((z10_ HB.out GE618.out : w.heap.size ≤ gb621)) (neL_ BK618.out hg) (neG_ BK618.out hg); clear BK618 HB; have ⟨BK618, HB, BK621, GW621, GE621, NB618_621, NB621_618⟩ := n_; clear n_; clear hb hbox hg; have hnb87 := NB621_618.out; have hnc87 := NB618_621.out; have hcz88_0 : w86.cell? ⟨gb621, 0, none⟩ = some (.int .i64 0) := (blk_cell BK621.out 0).trans rfl; have hcz88_1 : w86.cell? ⟨gb621, 1, none⟩ = some (.int .i64 0) := (blk_cell BK621.out 1).trans rfl; have hcz88_2 : w86.cell? ⟨gb621, 2, none⟩ = some (.bool false) := (blk_cell BK621.out 2).trans rfl; have hcz88_3 : w86.cell? ⟨gb621, 3, none⟩ = some (.string (⟨#[]⟩ : ByteArray)) := (blk_cell BK621.out 3).trans rfl; have hfz88_0 := blk_frozen BK621.out 0; have hfz88_1 := blk_frozen BK621.out 1; have hfz88_2 := blk_frozen BK621.out 2; have hfz88_3 := blk_frozen BK621.out 3))
            have n0_ : Aside0 (((((w86.setCell ⟨gb621, 0, none⟩ (.int .i64 ((rd_T158 l0_1 x3_2).f0.f0))).setCell ⟨gb621, 1, none⟩ (.int .i64 ((rd_T158 l0_1 x3_2).f0.f1))).setCell ⟨gb621, 2, none⟩ (.bool false)).setCell ⟨gb621, 3, none⟩ (.string ((rd_T158 l0_1 x3_2).f2))).heap[gb618]? = some (.cells #[.slice A0_0 l0_0.length c0_0, .slice (some ad620) l0_1.length c0_1] 60 (0, 0))) := ⟨z18_ NB618_621.out BK618.out⟩
            have n1_ : Aside0 (((((w86.setCell ⟨gb621, 0, none⟩ (.int .i64 ((rd_T158 l0_1 x3_2).f0.f0))).setCell ⟨gb621, 1, none⟩ (.int .i64 ((rd_T158 l0_1 x3_2).f0.f1))).setCell ⟨gb621, 2, none⟩ (.bool false)).setCell ⟨gb621, 3, none⟩ (.string ((rd_T158 l0_1 x3_2).f2))).heap[gb621]? = some (.cells #[.int .i64 ((rd_T158 l0_1 x3_2).f0.f0), .int .i64 ((rd_T158 l0_1 x3_2).f0.f1), .bool false, .string ((rd_T158 l0_1 x3_2).f2)] 158 (0, 0))) := ⟨z22_ BK621.out⟩
            have n2_ : Aside0 (Below w.heap.size w ((((w86.setCell ⟨gb621, 0, none⟩ (.int .i64 ((rd_T158 l0_1 x3_2).f0.f0))).setCell ⟨gb621, 1, none⟩ (.int .i64 ((rd_T158 l0_1 x3_2).f0.f1))).setCell ⟨gb621, 2, none⟩ (.bool false)).setCell ⟨gb621, 3, none⟩ (.string ((rd_T158 l0_1 x3_2).f2)))) := ⟨z6_ HB.out GE618.out GE621.out⟩
            (try clear BK618)
            (try clear BK621)
            (try clear HB)
            generalize ((((w86.setCell ⟨gb621, 0, none⟩ (.int .i64 ((rd_T158 l0_1 x3_2).f0.f0))).setCell ⟨gb621, 1, none⟩ (.int .i64 ((rd_T158 l0_1 x3_2).f0.f1))).setCell ⟨gb621, 2, none⟩ (.bool false)).setCell ⟨gb621, 3, none⟩ (.string ((rd_T158 l0_1 x3_2).f2))) = w89 at n0_ n1_ n2_ ⊢
            have BK618 := n0_
            have BK621 := n1_
            have HB := n2_
            clear n0_ n1_ n2_
            have n_ := as3_ (blk_drew BK618.out) (blk_drew BK621.out) (below_drew1 HB.out)
            clear BK618 BK621 HB
            have ⟨BK618, BK621, HB⟩ := n_
            clear n_
            refine start_ (n := 38) (S := fun w' => w'.cell? ⟨gb618, 0, none⟩ = some (.slice A0_0 l0_0.length c0_0) ∧ w'.cell? ⟨gb618, 1, none⟩ = some (.slice (some ad620) l0_1.length c0_1) ∧ w'.cell? ⟨gb621, 0, none⟩ = some (.int .i64 ((rd_T158 l0_1 x3_2).f0.f0)) ∧ w'.cell? ⟨gb621, 1, none⟩ = some (.int .i64 ((rd_T158 l0_1 x3_2).f0.f1)) ∧ w'.cell? ⟨gb621, 2, none⟩ = some (.bool false) ∧ w'.cell? ⟨gb621, 3, none⟩ = some (.string ((rd_T158 l0_1 x3_2).f2))) (ds := []) spec_SetRight.q0 (by kernel_rfl) rfl rfl ⟨(blk_cell BK618.out 0).trans rfl, (blk_cell BK618.out 1).trans rfl, (blk_cell BK621.out 0).trans rfl, (blk_cell BK621.out 1).trans rfl, (blk_cell BK621.out 2).trans rfl, (blk_cell BK621.out 3).trans rfl⟩ (fun hHeld => ?_); refine with_tabW spec_SetRight.tab7 spec_SetRight.bits7 (fun HT_ HW_ => ?_)
            generalize w89.drew = w90 at BK618 BK621 HB hHeld ⊢
            refine pu_ 0 27 spec_SetRight.q1 HT_.out ?_
            refine pu_ 2 29 spec_SetRight.q2 HT_.out ?_
            refine tk6_ 1 28 spec_SetRight.q3 HT_.out HW_.out hHeld ?_
            refine tk6_ 3 30 spec_SetRight.q4 HT_.out HW_.out hHeld ?_
            refine one_ (i := 4) (N := some 31) spec_SetRight.q5 rfl rfl (one_of HT_.out (by kernel_rfl)) (by decide) (fun K hK => ?_)
            refine goes_ Try.func34 (by kernel_rfl) rfl #[.slice A0_0 l0_0.length c0_0, .agg #[.int .i64 ((rd_T158 l0_1 x3_2).f0.f0), .int .i64 ((rd_T158 l0_1 x3_2).f0.f1)]] (by rfl) rfl rfl (z0_) ?_
            with_reducible refine (spec_SeenHas.calls k2 _ _ l0_0 ((rd_T158 l0_1 x3_2).f0.f0) ((rd_T158 l0_1 x3_2).f0.f1) true _ ?side1 ?side2 A14.out).mono ?_
            (case side1 => exact z12_ HR0_0.out HB.out)
            (case side2 => exact HC0_0.out)
            rintro e w91 ⟨rfl, hb⟩
            refine ⟨_, rfl, ?_⟩
            have n_ := as3_ (blkB_ BK618.out hb) (blkB_ BK621.out hb) (below_step (z6_ HB.out GE618.out GE621.out) hb)
            clear BK618 BK621 HB
            have ⟨BK618, BK621, HB⟩ := n_
            clear n_
            (try clear hb)
            (try clear hb2)
            (try clear hk)
            (try clear hi)
            refine hK.out _ _ ⟨(blk_cell BK618.out 0).trans rfl, (blk_cell BK618.out 1).trans rfl, (blk_cell BK621.out 0).trans rfl, (blk_cell BK621.out 1).trans rfl, (blk_cell BK621.out 2).trans rfl, (blk_cell BK621.out 3).trans rfl⟩ (fun hHeld => ?_)
            clear hK K
            refine norm_ (a' := ?_) ?_ ?_
            rotate_left
            ·show Act.put _ (some 31) _ = _
             simp only [Act.put, sa_, s0_, ss_, i64_w, i32_w]
             rfl
            refine pu_ 5 32 spec_SetRight.q6 HT_.out ?_
            refine pu_ 6 33 spec_SetRight.q7 HT_.out ?_
            refine pu_ 7 34 spec_SetRight.q8 HT_.out ?_
            refine tk6_ 8 35 spec_SetRight.q9 HT_.out HW_.out hHeld ?_
            refine pu_ 9 36 spec_SetRight.q10 HT_.out ?_
            refine pu_ 10 37 spec_SetRight.q11 HT_.out ?_
            refine pu_ 11 38 spec_SetRight.q12 HT_.out ?_
            refine pu_ 12 39 spec_SetRight.q13 HT_.out ?_
            refine pu_ 13 40 spec_SetRight.q14 HT_.out ?_
            refine tk6_ 14 41 spec_SetRight.q15 HT_.out HW_.out hHeld ?_
            refine pu_ 15 42 spec_SetRight.q16 HT_.out ?_
            refine pn_ 16 43 spec_SetRight.q17 HT_.out ?_
            refine pn_ 17 44 spec_SetRight.q18 HT_.out ?_
            refine pn_ 18 45 spec_SetRight.q19 HT_.out ?_
            refine pu_ 19 46 spec_SetRight.q20 HT_.out ?_
            refine pu_ 20 47 spec_SetRight.q21 HT_.out ?_
            refine pu_ 21 48 spec_SetRight.q22 HT_.out ?_
            refine pu_ 22 49 spec_SetRight.q23 HT_.out ?_
            refine pu_ 23 50 spec_SetRight.q24 HT_.out ?_
            refine pu_ 24 51 spec_SetRight.q25 HT_.out ?_
            refine pn_ 25 52 spec_SetRight.q26 HT_.out ?_
            refine pn_ 26 53 spec_SetRight.q27 HT_.out ?_
            refine pn_ 27 54 spec_SetRight.q28 HT_.out ?_
            refine pn_ 28 55 spec_SetRight.q29 HT_.out ?_
            refine pn_ 29 56 spec_SetRight.q30 HT_.out ?_
            refine pn_ 30 57 spec_SetRight.q31 HT_.out ?_
            refine pn_ 31 58 spec_SetRight.q32 HT_.out ?_
            refine pn_ 32 59 spec_SetRight.q33 HT_.out ?_
            refine pn_ 33 60 spec_SetRight.q34 HT_.out ?_
            refine pn_ 34 61 spec_SetRight.q35 HT_.out ?_
            refine pn_ 35 62 spec_SetRight.q36 HT_.out ?_
            refine pu_ 36 63 spec_SetRight.q37 HT_.out ?_
            refine pu_ 37 64 spec_SetRight.q38 HT_.out ?_
            refine done_ (done_of HT_.out (by kernel_rfl)) ?_
            try go_wp2
            go_roundg k2
            case measure => have := HJ1.out; have := HK2.out; omega
            case rel => exact ⟨(wrap64 (x3_2 + 1)), (z2_), H', ⟨by have := HJ1.out; have := HK2.out; omega⟩, ⟨z9_ BK618.out⟩, ⟨z6_ HB.out GE618.out GE621.out⟩⟩
        ·replace c15 := Bool.eq_false_iff.mpr c15
         subst c15
         have H1 : (some false) = some r := by rw [if_neg (show ¬ (false = true) by decide)] at H; exact H
         clear H
         have H := H1
         clear H1
         obtain rfl := Option.some.inj H
         have ⟨hcz92_0, hcz92_1, hfz92_0, hfz92_1⟩ := cz2_ BK618.out
         have p620 : 0 ≤ (x3_2 : Int) := of_decide_eq_true (z3_)
         have q620 : x3_2 < (l0_1.length : Int) := of_decide_eq_true (z3_)
         obtain ⟨ad620, e620, hx620_0, hx620_1, hx620_2, hx620_3⟩ := at_T158 HR0_1.out x3_2 p620 q620
         cases e620
         replace hx620_0 := (HB.out.cell (World.block_lt_of_cell? w _ hx620_0)).trans hx620_0
         replace hx620_1 := (HB.out.cell (World.block_lt_of_cell? w _ hx620_1)).trans hx620_1
         replace hx620_2 := (HB.out.cell (World.block_lt_of_cell? w _ hx620_2)).trans hx620_2
         replace hx620_3 := (HB.out.cell (World.block_lt_of_cell? w _ hx620_3)).trans hx620_3
         replace p620 := eq_true p620
         replace q620 := eq_true q620
         try go_wp2_with (first | ((with_reducible refine gate_dst (N := 4) rfl ?_); (try (refine gate_guard (by rfl) ?_; dsimp only)); refine box_event ?hg (N := 4) ?hd (cs := #[.int .i64 0, .int .i64 0, .bool false, .string (⟨#[]⟩ : ByteArray)]) (t := 158) ?hr ?_; (case hd => rfl); (case hg => rfl); (case hr => first | (go_simp; done) | (go_simp; rfl)); intro gb621 hg w93 hbox hb; have n_ := as7_ (blkB_ BK618.out hb) (below_step (z1_ HB.out GE618.out) hb) (hbox) ((z10_ HB.out GE618.out : w.heap.size ≤ gb621)) ((z10_ HB.out GE618.out : w.heap.size ≤ gb621)) (neL_ BK618.out hg) (neG_ BK618.out hg); clear BK618 HB; have ⟨BK618, HB, BK621, GW621, GE621, NB618_621, NB621_618⟩ := n_; clear n_; clear hb hbox hg; have hnb94 := NB621_618.out; have hnc94 := NB618_621.out; have hcz95_0 : w93.cell? ⟨gb621, 0, none⟩ = some (.int .i64 0) := (blk_cell BK621.out 0).trans rfl; have hcz95_1 : w93.cell? ⟨gb621, 1, none⟩ = some (.int .i64 0) := (blk_cell BK621.out 1).trans rfl; have hcz95_2 : w93.cell? ⟨gb621, 2, none⟩ = some (.bool false) := (blk_cell BK621.out 2).trans rfl; have hcz95_3 : w93.cell? ⟨gb621, 3, none⟩ = some (.string (⟨#[]⟩ : ByteArray)) := (blk_cell BK621.out 3).trans rfl; have hfz95_0 := blk_frozen BK621.out 0; have hfz95_1 := blk_frozen BK621.out 1; have hfz95_2 := blk_frozen BK621.out 2; have hfz95_3 := blk_frozen BK621.out 3))
         have n0_ : Aside0 (((((w93.setCell ⟨gb621, 0, none⟩ (.int .i64 ((rd_T158 l0_1 x3_2).f0.f0))).setCell ⟨gb621, 1, none⟩ (.int .i64 ((rd_T158 l0_1 x3_2).f0.f1))).setCell ⟨gb621, 2, none⟩ (.bool ((rd_T158 l0_1 x3_2).f1))).setCell ⟨gb621, 3, none⟩ (.string ((rd_T158 l0_1 x3_2).f2))).heap[gb618]? = some (.cells #[.slice A0_0 l0_0.length c0_0, .slice (some ad620) l0_1.length c0_1] 60 (0, 0))) := ⟨z18_ NB618_621.out BK618.out⟩
         have n1_ : Aside0 (((((w93.setCell ⟨gb621, 0, none⟩ (.int .i64 ((rd_T158 l0_1 x3_2).f0.f0))).setCell ⟨gb621, 1, none⟩ (.int .i64 ((rd_T158 l0_1 x3_2).f0.f1))).setCell ⟨gb621, 2, none⟩ (.bool ((rd_T158 l0_1 x3_2).f1))).setCell ⟨gb621, 3, none⟩ (.string ((rd_T158 l0_1 x3_2).f2))).heap[gb621]? = some (.cells #[.int .i64 ((rd_T158 l0_1 x3_2).f0.f0), .int .i64 ((rd_T158 l0_1 x3_2).f0.f1), .bool ((rd_T158 l0_1 x3_2).f1), .string ((rd_T158 l0_1 x3_2).f2)] 158 (0, 0))) := ⟨z22_ BK621.out⟩
         have n2_ : Aside0 (Below w.heap.size w ((((w93.setCell ⟨gb621, 0, none⟩ (.int .i64 ((rd_T158 l0_1 x3_2).f0.f0))).setCell ⟨gb621, 1, none⟩ (.int .i64 ((rd_T158 l0_1 x3_2).f0.f1))).setCell ⟨gb621, 2, none⟩ (.bool ((rd_T158 l0_1 x3_2).f1))).setCell ⟨gb621, 3, none⟩ (.string ((rd_T158 l0_1 x3_2).f2)))) := ⟨z6_ HB.out GE618.out GE621.out⟩
         (try clear BK618)
         (try clear BK621)
         (try clear HB)
         generalize ((((w93.setCell ⟨gb621, 0, none⟩ (.int .i64 ((rd_T158 l0_1 x3_2).f0.f0))).setCell ⟨gb621, 1, none⟩ (.int .i64 ((rd_T158 l0_1 x3_2).f0.f1))).setCell ⟨gb621, 2, none⟩ (.bool ((rd_T158 l0_1 x3_2).f1))).setCell ⟨gb621, 3, none⟩ (.string ((rd_T158 l0_1 x3_2).f2))) = w96 at n0_ n1_ n2_ ⊢
         have BK618 := n0_
         have BK621 := n1_
         have HB := n2_
         clear n0_ n1_ n2_
         have n_ := as3_ (blk_drew BK618.out) (blk_drew BK621.out) (below_drew1 HB.out)
         clear BK618 BK621 HB
         have ⟨BK618, BK621, HB⟩ := n_
         clear n_
         refine start_ (n := 38) (S := fun w' => w'.cell? ⟨gb618, 0, none⟩ = some (.slice A0_0 l0_0.length c0_0) ∧ w'.cell? ⟨gb618, 1, none⟩ = some (.slice (some ad620) l0_1.length c0_1) ∧ w'.cell? ⟨gb621, 0, none⟩ = some (.int .i64 ((rd_T158 l0_1 x3_2).f0.f0)) ∧ w'.cell? ⟨gb621, 1, none⟩ = some (.int .i64 ((rd_T158 l0_1 x3_2).f0.f1)) ∧ w'.cell? ⟨gb621, 2, none⟩ = some (.bool ((rd_T158 l0_1 x3_2).f1)) ∧ w'.cell? ⟨gb621, 3, none⟩ = some (.string ((rd_T158 l0_1 x3_2).f2))) (ds := []) spec_SetRight.q0 (by kernel_rfl) rfl rfl ⟨(blk_cell BK618.out 0).trans rfl, (blk_cell BK618.out 1).trans rfl, (blk_cell BK621.out 0).trans rfl, (blk_cell BK621.out 1).trans rfl, (blk_cell BK621.out 2).trans rfl, (blk_cell BK621.out 3).trans rfl⟩ (fun hHeld => ?_); refine with_tabW spec_SetRight.tab7 spec_SetRight.bits7 (fun HT_ HW_ => ?_)
         generalize w96.drew = w97 at BK618 BK621 HB hHeld ⊢
         refine pu_ 0 27 spec_SetRight.q1 HT_.out ?_
         refine pu_ 2 29 spec_SetRight.q2 HT_.out ?_
         refine tk6_ 1 28 spec_SetRight.q3 HT_.out HW_.out hHeld ?_
         refine tk6_ 3 30 spec_SetRight.q4 HT_.out HW_.out hHeld ?_
         refine one_ (i := 4) (N := some 31) spec_SetRight.q5 rfl rfl (one_of HT_.out (by kernel_rfl)) (by decide) (fun K hK => ?_)
         refine goes_ Try.func34 (by kernel_rfl) rfl #[.slice A0_0 l0_0.length c0_0, .agg #[.int .i64 ((rd_T158 l0_1 x3_2).f0.f0), .int .i64 ((rd_T158 l0_1 x3_2).f0.f1)]] (by rfl) rfl rfl (z0_) ?_
         with_reducible refine (spec_SeenHas.calls k2 _ _ l0_0 ((rd_T158 l0_1 x3_2).f0.f0) ((rd_T158 l0_1 x3_2).f0.f1) false _ ?side1 ?side2 A14.out).mono ?_
         (case side1 => exact z12_ HR0_0.out HB.out)
         (case side2 => exact HC0_0.out)
         rintro e w98 ⟨rfl, hb⟩
         refine ⟨_, rfl, ?_⟩
         have n_ := as3_ (blkB_ BK618.out hb) (blkB_ BK621.out hb) (below_step (z6_ HB.out GE618.out GE621.out) hb)
         clear BK618 BK621 HB
         have ⟨BK618, BK621, HB⟩ := n_
         clear n_
         (try clear hb)
         (try clear hb2)
         (try clear hk)
         (try clear hi)
         refine hK.out _ _ ⟨(blk_cell BK618.out 0).trans rfl, (blk_cell BK618.out 1).trans rfl, (blk_cell BK621.out 0).trans rfl, (blk_cell BK621.out 1).trans rfl, (blk_cell BK621.out 2).trans rfl, (blk_cell BK621.out 3).trans rfl⟩ (fun hHeld => ?_)
         clear hK K
         refine norm_ (a' := ?_) ?_ ?_
         rotate_left
         ·show Act.put _ (some 31) _ = _
          simp only [Act.put, sa_, s0_, ss_, i64_w, i32_w]
          rfl
         refine pu_ 5 32 spec_SetRight.q6 HT_.out ?_
         refine pu_ 6 33 spec_SetRight.q7 HT_.out ?_
         refine pn_ 7 34 spec_SetRight.q8 HT_.out ?_
         refine pn_ 8 35 spec_SetRight.q9 HT_.out ?_
         refine pn_ 9 36 spec_SetRight.q10 HT_.out ?_
         refine pn_ 10 37 spec_SetRight.q11 HT_.out ?_
         refine pu_ 11 38 spec_SetRight.q12 HT_.out ?_
         refine pu_ 12 39 spec_SetRight.q13 HT_.out ?_
         refine pn_ 13 40 spec_SetRight.q14 HT_.out ?_
         refine pn_ 14 41 spec_SetRight.q15 HT_.out ?_
         refine pn_ 15 42 spec_SetRight.q16 HT_.out ?_
         refine pn_ 16 43 spec_SetRight.q17 HT_.out ?_
         refine pn_ 17 44 spec_SetRight.q18 HT_.out ?_
         refine pn_ 18 45 spec_SetRight.q19 HT_.out ?_
         refine pn_ 19 46 spec_SetRight.q20 HT_.out ?_
         refine pu_ 20 47 spec_SetRight.q21 HT_.out ?_
         refine pu_ 21 48 spec_SetRight.q22 HT_.out ?_
         refine pn_ 22 49 spec_SetRight.q23 HT_.out ?_
         refine pn_ 23 50 spec_SetRight.q24 HT_.out ?_
         refine pn_ 24 51 spec_SetRight.q25 HT_.out ?_
         refine pn_ 25 52 spec_SetRight.q26 HT_.out ?_
         refine pn_ 26 53 spec_SetRight.q27 HT_.out ?_
         refine pn_ 27 54 spec_SetRight.q28 HT_.out ?_
         refine pn_ 28 55 spec_SetRight.q29 HT_.out ?_
         refine pn_ 29 56 spec_SetRight.q30 HT_.out ?_
         refine pn_ 30 57 spec_SetRight.q31 HT_.out ?_
         refine pn_ 31 58 spec_SetRight.q32 HT_.out ?_
         refine pn_ 32 59 spec_SetRight.q33 HT_.out ?_
         refine pn_ 33 60 spec_SetRight.q34 HT_.out ?_
         refine pn_ 34 61 spec_SetRight.q35 HT_.out ?_
         refine pn_ 35 62 spec_SetRight.q36 HT_.out ?_
         refine pn_ 36 63 spec_SetRight.q37 HT_.out ?_
         refine pu_ 37 64 spec_SetRight.q38 HT_.out ?_
         refine done_ (done_of HT_.out (by kernel_rfl)) ?_
         try go_wp2
         go_ret
         exact ⟨z8_, z6_ HB.out GE618.out GE621.out⟩
       ·rw [if_neg c13] at H
        exact absurd H (by simp)
      ·rw [if_neg c12] at H
       have c12b0 : decide (x3_2 < (l0_1.length : Int)) = false := decide_eq_false c12
       clear c12
       obtain rfl := Option.some.inj H
       have ⟨hcz99_0, hcz99_1, hfz99_0, hfz99_1⟩ := cz2_ BK618.out
       go_wp2
       go_ret
       exact ⟨z8_, z1_ HB.out GE618.out⟩


/-! ### spec_l01Fold: function 205 -/
def spec_l01Fold.f (a0 : Int) : Option (Int) := if a0 < 0 then (some (IntKind.u64.wrap ((IntKind.u64.wrap (2 * (IntKind.u64.wrap (wrap64 (-(wrap64 (a0 + 1))))))) + 1))) else (some (IntKind.u64.wrap (2 * (IntKind.u64.wrap (a0)))))
set_option maxHeartbeats 8000000 in
set_option maxRecDepth 100000 in
theorem spec_l01Fold.calls (a0 : Int) (r : Int) (w : World) (h : spec_l01Fold.f a0 = some r) :
  Calls Try.prog 205 #[.int .i64 a0] w fun e w' => e = .returned (.int .u64 r) ∧ Drawn0 w w' := by
 have H : (if a0 < 0 then (some (IntKind.u64.wrap ((IntKind.u64.wrap (2 * (IntKind.u64.wrap (wrap64 (-(wrap64 (a0 + 1))))))) + 1))) else (some (IntKind.u64.wrap (2 * (IntKind.u64.wrap (a0)))))) = some r := h
 clear h
 by_cases c2 : a0 < 0
 ·rw [if_pos c2] at H
  have c2b0 : decide (a0 < 0) = true := decide_eq_true c2
  clear c2
  obtain rfl := Option.some.inj H
  go_enter Try.func205, Try.ntmps205
  go_wp2
  go_ret
  exact ⟨z2_, z13_⟩
 ·rw [if_neg c2] at H
  have c2b0 : decide (a0 < 0) = false := decide_eq_false c2
  clear c2
  obtain rfl := Option.some.inj H
  go_enter Try.func205, Try.ntmps205
  go_wp2
  go_ret
  exact ⟨z2_, z13_⟩


/-! ### spec_PutNum: function 168 -/
def spec_PutNum.l0 : Nat → Int → List Int → Option (ByteArray)
 | 0, _, _ => none
 | k + 1, x3, x4 => if x3 ≥ 128 then (if x4.length < 140737488355328 then (spec_PutNum.l0 k (IntKind.u64.wrap (Int.tdiv x3 128)) (x4 ++ [(IntKind.u64.wrap ((Int.tmod x3 128) + 128)) % 256])) else (none)) else (if x4.length < 140737488355328 then (some (strOfNums (x4 ++ [(x3) % 256]))) else (none))
def spec_PutNum.f (k : Nat) (a0 : Int) : Option (ByteArray) := (spec_l01Fold.f a0).bind fun t313 => (spec_PutNum.l0 k t313 (([] : List Int)))
theorem spec_PutNum.mono_l : ∀ k, (∀ y0 y1, LeO (spec_PutNum.l0 k y0 y1) (spec_PutNum.l0 (k + 1) y0 y1))
 | 0 => fun _ _ r h => by simp [spec_PutNum.l0] at h
 | k + 1 => by
  have ih0 := spec_PutNum.mono_l k
  ·intro y0 y1
   unfold spec_PutNum.l0
   repeat' first
   | (with_reducible exact ih0 _ _)
   | (with_reducible exact LeO.refl _)
   | (with_reducible exact LeO.none _)
   | (with_reducible refine LeO.ite ?_ ?_)
   | (with_reducible refine LeO.bind ?_ (fun _ => ?_))
   | exact ih0 _ _
   | exact LeO.none _
   | refine LeO.ite ?_ ?_
   | refine LeO.bind ?_ (fun _ => ?_)
theorem spec_PutNum.mono : ∀ a0 k, LeO (spec_PutNum.f k a0) (spec_PutNum.f (k + 1) a0) := by
 intro a0 k
 have ih0 := spec_PutNum.mono_l k
 unfold spec_PutNum.f
 repeat' first
   | (with_reducible exact ih0 _ _)
   | (with_reducible exact LeO.refl _)
   | (with_reducible exact LeO.none _)
   | (with_reducible refine LeO.ite ?_ ?_)
   | (with_reducible refine LeO.bind ?_ (fun _ => ?_))
   | exact ih0 _ _
   | exact LeO.none _
   | refine LeO.ite ?_ ?_
   | refine LeO.bind ?_ (fun _ => ?_)
set_option maxHeartbeats 8000000 in
set_option maxRecDepth 100000 in
theorem spec_PutNum.calls (k : Nat) (a0 : Int) (r : ByteArray) (w : World) (h : spec_PutNum.f k a0 = some r) :
  Calls Try.prog 168 #[.int .i64 a0] w fun e w' => e = .returned (.string r) ∧ Below w.heap.size w w' := by
 have HB := Aside0.mk (Below.refl w.heap.size w)
 have H : ((spec_l01Fold.f a0).bind fun t313 => (spec_PutNum.l0 k t313 (([] : List Int)))) = some r := h
 clear h
 replace H := Option.bind_eq_some_iff.mp H
 obtain ⟨t313, A20, H⟩ := H
 replace H : (spec_PutNum.l0 k t313 (([] : List Int))) = some r := H
 have A2 := Aside0.mk A20
 clear A20
 obtain ⟨y314, hy314⟩ : ∃ y_ : List Int, y_ = (([] : List Int)) := ⟨_, rfl⟩
 replace H : (spec_PutNum.l0 k t313 y314) = some r := by first | (rw [hy314]; with_reducible exact H) | (have H2_ := (Option.bind_some _ _).symm.trans H; rw [hy314]; with_reducible exact H2_) | (have H2_ := (Option.bind_some _ _).symm.trans H; with_reducible exact H2_) | with_reducible exact H | (rw [hy314]; exact H) | exact H
 have Ny314 := Aside0.mk hy314
 clear hy314
 have H' := Aside0.mk H
 clear H
 go_enter Try.func168, Try.ntmps168
 go_wp2_with (first | ((with_reducible refine gate_callee (f := 205) rfl ?_); refine goesL_ (some 6) rfl rfl Try.func205 (by kernel_rfl) rfl #[.int .i64 a0] rfl (z0_) ?_; (with_reducible refine (spec_l01Fold.calls a0 t313 _ A2.out).mono ?_); rintro e w' ⟨rfl, ⟨nd, rfl⟩⟩; refine ⟨_, rfl, ?_⟩) | ((with_reducible refine gate_dst (N := 7) rfl ?_); refine Kd.R_lit (Kd.int .u8) _ 5 ?hg (N := 7) ?hd (xs := ([] : List Int)) (inner := []) (ok := fun _ => True) (okp := fun _ => True) ?hr ?hp (fun _ hk => hk) trivial (Below.refl _ _) (Nat.le_refl _) (by simp) ?_; (case hd => rfl); (case hg => rfl); (case hr => first | (go_simp; done) | (go_simp; rfl)); (case hp => exact (Reps.none _ _)); intro v315 w3 ho4 hb hg_ hnew_; clear hg_ hnew_; (first | rw [← Ny314.out] at ho4 | (simp only [Int.reduceToNat] at ho4; rw [← Ny314.out] at ho4)); have n_ := as2_ (Kd.R_lower ho4 (below_size (z5_ HB.out))) (below_step (z5_ HB.out) hb); clear HB; have ⟨HO316, HB⟩ := n_; clear n_; clear hb ho4))
 go_loopg [3, 4] k (fun kq v3 v4 w' => ∃ (x3_1 : Int) (x4_1 : List Int), v3 = .int .u64 x3_1 ∧ Aside0 (spec_PutNum.l0 kq x3_1 x4_1 = some r) ∧ Aside0 (kq ≤ k) ∧ Aside0 (Kd.R (Kd.int .u8) 5 w' w.heap.size (fun _ => True) v4 x4_1) ∧ Aside0 (Below w.heap.size w w'))
 case atStart => exact ⟨(t313), (y314), (z2_), H', ⟨Nat.le_refl _⟩, ⟨z4_ HO316.out⟩, ⟨z5_ HB.out⟩⟩
 case round =>
  clear H'
  try clear c1
  try clear c2
  try clear p2
  obtain ⟨x3_1, x4_1, rfl, HA, HK1, HO_4, HB⟩ := hrel
  cases gk with
  | zero => exact absurd HA.out (by simp [spec_PutNum.l0])
  | succ k1 =>
   have H := HA.out
   clear HA
   simp only [spec_PutNum.l0] at H
   by_cases c5 : x3_1 ≥ 128
   ·rw [if_pos c5] at H
    have c5b0 : decide (128 ≤ x3_1) = true := decide_eq_true c5
    clear c5
    by_cases c6 : x4_1.length < 140737488355328
    ·rw [if_pos c6] at H
     have LMc6 := Aside0.mk c6
     clear c6
     obtain ⟨y317, hy317⟩ : ∃ y_ : List Int, y_ = (x4_1 ++ [(IntKind.u64.wrap ((Int.tmod x3_1 128) + 128)) % 256]) := ⟨_, rfl⟩
     replace H : (spec_PutNum.l0 k1 (IntKind.u64.wrap (Int.tdiv x3_1 128)) y317) = some r := by first | (rw [hy317]; with_reducible exact H) | (have H2_ := (Option.bind_some _ _).symm.trans H; rw [hy317]; with_reducible exact H2_) | (have H2_ := (Option.bind_some _ _).symm.trans H; with_reducible exact H2_) | with_reducible exact H | (rw [hy317]; exact H) | exact H
     have Ny317 := Aside0.mk hy317
     clear hy317
     have H' := Aside0.mk H
     clear H
     go_wp2_with (first | ((with_reducible refine gate_builtin (b := .append) (xs := #[.tmp 10, .tmp 15]) rfl ?_); at_builtin; refine Kd.R_append (Kd.int .u8) (w0 := w) w.heap.size rfl (.tmp 10) (.tmp 15) 27 5 (.int .u8 0) 1 rfl Try.underlying27 info5 rfl (by decide) (by omega) u4 x4_1 ((IntKind.u64.wrap ((Int.tmod x3_1 128) + 128)) % 256) [.int .u8 ((IntKind.u64.wrap ((Int.tmod x3_1 128) + 128)) % 256)] (fun _ => True) (fun _ => False) rfl rfl ?aP (fun _ hk => hk.elim) ?aF ?aO ?aB ?aS ?aL ?_; (case aP => exact rfl); (case aB => exact (z5_ HB.out)); (case aF => exact (fun _ _ => trivial)); (case aO => exact (z4_ HO_4.out)); (case aS => exact (below_size (z5_ HB.out))); (case aL => have := LMc6.out; omega); intro v318 w7 ho hb hg hat; rw [← Ny317.out] at ho; have n_ := as2_ (hb) (ho); clear HB HO_4; have ⟨HB, HO319⟩ := n_; clear n_; clear ho hb hg hat))
     go_roundg k1
     case measure => have := HK1.out; omega
     case rel => exact ⟨(IntKind.u64.wrap (Int.tdiv x3_1 128)), (y317), (z2_), H', ⟨by have := HK1.out; omega⟩, ⟨z4_ HO319.out⟩, ⟨z5_ HB.out⟩⟩
    ·rw [if_neg c6] at H
     exact absurd H (by simp)
   ·rw [if_neg c5] at H
    have c5b0 : decide (128 ≤ x3_1) = false := decide_eq_false c5
    clear c5
    by_cases c8 : x4_1.length < 140737488355328
    ·rw [if_pos c8] at H
     have LMc8 := Aside0.mk c8
     clear c8
     obtain ⟨y320, hy320⟩ : ∃ y_ : List Int, y_ = (x4_1 ++ [(x3_1) % 256]) := ⟨_, rfl⟩
     replace H : (some (strOfNums y320)) = some r := by first | (rw [hy320]; with_reducible exact H) | (have H2_ := (Option.bind_some _ _).symm.trans H; rw [hy320]; with_reducible exact H2_) | (have H2_ := (Option.bind_some _ _).symm.trans H; with_reducible exact H2_) | with_reducible exact H | (rw [hy320]; exact H) | exact H
     have Ny320 := Aside0.mk hy320
     clear hy320
     obtain rfl := Option.some.inj H
     go_wp2_with (first | ((with_reducible refine gate_builtin (b := .append) (xs := #[.tmp 19, .tmp 22]) rfl ?_); at_builtin; refine Kd.R_append (Kd.int .u8) (w0 := w) w.heap.size rfl (.tmp 19) (.tmp 22) 27 5 (.int .u8 0) 1 rfl Try.underlying27 info5 rfl (by decide) (by omega) u4 x4_1 ((x3_1) % 256) [.int .u8 ((x3_1) % 256)] (fun _ => True) (fun _ => False) rfl rfl ?aP (fun _ hk => hk.elim) ?aF ?aO ?aB ?aS ?aL ?_; (case aP => exact rfl); (case aB => exact (z5_ HB.out)); (case aF => exact (fun _ _ => trivial)); (case aO => exact (z4_ HO_4.out)); (case aS => exact (below_size (z5_ HB.out))); (case aL => have := LMc8.out; omega); intro v321 w9 ho hb hg hat; rw [← Ny320.out] at ho; have n_ := as2_ (hb) (ho); clear HB HO_4; have ⟨HB, HO322⟩ := n_; clear n_; clear ho hb hg hat; have hcv10 := own_string (P := Try.prog) Try.underlying27 Try.underlying5 Try.underlying9 (Kd.own_of_R HO322.out)))
     go_ret
     exact ⟨z8_, z5_ HB.out⟩
    ·rw [if_neg c8] at H
     exact absurd H (by simp)


/-! ### spec_l02Bytes: function 102 -/
def spec_l02Bytes.l0 : Nat → List (S33) → ByteArray → Int → Option (ByteArray)
 | 0, _, _, _ => none
 | k + 1, x0, x3, x4 => if x4 < (x0.length : Int) then (if 0 ≤ x4 then ((spec_PutNum.f k ((rd_T33 x0 x4).f0)).bind fun t325 => (if x3.size + t325.size ≤ 9223372036854775807 then ((spec_PutNum.f k ((rd_T33 x0 x4).f1)).bind fun t327 => (if (x3.size + t325.size) + t327.size ≤ 9223372036854775807 then (spec_l02Bytes.l0 k x0 ((x3 ++ t325) ++ t327) (wrap64 (x4 + 1))) else (none))) else (none))) else (none)) else (some x3)
def spec_l02Bytes.f (k : Nat) (l0 : List (S33)) : Option (ByteArray) := (spec_PutNum.f k (l0.length : Int)).bind fun t323 => (spec_l02Bytes.l0 k l0 t323 0)
theorem spec_l02Bytes.mono_l : ∀ k, (∀ y0 y1 y2, LeO (spec_l02Bytes.l0 k y0 y1 y2) (spec_l02Bytes.l0 (k + 1) y0 y1 y2))
 | 0 => fun _ _ _ r h => by simp [spec_l02Bytes.l0] at h
 | k + 1 => by
  have ih0 := spec_l02Bytes.mono_l k
  ·intro y0 y1 y2
   unfold spec_l02Bytes.l0
   repeat' first
   | (with_reducible exact ih0 _ _ _)
   | (with_reducible exact spec_PutNum.mono _ _)
   | (with_reducible exact LeO.refl _)
   | (with_reducible exact LeO.none _)
   | (with_reducible refine LeO.ite ?_ ?_)
   | (with_reducible refine LeO.bind ?_ (fun _ => ?_))
   | exact ih0 _ _ _
   | exact spec_PutNum.mono _ _
   | exact LeO.none _
   | refine LeO.ite ?_ ?_
   | refine LeO.bind ?_ (fun _ => ?_)
theorem spec_l02Bytes.mono : ∀ a0 k, LeO (spec_l02Bytes.f k a0) (spec_l02Bytes.f (k + 1) a0) := by
 intro a0 k
 have ih0 := spec_l02Bytes.mono_l k
 unfold spec_l02Bytes.f
 repeat' first
   | (with_reducible exact ih0 _ _ _)
   | (with_reducible exact spec_PutNum.mono _ _)
   | (with_reducible exact LeO.refl _)
   | (with_reducible exact LeO.none _)
   | (with_reducible refine LeO.ite ?_ ?_)
   | (with_reducible refine LeO.bind ?_ (fun _ => ?_))
   | exact ih0 _ _ _
   | exact spec_PutNum.mono _ _
   | exact LeO.none _
   | refine LeO.ite ?_ ?_
   | refine LeO.bind ?_ (fun _ => ?_)
def spec_l02Bytes.T5 : Bool × List (List Nat × List Nat) := (true, [([], []), ([], []), ([], []), ([1, 2], [1, 2]), ([3], [3]), ([4], [4]), ([5], [5]), ([0, 6], [0, 6]), ([], []), ([], []), ([8, 9], [8, 9]), ([10], [10]), ([11], [11]), ([12, 6], [12]), ([7, 13], [7, 13]), ([14, 13, 0, 1, 2, 3, 4, 5, 6, 7, 8, 9, 10, 11, 12, 13, 14], [0, 14])])
def spec_l02Bytes.B5 : List Nat := [0, 0, 0, 6, 14, 30, 62, 127, 0, 0, 768, 1792, 3840, 8062, 16383, 32767]
theorem spec_l02Bytes.tab5 : rtab .any (opsOf Try.f102 5) = spec_l02Bytes.T5 := by kernel_rfl
theorem spec_l02Bytes.bits5 : waitsOk spec_l02Bytes.T5.2 spec_l02Bytes.B5 = true := by kernel_rfl
set_option maxHeartbeats 8000000 in
set_option maxRecDepth 100000 in
theorem spec_l02Bytes.calls (k : Nat) (A0 : Option Addr) (c0 : Nat) (l0 : List (S33)) (r : ByteArray) (w : World) (hr0 : Kd.C k33 w A0 l0.length l0) (hc0 : l0.length ≤ c0) (h : spec_l02Bytes.f k l0 = some r) :
  Calls Try.prog 102 #[.slice A0 l0.length c0] w fun e w' => e = .returned (.string r) ∧ Below w.heap.size w w' := by
 have HR0 := Aside0.mk hr0
 have HC0 := Aside0.mk hc0
 clear hr0 hc0
 have HB := Aside0.mk (Below.refl w.heap.size w)
 have H : ((spec_PutNum.f k (l0.length : Int)).bind fun t323 => (spec_l02Bytes.l0 k l0 t323 0)) = some r := h
 clear h
 replace H := Option.bind_eq_some_iff.mp H
 obtain ⟨t323, A20, H⟩ := H
 replace H : (spec_l02Bytes.l0 k l0 t323 0) = some r := H
 have A2 := Aside0.mk A20
 clear A20
 have H' := Aside0.mk H
 clear H
 go_enter Try.func102, Try.ntmps102
 go_wp2_with (first | ((with_reducible refine gate_callee (f := 168) rfl ?_); refine goesL_ (some 7) rfl rfl Try.func168 (by kernel_rfl) rfl #[.int .i64 (l0.length : Int)] rfl (z0_) ?_; (with_reducible refine (spec_PutNum.calls k (l0.length : Int) t323 _ A2.out).mono ?_); rintro e w3 ⟨rfl, hb⟩; refine ⟨_, rfl, ?_⟩; have n0_ := Aside0.mk (below_step (z5_ HB.out) hb); clear HB; have HB := n0_; clear n0_; (try clear hb); (try clear hb2); (try clear hk); (try clear hi)))
 go_loopg [3, 4] k (fun kq v3 v4 w' => ∃ (x3_1 : ByteArray) (x4_1 : Int), v3 = .string x3_1 ∧ v4 = .int .i64 x4_1 ∧ Aside0 (spec_l02Bytes.l0 kq l0 x3_1 x4_1 = some r) ∧ Aside0 (kq ≤ k) ∧ Aside0 (Below w.heap.size w w'))
 case atStart => exact ⟨(t323), (0), (z2_), (z2_), H', ⟨Nat.le_refl _⟩, ⟨z5_ HB.out⟩⟩
 case round =>
  clear H'
  try clear c1
  try clear p2
  obtain ⟨x3_1, x4_1, rfl, rfl, HA, HK1, HB⟩ := hrel
  cases gk with
  | zero => exact absurd HA.out (by simp [spec_l02Bytes.l0])
  | succ k1 =>
   have H := HA.out
   clear HA
   simp only [spec_l02Bytes.l0] at H
   by_cases c4 : x4_1 < (l0.length : Int)
   ·rw [if_pos c4] at H
    have c4b0 : decide (x4_1 < (l0.length : Int)) = true := decide_eq_true c4
    clear c4
    by_cases c5 : 0 ≤ x4_1
    ·rw [if_pos c5] at H
     have c5b0 : decide (0 ≤ x4_1) = true := decide_eq_true c5
     clear c5
     replace H := Option.bind_eq_some_iff.mp H
     obtain ⟨t325, A60, H⟩ := H
     replace H : (if x3_1.size + t325.size ≤ 9223372036854775807 then ((spec_PutNum.f k1 ((rd_T33 l0 x4_1).f1)).bind fun t327 => (if (x3_1.size + t325.size) + t327.size ≤ 9223372036854775807 then (spec_l02Bytes.l0 k1 l0 ((x3_1 ++ t325) ++ t327) (wrap64 (x4_1 + 1))) else (none))) else (none)) = some r := H
     have A6 := Aside0.mk A60
     clear A60
     by_cases c7 : x3_1.size + t325.size ≤ 9223372036854775807
     ·rw [if_pos c7] at H
      have c7b0 := eq_true c7
      have c7b1 : decide (x3_1.size + t325.size ≤ 9223372036854775807) = true := decide_eq_true c7
      try have c7b2 : (9223372036854775807 < x3_1.size + t325.size) = False := eq_false (Nat.not_lt.2 c7)
      replace H := Option.bind_eq_some_iff.mp H
      obtain ⟨t327, A80, H⟩ := H
      replace H : (if (x3_1.size + t325.size) + t327.size ≤ 9223372036854775807 then (spec_l02Bytes.l0 k1 l0 ((x3_1 ++ t325) ++ t327) (wrap64 (x4_1 + 1))) else (none)) = some r := H
      have A8 := Aside0.mk A80
      clear A80
      by_cases c9 : (x3_1.size + t325.size) + t327.size ≤ 9223372036854775807
      ·rw [if_pos c9] at H
       have c9b0 := eq_true c9
       have c9b1 : decide ((x3_1.size + t325.size) + t327.size ≤ 9223372036854775807) = true := decide_eq_true c9
       try have c9b2 : (9223372036854775807 < (x3_1.size + t325.size) + t327.size) = False := eq_false (Nat.not_lt.2 c9)
       have H' := Aside0.mk H
       clear H
       try go_wp2
       have n0_ := Aside0.mk (below_drew1 HB.out)
       clear HB
       have HB := n0_
       clear n0_
       have p324 : 0 ≤ (x4_1 : Int) := of_decide_eq_true (z3_)
       have q324 : x4_1 < (l0.length : Int) := of_decide_eq_true (z3_)
       obtain ⟨ad324, e324, hx324_0, hx324_1⟩ := at_T33 HR0.out x4_1 p324 q324
       have hw324_1 := hx324_1
       have hw324_0 := hx324_0
       cases e324
       replace hx324_0 := (HB.out.cell (World.block_lt_of_cell? w _ hx324_0)).trans hx324_0
       replace hx324_1 := (HB.out.cell (World.block_lt_of_cell? w _ hx324_1)).trans hx324_1
       replace p324 := eq_true p324
       replace q324 := eq_true q324
       have p326 : 0 ≤ (x4_1 : Int) := of_decide_eq_true (z3_)
       have q326 : x4_1 < (l0.length : Int) := of_decide_eq_true (z3_)
       obtain ⟨ad326, e326, hx326_0, hx326_1⟩ := at_T33 HR0.out x4_1 p326 q326
       have hw326_1 := hx326_1
       have hw326_0 := hx326_0
       obtain rfl : ad324 = ad326 := (by injection e326)
       replace hx326_0 := (HB.out.cell (World.block_lt_of_cell? w _ hx326_0)).trans hx326_0
       replace hx326_1 := (HB.out.cell (World.block_lt_of_cell? w _ hx326_1)).trans hx326_1
       replace p326 := eq_true p326
       replace q326 := eq_true q326
       refine start_ (n := 16) (S := fun w' => w'.cell? (ad324.add ((x4_1).toNat * 2)) = some (.int .i64 ((rd_T33 l0 x4_1).f0)) ∧ w'.cell? ⟨(ad324.add ((x4_1).toNat * 2)).block, (ad324.add ((x4_1).toNat * 2)).off + 1, none⟩ = some (.int .i64 ((rd_T33 l0 x4_1).f1)) ∧ w'.cell? (ad324.add ((x4_1).toNat * 2)) = some (.int .i64 ((rd_T33 l0 x4_1).f0)) ∧ w'.cell? ⟨(ad324.add ((x4_1).toNat * 2)).block, (ad324.add ((x4_1).toNat * 2)).off + 1, none⟩ = some (.int .i64 ((rd_T33 l0 x4_1).f1))) (ds := []) #[false, false, false, false, false, false, false, false, false, false, false, false, false, false, false, false] (by kernel_rfl) rfl rfl ⟨((HB.out.cell (World.block_lt_of_cell? w _ hw324_0)).trans hw324_0), ((HB.out.cell (World.block_lt_of_cell? w _ hw324_1)).trans hw324_1), ((HB.out.cell (World.block_lt_of_cell? w _ hw326_0)).trans hw326_0), ((HB.out.cell (World.block_lt_of_cell? w _ hw326_1)).trans hw326_1)⟩ (fun hHeld => ?_); refine with_tabW spec_l02Bytes.tab5 spec_l02Bytes.bits5 (fun HT_ HW_ => ?_)
       generalize wr.drew = w10 at HB hx324_0 hx324_1 hx326_0 hx326_1 hHeld ⊢
       refine pu_ 0 14 #[true, false, false, false, false, false, false, false, false, false, false, false, false, false, false, false] HT_.out ?_
       refine pu_ 1 15 #[true, true, false, false, false, false, false, false, false, false, false, false, false, false, false, false] HT_.out ?_
       refine pu_ 2 16 #[true, true, true, false, false, false, false, false, false, false, false, false, false, false, false, false] HT_.out ?_
       refine pu_ 3 17 #[true, true, true, true, false, false, false, false, false, false, false, false, false, false, false, false] HT_.out ?_
       refine pu_ 4 18 #[true, true, true, true, true, false, false, false, false, false, false, false, false, false, false, false] HT_.out ?_
       refine pu_ 8 22 #[true, true, true, true, true, false, false, false, true, false, false, false, false, false, false, false] HT_.out ?_
       refine pu_ 9 23 #[true, true, true, true, true, false, false, false, true, true, false, false, false, false, false, false] HT_.out ?_
       refine pu_ 10 24 #[true, true, true, true, true, false, false, false, true, true, true, false, false, false, false, false] HT_.out ?_
       refine pu_ 11 25 #[true, true, true, true, true, false, false, false, true, true, true, true, false, false, false, false] HT_.out ?_
       refine tk4_ 5 19 #[true, true, true, true, true, true, false, false, true, true, true, true, false, false, false, false] HT_.out HW_.out hHeld ?_
       refine tk4_ 12 26 #[true, true, true, true, true, true, false, false, true, true, true, true, true, false, false, false] HT_.out HW_.out hHeld ?_
       refine one_ (i := 6) (N := some 20) #[true, true, true, true, true, true, true, false, true, true, true, true, true, false, false, false] rfl rfl (one_of HT_.out (by kernel_rfl)) (by decide) (fun K hK => ?_)
       refine goes_ Try.func168 (by kernel_rfl) rfl #[.int .i64 ((rd_T33 l0 x4_1).f0)] (by rfl) rfl rfl (z0_) ?_
       with_reducible refine (spec_PutNum.calls k1 ((rd_T33 l0 x4_1).f0) t325 _ A6.out).mono ?_
       rintro e w11 ⟨rfl, hb⟩
       refine ⟨_, rfl, ?_⟩
       have n0_ := Aside0.mk (below_step (z5_ HB.out) hb)
       clear HB
       have HB := n0_
       clear n0_
       (try clear hb)
       (try clear hb2)
       (try clear hk)
       (try clear hi)
       refine hK.out _ _ ⟨((HB.out.cell (World.block_lt_of_cell? w _ hw324_0)).trans hw324_0), ((HB.out.cell (World.block_lt_of_cell? w _ hw324_1)).trans hw324_1), ((HB.out.cell (World.block_lt_of_cell? w _ hw326_0)).trans hw326_0), ((HB.out.cell (World.block_lt_of_cell? w _ hw326_1)).trans hw326_1)⟩ (fun hHeld => ?_)
       clear hK K
       refine norm_ (a' := ?_) ?_ ?_
       rotate_left
       ·show Act.put _ (some 20) _ = _
        simp only [Act.put, sa_, s0_, ss_, i64_w, i32_w]
        rfl
       refine pu_ 7 21 #[true, true, true, true, true, true, true, true, true, true, true, true, true, false, false, false] HT_.out ?_
       refine one_ (i := 13) (N := some 27) #[true, true, true, true, true, true, true, true, true, true, true, true, true, true, false, false] rfl rfl (one_of HT_.out (by kernel_rfl)) (by decide) (fun K hK => ?_)
       refine goes_ Try.func168 (by kernel_rfl) rfl #[.int .i64 ((rd_T33 l0 x4_1).f1)] (by rfl) rfl rfl (z0_) ?_
       with_reducible refine (spec_PutNum.calls k1 ((rd_T33 l0 x4_1).f1) t327 _ A8.out).mono ?_
       rintro e w12 ⟨rfl, hb⟩
       refine ⟨_, rfl, ?_⟩
       have n0_ := Aside0.mk (below_step (z5_ HB.out) hb)
       clear HB
       have HB := n0_
       clear n0_
       (try clear hb)
       (try clear hb2)
       (try clear hk)
       (try clear hi)
       refine hK.out _ _ ⟨((HB.out.cell (World.block_lt_of_cell? w _ hw324_0)).trans hw324_0), ((HB.out.cell (World.block_lt_of_cell? w _ hw324_1)).trans hw324_1), ((HB.out.cell (World.block_lt_of_cell? w _ hw326_0)).trans hw326_0), ((HB.out.cell (World.block_lt_of_cell? w _ hw326_1)).trans hw326_1)⟩ (fun hHeld => ?_)
       clear hK K
       refine norm_ (a' := ?_) ?_ ?_
       rotate_left
       ·show Act.put _ (some 27) _ = _
        simp only [Act.put, sa_, s0_, ss_, i64_w, i32_w]
        rfl
       refine pu_ 14 28 #[true, true, true, true, true, true, true, true, true, true, true, true, true, true, true, false] HT_.out ?_
       refine pu_ 15 3 #[true, true, true, true, true, true, true, true, true, true, true, true, true, true, true, true] HT_.out ?_
       refine done_ (done_of HT_.out (by kernel_rfl)) ?_
       try go_wp2
       go_roundg k1
       case measure => have := HK1.out; omega
       case rel => exact ⟨((x3_1 ++ t325) ++ t327), (wrap64 (x4_1 + 1)), (z2_), (z2_), H', ⟨by have := HK1.out; omega⟩, ⟨z5_ HB.out⟩⟩
      ·rw [if_neg c9] at H
       exact absurd H (by simp)
     ·rw [if_neg c7] at H
      exact absurd H (by simp)
    ·rw [if_neg c5] at H
     exact absurd H (by simp)
   ·rw [if_neg c4] at H
    have c4b0 : decide (x4_1 < (l0.length : Int)) = false := decide_eq_false c4
    clear c4
    obtain rfl := Option.some.inj H
    go_wp2
    go_ret
    exact ⟨z8_, z5_ HB.out⟩


/-! ### spec_PutText: function 210 -/
def spec_PutText.f (k : Nat) (a0 : ByteArray) : Option (ByteArray) := if (a0.size : Int) > 8000 then (some (⟨#[]⟩ : ByteArray)) else ((spec_PutNum.f k (a0.size : Int)).bind fun t1002 => (if t1002.size + a0.size ≤ 9223372036854775807 then (some (t1002 ++ a0)) else (none)))
theorem spec_PutText.mono : ∀ a0 k, LeO (spec_PutText.f k a0) (spec_PutText.f (k + 1) a0) := by
 intro a0 k
 unfold spec_PutText.f
 repeat' first
   | (with_reducible exact spec_PutNum.mono _ _)
   | (with_reducible exact LeO.refl _)
   | (with_reducible exact LeO.none _)
   | (with_reducible refine LeO.ite ?_ ?_)
   | (with_reducible refine LeO.bind ?_ (fun _ => ?_))
   | exact spec_PutNum.mono _ _
   | exact LeO.none _
   | refine LeO.ite ?_ ?_
   | refine LeO.bind ?_ (fun _ => ?_)
set_option maxHeartbeats 8000000 in
set_option maxRecDepth 100000 in
theorem spec_PutText.calls (k : Nat) (a0 : ByteArray) (r : ByteArray) (w : World) (h : spec_PutText.f k a0 = some r) :
  Calls Try.prog 210 #[.string a0] w fun e w' => e = .returned (.string r) ∧ Below w.heap.size w w' := by
 have HB := Aside0.mk (Below.refl w.heap.size w)
 have H : (if (a0.size : Int) > 8000 then (some (⟨#[]⟩ : ByteArray)) else ((spec_PutNum.f k (a0.size : Int)).bind fun t1002 => (if t1002.size + a0.size ≤ 9223372036854775807 then (some (t1002 ++ a0)) else (none)))) = some r := h
 clear h
 by_cases c2 : (a0.size : Int) > 8000
 ·rw [if_pos c2] at H
  have c2b0 : decide (8000 < (a0.size : Int)) = true := decide_eq_true c2
  have c2b1 : decide (8000 < a0.size) = true := decide_eq_true (by omega)
  clear c2
  obtain rfl := Option.some.inj H
  go_enter Try.func210, Try.ntmps210
  go_wp2
  go_ret
  exact ⟨z8_, z5_ HB.out⟩
 ·rw [if_neg c2] at H
  have c2b0 : decide (8000 < (a0.size : Int)) = false := decide_eq_false c2
  have c2b1 : decide (8000 < a0.size) = false := decide_eq_false (by omega)
  clear c2
  replace H := Option.bind_eq_some_iff.mp H
  obtain ⟨t1002, A30, H⟩ := H
  replace H : (if t1002.size + a0.size ≤ 9223372036854775807 then (some (t1002 ++ a0)) else (none)) = some r := H
  have A3 := Aside0.mk A30
  clear A30
  by_cases c4 : t1002.size + a0.size ≤ 9223372036854775807
  ·rw [if_pos c4] at H
   have c4b0 := eq_true c4
   have c4b1 : decide (t1002.size + a0.size ≤ 9223372036854775807) = true := decide_eq_true c4
   try have c4b2 : (9223372036854775807 < t1002.size + a0.size) = False := eq_false (Nat.not_lt.2 c4)
   obtain rfl := Option.some.inj H
   go_enter Try.func210, Try.ntmps210
   go_wp2_with (first | ((with_reducible refine gate_callee (f := 168) rfl ?_); refine goesL_ (some 8) rfl rfl Try.func168 (by kernel_rfl) rfl #[.int .i64 (a0.size : Int)] rfl (z0_) ?_; (with_reducible refine (spec_PutNum.calls k (a0.size : Int) t1002 _ A3.out).mono ?_); rintro e w5 ⟨rfl, hb⟩; refine ⟨_, rfl, ?_⟩; have n0_ := Aside0.mk (below_step (z5_ HB.out) hb); clear HB; have HB := n0_; clear n0_; (try clear hb); (try clear hb2); (try clear hk); (try clear hi)))
   go_ret
   exact ⟨z8_, z5_ HB.out⟩
  ·rw [if_neg c4] at H
   exact absurd H (by simp)


/-! ### spec_l03Bytes: function 182 -/
mutual
def spec_l03Bytes.l0 : Nat → ByteArray → Int → List (S33) → List (S158) → Option (ByteArray)
 | 0, _, _, _, _ => none
 | k + 1, x3, x4, x1004000, x1004001 => if x4 < (x1004001.length : Int) then (if 0 ≤ x4 then (if (rd_T158 x1004001 x4).f1 = true then (spec_l03Bytes.j1 k x3 x4 1 x1004000 x1004001 ((rd_T158 x1004001 x4).f0.f0) ((rd_T158 x1004001 x4).f0.f1) ((rd_T158 x1004001 x4).f1) ((rd_T158 x1004001 x4).f2)) else (spec_l03Bytes.j1 k x3 x4 0 x1004000 x1004001 ((rd_T158 x1004001 x4).f0.f0) ((rd_T158 x1004001 x4).f0.f1) ((rd_T158 x1004001 x4).f1) ((rd_T158 x1004001 x4).f2))) else (none)) else (some x3)
def spec_l03Bytes.j1 : Nat → ByteArray → Int → Int → List (S33) → List (S158) → Int → Int → Bool → ByteArray → Option (ByteArray)
 | 0, _, _, _, _, _, _, _, _, _ => none
 | k + 1, x3, x4, x6, x1004000, x1004001, x1008000, x1008001, x1008002, x1008003 => (spec_PutNum.f k x1008000).bind fun t1008 => (if x3.size + t1008.size ≤ 9223372036854775807 then ((spec_PutNum.f k x1008001).bind fun t1009 => (if (x3.size + t1008.size) + t1009.size ≤ 9223372036854775807 then ((spec_PutNum.f k x6).bind fun t1010 => (if ((x3.size + t1008.size) + t1009.size) + t1010.size ≤ 9223372036854775807 then ((spec_PutText.f k x1008003).bind fun t1011 => (if (((x3.size + t1008.size) + t1009.size) + t1010.size) + t1011.size ≤ 9223372036854775807 then (spec_l03Bytes.l0 k ((((x3 ++ t1008) ++ t1009) ++ t1010) ++ t1011) (wrap64 (x4 + 1)) x1004000 x1004001) else (none))) else (none))) else (none))) else (none))
end
def spec_l03Bytes.f (k : Nat) (l0_0 : List (S33)) (l0_1 : List (S158)) : Option (ByteArray) := (spec_l02Bytes.f k l0_0).bind fun t1004 => ((spec_PutNum.f k (l0_1.length : Int)).bind fun t1005 => (if t1004.size + t1005.size ≤ 9223372036854775807 then (spec_l03Bytes.l0 k (t1004 ++ t1005) 0 l0_0 l0_1) else (none)))
theorem spec_l03Bytes.mono_l : ∀ k, (∀ y0 y1 y2 y3, LeO (spec_l03Bytes.l0 k y0 y1 y2 y3) (spec_l03Bytes.l0 (k + 1) y0 y1 y2 y3)) ∧ (∀ y0 y1 y2 y3 y4 y5 y6 y7 y8, LeO (spec_l03Bytes.j1 k y0 y1 y2 y3 y4 y5 y6 y7 y8) (spec_l03Bytes.j1 (k + 1) y0 y1 y2 y3 y4 y5 y6 y7 y8))
 | 0 => ⟨fun _ _ _ _ r h => by simp [spec_l03Bytes.l0] at h, fun _ _ _ _ _ _ _ _ _ r h => by simp [spec_l03Bytes.j1] at h⟩
 | k + 1 => by
  obtain ⟨ih0, ih1⟩ := spec_l03Bytes.mono_l k
  refine ⟨?_, ?_⟩
  ·intro y0 y1 y2 y3
   unfold spec_l03Bytes.l0
   repeat' first
   | (with_reducible exact ih0 _ _ _ _)
   | (with_reducible exact ih1 _ _ _ _ _ _ _ _ _)
   | (with_reducible exact spec_PutNum.mono _ _)
   | (with_reducible exact spec_PutText.mono _ _)
   | (with_reducible exact spec_l02Bytes.mono _ _)
   | (with_reducible exact LeO.refl _)
   | (with_reducible exact LeO.none _)
   | (with_reducible refine LeO.ite ?_ ?_)
   | (with_reducible refine LeO.bind ?_ (fun _ => ?_))
   | exact ih0 _ _ _ _
   | exact ih1 _ _ _ _ _ _ _ _ _
   | exact spec_PutNum.mono _ _
   | exact spec_PutText.mono _ _
   | exact spec_l02Bytes.mono _ _
   | exact LeO.none _
   | refine LeO.ite ?_ ?_
   | refine LeO.bind ?_ (fun _ => ?_)
  ·intro y0 y1 y2 y3 y4 y5 y6 y7 y8
   unfold spec_l03Bytes.j1
   repeat' first
   | (with_reducible exact ih0 _ _ _ _)
   | (with_reducible exact ih1 _ _ _ _ _ _ _ _ _)
   | (with_reducible exact spec_PutNum.mono _ _)
   | (with_reducible exact spec_PutText.mono _ _)
   | (with_reducible exact spec_l02Bytes.mono _ _)
   | (with_reducible exact LeO.refl _)
   | (with_reducible exact LeO.none _)
   | (with_reducible refine LeO.ite ?_ ?_)
   | (with_reducible refine LeO.bind ?_ (fun _ => ?_))
   | exact ih0 _ _ _ _
   | exact ih1 _ _ _ _ _ _ _ _ _
   | exact spec_PutNum.mono _ _
   | exact spec_PutText.mono _ _
   | exact spec_l02Bytes.mono _ _
   | exact LeO.none _
   | refine LeO.ite ?_ ?_
   | refine LeO.bind ?_ (fun _ => ?_)
theorem spec_l03Bytes.mono : ∀ a0 a1 k, LeO (spec_l03Bytes.f k a0 a1) (spec_l03Bytes.f (k + 1) a0 a1) := by
 intro a0 a1 k
 obtain ⟨ih0, ih1⟩ := spec_l03Bytes.mono_l k
 unfold spec_l03Bytes.f
 repeat' first
   | (with_reducible exact ih0 _ _ _ _)
   | (with_reducible exact ih1 _ _ _ _ _ _ _ _ _)
   | (with_reducible exact spec_PutNum.mono _ _)
   | (with_reducible exact spec_PutText.mono _ _)
   | (with_reducible exact spec_l02Bytes.mono _ _)
   | (with_reducible exact LeO.refl _)
   | (with_reducible exact LeO.none _)
   | (with_reducible refine LeO.ite ?_ ?_)
   | (with_reducible refine LeO.bind ?_ (fun _ => ?_))
   | exact ih0 _ _ _ _
   | exact ih1 _ _ _ _ _ _ _ _ _
   | exact spec_PutNum.mono _ _
   | exact spec_PutText.mono _ _
   | exact spec_l02Bytes.mono _ _
   | exact LeO.none _
   | refine LeO.ite ?_ ?_
   | refine LeO.bind ?_ (fun _ => ?_)
def spec_l03Bytes.T1 : Bool × List (List Nat × List Nat) := (true, [([], []), ([0], [0]), ([1], [1]), ([], []), ([3], [3]), ([4], [4]), ([5, 2], [5]), ([2, 6], [2, 6]), ([7, 6, 0, 1, 2, 3, 4, 5, 6, 7], [7])])
def spec_l03Bytes.B1 : List Nat := [0, 1, 3, 0, 8, 24, 63, 127, 255]
theorem spec_l03Bytes.tab1 : rtab .any (opsOf Try.f182 1) = spec_l03Bytes.T1 := by kernel_rfl
theorem spec_l03Bytes.bits1 : waitsOk spec_l03Bytes.T1.2 spec_l03Bytes.B1 = true := by kernel_rfl
def spec_l03Bytes.T9 : Bool × List (List Nat × List Nat) := (true, [([], []), ([], []), ([1], [1]), ([2], [2]), ([3], [3]), ([0, 4], [0, 4]), ([], []), ([6], [6]), ([7], [7]), ([8, 4], [8]), ([5, 9], [5, 9]), ([], []), ([11, 9], [11]), ([10, 12], [10, 12]), ([], []), ([14], [14]), ([15, 12], [15]), ([13, 16], [13, 16]), ([17, 16, 0, 1, 2, 3, 4, 5, 6, 7, 8, 9, 10, 11, 12, 13, 14, 15, 16, 17], [0, 17])])
def spec_l03Bytes.B9 : List Nat := [0, 0, 2, 6, 14, 31, 0, 64, 192, 478, 1023, 0, 3038, 8191, 0, 16384, 56286, 131071, 262143]
theorem spec_l03Bytes.tab9 : rtab .any (opsOf Try.f182 9) = spec_l03Bytes.T9 := by kernel_rfl
theorem spec_l03Bytes.bits9 : waitsOk spec_l03Bytes.T9.2 spec_l03Bytes.B9 = true := by kernel_rfl
set_option maxHeartbeats 8000000 in
set_option maxRecDepth 100000 in
theorem spec_l03Bytes.calls (k : Nat) (A0_0 : Option Addr) (c0_0 : Nat) (l0_0 : List (S33)) (A0_1 : Option Addr) (c0_1 : Nat) (l0_1 : List (S158)) (r : ByteArray) (w : World) (hr0_0 : Kd.C k33 w A0_0 l0_0.length l0_0) (hc0_0 : l0_0.length ≤ c0_0) (hr0_1 : Kd.C k158 w A0_1 l0_1.length l0_1) (hc0_1 : l0_1.length ≤ c0_1) (h : spec_l03Bytes.f k l0_0 l0_1 = some r) :
  Calls Try.prog 182 #[.agg #[.slice A0_0 l0_0.length c0_0, .slice A0_1 l0_1.length c0_1]] w fun e w' => e = .returned (.string r) ∧ Below w.heap.size w w' := by
 have hu60 := Try.underlying60
 have hu158 := Try.underlying158
 have HR0_0 := Aside0.mk hr0_0
 have HC0_0 := Aside0.mk hc0_0
 clear hr0_0 hc0_0
 have HR0_1 := Aside0.mk hr0_1
 have HC0_1 := Aside0.mk hc0_1
 clear hr0_1 hc0_1
 have HB := Aside0.mk (Below.refl w.heap.size w)
 have H : ((spec_l02Bytes.f k l0_0).bind fun t1004 => ((spec_PutNum.f k (l0_1.length : Int)).bind fun t1005 => (if t1004.size + t1005.size ≤ 9223372036854775807 then (spec_l03Bytes.l0 k (t1004 ++ t1005) 0 l0_0 l0_1) else (none)))) = some r := h
 clear h
 replace H := Option.bind_eq_some_iff.mp H
 obtain ⟨t1004, A20, H⟩ := H
 replace H : ((spec_PutNum.f k (l0_1.length : Int)).bind fun t1005 => (if t1004.size + t1005.size ≤ 9223372036854775807 then (spec_l03Bytes.l0 k (t1004 ++ t1005) 0 l0_0 l0_1) else (none))) = some r := H
 have A2 := Aside0.mk A20
 clear A20
 replace H := Option.bind_eq_some_iff.mp H
 obtain ⟨t1005, A30, H⟩ := H
 replace H : (if t1004.size + t1005.size ≤ 9223372036854775807 then (spec_l03Bytes.l0 k (t1004 ++ t1005) 0 l0_0 l0_1) else (none)) = some r := H
 have A3 := Aside0.mk A30
 clear A30
 by_cases c4 : t1004.size + t1005.size ≤ 9223372036854775807
 ·rw [if_pos c4] at H
  have c4b0 := eq_true c4
  have c4b1 : decide (t1004.size + t1005.size ≤ 9223372036854775807) = true := decide_eq_true c4
  try have c4b2 : (9223372036854775807 < t1004.size + t1005.size) = False := eq_false (Nat.not_lt.2 c4)
  have H' := Aside0.mk H
  clear H
  go_enter Try.func182, Try.ntmps182
  try go_wp2_with (first | ((with_reducible refine gate_dst (N := 1) rfl ?_); refine box_event ?hg (N := 1) ?hd (cs := #[.slice A0_0 l0_0.length c0_0, .slice A0_1 l0_1.length c0_1]) (t := 60) ?hr ?_; (case hd => rfl); (case hg => rfl); (case hr => first | (go_simp; done) | (go_simp; rfl)); intro gb1003 hg w5 hbox hb; have n_ := as4_ (below_step (z5_ HB.out) hb) (hbox) ((z7_ HB.out : w.heap.size ≤ gb1003)) ((z7_ HB.out : w.heap.size ≤ gb1003)); clear HB; have ⟨HB, BK1003, GW1003, GE1003⟩ := n_; clear n_; clear hb hbox hg))
  have n_ := as2_ (blk_drew BK1003.out) (below_drew1 HB.out)
  clear BK1003 HB
  have ⟨BK1003, HB⟩ := n_
  clear n_
  refine start_ (n := 9) (S := fun w' => w'.cell? ⟨gb1003, 0, none⟩ = some (.slice A0_0 l0_0.length c0_0) ∧ w'.cell? ⟨gb1003, 1, none⟩ = some (.slice A0_1 l0_1.length c0_1)) (ds := []) #[false, false, false, false, false, false, false, false, false] (by kernel_rfl) rfl rfl ⟨(blk_cell BK1003.out 0).trans rfl, (blk_cell BK1003.out 1).trans rfl⟩ (fun hHeld => ?_); refine with_tabW spec_l03Bytes.tab1 spec_l03Bytes.bits1 (fun HT_ HW_ => ?_)
  generalize w5.drew = w6 at BK1003 HB hHeld ⊢
  refine pu_ 0 7 #[true, false, false, false, false, false, false, false, false] HT_.out ?_
  refine pu_ 3 10 #[true, false, false, true, false, false, false, false, false] HT_.out ?_
  refine tk2_ 1 8 #[true, true, false, true, false, false, false, false, false] HT_.out HW_.out hHeld ?_
  refine tk2_ 4 11 #[true, true, false, true, true, false, false, false, false] HT_.out HW_.out hHeld ?_
  refine pu_ 5 12 #[true, true, false, true, true, true, false, false, false] HT_.out ?_
  refine one_ (i := 2) (N := some 9) #[true, true, true, true, true, true, false, false, false] rfl rfl (one_of HT_.out (by kernel_rfl)) (by decide) (fun K hK => ?_)
  refine goes_ Try.func102 (by kernel_rfl) rfl #[.slice A0_0 l0_0.length c0_0] (by rfl) rfl rfl (z0_) ?_
  with_reducible refine (spec_l02Bytes.calls k _ _ l0_0 t1004 _ ?side1 ?side2 A2.out).mono ?_
  (case side1 => exact z12_ HR0_0.out HB.out)
  (case side2 => exact HC0_0.out)
  rintro e w7 ⟨rfl, hb⟩
  refine ⟨_, rfl, ?_⟩
  have n_ := as2_ (blkB_ BK1003.out hb) (below_step (z1_ HB.out GE1003.out) hb)
  clear BK1003 HB
  have ⟨BK1003, HB⟩ := n_
  clear n_
  (try clear hb)
  (try clear hb2)
  (try clear hk)
  (try clear hi)
  refine hK.out _ _ ⟨(blk_cell BK1003.out 0).trans rfl, (blk_cell BK1003.out 1).trans rfl⟩ (fun hHeld => ?_)
  clear hK K
  refine norm_ (a' := ?_) ?_ ?_
  rotate_left
  ·show Act.put _ (some 9) _ = _
   simp only [Act.put, sa_, s0_, ss_, i64_w, i32_w]
   rfl
  refine one_ (i := 6) (N := some 13) #[true, true, true, true, true, true, true, false, false] rfl rfl (one_of HT_.out (by kernel_rfl)) (by decide) (fun K hK => ?_)
  refine goes_ Try.func168 (by kernel_rfl) rfl #[.int .i64 (l0_1.length : Int)] (by rfl) rfl rfl (z0_) ?_
  with_reducible refine (spec_PutNum.calls k (l0_1.length : Int) t1005 _ A3.out).mono ?_
  rintro e w8 ⟨rfl, hb⟩
  refine ⟨_, rfl, ?_⟩
  have n_ := as2_ (blkB_ BK1003.out hb) (below_step (z1_ HB.out GE1003.out) hb)
  clear BK1003 HB
  have ⟨BK1003, HB⟩ := n_
  clear n_
  (try clear hb)
  (try clear hb2)
  (try clear hk)
  (try clear hi)
  refine hK.out _ _ ⟨(blk_cell BK1003.out 0).trans rfl, (blk_cell BK1003.out 1).trans rfl⟩ (fun hHeld => ?_)
  clear hK K
  refine norm_ (a' := ?_) ?_ ?_
  rotate_left
  ·show Act.put _ (some 13) _ = _
   simp only [Act.put, sa_, s0_, ss_, i64_w, i32_w]
   rfl
  refine pu_ 7 14 #[true, true, true, true, true, true, true, true, false] HT_.out ?_
  refine pu_ 8 3 #[true, true, true, true, true, true, true, true, true] HT_.out ?_
  refine done_ (done_of HT_.out (by kernel_rfl)) ?_
  try go_wp2
  go_loopg [3, 4] k (fun kq v3 v4 w' => ∃ (x3_1 : ByteArray) (x4_1 : Int), v3 = .string x3_1 ∧ v4 = .int .i64 x4_1 ∧ Aside0 (spec_l03Bytes.l0 kq x3_1 x4_1 l0_0 l0_1 = some r) ∧ Aside0 (kq ≤ k) ∧ Aside0 (w'.heap[gb1003]? = some (.cells #[(.slice A0_0 l0_0.length c0_0), (.slice A0_1 l0_1.length c0_1)] 60 (0, 0))) ∧ Aside0 (Below w.heap.size w w'))
  case atStart => exact ⟨(t1004 ++ t1005), (0), (z2_), (z2_), H', ⟨Nat.le_refl _⟩, ⟨z9_ BK1003.out⟩, ⟨z1_ HB.out GE1003.out⟩⟩
  case round =>
   clear H'
   try clear c1
   try clear p2
   try clear c4
   try clear c4b0
   try clear c4b1
   try clear c4b2
   obtain ⟨x3_1, x4_1, rfl, rfl, HA, HK1, BK1003, HB⟩ := hrel
   cases gk with
   | zero => exact absurd HA.out (by simp [spec_l03Bytes.l0])
   | succ k1 =>
    have H := HA.out
    clear HA
    simp only [spec_l03Bytes.l0] at H
    by_cases c9 : x4_1 < (l0_1.length : Int)
    ·rw [if_pos c9] at H
     have c9b0 : decide (x4_1 < (l0_1.length : Int)) = true := decide_eq_true c9
     clear c9
     by_cases c10 : 0 ≤ x4_1
     ·rw [if_pos c10] at H
      have c10b0 : decide (0 ≤ x4_1) = true := decide_eq_true c10
      clear c10
      have HC11 := Aside0.mk H
      clear H
      have ⟨hcz12_0, hcz12_1, hfz12_0, hfz12_1⟩ := cz2_ BK1003.out
      have p1006 : 0 ≤ (x4_1 : Int) := of_decide_eq_true (z3_)
      have q1006 : x4_1 < (l0_1.length : Int) := of_decide_eq_true (z3_)
      obtain ⟨ad1006, e1006, hx1006_0, hx1006_1, hx1006_2, hx1006_3⟩ := at_T158 HR0_1.out x4_1 p1006 q1006
      cases e1006
      replace hx1006_0 := (HB.out.cell (World.block_lt_of_cell? w _ hx1006_0)).trans hx1006_0
      replace hx1006_1 := (HB.out.cell (World.block_lt_of_cell? w _ hx1006_1)).trans hx1006_1
      replace hx1006_2 := (HB.out.cell (World.block_lt_of_cell? w _ hx1006_2)).trans hx1006_2
      replace hx1006_3 := (HB.out.cell (World.block_lt_of_cell? w _ hx1006_3)).trans hx1006_3
      replace p1006 := eq_true p1006
      replace q1006 := eq_true q1006
      go_upto_if 28 with (first | ((with_reducible refine gate_dst (N := 5) rfl ?_); refine box_event ?hg (N := 5) ?hd (cs := #[.int .i64 0, .int .i64 0, .bool false, .string (⟨#[]⟩ : ByteArray)]) (t := 158) ?hr ?_; (case hd => rfl); (case hg => rfl); (case hr => first | (go_simp; done) | (go_simp; rfl)); intro gb1007 hg w13 hbox hb; have n_ := as7_ (blkB_ BK1003.out hb) (below_step (z1_ HB.out GE1003.out) hb) (hbox) ((z10_ HB.out GE1003.out : w.heap.size ≤ gb1007)) ((z10_ HB.out GE1003.out : w.heap.size ≤ gb1007)) (neL_ BK1003.out hg) (neG_ BK1003.out hg); clear BK1003 HB; have ⟨BK1003, HB, BK1007, GW1007, GE1007, NB1003_1007, NB1007_1003⟩ := n_; clear n_; clear hb hbox hg; have hnb14 := NB1007_1003.out; have hnc14 := NB1003_1007.out; have hcz15_0 : w13.cell? ⟨gb1007, 0, none⟩ = some (.int .i64 0) := (blk_cell BK1007.out 0).trans rfl; have hcz15_1 : w13.cell? ⟨gb1007, 1, none⟩ = some (.int .i64 0) := (blk_cell BK1007.out 1).trans rfl; have hcz15_2 : w13.cell? ⟨gb1007, 2, none⟩ = some (.bool false) := (blk_cell BK1007.out 2).trans rfl; have hcz15_3 : w13.cell? ⟨gb1007, 3, none⟩ = some (.string (⟨#[]⟩ : ByteArray)) := (blk_cell BK1007.out 3).trans rfl; have hfz15_0 := blk_frozen BK1007.out 0; have hfz15_1 := blk_frozen BK1007.out 1; have hfz15_2 := blk_frozen BK1007.out 2; have hfz15_3 := blk_frozen BK1007.out 3))
      (try simp only [Act.put, sa_, s0_, ss_])
      go_cut [6] (fun v6 wc => ∃ (kq : Nat) (x6_10 : Int), v6 = .int .i64 x6_10 ∧ Aside0 (spec_l03Bytes.j1 kq x3_1 x4_1 x6_10 l0_0 l0_1 ((rd_T158 l0_1 x4_1).f0.f0) ((rd_T158 l0_1 x4_1).f0.f1) ((rd_T158 l0_1 x4_1).f1) ((rd_T158 l0_1 x4_1).f2) = some r) ∧ Aside0 (kq ≤ k1) ∧ Aside0 (wc.heap[gb1003]? = some (.cells #[(.slice A0_0 l0_0.length c0_0), (.slice (some ad1006) l0_1.length c0_1)] 60 (0, 0))) ∧ Aside0 (wc.heap[gb1007]? = some (.cells #[.int .i64 ((rd_T158 l0_1 x4_1).f0.f0), .int .i64 ((rd_T158 l0_1 x4_1).f0.f1), .bool ((rd_T158 l0_1 x4_1).f1), .string ((rd_T158 l0_1 x4_1).f2)] 158 (0, 0))) ∧ Aside0 (Below w.heap.size w wc))
      case first =>
       have H := HC11.out
       clear HC11
       obtain ⟨bq16, hbq16⟩ : ∃ b_ : Bool, b_ = ((rd_T158 l0_1 x4_1).f1) := ⟨_, rfl⟩
       replace H : (if bq16 = true then (spec_l03Bytes.j1 k1 x3_1 x4_1 1 l0_0 l0_1 ((rd_T158 l0_1 x4_1).f0.f0) ((rd_T158 l0_1 x4_1).f0.f1) bq16 ((rd_T158 l0_1 x4_1).f2)) else (spec_l03Bytes.j1 k1 x3_1 x4_1 0 l0_0 l0_1 ((rd_T158 l0_1 x4_1).f0.f0) ((rd_T158 l0_1 x4_1).f0.f1) bq16 ((rd_T158 l0_1 x4_1).f2))) = some r := by rw [← hbq16] at H; exact H
       have Nbq16 := Aside0.mk hbq16
       clear hbq16
       (try rw [← Nbq16.out])
       by_cases c17 : bq16 = true
       ·subst c17
        have H1 : (spec_l03Bytes.j1 k1 x3_1 x4_1 1 l0_0 l0_1 ((rd_T158 l0_1 x4_1).f0.f0) ((rd_T158 l0_1 x4_1).f0.f1) true ((rd_T158 l0_1 x4_1).f2)) = some r := by rw [if_pos rfl] at H; exact H
        clear H
        have H := H1
        clear H1
        have H' := Aside0.mk H
        clear H
        go_wp2
        go_meet
        case rel => (try rw [← Nbq16.out]); exact ⟨_, (1), (z2_), H', ⟨z26_ HK1.out⟩, ⟨z18_ NB1003_1007.out BK1003.out⟩, ⟨z22_ BK1007.out⟩, ⟨z6_ HB.out GE1003.out GE1007.out⟩⟩
       ·replace c17 := Bool.eq_false_iff.mpr c17
        subst c17
        have H1 : (spec_l03Bytes.j1 k1 x3_1 x4_1 0 l0_0 l0_1 ((rd_T158 l0_1 x4_1).f0.f0) ((rd_T158 l0_1 x4_1).f0.f1) false ((rd_T158 l0_1 x4_1).f2)) = some r := by rw [if_neg (show ¬ (false = true) by decide)] at H; exact H
        clear H
        have H := H1
        clear H1
        have H' := Aside0.mk H
        clear H
        go_wp2
        go_meet
        case rel => (try rw [← Nbq16.out]); exact ⟨_, (0), (z2_), H', ⟨z26_ HK1.out⟩, ⟨z18_ NB1003_1007.out BK1003.out⟩, ⟨z22_ BK1007.out⟩, ⟨z6_ HB.out GE1003.out GE1007.out⟩⟩
      case rest =>
       clear HC11
       try clear c1
       try clear p1
       try clear q1
       try clear hx1
       try clear p2
       try clear c4
       try clear c4b0
       try clear c4b1
       try clear c4b2
       try clear c9
       try clear c9b0
       try clear c10
       try clear c10b0
       try clear p10
       try clear q10
       try clear hx10
       try clear c14
       try clear c16
       try clear q16
       try clear c17
       try clear hcz12_0
       try clear hcz12_1
       try clear hcz15_0
       try clear hcz15_1
       try clear hcz15_2
       try clear hcz15_3
       try clear hfz12_0
       try clear hfz12_1
       try clear hfz15_0
       try clear hfz15_1
       try clear hfz15_2
       try clear hfz15_3
       try clear hx1006_0
       try clear hx1006_1
       try clear hx1006_2
       try clear hx1006_3
       try clear p1006
       try clear p2
       try clear q1006
       obtain ⟨kq, x6_10, rfl, HA, HJ10, BK1003, BK1007, HB⟩ := hcut
       cases kq with
       | zero => exact absurd HA.out (by simp [spec_l03Bytes.j1])
       | succ kj10 =>
        have H := HA.out
        clear HA
        simp only [spec_l03Bytes.j1] at H
        replace H := Option.bind_eq_some_iff.mp H
        obtain ⟨t1008, A180, H⟩ := H
        replace H : (if x3_1.size + t1008.size ≤ 9223372036854775807 then ((spec_PutNum.f kj10 ((rd_T158 l0_1 x4_1).f0.f1)).bind fun t1009 => (if (x3_1.size + t1008.size) + t1009.size ≤ 9223372036854775807 then ((spec_PutNum.f kj10 x6_10).bind fun t1010 => (if ((x3_1.size + t1008.size) + t1009.size) + t1010.size ≤ 9223372036854775807 then ((spec_PutText.f kj10 ((rd_T158 l0_1 x4_1).f2)).bind fun t1011 => (if (((x3_1.size + t1008.size) + t1009.size) + t1010.size) + t1011.size ≤ 9223372036854775807 then (spec_l03Bytes.l0 kj10 ((((x3_1 ++ t1008) ++ t1009) ++ t1010) ++ t1011) (wrap64 (x4_1 + 1)) l0_0 l0_1) else (none))) else (none))) else (none))) else (none)) = some r := H
        have A18 := Aside0.mk A180
        clear A180
        by_cases c19 : x3_1.size + t1008.size ≤ 9223372036854775807
        ·rw [if_pos c19] at H
         have c19b0 := eq_true c19
         have c19b1 : decide (x3_1.size + t1008.size ≤ 9223372036854775807) = true := decide_eq_true c19
         try have c19b2 : (9223372036854775807 < x3_1.size + t1008.size) = False := eq_false (Nat.not_lt.2 c19)
         replace H := Option.bind_eq_some_iff.mp H
         obtain ⟨t1009, A200, H⟩ := H
         replace H : (if (x3_1.size + t1008.size) + t1009.size ≤ 9223372036854775807 then ((spec_PutNum.f kj10 x6_10).bind fun t1010 => (if ((x3_1.size + t1008.size) + t1009.size) + t1010.size ≤ 9223372036854775807 then ((spec_PutText.f kj10 ((rd_T158 l0_1 x4_1).f2)).bind fun t1011 => (if (((x3_1.size + t1008.size) + t1009.size) + t1010.size) + t1011.size ≤ 9223372036854775807 then (spec_l03Bytes.l0 kj10 ((((x3_1 ++ t1008) ++ t1009) ++ t1010) ++ t1011) (wrap64 (x4_1 + 1)) l0_0 l0_1) else (none))) else (none))) else (none)) = some r := H
         have A20 := Aside0.mk A200
         clear A200
         by_cases c21 : (x3_1.size + t1008.size) + t1009.size ≤ 9223372036854775807
         ·rw [if_pos c21] at H
          have c21b0 := eq_true c21
          have c21b1 : decide ((x3_1.size + t1008.size) + t1009.size ≤ 9223372036854775807) = true := decide_eq_true c21
          try have c21b2 : (9223372036854775807 < (x3_1.size + t1008.size) + t1009.size) = False := eq_false (Nat.not_lt.2 c21)
          replace H := Option.bind_eq_some_iff.mp H
          obtain ⟨t1010, A220, H⟩ := H
          replace H : (if ((x3_1.size + t1008.size) + t1009.size) + t1010.size ≤ 9223372036854775807 then ((spec_PutText.f kj10 ((rd_T158 l0_1 x4_1).f2)).bind fun t1011 => (if (((x3_1.size + t1008.size) + t1009.size) + t1010.size) + t1011.size ≤ 9223372036854775807 then (spec_l03Bytes.l0 kj10 ((((x3_1 ++ t1008) ++ t1009) ++ t1010) ++ t1011) (wrap64 (x4_1 + 1)) l0_0 l0_1) else (none))) else (none)) = some r := H
          have A22 := Aside0.mk A220
          clear A220
          by_cases c23 : ((x3_1.size + t1008.size) + t1009.size) + t1010.size ≤ 9223372036854775807
          ·rw [if_pos c23] at H
           have c23b0 := eq_true c23
           have c23b1 : decide (((x3_1.size + t1008.size) + t1009.size) + t1010.size ≤ 9223372036854775807) = true := decide_eq_true c23
           try have c23b2 : (9223372036854775807 < ((x3_1.size + t1008.size) + t1009.size) + t1010.size) = False := eq_false (Nat.not_lt.2 c23)
           replace H := Option.bind_eq_some_iff.mp H
           obtain ⟨t1011, A240, H⟩ := H
           replace H : (if (((x3_1.size + t1008.size) + t1009.size) + t1010.size) + t1011.size ≤ 9223372036854775807 then (spec_l03Bytes.l0 kj10 ((((x3_1 ++ t1008) ++ t1009) ++ t1010) ++ t1011) (wrap64 (x4_1 + 1)) l0_0 l0_1) else (none)) = some r := H
           have A24 := Aside0.mk A240
           clear A240
           by_cases c25 : (((x3_1.size + t1008.size) + t1009.size) + t1010.size) + t1011.size ≤ 9223372036854775807
           ·rw [if_pos c25] at H
            have c25b0 := eq_true c25
            have c25b1 : decide ((((x3_1.size + t1008.size) + t1009.size) + t1010.size) + t1011.size ≤ 9223372036854775807) = true := decide_eq_true c25
            try have c25b2 : (9223372036854775807 < (((x3_1.size + t1008.size) + t1009.size) + t1010.size) + t1011.size) = False := eq_false (Nat.not_lt.2 c25)
            have H' := Aside0.mk H
            clear H
            try go_wp2
            have n_ := as3_ (blk_drew BK1003.out) (blk_drew BK1007.out) (below_drew1 HB.out)
            clear BK1003 BK1007 HB
            have ⟨BK1003, BK1007, HB⟩ := n_
            clear n_
            refine start_ (n := 19) (S := fun w' => w'.cell? ⟨gb1007, 0, none⟩ = some (.int .i64 ((rd_T158 l0_1 x4_1).f0.f0)) ∧ w'.cell? ⟨gb1007, 1, none⟩ = some (.int .i64 ((rd_T158 l0_1 x4_1).f0.f1)) ∧ w'.cell? ⟨gb1007, 2, none⟩ = some (.bool ((rd_T158 l0_1 x4_1).f1)) ∧ w'.cell? ⟨gb1007, 3, none⟩ = some (.string ((rd_T158 l0_1 x4_1).f2))) (ds := []) #[false, false, false, false, false, false, false, false, false, false, false, false, false, false, false, false, false, false, false] (by kernel_rfl) rfl rfl ⟨(blk_cell BK1007.out 0).trans rfl, (blk_cell BK1007.out 1).trans rfl, (blk_cell BK1007.out 2).trans rfl, (blk_cell BK1007.out 3).trans rfl⟩ (fun hHeld => ?_); refine with_tabW spec_l03Bytes.tab9 spec_l03Bytes.bits9 (fun HT_ HW_ => ?_)
            generalize wc.drew = w26 at BK1003 BK1007 HB hHeld ⊢
            refine pu_ 0 29 #[true, false, false, false, false, false, false, false, false, false, false, false, false, false, false, false, false, false, false] HT_.out ?_
            refine pu_ 1 30 #[true, true, false, false, false, false, false, false, false, false, false, false, false, false, false, false, false, false, false] HT_.out ?_
            refine pu_ 2 31 #[true, true, true, false, false, false, false, false, false, false, false, false, false, false, false, false, false, false, false] HT_.out ?_
            refine pu_ 6 35 #[true, true, true, false, false, false, true, false, false, false, false, false, false, false, false, false, false, false, false] HT_.out ?_
            refine pu_ 7 36 #[true, true, true, false, false, false, true, true, false, false, false, false, false, false, false, false, false, false, false] HT_.out ?_
            refine pu_ 11 40 #[true, true, true, false, false, false, true, true, false, false, false, true, false, false, false, false, false, false, false] HT_.out ?_
            refine pu_ 14 43 #[true, true, true, false, false, false, true, true, false, false, false, true, false, false, true, false, false, false, false] HT_.out ?_
            refine tk4_ 3 32 #[true, true, true, true, false, false, true, true, false, false, false, true, false, false, true, false, false, false, false] HT_.out HW_.out hHeld ?_
            refine tk4_ 8 37 #[true, true, true, true, false, false, true, true, true, false, false, true, false, false, true, false, false, false, false] HT_.out HW_.out hHeld ?_
            refine tk4_ 15 44 #[true, true, true, true, false, false, true, true, true, false, false, true, false, false, true, true, false, false, false] HT_.out HW_.out hHeld ?_
            refine one_ (i := 4) (N := some 33) #[true, true, true, true, true, false, true, true, true, false, false, true, false, false, true, true, false, false, false] rfl rfl (one_of HT_.out (by kernel_rfl)) (by decide) (fun K hK => ?_)
            refine goes_ Try.func168 (by kernel_rfl) rfl #[.int .i64 ((rd_T158 l0_1 x4_1).f0.f0)] (by rfl) rfl rfl (z0_) ?_
            with_reducible refine (spec_PutNum.calls kj10 ((rd_T158 l0_1 x4_1).f0.f0) t1008 _ A18.out).mono ?_
            rintro e w27 ⟨rfl, hb⟩
            refine ⟨_, rfl, ?_⟩
            have n_ := as3_ (blkB_ BK1003.out hb) (blkB_ BK1007.out hb) (below_step (z6_ HB.out GE1003.out GE1007.out) hb)
            clear BK1003 BK1007 HB
            have ⟨BK1003, BK1007, HB⟩ := n_
            clear n_
            (try clear hb)
            (try clear hb2)
            (try clear hk)
            (try clear hi)
            refine hK.out _ _ ⟨(blk_cell BK1007.out 0).trans rfl, (blk_cell BK1007.out 1).trans rfl, (blk_cell BK1007.out 2).trans rfl, (blk_cell BK1007.out 3).trans rfl⟩ (fun hHeld => ?_)
            clear hK K
            refine norm_ (a' := ?_) ?_ ?_
            rotate_left
            ·show Act.put _ (some 33) _ = _
             simp only [Act.put, sa_, s0_, ss_, i64_w, i32_w]
             rfl
            refine pu_ 5 34 #[true, true, true, true, true, true, true, true, true, false, false, true, false, false, true, true, false, false, false] HT_.out ?_
            refine one_ (i := 9) (N := some 38) #[true, true, true, true, true, true, true, true, true, true, false, true, false, false, true, true, false, false, false] rfl rfl (one_of HT_.out (by kernel_rfl)) (by decide) (fun K hK => ?_)
            refine goes_ Try.func168 (by kernel_rfl) rfl #[.int .i64 ((rd_T158 l0_1 x4_1).f0.f1)] (by rfl) rfl rfl (z0_) ?_
            with_reducible refine (spec_PutNum.calls kj10 ((rd_T158 l0_1 x4_1).f0.f1) t1009 _ A20.out).mono ?_
            rintro e w28 ⟨rfl, hb⟩
            refine ⟨_, rfl, ?_⟩
            have n_ := as3_ (blkB_ BK1003.out hb) (blkB_ BK1007.out hb) (below_step (z6_ HB.out GE1003.out GE1007.out) hb)
            clear BK1003 BK1007 HB
            have ⟨BK1003, BK1007, HB⟩ := n_
            clear n_
            (try clear hb)
            (try clear hb2)
            (try clear hk)
            (try clear hi)
            refine hK.out _ _ ⟨(blk_cell BK1007.out 0).trans rfl, (blk_cell BK1007.out 1).trans rfl, (blk_cell BK1007.out 2).trans rfl, (blk_cell BK1007.out 3).trans rfl⟩ (fun hHeld => ?_)
            clear hK K
            refine norm_ (a' := ?_) ?_ ?_
            rotate_left
            ·show Act.put _ (some 38) _ = _
             simp only [Act.put, sa_, s0_, ss_, i64_w, i32_w]
             rfl
            refine pu_ 10 39 #[true, true, true, true, true, true, true, true, true, true, true, true, false, false, true, true, false, false, false] HT_.out ?_
            refine one_ (i := 12) (N := some 41) #[true, true, true, true, true, true, true, true, true, true, true, true, true, false, true, true, false, false, false] rfl rfl (one_of HT_.out (by kernel_rfl)) (by decide) (fun K hK => ?_)
            refine goes_ Try.func168 (by kernel_rfl) rfl #[.int .i64 x6_10] (by rfl) rfl rfl (z0_) ?_
            with_reducible refine (spec_PutNum.calls kj10 x6_10 t1010 _ A22.out).mono ?_
            rintro e w29 ⟨rfl, hb⟩
            refine ⟨_, rfl, ?_⟩
            have n_ := as3_ (blkB_ BK1003.out hb) (blkB_ BK1007.out hb) (below_step (z6_ HB.out GE1003.out GE1007.out) hb)
            clear BK1003 BK1007 HB
            have ⟨BK1003, BK1007, HB⟩ := n_
            clear n_
            (try clear hb)
            (try clear hb2)
            (try clear hk)
            (try clear hi)
            refine hK.out _ _ ⟨(blk_cell BK1007.out 0).trans rfl, (blk_cell BK1007.out 1).trans rfl, (blk_cell BK1007.out 2).trans rfl, (blk_cell BK1007.out 3).trans rfl⟩ (fun hHeld => ?_)
            clear hK K
            refine norm_ (a' := ?_) ?_ ?_
            rotate_left
            ·show Act.put _ (some 41) _ = _
             simp only [Act.put, sa_, s0_, ss_, i64_w, i32_w]
             rfl
            refine pu_ 13 42 #[true, true, true, true, true, true, true, true, true, true, true, true, true, true, true, true, false, false, false] HT_.out ?_
            refine one_ (i := 16) (N := some 45) #[true, true, true, true, true, true, true, true, true, true, true, true, true, true, true, true, true, false, false] rfl rfl (one_of HT_.out (by kernel_rfl)) (by decide) (fun K hK => ?_)
            refine goes_ Try.func210 (by kernel_rfl) rfl #[.string ((rd_T158 l0_1 x4_1).f2)] (by rfl) rfl rfl (z0_) ?_
            with_reducible refine (spec_PutText.calls kj10 ((rd_T158 l0_1 x4_1).f2) t1011 _ A24.out).mono ?_
            rintro e w30 ⟨rfl, hb⟩
            refine ⟨_, rfl, ?_⟩
            have n_ := as3_ (blkB_ BK1003.out hb) (blkB_ BK1007.out hb) (below_step (z6_ HB.out GE1003.out GE1007.out) hb)
            clear BK1003 BK1007 HB
            have ⟨BK1003, BK1007, HB⟩ := n_
            clear n_
            (try clear hb)
            (try clear hb2)
            (try clear hk)
            (try clear hi)
            refine hK.out _ _ ⟨(blk_cell BK1007.out 0).trans rfl, (blk_cell BK1007.out 1).trans rfl, (blk_cell BK1007.out 2).trans rfl, (blk_cell BK1007.out 3).trans rfl⟩ (fun hHeld => ?_)
            clear hK K
            refine norm_ (a' := ?_) ?_ ?_
            rotate_left
            ·show Act.put _ (some 45) _ = _
             simp only [Act.put, sa_, s0_, ss_, i64_w, i32_w]
             rfl
            refine pu_ 17 46 #[true, true, true, true, true, true, true, true, true, true, true, true, true, true, true, true, true, true, false] HT_.out ?_
            refine pu_ 18 3 #[true, true, true, true, true, true, true, true, true, true, true, true, true, true, true, true, true, true, true] HT_.out ?_
            refine done_ (done_of HT_.out (by kernel_rfl)) ?_
            try go_wp2
            go_roundg kj10
            case measure => have := HK1.out; have := HJ10.out; omega
            case rel => (try rw [← Nbq16.out]); exact ⟨((((x3_1 ++ t1008) ++ t1009) ++ t1010) ++ t1011), (wrap64 (x4_1 + 1)), (z2_), (z2_), H', ⟨by have := HK1.out; have := HJ10.out; omega⟩, ⟨z9_ BK1003.out⟩, ⟨z6_ HB.out GE1003.out GE1007.out⟩⟩
           ·rw [if_neg c25] at H
            exact absurd H (by simp)
          ·rw [if_neg c23] at H
           exact absurd H (by simp)
         ·rw [if_neg c21] at H
          exact absurd H (by simp)
        ·rw [if_neg c19] at H
         exact absurd H (by simp)
     ·rw [if_neg c10] at H
      exact absurd H (by simp)
    ·rw [if_neg c9] at H
     have c9b0 : decide (x4_1 < (l0_1.length : Int)) = false := decide_eq_false c9
     clear c9
     obtain rfl := Option.some.inj H
     have ⟨hcz31_0, hcz31_1, hfz31_0, hfz31_1⟩ := cz2_ BK1003.out
     go_wp2
     go_ret
     exact ⟨z8_, z1_ HB.out GE1003.out⟩
 ·rw [if_neg c4] at H
  exact absurd H (by simp)


/-! ### spec_SetBytes: function 135 -/
def spec_SetBytes.f (k : Nat) (l0_0 : List (S33)) (l0_1 : List (S158)) : Option (ByteArray) := (spec_SetRight.f k l0_0 l0_1).bind fun t1013 => (if t1013 = true then ((spec_l03Bytes.f k l0_0 l0_1).bind fun t1014 => (some t1014)) else (some (⟨#[]⟩ : ByteArray)))
theorem spec_SetBytes.mono : ∀ a0 a1 k, LeO (spec_SetBytes.f k a0 a1) (spec_SetBytes.f (k + 1) a0 a1) := by
 intro a0 a1 k
 unfold spec_SetBytes.f
 repeat' first
   | (with_reducible exact spec_SetRight.mono _ _ _)
   | (with_reducible exact spec_l03Bytes.mono _ _ _)
   | (with_reducible exact LeO.refl _)
   | (with_reducible exact LeO.none _)
   | (with_reducible refine LeO.ite ?_ ?_)
   | (with_reducible refine LeO.bind ?_ (fun _ => ?_))
   | exact spec_SetRight.mono _ _ _
   | exact spec_l03Bytes.mono _ _ _
   | exact LeO.none _
   | refine LeO.ite ?_ ?_
   | refine LeO.bind ?_ (fun _ => ?_)
set_option maxHeartbeats 8000000 in
set_option maxRecDepth 100000 in
theorem spec_SetBytes.calls (k : Nat) (A0_0 : Option Addr) (c0_0 : Nat) (l0_0 : List (S33)) (A0_1 : Option Addr) (c0_1 : Nat) (l0_1 : List (S158)) (r : ByteArray) (w : World) (hr0_0 : Kd.C k33 w A0_0 l0_0.length l0_0) (hc0_0 : l0_0.length ≤ c0_0) (hr0_1 : Kd.C k158 w A0_1 l0_1.length l0_1) (hc0_1 : l0_1.length ≤ c0_1) (h : spec_SetBytes.f k l0_0 l0_1 = some r) :
  Calls Try.prog 135 #[.agg #[.slice A0_0 l0_0.length c0_0, .slice A0_1 l0_1.length c0_1]] w fun e w' => e = .returned (.string r) ∧ Below w.heap.size w w' := by
 have hu60 := Try.underlying60
 have HR0_0 := Aside0.mk hr0_0
 have HC0_0 := Aside0.mk hc0_0
 clear hr0_0 hc0_0
 have HR0_1 := Aside0.mk hr0_1
 have HC0_1 := Aside0.mk hc0_1
 clear hr0_1 hc0_1
 have HB := Aside0.mk (Below.refl w.heap.size w)
 have H : ((spec_SetRight.f k l0_0 l0_1).bind fun t1013 => (if t1013 = true then ((spec_l03Bytes.f k l0_0 l0_1).bind fun t1014 => (some t1014)) else (some (⟨#[]⟩ : ByteArray)))) = some r := h
 clear h
 replace H := Option.bind_eq_some_iff.mp H
 obtain ⟨t1013, A20, H⟩ := H
 replace H : (if t1013 = true then ((spec_l03Bytes.f k l0_0 l0_1).bind fun t1014 => (some t1014)) else (some (⟨#[]⟩ : ByteArray))) = some r := H
 have A2 := Aside0.mk A20
 clear A20
 by_cases c3 : t1013 = true
 ·subst c3
  have H1 : ((spec_l03Bytes.f k l0_0 l0_1).bind fun t1014 => (some t1014)) = some r := by rw [if_pos rfl] at H; exact H
  clear H
  have H := H1
  clear H1
  replace H := Option.bind_eq_some_iff.mp H
  obtain ⟨t1014, A40, H⟩ := H
  replace H : (some t1014) = some r := H
  have A4 := Aside0.mk A40
  clear A40
  obtain rfl := Option.some.inj H
  go_enter Try.func135, Try.ntmps135
  go_wp2_with (first | ((with_reducible refine gate_dst (N := 1) rfl ?_); refine box_event ?hg (N := 1) ?hd (cs := #[.slice A0_0 l0_0.length c0_0, .slice A0_1 l0_1.length c0_1]) (t := 60) ?hr ?_; (case hd => rfl); (case hg => rfl); (case hr => first | (go_simp; done) | (go_simp; rfl)); intro gb1012 hg w5 hbox hb; have n_ := as4_ (below_step (z5_ HB.out) hb) (hbox) ((z7_ HB.out : w.heap.size ≤ gb1012)) ((z7_ HB.out : w.heap.size ≤ gb1012)); clear HB; have ⟨HB, BK1012, GW1012, GE1012⟩ := n_; clear n_; clear hb hbox hg; have hcz6_0 : w5.cell? ⟨gb1012, 0, none⟩ = some (.slice A0_0 l0_0.length c0_0) := (blk_cell BK1012.out 0).trans rfl; have hcz6_1 : w5.cell? ⟨gb1012, 1, none⟩ = some (.slice A0_1 l0_1.length c0_1) := (blk_cell BK1012.out 1).trans rfl; have hfz6_0 := blk_frozen BK1012.out 0; have hfz6_1 := blk_frozen BK1012.out 1) | ((with_reducible refine gate_callee (f := 106) rfl ?_); refine goesL_ (some 4) rfl rfl Try.func106 (by kernel_rfl) rfl #[.agg #[.slice A0_0 l0_0.length c0_0, .slice A0_1 l0_1.length c0_1]] rfl (z0_) ?_; (with_reducible refine (spec_SetRight.calls k _ _ l0_0 _ _ l0_1 true _ ?side1 ?side2 ?side3 ?side4 A2.out).mono ?_); (case side1 => exact z12_ HR0_0.out HB.out); (case side2 => exact HC0_0.out); (case side3 => exact z12_ HR0_1.out HB.out); (case side4 => exact HC0_1.out); rintro e w7 ⟨rfl, hb⟩; refine ⟨_, rfl, ?_⟩; have n_ := as2_ (blkB_ BK1012.out hb) (below_step (z1_ HB.out GE1012.out) hb); clear BK1012 HB; have ⟨BK1012, HB⟩ := n_; clear n_; (try clear hb); (try clear hb2); (try clear hk); (try clear hi); have hcz8_0 : w7.cell? ⟨gb1012, 0, none⟩ = some (.slice A0_0 l0_0.length c0_0) := (blk_cell BK1012.out 0).trans rfl; have hcz8_1 : w7.cell? ⟨gb1012, 1, none⟩ = some (.slice A0_1 l0_1.length c0_1) := (blk_cell BK1012.out 1).trans rfl; have hfz8_0 := blk_frozen BK1012.out 0; have hfz8_1 := blk_frozen BK1012.out 1) | ((with_reducible refine gate_callee (f := 182) rfl ?_); refine goesL_ (some 7) rfl rfl Try.func182 (by kernel_rfl) rfl #[.agg #[.slice A0_0 l0_0.length c0_0, .slice A0_1 l0_1.length c0_1]] rfl (z0_) ?_; (with_reducible refine (spec_l03Bytes.calls k _ _ l0_0 _ _ l0_1 t1014 _ ?side1 ?side2 ?side3 ?side4 A4.out).mono ?_); (case side1 => exact z12_ HR0_0.out HB.out); (case side2 => exact HC0_0.out); (case side3 => exact z12_ HR0_1.out HB.out); (case side4 => exact HC0_1.out); rintro e w9 ⟨rfl, hb⟩; refine ⟨_, rfl, ?_⟩; have n_ := as2_ (blkB_ BK1012.out hb) (below_step (z1_ HB.out GE1012.out) hb); clear BK1012 HB; have ⟨BK1012, HB⟩ := n_; clear n_; (try clear hb); (try clear hb2); (try clear hk); (try clear hi)))
  go_ret
  exact ⟨z8_, z1_ HB.out GE1012.out⟩
 ·replace c3 := Bool.eq_false_iff.mpr c3
  subst c3
  have H1 : (some (⟨#[]⟩ : ByteArray)) = some r := by rw [if_neg (show ¬ (false = true) by decide)] at H; exact H
  clear H
  have H := H1
  clear H1
  obtain rfl := Option.some.inj H
  go_enter Try.func135, Try.ntmps135
  go_wp2_with (first | ((with_reducible refine gate_dst (N := 1) rfl ?_); refine box_event ?hg (N := 1) ?hd (cs := #[.slice A0_0 l0_0.length c0_0, .slice A0_1 l0_1.length c0_1]) (t := 60) ?hr ?_; (case hd => rfl); (case hg => rfl); (case hr => first | (go_simp; done) | (go_simp; rfl)); intro gb1012 hg w10 hbox hb; have n_ := as4_ (below_step (z5_ HB.out) hb) (hbox) ((z7_ HB.out : w.heap.size ≤ gb1012)) ((z7_ HB.out : w.heap.size ≤ gb1012)); clear HB; have ⟨HB, BK1012, GW1012, GE1012⟩ := n_; clear n_; clear hb hbox hg; have hcz11_0 : w10.cell? ⟨gb1012, 0, none⟩ = some (.slice A0_0 l0_0.length c0_0) := (blk_cell BK1012.out 0).trans rfl; have hcz11_1 : w10.cell? ⟨gb1012, 1, none⟩ = some (.slice A0_1 l0_1.length c0_1) := (blk_cell BK1012.out 1).trans rfl; have hfz11_0 := blk_frozen BK1012.out 0; have hfz11_1 := blk_frozen BK1012.out 1) | ((with_reducible refine gate_callee (f := 106) rfl ?_); refine goesL_ (some 4) rfl rfl Try.func106 (by kernel_rfl) rfl #[.agg #[.slice A0_0 l0_0.length c0_0, .slice A0_1 l0_1.length c0_1]] rfl (z0_) ?_; (with_reducible refine (spec_SetRight.calls k _ _ l0_0 _ _ l0_1 false _ ?side1 ?side2 ?side3 ?side4 A2.out).mono ?_); (case side1 => exact z12_ HR0_0.out HB.out); (case side2 => exact HC0_0.out); (case side3 => exact z12_ HR0_1.out HB.out); (case side4 => exact HC0_1.out); rintro e w12 ⟨rfl, hb⟩; refine ⟨_, rfl, ?_⟩; have n_ := as2_ (blkB_ BK1012.out hb) (below_step (z1_ HB.out GE1012.out) hb); clear BK1012 HB; have ⟨BK1012, HB⟩ := n_; clear n_; (try clear hb); (try clear hb2); (try clear hk); (try clear hi)))
  go_ret
  exact ⟨z8_, z1_ HB.out GE1012.out⟩


/-! ### spec_SetRead: function 63 -/
mutual
def spec_SetRead.l0 : Nat → ByteArray → Int → ByteArray → Int → Bool → List (S33) → List (S158) → Option ((List (S33)) × (List (S158)) × Int × Int × Int)
 | 0, _, _, _, _, _, _, _ => none
 | k + 1, x0, x5, x1026000, x1026001, x1026002, x1033000, x1033001 => if x5 > 0 then (spec_SetRead.j1 k x0 x5 (!x1026002) x1026000 x1026001 x1026002 x1033000 x1033001) else (spec_SetRead.j1 k x0 x5 false x1026000 x1026001 x1026002 x1033000 x1033001)
def spec_SetRead.j1 : Nat → ByteArray → Int → Bool → ByteArray → Int → Bool → List (S33) → List (S158) → Option ((List (S33)) × (List (S158)) × Int × Int × Int)
 | 0, _, _, _, _, _, _, _, _ => none
 | k + 1, x0, x5, x27, x1026000, x1026001, x1026002, x1033000, x1033001 => if x27 = true then ((spec_l02Reader_num.f k x1026000 x1026001 x1026002).bind fun bt1037 => ((spec_l02Reader_num.f k bt1037.2.1 bt1037.2.2.1 bt1037.2.2.2).bind fun bt1042 => ((spec_l02Reader_num.f k bt1042.2.1 bt1042.2.2.1 bt1042.2.2.2).bind fun bt1046 => ((spec_l02Reader_text.f k bt1046.2.1 bt1046.2.2.1 bt1046.2.2.2).bind fun bt1050 => (if x1033001.length < 3518437208883 then (spec_SetRead.l0 k x0 (wrap64 (x5 - 1)) bt1050.2.1 bt1050.2.2.1 bt1050.2.2.2 x1033000 (x1033001 ++ [(⟨(⟨bt1037.1, bt1042.1⟩ : S33), (bt1046.1 == 1), bt1050.1⟩ : S158)])) else (none)))))) else (if x1026002 = true then (spec_SetRead.j2 k true x1033000 x1033001) else (if x0.toList = ([] : List UInt8) then (spec_SetRead.j2 k true x1033000 x1033001) else ((spec_SetBytes.f k x1033000 x1033001).bind fun t1057 => (spec_SetRead.j2 k (t1057.toList != x0.toList) x1033000 x1033001))))
def spec_SetRead.j2 : Nat → Bool → List (S33) → List (S158) → Option ((List (S33)) × (List (S158)) × Int × Int × Int)
 | 0, _, _, _ => none
 | k + 1, x64, x1033000, x1033001 => if x64 = true then ((spec_l03Ill.f 3).bind fun bt1058 => (some (bt1058.1, bt1058.2.1, bt1058.2.2.1, bt1058.2.2.2.1, bt1058.2.2.2.2))) else (some (x1033000, x1033001, 0, 0, 0))
end
def spec_SetRead.f (k : Nat) (a0 : ByteArray) : Option ((List (S33)) × (List (S158)) × Int × Int × Int) := if (a0.size : Int) > 8000 then ((spec_l03Ill.f 2).bind fun bt1016 => (some (bt1016.1, bt1016.2.1, bt1016.2.2.1, bt1016.2.2.2.1, bt1016.2.2.2.2))) else ((spec_l02Reader_seen.f k a0 0 false).bind fun bt1026 => ((spec_l02Reader_many.f k bt1026.2.1 bt1026.2.2.1 bt1026.2.2.2 8).bind fun bt1033 => (spec_SetRead.l0 k a0 bt1033.1 bt1033.2.1 bt1033.2.2.1 bt1033.2.2.2 bt1026.1 ([] : List (S158)))))
theorem spec_SetRead.mono_l : ∀ k, (∀ y0 y1 y2 y3 y4 y5 y6, LeO (spec_SetRead.l0 k y0 y1 y2 y3 y4 y5 y6) (spec_SetRead.l0 (k + 1) y0 y1 y2 y3 y4 y5 y6)) ∧ (∀ y0 y1 y2 y3 y4 y5 y6 y7, LeO (spec_SetRead.j1 k y0 y1 y2 y3 y4 y5 y6 y7) (spec_SetRead.j1 (k + 1) y0 y1 y2 y3 y4 y5 y6 y7)) ∧ (∀ y0 y1 y2, LeO (spec_SetRead.j2 k y0 y1 y2) (spec_SetRead.j2 (k + 1) y0 y1 y2))
 | 0 => ⟨fun _ _ _ _ _ _ _ r h => by simp [spec_SetRead.l0] at h, fun _ _ _ _ _ _ _ _ r h => by simp [spec_SetRead.j1] at h, fun _ _ _ r h => by simp [spec_SetRead.j2] at h⟩
 | k + 1 => by
  obtain ⟨ih0, ih1, ih2⟩ := spec_SetRead.mono_l k
  refine ⟨?_, ?_, ?_⟩
  ·intro y0 y1 y2 y3 y4 y5 y6
   unfold spec_SetRead.l0
   repeat' first
   | (with_reducible exact ih0 _ _ _ _ _ _ _)
   | (with_reducible exact ih1 _ _ _ _ _ _ _ _)
   | (with_reducible exact ih2 _ _ _)
   | (with_reducible exact spec_SetBytes.mono _ _ _)
   | (with_reducible exact spec_l02Reader_many.mono _ _ _ _ _)
   | (with_reducible exact spec_l02Reader_num.mono _ _ _ _)
   | (with_reducible exact spec_l02Reader_seen.mono _ _ _ _)
   | (with_reducible exact spec_l02Reader_text.mono _ _ _ _)
   | (with_reducible exact LeO.refl _)
   | (with_reducible exact LeO.none _)
   | (with_reducible refine LeO.ite ?_ ?_)
   | (with_reducible refine LeO.bind ?_ (fun _ => ?_))
   | exact ih0 _ _ _ _ _ _ _
   | exact ih1 _ _ _ _ _ _ _ _
   | exact ih2 _ _ _
   | exact spec_SetBytes.mono _ _ _
   | exact spec_l02Reader_many.mono _ _ _ _ _
   | exact spec_l02Reader_num.mono _ _ _ _
   | exact spec_l02Reader_seen.mono _ _ _ _
   | exact spec_l02Reader_text.mono _ _ _ _
   | exact LeO.none _
   | refine LeO.ite ?_ ?_
   | refine LeO.bind ?_ (fun _ => ?_)
  ·intro y0 y1 y2 y3 y4 y5 y6 y7
   unfold spec_SetRead.j1
   repeat' first
   | (with_reducible exact ih0 _ _ _ _ _ _ _)
   | (with_reducible exact ih1 _ _ _ _ _ _ _ _)
   | (with_reducible exact ih2 _ _ _)
   | (with_reducible exact spec_SetBytes.mono _ _ _)
   | (with_reducible exact spec_l02Reader_many.mono _ _ _ _ _)
   | (with_reducible exact spec_l02Reader_num.mono _ _ _ _)
   | (with_reducible exact spec_l02Reader_seen.mono _ _ _ _)
   | (with_reducible exact spec_l02Reader_text.mono _ _ _ _)
   | (with_reducible exact LeO.refl _)
   | (with_reducible exact LeO.none _)
   | (with_reducible refine LeO.ite ?_ ?_)
   | (with_reducible refine LeO.bind ?_ (fun _ => ?_))
   | exact ih0 _ _ _ _ _ _ _
   | exact ih1 _ _ _ _ _ _ _ _
   | exact ih2 _ _ _
   | exact spec_SetBytes.mono _ _ _
   | exact spec_l02Reader_many.mono _ _ _ _ _
   | exact spec_l02Reader_num.mono _ _ _ _
   | exact spec_l02Reader_seen.mono _ _ _ _
   | exact spec_l02Reader_text.mono _ _ _ _
   | exact LeO.none _
   | refine LeO.ite ?_ ?_
   | refine LeO.bind ?_ (fun _ => ?_)
  ·intro y0 y1 y2
   unfold spec_SetRead.j2
   repeat' first
   | (with_reducible exact ih0 _ _ _ _ _ _ _)
   | (with_reducible exact ih1 _ _ _ _ _ _ _ _)
   | (with_reducible exact ih2 _ _ _)
   | (with_reducible exact spec_SetBytes.mono _ _ _)
   | (with_reducible exact spec_l02Reader_many.mono _ _ _ _ _)
   | (with_reducible exact spec_l02Reader_num.mono _ _ _ _)
   | (with_reducible exact spec_l02Reader_seen.mono _ _ _ _)
   | (with_reducible exact spec_l02Reader_text.mono _ _ _ _)
   | (with_reducible exact LeO.refl _)
   | (with_reducible exact LeO.none _)
   | (with_reducible refine LeO.ite ?_ ?_)
   | (with_reducible refine LeO.bind ?_ (fun _ => ?_))
   | exact ih0 _ _ _ _ _ _ _
   | exact ih1 _ _ _ _ _ _ _ _
   | exact ih2 _ _ _
   | exact spec_SetBytes.mono _ _ _
   | exact spec_l02Reader_many.mono _ _ _ _ _
   | exact spec_l02Reader_num.mono _ _ _ _
   | exact spec_l02Reader_seen.mono _ _ _ _
   | exact spec_l02Reader_text.mono _ _ _ _
   | exact LeO.none _
   | refine LeO.ite ?_ ?_
   | refine LeO.bind ?_ (fun _ => ?_)
theorem spec_SetRead.mono : ∀ a0 k, LeO (spec_SetRead.f k a0) (spec_SetRead.f (k + 1) a0) := by
 intro a0 k
 obtain ⟨ih0, ih1, ih2⟩ := spec_SetRead.mono_l k
 unfold spec_SetRead.f
 repeat' first
   | (with_reducible exact ih0 _ _ _ _ _ _ _)
   | (with_reducible exact ih1 _ _ _ _ _ _ _ _)
   | (with_reducible exact ih2 _ _ _)
   | (with_reducible exact spec_SetBytes.mono _ _ _)
   | (with_reducible exact spec_l02Reader_many.mono _ _ _ _ _)
   | (with_reducible exact spec_l02Reader_num.mono _ _ _ _)
   | (with_reducible exact spec_l02Reader_seen.mono _ _ _ _)
   | (with_reducible exact spec_l02Reader_text.mono _ _ _ _)
   | (with_reducible exact LeO.refl _)
   | (with_reducible exact LeO.none _)
   | (with_reducible refine LeO.ite ?_ ?_)
   | (with_reducible refine LeO.bind ?_ (fun _ => ?_))
   | exact ih0 _ _ _ _ _ _ _
   | exact ih1 _ _ _ _ _ _ _ _
   | exact ih2 _ _ _
   | exact spec_SetBytes.mono _ _ _
   | exact spec_l02Reader_many.mono _ _ _ _ _
   | exact spec_l02Reader_num.mono _ _ _ _
   | exact spec_l02Reader_seen.mono _ _ _ _
   | exact spec_l02Reader_text.mono _ _ _ _
   | exact LeO.none _
   | refine LeO.ite ?_ ?_
   | refine LeO.bind ?_ (fun _ => ?_)
set_option maxHeartbeats 8000000 in
set_option maxRecDepth 100000 in
theorem spec_SetRead.calls (k : Nat) (a0 : ByteArray) (r1 : List (S33)) (r2 : List (S158)) (r3 : Int) (r4 : Int) (r5 : Int) (w : World) (h : spec_SetRead.f k a0 = some (r1, r2, r3, r4, r5)) :
  Calls Try.prog 63 #[.string a0] w fun e w' => ∃ v0_ v1_ : Value, e = .returned (.agg #[v0_, v1_, .int .i64 r3, .int .i64 r4, .int .i64 r5]) ∧ Kd.R k33 33 w' w.heap.size (fun _ => True) v0_ r1 ∧ Kd.R k158 158 w' w.heap.size (fun _ => True) v1_ r2 ∧ Below w.heap.size w w' := by
 have hu87 := Try.underlying87
 have hu130 := Try.underlying130
 have hu60 := Try.underlying60
 have hu33 := Try.underlying33
 have hu158 := Try.underlying158
 have HB := Aside0.mk (Below.refl w.heap.size w)
 have H : (if (a0.size : Int) > 8000 then ((spec_l03Ill.f 2).bind fun bt1016 => (some (bt1016.1, bt1016.2.1, bt1016.2.2.1, bt1016.2.2.2.1, bt1016.2.2.2.2))) else ((spec_l02Reader_seen.f k a0 0 false).bind fun bt1026 => ((spec_l02Reader_many.f k bt1026.2.1 bt1026.2.2.1 bt1026.2.2.2 8).bind fun bt1033 => (spec_SetRead.l0 k a0 bt1033.1 bt1033.2.1 bt1033.2.2.1 bt1033.2.2.2 bt1026.1 ([] : List (S158)))))) = some (r1, r2, r3, r4, r5) := h
 clear h
 by_cases c2 : (a0.size : Int) > 8000
 ·rw [if_pos c2] at H
  have c2b0 : decide (8000 < (a0.size : Int)) = true := decide_eq_true c2
  have c2b1 : decide (8000 < a0.size) = true := decide_eq_true (by omega)
  clear c2
  replace H := Option.bind_eq_some_iff.mp H
  obtain ⟨⟨t1016, t1019, t1022, t1023, t1024⟩, A30, H⟩ := H
  replace H : (some (t1016, t1019, t1022, t1023, t1024)) = some (r1, r2, r3, r4, r5) := H
  have A3 := Aside0.mk A30
  clear A30
  simp only [Option.some.injEq, Prod.mk.injEq] at H
  obtain ⟨rfl, rfl, rfl, rfl, rfl⟩ := H
  go_enter Try.func63, Try.ntmps63
  go_wp2_with (first | ((with_reducible refine gate_dst (N := 2) rfl ?_); refine box_event ?hg (N := 2) ?hd (cs := #[.slice none 0 0, .slice none 0 0, .int .i64 0, .int .i64 0, .int .i64 0]) (t := 87) ?hr ?_; (case hd => rfl); (case hg => rfl); (case hr => first | (go_simp; done) | (go_simp; rfl)); intro gb1015 hg w4 hbox hb; have n_ := as4_ (below_step (z5_ HB.out) hb) (hbox) ((z7_ HB.out : w.heap.size ≤ gb1015)) ((z7_ HB.out : w.heap.size ≤ gb1015)); clear HB; have ⟨HB, BK1015, GW1015, GE1015⟩ := n_; clear n_; clear hb hbox hg) | ((with_reducible refine gate_callee (f := 131) rfl ?_); refine goesL_ (some 10) rfl rfl Try.func131 (by kernel_rfl) rfl #[.int .i64 2] rfl (z0_) ?_; (with_reducible refine (spec_l03Ill.calls 2 t1016 t1019 t1022 t1023 t1024 _ A3.out).mono ?_); rintro e w5 ⟨v1017, v1020, rfl, ho0, ho1, hb⟩; refine ⟨_, rfl, ?_⟩; have n_ := as4_ (Kd.R_lower ho0 (below_size (z1_ HB.out GE1015.out))) (Kd.R_lower ho1 (below_size (z1_ HB.out GE1015.out))) (blkB_ BK1015.out hb) (below_step (z1_ HB.out GE1015.out) hb); clear BK1015 HB; have ⟨HO1018, HO1021, BK1015, HB⟩ := n_; clear n_; (try clear hb); (try clear hb2); (try clear hk); (try clear hi); (try clear ho0); (try clear ho1); obtain ⟨Ao6, co6, eo6⟩ := Kd.R_slice HO1018.out; subst eo6; have ⟨hcz7_0, hcz7_1, hcz7_2, hcz7_3, hcz7_4, hfz7_0, hfz7_1, hfz7_2, hfz7_3, hfz7_4⟩ := cz5_ BK1015.out; obtain ⟨Ao8, co8, eo8⟩ := Kd.R_slice HO1021.out; subst eo8))
  refine bodyPost_ret (results_cell_row rfl _ _ gb1015 87 #[.slice Ao6 t1016.length co6, .slice Ao8 t1019.length co8, .int .i64 t1022, .int .i64 t1023, .int .i64 t1024] (0, 0) _ rfl (z39_ BK1015.out) Try.underlying87 rfl (by kernel_rfl)) rfl ?_
  exact ⟨_, _, z8_, z45_ HO1018.out BK1015.out, z45_ HO1021.out BK1015.out, z1_ HB.out GE1015.out⟩
 ·rw [if_neg c2] at H
  have c2b0 : decide (8000 < (a0.size : Int)) = false := decide_eq_false c2
  have c2b1 : decide (8000 < a0.size) = false := decide_eq_false (by omega)
  clear c2
  replace H := Option.bind_eq_some_iff.mp H
  obtain ⟨⟨t1026, t1029, t1030, t1031⟩, A90, H⟩ := H
  replace H : ((spec_l02Reader_many.f k t1029 t1030 t1031 8).bind fun bt1033 => (spec_SetRead.l0 k a0 bt1033.1 bt1033.2.1 bt1033.2.2.1 bt1033.2.2.2 t1026 ([] : List (S158)))) = some (r1, r2, r3, r4, r5) := H
  have A9 := Aside0.mk A90
  clear A90
  replace H := Option.bind_eq_some_iff.mp H
  obtain ⟨⟨t1033, t1034, t1035, t1036⟩, A100, H⟩ := H
  replace H : (spec_SetRead.l0 k a0 t1033 t1034 t1035 t1036 t1026 ([] : List (S158))) = some (r1, r2, r3, r4, r5) := H
  have A10 := Aside0.mk A100
  clear A100
  have H' := Aside0.mk H
  clear H
  go_enter Try.func63, Try.ntmps63
  go_wp2_with (first | ((with_reducible refine gate_dst (N := 2) rfl ?_); refine box_event ?hg (N := 2) ?hd (cs := #[.slice none 0 0, .slice none 0 0, .int .i64 0, .int .i64 0, .int .i64 0]) (t := 87) ?hr ?_; (case hd => rfl); (case hg => rfl); (case hr => first | (go_simp; done) | (go_simp; rfl)); intro gb1015 hg w11 hbox hb; have n_ := as4_ (below_step (z5_ HB.out) hb) (hbox) ((z7_ HB.out : w.heap.size ≤ gb1015)) ((z7_ HB.out : w.heap.size ≤ gb1015)); clear HB; have ⟨HB, BK1015, GW1015, GE1015⟩ := n_; clear n_; clear hb hbox hg) | ((with_reducible refine gate_dst (N := 13) rfl ?_); refine box_event ?hg (N := 13) ?hd (cs := #[.string a0, .int .i64 0, .bool false]) (t := 130) ?hr ?_; (case hd => rfl); (case hg => rfl); (case hr => first | (go_simp; done) | (go_simp; rfl)); intro gb1025 hg w12 hbox hb; have n_ := as7_ (blkB_ BK1015.out hb) (below_step (z1_ HB.out GE1015.out) hb) ((show IsS130 w w12 gb1025 a0 0 false from ⟨hbox, (z10_ HB.out GE1015.out : w.heap.size ≤ gb1025)⟩)) ((z10_ HB.out GE1015.out : w.heap.size ≤ gb1025)) ((z10_ HB.out GE1015.out : w.heap.size ≤ gb1025)) (neL_ BK1015.out hg) (neG_ BK1015.out hg); clear BK1015 HB; have ⟨BK1015, HB, HI1025, GW1025, GE1025, NB1015_1025, NB1025_1015⟩ := n_; clear n_; clear hb hbox hg) | ((with_reducible refine gate_callee (f := 103) rfl ?_); refine goesL_ (some 15) rfl rfl Try.func103 (by kernel_rfl) rfl #[.pointer (some ⟨gb1025, 0, none⟩)] rfl (z0_) ?_; (with_reducible refine (spec_l02Reader_seen.calls k gb1025 a0 0 false t1026 t1029 t1030 t1031 w _ ?side1 ?side2 A9.out).mono ?_); (case side1 => exact z25_ HI1025.out NB1025_1015.out); (case side2 => exact z20_ HB.out HI1025.out GE1015.out); rintro e w13 ⟨v1027, rfl, ho0, hi, hb, hk⟩; refine ⟨_, rfl, ?_⟩; have n_ := as4_ (KeepBut.blk hk (g' := gb1015) (o := .cells #[.slice none 0 0, .slice none 0 0, .int .i64 0, .int .i64 0, .int .i64 0] 87 (0, 0)) (z9_ BK1015.out) NB1015_1025.out (by simp)) (Kd.R_lower ho0 (below_size (z20_ HB.out HI1025.out GE1015.out))) (hb) (hi); clear BK1015 HB HI1025; have ⟨BK1015, HO1028, HB, HI1025⟩ := n_; clear n_; (try clear hb); (try clear hb2); (try clear hk); (try clear hi); (try clear ho0); obtain ⟨Ao14, co14, eo14⟩ := Kd.R_slice HO1028.out; subst eo14) | ((with_reducible refine gate_dst (N := 4) rfl ?_); refine box_event ?hg (N := 4) ?hd (cs := #[.slice none 0 0, .slice none 0 0]) (t := 60) ?hr ?_; (case hd => rfl); (case hg => rfl); (case hr => first | (go_simp; done) | (go_simp; rfl)); intro gb1032 hg w15 hbox hb; have n_ := as11_ (Kd.R_below (z4_ HO1028.out) hb) (blkB_ BK1015.out hb) (IsS130.below (z25_ HI1025.out NB1025_1015.out) hb) (below_step (z20_ HB.out HI1025.out GE1015.out) hb) (hbox) ((by rw [hg]; exact (below_size (by repeat (first | (with_reducible first | exact HB.out | apply below_alloc | apply pw_below_drewN | apply below_drew1 | refine below_set ?_ (IsS130.ge HI1025.out) | refine below_set ?_ GE1015.out) | exact HB.out))) : w.heap.size ≤ gb1032)) ((by rw [hg]; exact (below_size (by repeat (first | (with_reducible first | exact HB.out | apply below_alloc | apply pw_below_drewN | apply below_drew1 | refine below_set ?_ (IsS130.ge HI1025.out) | refine below_set ?_ GE1015.out) | exact HB.out))) : w.heap.size ≤ gb1032)) (neL_ BK1015.out hg) (neG_ BK1015.out hg) ((by rw [hg]; exact Nat.ne_of_lt (IsS130.lt (show IsS130 w _ gb1025 t1029 t1030 t1031 from by repeat (first | (with_reducible first | exact HI1025.out | apply IsS130.alloc | apply IsS130.drewN | apply IsS130.drew | apply IsS130.set_0 | apply IsS130.set_1 | apply IsS130.set_2 | refine IsS130.far ?_ (by exact NB1025_1015.out) _) | exact HI1025.out))) : gb1025 ≠ gb1032)) ((by rw [hg]; exact Nat.ne_of_gt (IsS130.lt (show IsS130 w _ gb1025 t1029 t1030 t1031 from by repeat (first | (with_reducible first | exact HI1025.out | apply IsS130.alloc | apply IsS130.drewN | apply IsS130.drew | apply IsS130.set_0 | apply IsS130.set_1 | apply IsS130.set_2 | refine IsS130.far ?_ (by exact NB1025_1015.out) _) | exact HI1025.out))) : gb1032 ≠ gb1025)); clear HO1028 BK1015 HI1025 HB; have ⟨HO1028, BK1015, HI1025, HB, BK1032, GW1032, GE1032, NB1015_1032, NB1032_1015, NB1025_1032, NB1032_1025⟩ := n_; clear n_; clear hb hbox hg; have hnb16 := NB1032_1015.out; have hnc16 := NB1015_1032.out; have hnb17 := NB1032_1025.out; have hnc17 := NB1025_1032.out; have hcz18_0 : w15.cell? ⟨gb1032, 0, none⟩ = some (.slice none 0 0) := (blk_cell BK1032.out 0).trans rfl; have hcz18_1 : w15.cell? ⟨gb1032, 1, none⟩ = some (.slice none 0 0) := (blk_cell BK1032.out 1).trans rfl; have hfz18_0 := blk_frozen BK1032.out 0; have hfz18_1 := blk_frozen BK1032.out 1) | ((with_reducible refine gate_callee (f := 132) rfl ?_); refine goesL_ (some 18) rfl rfl Try.func132 (by kernel_rfl) rfl #[.pointer (some ⟨gb1025, 0, none⟩), .int .i64 8] rfl (z0_) ?_; (with_reducible refine (spec_l02Reader_many.calls k gb1025 t1029 t1030 t1031 8 t1033 t1034 t1035 t1036 w _ ?side1 ?side2 A10.out).mono ?_); (case side1 => exact z48_ HI1025.out NB1025_1015.out NB1025_1032.out); (case side2 => exact z40_ HB.out HI1025.out GE1015.out GE1032.out); rintro e w19 ⟨rfl, hi, hb, hk⟩; refine ⟨_, rfl, ?_⟩; have n_ := as5_ (KeepBut.blk hk (g' := gb1015) (o := .cells #[.slice none 0 0, .slice none 0 0, .int .i64 0, .int .i64 0, .int .i64 0] 87 (0, 0)) (z56_ NB1015_1032.out BK1015.out) NB1015_1025.out (by simp)) (Kd.R_mono (Kd.R_keep (IsS130.apart (show IsS130 w _ gb1025 t1029 t1030 t1031 from by repeat (first | (with_reducible first | exact HI1025.out | apply IsS130.alloc | apply IsS130.drewN | apply IsS130.drew | apply IsS130.set_0 | apply IsS130.set_1 | apply IsS130.set_2 | refine IsS130.far ?_ (by exact NB1025_1015.out) _ | refine IsS130.far ?_ (by exact NB1025_1032.out) _) | exact HI1025.out)) (z46_ HO1028.out BK1032.out) (by decide)) hk (fun _ h => h.2)) (fun _ h => h.1)) (KeepBut.blk hk (g' := gb1032) (o := .cells #[.slice Ao14 t1026.length co14, .slice none 0 0] 60 (0, 0)) (z42_ BK1032.out) NB1032_1025.out (by simp)) (hb) (hi); clear BK1015 HO1028 BK1032 HB HI1025; have ⟨BK1015, HO1028, BK1032, HB, HI1025⟩ := n_; clear n_; (try clear hb); (try clear hb2); (try clear hk); (try clear hi)))
  go_loopg [5] k (fun kq v5 w' => ∃ (x5_1 : Int) (x1026000_1 : ByteArray) (x1026001_1 : Int) (x1026002_1 : Bool) (x1033001_1 : List (S158)) (u1033001 : Value), v5 = .int .i64 x5_1 ∧ Aside0 (spec_SetRead.l0 kq a0 x5_1 x1026000_1 x1026001_1 x1026002_1 t1026 x1033001_1 = some (r1, r2, r3, r4, r5)) ∧ Aside0 (kq ≤ k) ∧ Aside0 (Kd.R k33 33 w' w.heap.size (fun _ => True) (.slice Ao14 t1026.length co14) t1026) ∧ Aside0 (Kd.R k158 158 w' w.heap.size (fun _ => True) u1033001 x1033001_1) ∧ Aside0 (w'.heap[gb1015]? = some (.cells #[(.slice none 0 0), (.slice none 0 0), .int .i64 0, .int .i64 0, .int .i64 0] 87 (0, 0))) ∧ Aside0 (w'.heap[gb1032]? = some (.cells #[(.slice Ao14 t1026.length co14), u1033001] 60 (0, 0))) ∧ Aside0 (IsS130 w w' gb1025 x1026000_1 x1026001_1 x1026002_1) ∧ Aside0 (Below w.heap.size w w'))
  case atStart => exact ⟨(t1033), (t1034), (t1035), (t1036), (([] : List (S158))), (.slice none 0 0), (z2_), H', ⟨Nat.le_refl _⟩, ⟨z4_ HO1028.out⟩, ⟨z43_⟩, ⟨z9_ BK1015.out⟩, ⟨z9_ BK1032.out⟩, ⟨z48_ HI1025.out NB1025_1015.out NB1025_1032.out⟩, ⟨z40_ HB.out HI1025.out GE1015.out GE1032.out⟩⟩
  case round =>
   clear H'
   try clear c1
   try clear c2
   try clear c2b0
   try clear c2b1
   try clear p2
   try clear c6
   try clear c10
   try clear c13
   try clear c16
   try clear c17
   try clear hcz18_0
   try clear hcz18_1
   try clear hcz7_0
   try clear hcz7_1
   try clear hcz7_2
   try clear hcz7_3
   try clear hcz7_4
   try clear hfz18_0
   try clear hfz18_1
   try clear hfz7_0
   try clear hfz7_1
   try clear hfz7_2
   try clear hfz7_3
   try clear hfz7_4
   obtain ⟨x5_1, x1026000_1, x1026001_1, x1026002_1, x1033001_1, u1033001, rfl, HA, HK1, HO_1033000, HO_1033001, BK1015, BK1032, HI1025, HB⟩ := hrel
   cases gk with
   | zero => exact absurd HA.out (by simp [spec_SetRead.l0])
   | succ k1 =>
    have H := HA.out
    clear HA
    simp only [spec_SetRead.l0] at H
    have HC20 := Aside0.mk H
    clear H
    go_upto_region 6 with (fail)
    go_cut [27] (fun v27 wc => ∃ (kq : Nat) (x27_19 : Bool), v27 = .bool x27_19 ∧ Aside0 (spec_SetRead.j1 kq a0 x5_1 x27_19 x1026000_1 x1026001_1 x1026002_1 t1026 x1033001_1 = some (r1, r2, r3, r4, r5)) ∧ Aside0 (kq ≤ k1) ∧ Aside0 (Kd.R k33 33 wc w.heap.size (fun _ => True) (.slice Ao14 t1026.length co14) t1026) ∧ Aside0 (Kd.R k158 158 wc w.heap.size (fun _ => True) u1033001 x1033001_1) ∧ Aside0 (wc.heap[gb1015]? = some (.cells #[(.slice none 0 0), (.slice none 0 0), .int .i64 0, .int .i64 0, .int .i64 0] 87 (0, 0))) ∧ Aside0 (wc.heap[gb1032]? = some (.cells #[(.slice Ao14 t1026.length co14), u1033001] 60 (0, 0))) ∧ Aside0 (IsS130 w wc gb1025 x1026000_1 x1026001_1 x1026002_1) ∧ Aside0 (Below w.heap.size w wc))
    case first =>
     have H := HC20.out
     clear HC20
     by_cases c21 : x5_1 > 0
     ·rw [if_pos c21] at H
      have c21b0 : decide (0 < x5_1) = true := decide_eq_true c21
      clear c21
      (first | rw [c21b0] | (simp only [i64_w, i32_w]; rw [c21b0]) | skip)
      have H' := Aside0.mk H
      clear H
      obtain ⟨HGz22, hgz22⟩ := HI1025.out
      have hcz22_0 := cellS130_0 HGz22
      have hcz22_1 := cellS130_1 HGz22
      have hcz22_2 := cellS130_2 HGz22
      have hfz22_0 := blk_frozen HGz22 0
      have hfz22_1 := blk_frozen HGz22 1
      have hfz22_2 := blk_frozen HGz22 2
      clear HGz22 hgz22
      go_wp2
      go_meet
      case rel => exact ⟨_, (!x1026002_1), (z2_), H', ⟨z26_ HK1.out⟩, ⟨z4_ HO_1033000.out⟩, ⟨z4_ HO_1033001.out⟩, ⟨z9_ BK1015.out⟩, ⟨z9_ BK1032.out⟩, ⟨z48_ HI1025.out NB1025_1015.out NB1025_1032.out⟩, ⟨z40_ HB.out HI1025.out GE1015.out GE1032.out⟩⟩
     ·rw [if_neg c21] at H
      have c21b0 : decide (0 < x5_1) = false := decide_eq_false c21
      clear c21
      (first | rw [c21b0] | (simp only [i64_w, i32_w]; rw [c21b0]) | skip)
      have H' := Aside0.mk H
      clear H
      go_wp2
      go_meet
      case rel => exact ⟨_, (false), (z2_), H', ⟨z26_ HK1.out⟩, ⟨z4_ HO_1033000.out⟩, ⟨z4_ HO_1033001.out⟩, ⟨z9_ BK1015.out⟩, ⟨z9_ BK1032.out⟩, ⟨z48_ HI1025.out NB1025_1015.out NB1025_1032.out⟩, ⟨z40_ HB.out HI1025.out GE1015.out GE1032.out⟩⟩
    case rest =>
     clear HC20
     try clear c1
     try clear c2
     try clear c2b0
     try clear c2b1
     try clear p2
     try clear c6
     try clear c10
     try clear c13
     try clear c16
     try clear c17
     try clear c21
     try clear c21b0
     try clear hcz18_0
     try clear hcz18_1
     try clear hcz22_0
     try clear hcz22_1
     try clear hcz22_2
     try clear hcz7_0
     try clear hcz7_1
     try clear hcz7_2
     try clear hcz7_3
     try clear hcz7_4
     try clear hfz18_0
     try clear hfz18_1
     try clear hfz22_0
     try clear hfz22_1
     try clear hfz22_2
     try clear hfz7_0
     try clear hfz7_1
     try clear hfz7_2
     try clear hfz7_3
     try clear hfz7_4
     try clear p2
     obtain ⟨kq, x27_19, rfl, HA, HJ19, HO_1033000, HO_1033001, BK1015, BK1032, HI1025, HB⟩ := hcut
     cases kq with
     | zero => exact absurd HA.out (by simp [spec_SetRead.j1])
     | succ kj19 =>
      have H := HA.out
      clear HA
      simp only [spec_SetRead.j1] at H
      by_cases c23 : x27_19 = true
      ·subst c23
       have H1 : ((spec_l02Reader_num.f kj19 x1026000_1 x1026001_1 x1026002_1).bind fun bt1037 => ((spec_l02Reader_num.f kj19 bt1037.2.1 bt1037.2.2.1 bt1037.2.2.2).bind fun bt1042 => ((spec_l02Reader_num.f kj19 bt1042.2.1 bt1042.2.2.1 bt1042.2.2.2).bind fun bt1046 => ((spec_l02Reader_text.f kj19 bt1046.2.1 bt1046.2.2.1 bt1046.2.2.2).bind fun bt1050 => (if x1033001_1.length < 3518437208883 then (spec_SetRead.l0 kj19 a0 (wrap64 (x5_1 - 1)) bt1050.2.1 bt1050.2.2.1 bt1050.2.2.2 t1026 (x1033001_1 ++ [(⟨(⟨bt1037.1, bt1042.1⟩ : S33), (bt1046.1 == 1), bt1050.1⟩ : S158)])) else (none)))))) = some (r1, r2, r3, r4, r5) := by rw [if_pos rfl] at H; exact H
       clear H
       have H := H1
       clear H1
       replace H := Option.bind_eq_some_iff.mp H
       obtain ⟨⟨t1037, t1038, t1039, t1040⟩, A240, H⟩ := H
       replace H : ((spec_l02Reader_num.f kj19 t1038 t1039 t1040).bind fun bt1042 => ((spec_l02Reader_num.f kj19 bt1042.2.1 bt1042.2.2.1 bt1042.2.2.2).bind fun bt1046 => ((spec_l02Reader_text.f kj19 bt1046.2.1 bt1046.2.2.1 bt1046.2.2.2).bind fun bt1050 => (if x1033001_1.length < 3518437208883 then (spec_SetRead.l0 kj19 a0 (wrap64 (x5_1 - 1)) bt1050.2.1 bt1050.2.2.1 bt1050.2.2.2 t1026 (x1033001_1 ++ [(⟨(⟨t1037, bt1042.1⟩ : S33), (bt1046.1 == 1), bt1050.1⟩ : S158)])) else (none))))) = some (r1, r2, r3, r4, r5) := H
       have A24 := Aside0.mk A240
       clear A240
       replace H := Option.bind_eq_some_iff.mp H
       obtain ⟨⟨t1042, t1043, t1044, t1045⟩, A250, H⟩ := H
       replace H : ((spec_l02Reader_num.f kj19 t1043 t1044 t1045).bind fun bt1046 => ((spec_l02Reader_text.f kj19 bt1046.2.1 bt1046.2.2.1 bt1046.2.2.2).bind fun bt1050 => (if x1033001_1.length < 3518437208883 then (spec_SetRead.l0 kj19 a0 (wrap64 (x5_1 - 1)) bt1050.2.1 bt1050.2.2.1 bt1050.2.2.2 t1026 (x1033001_1 ++ [(⟨(⟨t1037, t1042⟩ : S33), (bt1046.1 == 1), bt1050.1⟩ : S158)])) else (none)))) = some (r1, r2, r3, r4, r5) := H
       have A25 := Aside0.mk A250
       clear A250
       replace H := Option.bind_eq_some_iff.mp H
       obtain ⟨⟨t1046, t1047, t1048, t1049⟩, A260, H⟩ := H
       replace H : ((spec_l02Reader_text.f kj19 t1047 t1048 t1049).bind fun bt1050 => (if x1033001_1.length < 3518437208883 then (spec_SetRead.l0 kj19 a0 (wrap64 (x5_1 - 1)) bt1050.2.1 bt1050.2.2.1 bt1050.2.2.2 t1026 (x1033001_1 ++ [(⟨(⟨t1037, t1042⟩ : S33), (t1046 == 1), bt1050.1⟩ : S158)])) else (none))) = some (r1, r2, r3, r4, r5) := H
       have A26 := Aside0.mk A260
       clear A260
       replace H := Option.bind_eq_some_iff.mp H
       obtain ⟨⟨t1050, t1051, t1052, t1053⟩, A270, H⟩ := H
       replace H : (if x1033001_1.length < 3518437208883 then (spec_SetRead.l0 kj19 a0 (wrap64 (x5_1 - 1)) t1051 t1052 t1053 t1026 (x1033001_1 ++ [(⟨(⟨t1037, t1042⟩ : S33), (t1046 == 1), t1050⟩ : S158)])) else (none)) = some (r1, r2, r3, r4, r5) := H
       have A27 := Aside0.mk A270
       clear A270
       by_cases c28 : x1033001_1.length < 3518437208883
       ·rw [if_pos c28] at H
        have LMc28 := Aside0.mk c28
        clear c28
        obtain ⟨y1054, hy1054⟩ : ∃ y_ : List (S158), y_ = (x1033001_1 ++ [(⟨(⟨t1037, t1042⟩ : S33), (t1046 == 1), t1050⟩ : S158)]) := ⟨_, rfl⟩
        replace H : (spec_SetRead.l0 kj19 a0 (wrap64 (x5_1 - 1)) t1051 t1052 t1053 t1026 y1054) = some (r1, r2, r3, r4, r5) := by first | (rw [hy1054]; with_reducible exact H) | (have H2_ := (Option.bind_some _ _).symm.trans H; rw [hy1054]; with_reducible exact H2_) | (have H2_ := (Option.bind_some _ _).symm.trans H; with_reducible exact H2_) | with_reducible exact H | (rw [hy1054]; exact H) | exact H
        have Ny1054 := Aside0.mk hy1054
        clear hy1054
        have H' := Aside0.mk H
        clear H
        go_wp2_with (first | ((with_reducible refine gate_callee (f := 133) rfl ?_); refine goesL_ (some 31) rfl rfl Try.func133 (by kernel_rfl) rfl #[.pointer (some ⟨gb1025, 0, none⟩)] rfl (z0_) ?_; (with_reducible refine (spec_l02Reader_num.calls kj19 gb1025 x1026000_1 x1026001_1 x1026002_1 t1037 t1038 t1039 t1040 w _ ?side1 ?side2 A24.out).mono ?_); (case side1 => exact z48_ HI1025.out NB1025_1015.out NB1025_1032.out); (case side2 => exact z40_ HB.out HI1025.out GE1015.out GE1032.out); rintro e w29 ⟨rfl, hi, hb, hk⟩; refine ⟨_, rfl, ?_⟩; have n_ := as6_ (Kd.R_mono (Kd.R_keep (IsS130.apart (show IsS130 w _ gb1025 x1026000_1 x1026001_1 x1026002_1 from by repeat (first | (with_reducible first | exact HI1025.out | apply IsS130.alloc | apply IsS130.drewN | apply IsS130.drew | apply IsS130.set_0 | apply IsS130.set_1 | apply IsS130.set_2 | refine IsS130.far ?_ (by exact NB1025_1015.out) _ | refine IsS130.far ?_ (by exact NB1025_1032.out) _) | exact HI1025.out)) (z4_ HO_1033000.out) (by decide)) hk (fun _ h => h.2)) (fun _ h => h.1)) (Kd.R_mono (Kd.R_keep (IsS130.apart (show IsS130 w _ gb1025 x1026000_1 x1026001_1 x1026002_1 from by repeat (first | (with_reducible first | exact HI1025.out | apply IsS130.alloc | apply IsS130.drewN | apply IsS130.drew | apply IsS130.set_0 | apply IsS130.set_1 | apply IsS130.set_2 | refine IsS130.far ?_ (by exact NB1025_1015.out) _ | refine IsS130.far ?_ (by exact NB1025_1032.out) _) | exact HI1025.out)) (z4_ HO_1033001.out) (by decide)) hk (fun _ h => h.2)) (fun _ h => h.1)) (KeepBut.blk hk (g' := gb1015) (o := .cells #[.slice none 0 0, .slice none 0 0, .int .i64 0, .int .i64 0, .int .i64 0] 87 (0, 0)) (z9_ BK1015.out) NB1015_1025.out (by simp)) (KeepBut.blk hk (g' := gb1032) (o := .cells #[.slice Ao14 t1026.length co14, u1033001] 60 (0, 0)) (z9_ BK1032.out) NB1032_1025.out (by simp)) (hb) (hi); clear HO_1033000 HO_1033001 BK1015 BK1032 HB HI1025; have ⟨HO_1033000, HO_1033001, BK1015, BK1032, HB, HI1025⟩ := n_; clear n_; (try clear hb); (try clear hb2); (try clear hk); (try clear hi)) | ((with_reducible refine gate_dst (N := 6) rfl ?_); refine box_event ?hg (N := 6) ?hd (cs := #[.int .i64 0, .int .i64 0, .bool false, .string (⟨#[]⟩ : ByteArray)]) (t := 158) ?hr ?_; (case hd => rfl); (case hg => rfl); (case hr => first | (go_simp; done) | (go_simp; rfl)); intro gb1041 hg w30 hbox hb; have n_ := as15_ (Kd.R_below (z4_ HO_1033000.out) hb) (Kd.R_below (Kd.R_elderB (z4_ HO_1033001.out) gb1041 (Nat.le_of_eq hg.symm)) hb) (blkB_ BK1015.out hb) (blkB_ BK1032.out hb) (IsS130.below (z48_ HI1025.out NB1025_1015.out NB1025_1032.out) hb) (below_step (z40_ HB.out HI1025.out GE1015.out GE1032.out) hb) (hbox) ((by rw [hg]; exact (below_size (by repeat (first | (with_reducible first | exact HB.out | apply below_alloc | apply pw_below_drewN | apply below_drew1 | refine below_set ?_ (IsS130.ge HI1025.out) | refine below_set ?_ GE1015.out | refine below_set ?_ GE1032.out) | exact HB.out))) : w.heap.size ≤ gb1041)) ((by rw [hg]; exact (below_size (by repeat (first | (with_reducible first | exact HB.out | apply below_alloc | apply pw_below_drewN | apply below_drew1 | refine below_set ?_ (IsS130.ge HI1025.out) | refine below_set ?_ GE1015.out | refine below_set ?_ GE1032.out) | exact HB.out))) : w.heap.size ≤ gb1041)) (neL_ BK1015.out hg) (neG_ BK1015.out hg) (neL_ BK1032.out hg) (neG_ BK1032.out hg) ((by rw [hg]; exact Nat.ne_of_lt (IsS130.lt (show IsS130 w _ gb1025 t1038 t1039 t1040 from by repeat (first | (with_reducible first | exact HI1025.out | apply IsS130.alloc | apply IsS130.drewN | apply IsS130.drew | apply IsS130.set_0 | apply IsS130.set_1 | apply IsS130.set_2 | refine IsS130.far ?_ (by exact NB1025_1015.out) _ | refine IsS130.far ?_ (by exact NB1025_1032.out) _) | exact HI1025.out))) : gb1025 ≠ gb1041)) ((by rw [hg]; exact Nat.ne_of_gt (IsS130.lt (show IsS130 w _ gb1025 t1038 t1039 t1040 from by repeat (first | (with_reducible first | exact HI1025.out | apply IsS130.alloc | apply IsS130.drewN | apply IsS130.drew | apply IsS130.set_0 | apply IsS130.set_1 | apply IsS130.set_2 | refine IsS130.far ?_ (by exact NB1025_1015.out) _ | refine IsS130.far ?_ (by exact NB1025_1032.out) _) | exact HI1025.out))) : gb1041 ≠ gb1025)); clear HO_1033000 HO_1033001 BK1015 BK1032 HI1025 HB; have ⟨HO_1033000, HO_1033001, BK1015, BK1032, HI1025, HB, BK1041, GW1041, GE1041, NB1015_1041, NB1041_1015, NB1032_1041, NB1041_1032, NB1025_1041, NB1041_1025⟩ := n_; clear n_; clear hb hbox hg; have hnb31 := NB1041_1015.out; have hnc31 := NB1015_1041.out; have hnb32 := NB1041_1032.out; have hnc32 := NB1032_1041.out; have hnb33 := NB1041_1025.out; have hnc33 := NB1025_1041.out; have hcz34_0 : w30.cell? ⟨gb1041, 0, none⟩ = some (.int .i64 0) := (blk_cell BK1041.out 0).trans rfl; have hcz34_1 : w30.cell? ⟨gb1041, 1, none⟩ = some (.int .i64 0) := (blk_cell BK1041.out 1).trans rfl; have hcz34_2 : w30.cell? ⟨gb1041, 2, none⟩ = some (.bool false) := (blk_cell BK1041.out 2).trans rfl; have hcz34_3 : w30.cell? ⟨gb1041, 3, none⟩ = some (.string (⟨#[]⟩ : ByteArray)) := (blk_cell BK1041.out 3).trans rfl; have hfz34_0 := blk_frozen BK1041.out 0; have hfz34_1 := blk_frozen BK1041.out 1; have hfz34_2 := blk_frozen BK1041.out 2; have hfz34_3 := blk_frozen BK1041.out 3) | ((with_reducible refine gate_callee (f := 133) rfl ?_); refine goesL_ (some 35) rfl rfl Try.func133 (by kernel_rfl) rfl #[.pointer (some ⟨gb1025, 0, none⟩)] rfl (z0_) ?_; (with_reducible refine (spec_l02Reader_num.calls kj19 gb1025 t1038 t1039 t1040 t1042 t1043 t1044 t1045 w _ ?side1 ?side2 A25.out).mono ?_); (case side1 => exact z57_ HI1025.out NB1025_1015.out NB1025_1032.out NB1025_1041.out); (case side2 => exact z49_ HB.out HI1025.out GE1015.out GE1032.out GE1041.out); rintro e w35 ⟨rfl, hi, hb, hk⟩; refine ⟨_, rfl, ?_⟩; have n_ := as7_ (Kd.R_mono (Kd.R_keep (IsS130.apart (show IsS130 w _ gb1025 t1038 t1039 t1040 from by repeat (first | (with_reducible first | exact HI1025.out | apply IsS130.alloc | apply IsS130.drewN | apply IsS130.drew | apply IsS130.set_0 | apply IsS130.set_1 | apply IsS130.set_2 | refine IsS130.far ?_ (by exact NB1025_1015.out) _ | refine IsS130.far ?_ (by exact NB1025_1032.out) _ | refine IsS130.far ?_ (by exact NB1025_1041.out) _) | exact HI1025.out)) (z66_ HO_1033000.out BK1041.out) (by decide)) hk (fun _ h => h.2)) (fun _ h => h.1)) (Kd.R_mono (Kd.R_keep (IsS130.apart (show IsS130 w _ gb1025 t1038 t1039 t1040 from by repeat (first | (with_reducible first | exact HI1025.out | apply IsS130.alloc | apply IsS130.drewN | apply IsS130.drew | apply IsS130.set_0 | apply IsS130.set_1 | apply IsS130.set_2 | refine IsS130.far ?_ (by exact NB1025_1015.out) _ | refine IsS130.far ?_ (by exact NB1025_1032.out) _ | refine IsS130.far ?_ (by exact NB1025_1041.out) _) | exact HI1025.out)) (by (with_reducible repeat (first | apply Kd.R_alloc | apply Kd.R_drewN | apply Kd.R_drew)); exact (Kd.R_mono (rf4_ (Kd.R_mono HO_1033001.out (fun k_ hk => (⟨hk, hk.2⟩ : _ ∧ k_ ≠ gb1041))) (fun _ hk => hk.2)) (fun _ h_ => h_.1))) (by decide)) hk (fun _ h => h.2)) (fun _ h => h.1)) (KeepBut.blk hk (g' := gb1015) (o := .cells #[.slice none 0 0, .slice none 0 0, .int .i64 0, .int .i64 0, .int .i64 0] 87 (0, 0)) (z18_ NB1015_1041.out BK1015.out) NB1015_1025.out (by simp)) (KeepBut.blk hk (g' := gb1032) (o := .cells #[.slice Ao14 t1026.length co14, u1033001] 60 (0, 0)) (z18_ NB1032_1041.out BK1032.out) NB1032_1025.out (by simp)) (KeepBut.blk hk (g' := gb1041) (o := .cells #[.int .i64 t1037, .int .i64 0, .bool false, .string (⟨#[]⟩ : ByteArray)] 158 (0, 0)) (z22_ BK1041.out) NB1041_1025.out (by simp)) (hb) (hi); clear HO_1033000 HO_1033001 BK1015 BK1032 BK1041 HB HI1025; have ⟨HO_1033000, HO_1033001, BK1015, BK1032, BK1041, HB, HI1025⟩ := n_; clear n_; (try clear hb); (try clear hb2); (try clear hk); (try clear hi); have hcz36_0 : w35.cell? ⟨gb1041, 0, none⟩ = some (.int .i64 t1037) := (blk_cell BK1041.out 0).trans rfl; have hcz36_1 : w35.cell? ⟨gb1041, 1, none⟩ = some (.int .i64 0) := (blk_cell BK1041.out 1).trans rfl; have hcz36_2 : w35.cell? ⟨gb1041, 2, none⟩ = some (.bool false) := (blk_cell BK1041.out 2).trans rfl; have hcz36_3 : w35.cell? ⟨gb1041, 3, none⟩ = some (.string (⟨#[]⟩ : ByteArray)) := (blk_cell BK1041.out 3).trans rfl; have hfz36_0 := blk_frozen BK1041.out 0; have hfz36_1 := blk_frozen BK1041.out 1; have hfz36_2 := blk_frozen BK1041.out 2; have hfz36_3 := blk_frozen BK1041.out 3) | ((with_reducible refine gate_callee (f := 133) rfl ?_); refine goesL_ (some 39) rfl rfl Try.func133 (by kernel_rfl) rfl #[.pointer (some ⟨gb1025, 0, none⟩)] rfl (z0_) ?_; (with_reducible refine (spec_l02Reader_num.calls kj19 gb1025 t1043 t1044 t1045 t1046 t1047 t1048 t1049 w _ ?side1 ?side2 A26.out).mono ?_); (case side1 => exact z57_ HI1025.out NB1025_1015.out NB1025_1032.out NB1025_1041.out); (case side2 => exact z49_ HB.out HI1025.out GE1015.out GE1032.out GE1041.out); rintro e w37 ⟨rfl, hi, hb, hk⟩; refine ⟨_, rfl, ?_⟩; have n_ := as7_ (Kd.R_mono (Kd.R_keep (IsS130.apart (show IsS130 w _ gb1025 t1043 t1044 t1045 from by repeat (first | (with_reducible first | exact HI1025.out | apply IsS130.alloc | apply IsS130.drewN | apply IsS130.drew | apply IsS130.set_0 | apply IsS130.set_1 | apply IsS130.set_2 | refine IsS130.far ?_ (by exact NB1025_1015.out) _ | refine IsS130.far ?_ (by exact NB1025_1032.out) _ | refine IsS130.far ?_ (by exact NB1025_1041.out) _) | exact HI1025.out)) (by (with_reducible repeat (first | apply Kd.R_alloc | apply Kd.R_drewN | apply Kd.R_drew)); exact (Kd.R_mono (Kd.R_far (p := ⟨gb1041, 1, none⟩) (Kd.R_types HO_1033000.out BK1041.out (by decide)) (fun _ hk => hk.2) (.int .i64 t1042)) (fun _ h_ => h_.1))) (by decide)) hk (fun _ h => h.2)) (fun _ h => h.1)) (Kd.R_mono (Kd.R_keep (IsS130.apart (show IsS130 w _ gb1025 t1043 t1044 t1045 from by repeat (first | (with_reducible first | exact HI1025.out | apply IsS130.alloc | apply IsS130.drewN | apply IsS130.drew | apply IsS130.set_0 | apply IsS130.set_1 | apply IsS130.set_2 | refine IsS130.far ?_ (by exact NB1025_1015.out) _ | refine IsS130.far ?_ (by exact NB1025_1032.out) _ | refine IsS130.far ?_ (by exact NB1025_1041.out) _) | exact HI1025.out)) (by (with_reducible repeat (first | apply Kd.R_alloc | apply Kd.R_drewN | apply Kd.R_drew)); exact (Kd.R_mono (Kd.R_far (p := ⟨gb1041, 1, none⟩) (Kd.R_mono HO_1033001.out (fun k_ hk => (⟨hk, hk.2⟩ : _ ∧ k_ ≠ gb1041))) (fun _ hk => hk.2) (.int .i64 t1042)) (fun _ h_ => h_.1))) (by decide)) hk (fun _ h => h.2)) (fun _ h => h.1)) (KeepBut.blk hk (g' := gb1015) (o := .cells #[.slice none 0 0, .slice none 0 0, .int .i64 0, .int .i64 0, .int .i64 0] 87 (0, 0)) (z32_ NB1015_1041.out BK1015.out) NB1015_1025.out (by simp)) (KeepBut.blk hk (g' := gb1032) (o := .cells #[.slice Ao14 t1026.length co14, u1033001] 60 (0, 0)) (z32_ NB1032_1041.out BK1032.out) NB1032_1025.out (by simp)) (KeepBut.blk hk (g' := gb1041) (o := .cells #[.int .i64 t1037, .int .i64 t1042, .bool false, .string (⟨#[]⟩ : ByteArray)] 158 (0, 0)) (by (with_reducible repeat (first | refine blk_drewN ?_ _ | refine blk_drew ?_ | refine blk_alloc ?_ _)); refine blk_put (cs := #[.int .i64 t1037, .int .i64 0, .bool false, .string (⟨#[]⟩ : ByteArray)]) ?_ 1 _ rfl; (with_reducible repeat (first | refine blk_drewN ?_ _ | refine blk_drew ?_ | refine blk_alloc ?_ _)); exact BK1041.out) NB1041_1025.out (by simp)) (hb) (hi); clear HO_1033000 HO_1033001 BK1015 BK1032 BK1041 HB HI1025; have ⟨HO_1033000, HO_1033001, BK1015, BK1032, BK1041, HB, HI1025⟩ := n_; clear n_; (try clear hb); (try clear hb2); (try clear hk); (try clear hi); have hcz38_0 : w37.cell? ⟨gb1041, 0, none⟩ = some (.int .i64 t1037) := (blk_cell BK1041.out 0).trans rfl; have hcz38_1 : w37.cell? ⟨gb1041, 1, none⟩ = some (.int .i64 t1042) := (blk_cell BK1041.out 1).trans rfl; have hcz38_2 : w37.cell? ⟨gb1041, 2, none⟩ = some (.bool false) := (blk_cell BK1041.out 2).trans rfl; have hcz38_3 : w37.cell? ⟨gb1041, 3, none⟩ = some (.string (⟨#[]⟩ : ByteArray)) := (blk_cell BK1041.out 3).trans rfl; have hfz38_0 := blk_frozen BK1041.out 0; have hfz38_1 := blk_frozen BK1041.out 1; have hfz38_2 := blk_frozen BK1041.out 2; have hfz38_3 := blk_frozen BK1041.out 3) | ((with_reducible refine gate_callee (f := 134) rfl ?_); refine goesL_ (some 43) rfl rfl Try.func134 (by kernel_rfl) rfl #[.pointer (some ⟨gb1025, 0, none⟩)] rfl (z0_) ?_; (with_reducible refine (spec_l02Reader_text.calls kj19 gb1025 t1047 t1048 t1049 t1050 t1051 t1052 t1053 w _ ?side1 ?side2 A27.out).mono ?_); (case side1 => exact z57_ HI1025.out NB1025_1015.out NB1025_1032.out NB1025_1041.out); (case side2 => exact z49_ HB.out HI1025.out GE1015.out GE1032.out GE1041.out); rintro e w39 ⟨rfl, hi, hb, hk⟩; refine ⟨_, rfl, ?_⟩; have n_ := as7_ (Kd.R_mono (Kd.R_keep (IsS130.apart (show IsS130 w _ gb1025 t1047 t1048 t1049 from by repeat (first | (with_reducible first | exact HI1025.out | apply IsS130.alloc | apply IsS130.drewN | apply IsS130.drew | apply IsS130.set_0 | apply IsS130.set_1 | apply IsS130.set_2 | refine IsS130.far ?_ (by exact NB1025_1015.out) _ | refine IsS130.far ?_ (by exact NB1025_1032.out) _ | refine IsS130.far ?_ (by exact NB1025_1041.out) _) | exact HI1025.out)) (by (with_reducible repeat (first | apply Kd.R_alloc | apply Kd.R_drewN | apply Kd.R_drew)); exact (Kd.R_mono (Kd.R_far (p := ⟨gb1041, 2, none⟩) (Kd.R_types HO_1033000.out BK1041.out (by decide)) (fun _ hk => hk.2) (.bool (t1046 == 1))) (fun _ h_ => h_.1))) (by decide)) hk (fun _ h => h.2)) (fun _ h => h.1)) (Kd.R_mono (Kd.R_keep (IsS130.apart (show IsS130 w _ gb1025 t1047 t1048 t1049 from by repeat (first | (with_reducible first | exact HI1025.out | apply IsS130.alloc | apply IsS130.drewN | apply IsS130.drew | apply IsS130.set_0 | apply IsS130.set_1 | apply IsS130.set_2 | refine IsS130.far ?_ (by exact NB1025_1015.out) _ | refine IsS130.far ?_ (by exact NB1025_1032.out) _ | refine IsS130.far ?_ (by exact NB1025_1041.out) _) | exact HI1025.out)) (by (with_reducible repeat (first | apply Kd.R_alloc | apply Kd.R_drewN | apply Kd.R_drew)); exact (Kd.R_mono (Kd.R_far (p := ⟨gb1041, 2, none⟩) (Kd.R_mono HO_1033001.out (fun k_ hk => (⟨hk, hk.2⟩ : _ ∧ k_ ≠ gb1041))) (fun _ hk => hk.2) (.bool (t1046 == 1))) (fun _ h_ => h_.1))) (by decide)) hk (fun _ h => h.2)) (fun _ h => h.1)) (KeepBut.blk hk (g' := gb1015) (o := .cells #[.slice none 0 0, .slice none 0 0, .int .i64 0, .int .i64 0, .int .i64 0] 87 (0, 0)) (z32_ NB1015_1041.out BK1015.out) NB1015_1025.out (by simp)) (KeepBut.blk hk (g' := gb1032) (o := .cells #[.slice Ao14 t1026.length co14, u1033001] 60 (0, 0)) (z32_ NB1032_1041.out BK1032.out) NB1032_1025.out (by simp)) (KeepBut.blk hk (g' := gb1041) (o := .cells #[.int .i64 t1037, .int .i64 t1042, .bool (t1046 == 1), .string (⟨#[]⟩ : ByteArray)] 158 (0, 0)) (by (with_reducible repeat (first | refine blk_drewN ?_ _ | refine blk_drew ?_ | refine blk_alloc ?_ _)); refine blk_put (cs := #[.int .i64 t1037, .int .i64 t1042, .bool false, .string (⟨#[]⟩ : ByteArray)]) ?_ 2 _ rfl; (with_reducible repeat (first | refine blk_drewN ?_ _ | refine blk_drew ?_ | refine blk_alloc ?_ _)); exact BK1041.out) NB1041_1025.out (by simp)) (hb) (hi); clear HO_1033000 HO_1033001 BK1015 BK1032 BK1041 HB HI1025; have ⟨HO_1033000, HO_1033001, BK1015, BK1032, BK1041, HB, HI1025⟩ := n_; clear n_; (try clear hb); (try clear hb2); (try clear hk); (try clear hi); have ⟨hcz40_0, hcz40_1, hcz40_2, hcz40_3, hfz40_0, hfz40_1, hfz40_2, hfz40_3⟩ := cz4_ BK1041.out; have hnb41 := NB1032_1015.out; have hnc41 := NB1015_1032.out; have hnb42 := NB1032_1025.out; have hnc42 := NB1025_1032.out; have hcz43_0 : w39.cell? ⟨gb1032, 0, none⟩ = some (.slice Ao14 t1026.length co14) := (blk_cell BK1032.out 0).trans rfl; have hcz43_1 : w39.cell? ⟨gb1032, 1, none⟩ = some (u1033001) := (blk_cell BK1032.out 1).trans rfl; have hfz43_0 := blk_frozen BK1032.out 0; have hfz43_1 := blk_frozen BK1032.out 1) | ((with_reducible refine gate_builtin (b := .append) (xs := #[.tmp 46, .tmp 48]) rfl ?_); at_builtin; refine Kd.R_append k158 (w0 := w) w.heap.size rfl (.tmp 46) (.tmp 48) 58 158 (.agg #[(.int .i64 0), (.int .i64 0), (.bool false), (.string ⟨#[]⟩)]) 40 rfl Try.underlying58 info158 rfl (by decide) (by omega) u1033001 x1033001_1 (⟨(⟨t1037, t1042⟩ : S33), (t1046 == 1), t1050⟩ : S158) [.int .i64 t1037, .int .i64 t1042, .bool (t1046 == 1), .string t1050] (fun k_ => k_ ≠ gb1041) (fun _ => False) rfl (by first | (go_simp; done) | (go_simp; rfl)) ?aP (fun _ hk => hk.elim) ?aF ?aO ?aB ?aS ?aL ?_; (case aP => exact k158_mkM _ _ _ (⟨(⟨t1037, t1042⟩ : S33), (t1046 == 1), t1050⟩ : S158)); (case aB => exact (z49_ HB.out HI1025.out GE1015.out GE1032.out GE1041.out)); (case aF => exact (fun k_ hk => Kd.freshB (g := gb1041) (o := .cells #[.int .i64 t1037, .int .i64 t1042, .bool (t1046 == 1), .string t1050] 158 (0, 0)) (by (with_reducible repeat (first | refine blk_drewN ?_ _ | refine blk_drew ?_ | refine blk_alloc ?_ _)); refine blk_put (cs := #[.int .i64 t1037, .int .i64 t1042, .bool (t1046 == 1), .string (⟨#[]⟩ : ByteArray)]) ?_ 3 _ rfl; (with_reducible repeat (first | refine blk_drewN ?_ _ | refine blk_drew ?_ | refine blk_alloc ?_ _)); exact BK1041.out) k_ hk)); (case aO => exact (by (with_reducible repeat (first | apply Kd.R_alloc | apply Kd.R_drewN | apply Kd.R_drew)); exact Kd.R_mono (Kd.R_far (p := ⟨gb1041, 3, none⟩) (Kd.R_mono HO_1033001.out (fun k_ hk => (⟨hk, hk.2⟩ : _ ∧ k_ ≠ gb1041))) (fun _ hk => hk.2) (.string t1050)) (fun _ hk => hk.1.2))); (case aS => exact (below_size (z49_ HB.out HI1025.out GE1015.out GE1032.out GE1041.out))); (case aL => have := LMc28.out; omega); intro v1055 w44 ho hb hg hat; rw [← Ny1054.out] at ho; have n_ := as7_ (Kd.R_over' (by (with_reducible repeat (first | apply Kd.R_alloc | apply Kd.R_drewN | apply Kd.R_drew)); exact (Kd.R_mono (Kd.R_far (p := ⟨gb1041, 3, none⟩) (Kd.R_types HO_1033000.out BK1041.out (by decide)) (fun _ hk => hk.2) (.string t1050)) (fun _ h_ => h_.1))) (Kd.R_typed (by (with_reducible repeat (first | apply Kd.R_alloc | apply Kd.R_drewN | apply Kd.R_drew)); exact (Kd.R_mono (Kd.R_far (p := ⟨gb1041, 3, none⟩) (Kd.R_mono HO_1033001.out (fun k_ hk => (⟨hk, hk.2⟩ : _ ∧ k_ ≠ gb1041))) (fun _ hk => hk.2) (.string t1050)) (fun _ h_ => h_.1)))) (by decide) hg) (blk_grown (g := gb1015) (o := .cells #[.slice none 0 0, .slice none 0 0, .int .i64 0, .int .i64 0, .int .i64 0] 87 (0, 0)) (z32_ NB1015_1041.out BK1015.out) hg (Kd.R_ne HO_1033001.out BK1015.out (by decide))) (blk_grown (g := gb1032) (o := .cells #[.slice Ao14 t1026.length co14, u1033001] 60 (0, 0)) (z32_ NB1032_1041.out BK1032.out) hg (Kd.R_ne HO_1033001.out BK1032.out (by decide))) (IsS130.grown (show IsS130 w _ gb1025 t1051 t1052 t1053 from by repeat (first | (with_reducible first | exact HI1025.out | apply IsS130.alloc | apply IsS130.drewN | apply IsS130.drew | apply IsS130.set_0 | apply IsS130.set_1 | apply IsS130.set_2 | refine IsS130.far ?_ (by exact NB1025_1015.out) _ | refine IsS130.far ?_ (by exact NB1025_1032.out) _ | refine IsS130.far ?_ (by exact NB1025_1041.out) _) | exact HI1025.out)) hg (IsS130.own_ne HI1025.out HO_1033001.out (by decide))) (blk_grown (g := gb1041) (o := .cells #[.int .i64 t1037, .int .i64 t1042, .bool (t1046 == 1), .string t1050] 158 (0, 0)) (by (with_reducible repeat (first | refine blk_drewN ?_ _ | refine blk_drew ?_ | refine blk_alloc ?_ _)); refine blk_put (cs := #[.int .i64 t1037, .int .i64 t1042, .bool (t1046 == 1), .string (⟨#[]⟩ : ByteArray)]) ?_ 3 _ rfl; (with_reducible repeat (first | refine blk_drewN ?_ _ | refine blk_drew ?_ | refine blk_alloc ?_ _)); exact BK1041.out) hg (Kd.R_away HO_1033001.out (fun _ hk => hk.2))) (hb) (ho); clear HO_1033000 BK1015 BK1032 HI1025 BK1041 HB HO_1033001; have ⟨HO_1033000, BK1015, BK1032, HI1025, BK1041, HB, HO1056⟩ := n_; clear n_; clear ho hb hg hat; obtain ⟨Ao45, co45, eo45⟩ := Kd.R_slice HO1056.out; subst eo45; have hcz46_0 : w44.cell? ⟨gb1032, 0, none⟩ = some (.slice Ao14 t1026.length co14) := (blk_cell BK1032.out 0).trans rfl; have hcz46_1 : w44.cell? ⟨gb1032, 1, none⟩ = some (u1033001) := (blk_cell BK1032.out 1).trans rfl; have hfz46_0 := blk_frozen BK1032.out 0; have hfz46_1 := blk_frozen BK1032.out 1))
        go_roundg kj19
        case measure => have := HK1.out; have := HJ19.out; omega
        case rel => exact ⟨(wrap64 (x5_1 - 1)), (t1051), (t1052), (t1053), (y1054), (.slice Ao45 y1054.length co45), (z2_), H', ⟨by have := HK1.out; have := HJ19.out; omega⟩, ⟨by (with_reducible repeat (first | apply Kd.R_alloc | apply Kd.R_drewN | apply Kd.R_drew)); exact Kd.R_mono (Kd.R_far (p := ⟨gb1032, 1, none⟩) (Kd.R_types HO_1033000.out BK1032.out (by decide)) (fun _ hk => hk.2) (.slice Ao45 y1054.length co45)) (fun _ hk => trivial)⟩, ⟨by (with_reducible repeat (first | apply Kd.R_alloc | apply Kd.R_drewN | apply Kd.R_drew)); exact Kd.R_mono (Kd.R_far (p := ⟨gb1032, 1, none⟩) (Kd.R_types HO1056.out BK1032.out (by decide)) (fun _ hk => hk.2) (.slice Ao45 y1054.length co45)) (fun _ hk => trivial)⟩, ⟨z32_ NB1015_1032.out BK1015.out⟩, ⟨by (with_reducible repeat (first | refine blk_drewN ?_ _ | refine blk_drew ?_ | refine blk_alloc ?_ _)); refine blk_put (cs := #[.slice Ao14 t1026.length co14, u1033001]) ?_ 1 _ rfl; (with_reducible repeat (first | refine blk_drewN ?_ _ | refine blk_drew ?_ | refine blk_alloc ?_ _)); exact BK1032.out⟩, ⟨z57_ HI1025.out NB1025_1015.out NB1025_1032.out NB1025_1041.out⟩, ⟨z49_ HB.out HI1025.out GE1015.out GE1032.out GE1041.out⟩⟩
       ·rw [if_neg c28] at H
        exact absurd H (by simp)
      ·replace c23 := Bool.eq_false_iff.mpr c23
       subst c23
       have H1 : (if x1026002_1 = true then (spec_SetRead.j2 kj19 true t1026 x1033001_1) else (if a0.toList = ([] : List UInt8) then (spec_SetRead.j2 kj19 true t1026 x1033001_1) else ((spec_SetBytes.f kj19 t1026 x1033001_1).bind fun t1057 => (spec_SetRead.j2 kj19 (t1057.toList != a0.toList) t1026 x1033001_1)))) = some (r1, r2, r3, r4, r5) := by rw [if_neg (show ¬ (false = true) by decide)] at H; exact H
       clear H
       have H := H1
       clear H1
       have HC47 := Aside0.mk H
       clear H
       go_upto_region 13 with (fail)
       go_cut [64] (fun v64 wc => ∃ (kq : Nat) (x64_46 : Bool), v64 = .bool x64_46 ∧ Aside0 (spec_SetRead.j2 kq x64_46 t1026 x1033001_1 = some (r1, r2, r3, r4, r5)) ∧ Aside0 (kq ≤ kj19) ∧ Aside0 (Kd.R k33 33 wc w.heap.size (fun _ => True) (.slice Ao14 t1026.length co14) t1026) ∧ Aside0 (Kd.R k158 158 wc w.heap.size (fun _ => True) u1033001 x1033001_1) ∧ Aside0 (wc.heap[gb1015]? = some (.cells #[(.slice none 0 0), (.slice none 0 0), .int .i64 0, .int .i64 0, .int .i64 0] 87 (0, 0))) ∧ Aside0 (wc.heap[gb1032]? = some (.cells #[(.slice Ao14 t1026.length co14), u1033001] 60 (0, 0))) ∧ Aside0 (Below w.heap.size w wc))
       case first =>
        have H := HC47.out
        clear HC47
        by_cases c48 : x1026002_1 = true
        ·subst c48
         have H1 : (spec_SetRead.j2 kj19 true t1026 x1033001_1) = some (r1, r2, r3, r4, r5) := by rw [if_pos rfl] at H; exact H
         clear H
         have H := H1
         clear H1
         have H' := Aside0.mk H
         clear H
         obtain ⟨HGz49, hgz49⟩ := HI1025.out
         have hcz49_0 := cellS130_0 HGz49
         have hcz49_1 := cellS130_1 HGz49
         have hcz49_2 := cellS130_2 HGz49
         have hfz49_0 := blk_frozen HGz49 0
         have hfz49_1 := blk_frozen HGz49 1
         have hfz49_2 := blk_frozen HGz49 2
         clear HGz49 hgz49
         go_wp2
         go_meet
         case rel => exact ⟨_, (true), (z2_), H', ⟨z33_ HK1.out HJ19.out⟩, ⟨z4_ HO_1033000.out⟩, ⟨z4_ HO_1033001.out⟩, ⟨z9_ BK1015.out⟩, ⟨z9_ BK1032.out⟩, ⟨z40_ HB.out HI1025.out GE1015.out GE1032.out⟩⟩
        ·replace c48 := Bool.eq_false_iff.mpr c48
         subst c48
         have H1 : (if a0.toList = ([] : List UInt8) then (spec_SetRead.j2 kj19 true t1026 x1033001_1) else ((spec_SetBytes.f kj19 t1026 x1033001_1).bind fun t1057 => (spec_SetRead.j2 kj19 (t1057.toList != a0.toList) t1026 x1033001_1))) = some (r1, r2, r3, r4, r5) := by rw [if_neg (show ¬ (false = true) by decide)] at H; exact H
         clear H
         have H := H1
         clear H1
         by_cases c50 : a0.toList = ([] : List UInt8)
         ·rw [if_pos c50] at H
          have c50b0 : (a0.toList == ([] : List UInt8)) = true := beq_iff_eq.mpr c50
          have c50b1 : (a0.toList != ([] : List UInt8)) = false := bne_eq_false_iff_eq.mpr c50
          clear c50
          (first | rw [c50b0] | (simp only [i64_w, i32_w]; rw [c50b0]) | skip)
          have H' := Aside0.mk H
          clear H
          obtain ⟨HGz51, hgz51⟩ := HI1025.out
          have hcz51_0 := cellS130_0 HGz51
          have hcz51_1 := cellS130_1 HGz51
          have hcz51_2 := cellS130_2 HGz51
          have hfz51_0 := blk_frozen HGz51 0
          have hfz51_1 := blk_frozen HGz51 1
          have hfz51_2 := blk_frozen HGz51 2
          clear HGz51 hgz51
          go_wp2
          go_meet
          case rel => exact ⟨_, (true), (z2_), H', ⟨z33_ HK1.out HJ19.out⟩, ⟨z4_ HO_1033000.out⟩, ⟨z4_ HO_1033001.out⟩, ⟨z9_ BK1015.out⟩, ⟨z9_ BK1032.out⟩, ⟨z40_ HB.out HI1025.out GE1015.out GE1032.out⟩⟩
         ·rw [if_neg c50] at H
          have c50b0 : (a0.toList == ([] : List UInt8)) = false := beq_eq_false_iff_ne.mpr c50
          have c50b1 : (a0.toList != ([] : List UInt8)) = true := bne_iff_ne.mpr c50
          (first | rw [c50b0] | (simp only [i64_w, i32_w]; rw [c50b0]) | skip)
          replace H := Option.bind_eq_some_iff.mp H
          obtain ⟨t1057, A520, H⟩ := H
          replace H : (spec_SetRead.j2 kj19 (t1057.toList != a0.toList) t1026 x1033001_1) = some (r1, r2, r3, r4, r5) := H
          have A52 := Aside0.mk A520
          clear A520
          have H' := Aside0.mk H
          clear H
          obtain ⟨HGz53, hgz53⟩ := HI1025.out
          have hcz53_0 := cellS130_0 HGz53
          have hcz53_1 := cellS130_1 HGz53
          have hcz53_2 := cellS130_2 HGz53
          have hfz53_0 := blk_frozen HGz53 0
          have hfz53_1 := blk_frozen HGz53 1
          have hfz53_2 := blk_frozen HGz53 2
          clear HGz53 hgz53
          have hnb54 := NB1032_1015.out
          have hnc54 := NB1015_1032.out
          have hnb55 := NB1032_1025.out
          have hnc55 := NB1025_1032.out
          have ⟨hcz56_0, hcz56_1, hfz56_0, hfz56_1⟩ := cz2_ BK1032.out
          obtain ⟨Ao57, co57, eo57⟩ := Kd.R_slice HO_1033001.out
          subst eo57
          go_wp2_with (first | (go_at_call 135; (with_reducible refine (spec_SetBytes.calls kj19 _ _ t1026 _ _ x1033001_1 t1057 _ ?side1 ?side2 ?side3 ?side4 A52.out).mono ?_); (case side1 => exact z27_ HO_1033000.out); (case side2 => exact (Kd.R_reads' HO_1033000.out).2.1); (case side3 => exact z27_ HO_1033001.out); (case side4 => exact (Kd.R_reads' HO_1033001.out).2.1); rintro e w58 ⟨rfl, hb⟩; have n_ := as6_ (Kd.R_below (z4_ HO_1033000.out) hb) (Kd.R_below (z4_ HO_1033001.out) hb) (blkB_ BK1015.out hb) (blkB_ BK1032.out hb) (IsS130.below (z48_ HI1025.out NB1025_1015.out NB1025_1032.out) hb) (below_step (z40_ HB.out HI1025.out GE1015.out GE1032.out) hb); clear HO_1033000 HO_1033001 BK1015 BK1032 HI1025 HB; have ⟨HO_1033000, HO_1033001, BK1015, BK1032, HI1025, HB⟩ := n_; clear n_; (try clear hb); (try clear hb2); (try clear hk); (try clear hi)))
          go_meet
          case rel => exact ⟨_, ((t1057.toList != a0.toList)), (z2_), H', ⟨z33_ HK1.out HJ19.out⟩, ⟨z4_ HO_1033000.out⟩, ⟨z4_ HO_1033001.out⟩, ⟨z9_ BK1015.out⟩, ⟨z9_ BK1032.out⟩, ⟨z40_ HB.out HI1025.out GE1015.out GE1032.out⟩⟩
       case rest =>
        clear HC47
        try clear c1
        try clear c2
        try clear c2b0
        try clear c2b1
        try clear p2
        try clear c3
        try clear c4
        try clear c5
        try clear c6
        try clear p6
        try clear c10
        try clear c13
        try clear c16
        try clear c17
        try clear c21
        try clear c21b0
        try clear c23
        try clear c28
        try clear c31
        try clear c32
        try clear c33
        try clear c41
        try clear c42
        try clear c48
        try clear c50
        try clear c50b0
        try clear c50b1
        try clear c54
        try clear c55
        try clear hcz18_0
        try clear hcz18_1
        try clear hcz22_0
        try clear hcz22_1
        try clear hcz22_2
        try clear hcz34_0
        try clear hcz34_1
        try clear hcz34_2
        try clear hcz34_3
        try clear hcz36_0
        try clear hcz36_1
        try clear hcz36_2
        try clear hcz36_3
        try clear hcz38_0
        try clear hcz38_1
        try clear hcz38_2
        try clear hcz38_3
        try clear hcz40_0
        try clear hcz40_1
        try clear hcz40_2
        try clear hcz40_3
        try clear hcz43_0
        try clear hcz43_1
        try clear hcz46_0
        try clear hcz46_1
        try clear hcz49_0
        try clear hcz49_1
        try clear hcz49_2
        try clear hcz51_0
        try clear hcz51_1
        try clear hcz51_2
        try clear hcz53_0
        try clear hcz53_1
        try clear hcz53_2
        try clear hcz56_0
        try clear hcz56_1
        try clear hcz7_0
        try clear hcz7_1
        try clear hcz7_2
        try clear hcz7_3
        try clear hcz7_4
        try clear hfz18_0
        try clear hfz18_1
        try clear hfz22_0
        try clear hfz22_1
        try clear hfz22_2
        try clear hfz34_0
        try clear hfz34_1
        try clear hfz34_2
        try clear hfz34_3
        try clear hfz36_0
        try clear hfz36_1
        try clear hfz36_2
        try clear hfz36_3
        try clear hfz38_0
        try clear hfz38_1
        try clear hfz38_2
        try clear hfz38_3
        try clear hfz40_0
        try clear hfz40_1
        try clear hfz40_2
        try clear hfz40_3
        try clear hfz43_0
        try clear hfz43_1
        try clear hfz46_0
        try clear hfz46_1
        try clear hfz49_0
        try clear hfz49_1
        try clear hfz49_2
        try clear hfz51_0
        try clear hfz51_1
        try clear hfz51_2
        try clear hfz53_0
        try clear hfz53_1
        try clear hfz53_2
        try clear hfz56_0
        try clear hfz56_1
        try clear hfz7_0
        try clear hfz7_1
        try clear hfz7_2
        try clear hfz7_3
        try clear hfz7_4
        try clear p2
        obtain ⟨kq, x64_46, rfl, HA, HJ46, HO_1033000, HO_1033001, BK1015, BK1032, HB⟩ := hcut
        cases kq with
        | zero => exact absurd HA.out (by simp [spec_SetRead.j2])
        | succ kj46 =>
         have H := HA.out
         clear HA
         simp only [spec_SetRead.j2] at H
         by_cases c59 : x64_46 = true
         ·subst c59
          have H1 : ((spec_l03Ill.f 3).bind fun bt1058 => (some (bt1058.1, bt1058.2.1, bt1058.2.2.1, bt1058.2.2.2.1, bt1058.2.2.2.2))) = some (r1, r2, r3, r4, r5) := by rw [if_pos rfl] at H; exact H
          clear H
          have H := H1
          clear H1
          replace H := Option.bind_eq_some_iff.mp H
          obtain ⟨⟨t1058, t1061, t1064, t1065, t1066⟩, A600, H⟩ := H
          replace H : (some (t1058, t1061, t1064, t1065, t1066)) = some (r1, r2, r3, r4, r5) := H
          have A60 := Aside0.mk A600
          clear A600
          simp only [Option.some.injEq, Prod.mk.injEq] at H
          obtain ⟨rfl, rfl, rfl, rfl, rfl⟩ := H
          go_wp2_with (first | ((with_reducible refine gate_callee (f := 131) rfl ?_); refine goesL_ (some 65) rfl rfl Try.func131 (by kernel_rfl) rfl #[.int .i64 3] rfl (z0_) ?_; (with_reducible refine (spec_l03Ill.calls 3 t1058 t1061 t1064 t1065 t1066 _ A60.out).mono ?_); rintro e w61 ⟨v1059, v1062, rfl, ho0, ho1, hb⟩; refine ⟨_, rfl, ?_⟩; have n_ := as7_ (Kd.R_elder' (z4_ HO_1033000.out) (Kd.R_base ho0) hb) (Kd.R_elder' (z4_ HO_1033001.out) (Kd.R_base ho1) hb) (Kd.R_lower (Kd.R_new' ho0 (Kd.R_lt (z4_ HO_1033000.out))) (below_size (z6_ HB.out GE1015.out GE1032.out))) (Kd.R_lower (Kd.R_new' ho1 (Kd.R_lt (z4_ HO_1033001.out))) (below_size (z6_ HB.out GE1015.out GE1032.out))) (blkB_ BK1015.out hb) (blkB_ BK1032.out hb) (below_step (z6_ HB.out GE1015.out GE1032.out) hb); clear HO_1033000 HO_1033001 BK1015 BK1032 HB; have ⟨HO_1033000, HO_1033001, HO1060, HO1063, BK1015, BK1032, HB⟩ := n_; clear n_; (try clear hb); (try clear hb2); (try clear hk); (try clear hi); (try clear ho0); (try clear ho1); obtain ⟨Ao62, co62, eo62⟩ := Kd.R_slice HO1060.out; subst eo62; have hnb63 := NB1015_1032.out; have hnc63 := NB1032_1015.out; have ⟨hcz64_0, hcz64_1, hcz64_2, hcz64_3, hcz64_4, hfz64_0, hfz64_1, hfz64_2, hfz64_3, hfz64_4⟩ := cz5_ BK1015.out; obtain ⟨Ao65, co65, eo65⟩ := Kd.R_slice HO1063.out; subst eo65))
          refine bodyPost_ret (results_cell_row rfl _ _ gb1015 87 #[.slice Ao62 t1058.length co62, .slice Ao65 t1061.length co65, .int .i64 t1064, .int .i64 t1065, .int .i64 t1066] (0, 0) _ rfl (z39_ BK1015.out) Try.underlying87 rfl (by kernel_rfl)) rfl ?_
          exact ⟨_, _, z8_, z45_ HO1060.out BK1015.out, z45_ HO1063.out BK1015.out, z6_ HB.out GE1015.out GE1032.out⟩
         ·replace c59 := Bool.eq_false_iff.mpr c59
          subst c59
          have H1 : (some (t1026, x1033001_1, 0, 0, 0)) = some (r1, r2, r3, r4, r5) := by rw [if_neg (show ¬ (false = true) by decide)] at H; exact H
          clear H
          have H := H1
          clear H1
          simp only [Option.some.injEq, Prod.mk.injEq] at H
          obtain ⟨rfl, rfl, rfl, rfl, rfl⟩ := H
          have hnb66 := NB1032_1015.out
          have hnc66 := NB1015_1032.out
          have ⟨hcz67_0, hcz67_1, hfz67_0, hfz67_1⟩ := cz2_ BK1032.out
          obtain ⟨Ao68, co68, eo68⟩ := Kd.R_slice HO_1033001.out
          subst eo68
          have ⟨hcz69_0, hcz69_1, hcz69_2, hcz69_3, hcz69_4, hfz69_0, hfz69_1, hfz69_2, hfz69_3, hfz69_4⟩ := cz5_ BK1015.out
          go_wp2
          refine bodyPost_ret (results_cell_row rfl _ _ gb1015 87 #[.slice Ao14 t1026.length co14, .slice Ao68 x1033001_1.length co68, .int .i64 0, .int .i64 0, .int .i64 0] (0, 0) _ rfl (z39_ BK1015.out) Try.underlying87 rfl (by kernel_rfl)) rfl ?_
          exact ⟨_, _, z8_, z45_ HO_1033000.out BK1015.out, z45_ HO_1033001.out BK1015.out, z6_ HB.out GE1015.out GE1032.out⟩


/-! ### impl_isLong_1: function 159 -/
def impl_isLong_1.f (a0 : ByteArray) : Option (Bool) := some (decide ((a0.size : Int) > 8000))
set_option maxHeartbeats 8000000 in
set_option maxRecDepth 100000 in
theorem impl_isLong_1.calls (a0 : ByteArray) (r : Bool) (w : World) (h : impl_isLong_1.f a0 = some r) :
  Calls Try.prog 159 #[.string a0] w fun e w' => e = .returned (.bool r) ∧ Drawn0 w w' := by
 have H : (some (decide ((a0.size : Int) > 8000))) = some r := h
 clear h
 obtain rfl := Option.some.inj H
 go_enter Try.func159, Try.ntmps159
 go_wp2
 go_ret
 exact ⟨z2_, z13_⟩


/-! ### slices_IndexFunc_string_string_impl_isLong_1: function 202 -/
def slices_IndexFunc_string_string_impl_isLong_1.l0 : Nat → List ByteArray → Int → Int → Option (Int)
 | 0, _, _, _ => none
 | k + 1, x0, x7, x8 => if x8 < x7 then (if 0 ≤ x8 then (if x8 < (x0.length : Int) then ((impl_isLong_1.f (rdOf ByteArray.empty x0 x8)).bind fun t374 => (if t374 = true then (some x8) else (slices_IndexFunc_string_string_impl_isLong_1.l0 k x0 x7 (wrap64 (x8 + 1))))) else (none)) else (none)) else (some (-1))
def slices_IndexFunc_string_string_impl_isLong_1.f (k : Nat) (l0 : List ByteArray)  : Option (Int) := slices_IndexFunc_string_string_impl_isLong_1.l0 k l0 (l0.length : Int) 0
theorem slices_IndexFunc_string_string_impl_isLong_1.mono_l : ∀ k, (∀ y0 y1 y2, LeO (slices_IndexFunc_string_string_impl_isLong_1.l0 k y0 y1 y2) (slices_IndexFunc_string_string_impl_isLong_1.l0 (k + 1) y0 y1 y2))
 | 0 => fun _ _ _ r h => by simp [slices_IndexFunc_string_string_impl_isLong_1.l0] at h
 | k + 1 => by
  have ih0 := slices_IndexFunc_string_string_impl_isLong_1.mono_l k
  ·intro y0 y1 y2
   unfold slices_IndexFunc_string_string_impl_isLong_1.l0
   repeat' first
   | (with_reducible exact ih0 _ _ _)
   | (with_reducible exact LeO.refl _)
   | (with_reducible exact LeO.none _)
   | (with_reducible refine LeO.ite ?_ ?_)
   | (with_reducible refine LeO.bind ?_ (fun _ => ?_))
   | exact ih0 _ _ _
   | exact LeO.none _
   | refine LeO.ite ?_ ?_
   | refine LeO.bind ?_ (fun _ => ?_)
theorem slices_IndexFunc_string_string_impl_isLong_1.mono : ∀ a0 k, LeO (slices_IndexFunc_string_string_impl_isLong_1.f k a0) (slices_IndexFunc_string_string_impl_isLong_1.f (k + 1) a0) := by
 intro a0 k
 have ih0 := slices_IndexFunc_string_string_impl_isLong_1.mono_l k
 unfold slices_IndexFunc_string_string_impl_isLong_1.f
 repeat' first
   | (with_reducible exact ih0 _ _ _)
   | (with_reducible exact LeO.refl _)
   | (with_reducible exact LeO.none _)
   | (with_reducible refine LeO.ite ?_ ?_)
   | (with_reducible refine LeO.bind ?_ (fun _ => ?_))
   | exact ih0 _ _ _
   | exact LeO.none _
   | refine LeO.ite ?_ ?_
   | refine LeO.bind ?_ (fun _ => ?_)
set_option maxHeartbeats 8000000 in
set_option maxRecDepth 100000 in
theorem slices_IndexFunc_string_string_impl_isLong_1.calls (k : Nat) (A0 : Option Addr) (c0 : Nat) (l0 : List ByteArray)  (r : Int) (w : World) (hr0 : Kd.C Kd.string w A0 l0.length l0) (hc0 : l0.length ≤ c0) (h : slices_IndexFunc_string_string_impl_isLong_1.f k l0 = some r) :
  Calls Try.prog 202 #[.slice A0 l0.length c0, .func (.func 159) #[] #[]] w fun e w' => e = .returned (.int .i64 r) ∧ Drawn0 w w' := by
 have HR0 := Aside0.mk hr0
 have HC0 := Aside0.mk hc0
 clear hr0 hc0
 have H : (slices_IndexFunc_string_string_impl_isLong_1.l0 k l0 (l0.length : Int) 0) = some r := h
 clear h
 have H' := Aside0.mk H
 clear H
 go_enter Try.func202, Try.ntmps202
 go_wp2
 go_loopg [8] k (fun kq v8 w' => ∃ (x8_1 : Int), v8 = .int .i64 x8_1 ∧ Aside0 (slices_IndexFunc_string_string_impl_isLong_1.l0 kq l0 (l0.length : Int) x8_1 = some r) ∧ Aside0 (kq ≤ k) ∧ Drawn0 w w')
 case atStart => exact ⟨(0), (z2_), H', ⟨Nat.le_refl _⟩, z13_⟩
 case round =>
  clear H'
  try clear p2
  obtain ⟨x8_1, rfl, HA, HK1, ⟨m1, rfl⟩⟩ := hrel
  cases gk with
  | zero => exact absurd HA.out (by simp [slices_IndexFunc_string_string_impl_isLong_1.l0])
  | succ k1 =>
   have H := HA.out
   clear HA
   simp only [slices_IndexFunc_string_string_impl_isLong_1.l0] at H
   by_cases c3 : x8_1 < (l0.length : Int)
   ·rw [if_pos c3] at H
    have c3b0 : decide (x8_1 < (l0.length : Int)) = true := decide_eq_true c3
    clear c3
    by_cases c4 : 0 ≤ x8_1
    ·rw [if_pos c4] at H
     have c4b0 : decide (0 ≤ x8_1) = true := decide_eq_true c4
     clear c4
     by_cases c5 : x8_1 < (l0.length : Int)
     ·rw [if_pos c5] at H
      have c5b0 : decide (x8_1 < (l0.length : Int)) = true := decide_eq_true c5
      clear c5
      replace H := Option.bind_eq_some_iff.mp H
      obtain ⟨t374, A60, H⟩ := H
      replace H : (if t374 = true then (some x8_1) else (slices_IndexFunc_string_string_impl_isLong_1.l0 k1 l0 (l0.length : Int) (wrap64 (x8_1 + 1)))) = some r := H
      have A6 := Aside0.mk A60
      clear A60
      by_cases c7 : t374 = true
      ·subst c7
       have H1 : (some x8_1) = some r := by rw [if_pos rfl] at H; exact H
       clear H
       have H := H1
       clear H1
       obtain rfl := Option.some.inj H
       have p373 : 0 ≤ (x8_1 : Int) := of_decide_eq_true (z3_)
       have q373 : x8_1 < (l0.length : Int) := of_decide_eq_true (z3_)
       obtain ⟨ad373, e373, hx373_0⟩ := Kd.at_string HR0.out x8_1 p373 q373
       cases e373
       replace p373 := eq_true p373
       replace q373 := eq_true q373
       go_wp2_with (first | (go_at_call 159; (with_reducible refine (impl_isLong_1.calls (rdOf ByteArray.empty l0 x8_1) true _ A6.out).mono ?_); rintro e w' ⟨rfl, ⟨nd, rfl⟩⟩))
       go_ret
       exact ⟨z2_, z13_⟩
      ·replace c7 := Bool.eq_false_iff.mpr c7
       subst c7
       have H1 : (slices_IndexFunc_string_string_impl_isLong_1.l0 k1 l0 (l0.length : Int) (wrap64 (x8_1 + 1))) = some r := by rw [if_neg (show ¬ (false = true) by decide)] at H; exact H
       clear H
       have H := H1
       clear H1
       have H' := Aside0.mk H
       clear H
       have p373 : 0 ≤ (x8_1 : Int) := of_decide_eq_true (z3_)
       have q373 : x8_1 < (l0.length : Int) := of_decide_eq_true (z3_)
       obtain ⟨ad373, e373, hx373_0⟩ := Kd.at_string HR0.out x8_1 p373 q373
       cases e373
       replace p373 := eq_true p373
       replace q373 := eq_true q373
       go_wp2_with (first | (go_at_call 159; (with_reducible refine (impl_isLong_1.calls (rdOf ByteArray.empty l0 x8_1) false _ A6.out).mono ?_); rintro e w' ⟨rfl, ⟨nd, rfl⟩⟩))
       go_roundg k1
       case measure => have := HK1.out; omega
       case rel => exact ⟨(wrap64 (x8_1 + 1)), (z2_), H', ⟨by have := HK1.out; omega⟩, z13_⟩
     ·rw [if_neg c5] at H
      exact absurd H (by simp)
    ·rw [if_neg c4] at H
     exact absurd H (by simp)
   ·rw [if_neg c3] at H
    have c3b0 : decide (x8_1 < (l0.length : Int)) = false := decide_eq_false c3
    clear c3
    obtain rfl := Option.some.inj H
    go_wp2
    go_ret
    exact ⟨z2_, z13_⟩


/-! ### slices_ContainsFunc_string_string_impl_isLong_1: function 158 -/
def slices_ContainsFunc_string_string_impl_isLong_1.f (k : Nat) (l0 : List ByteArray)  : Option (Bool) := (slices_IndexFunc_string_string_impl_isLong_1.f k l0).bind fun t375 => (some (decide (t375 ≥ 0)))
theorem slices_ContainsFunc_string_string_impl_isLong_1.mono : ∀ a0 k, LeO (slices_ContainsFunc_string_string_impl_isLong_1.f k a0) (slices_ContainsFunc_string_string_impl_isLong_1.f (k + 1) a0) := by
 intro a0 k
 unfold slices_ContainsFunc_string_string_impl_isLong_1.f
 repeat' first
   | (with_reducible exact slices_IndexFunc_string_string_impl_isLong_1.mono _ _)
   | (with_reducible exact LeO.refl _)
   | (with_reducible exact LeO.none _)
   | (with_reducible refine LeO.ite ?_ ?_)
   | (with_reducible refine LeO.bind ?_ (fun _ => ?_))
   | exact slices_IndexFunc_string_string_impl_isLong_1.mono _ _
   | exact LeO.none _
   | refine LeO.ite ?_ ?_
   | refine LeO.bind ?_ (fun _ => ?_)
set_option maxHeartbeats 8000000 in
set_option maxRecDepth 100000 in
theorem slices_ContainsFunc_string_string_impl_isLong_1.calls (k : Nat) (A0 : Option Addr) (c0 : Nat) (l0 : List ByteArray)  (r : Bool) (w : World) (hr0 : Kd.C Kd.string w A0 l0.length l0) (hc0 : l0.length ≤ c0) (h : slices_ContainsFunc_string_string_impl_isLong_1.f k l0 = some r) :
  Calls Try.prog 158 #[.slice A0 l0.length c0, .func (.func 159) #[] #[]] w fun e w' => e = .returned (.bool r) ∧ Drawn0 w w' := by
 have HR0 := Aside0.mk hr0
 have HC0 := Aside0.mk hc0
 clear hr0 hc0
 have H : ((slices_IndexFunc_string_string_impl_isLong_1.f k l0).bind fun t375 => (some (decide (t375 ≥ 0)))) = some r := h
 clear h
 replace H := Option.bind_eq_some_iff.mp H
 obtain ⟨t375, A30, H⟩ := H
 replace H : (some (decide (t375 ≥ 0))) = some r := H
 have A3 := Aside0.mk A30
 clear A30
 obtain rfl := Option.some.inj H
 go_enter Try.func158, Try.ntmps158
 go_wp2_with (first | ((with_reducible refine gate_callee (f := 202) rfl ?_); refine goesL_ (some 7) rfl rfl Try.func202 (by kernel_rfl) rfl #[.slice A0 l0.length c0, .func (.func 159) #[] #[]] rfl (z0_) ?_; (with_reducible refine (slices_IndexFunc_string_string_impl_isLong_1.calls k _ _ l0  t375 _ ?side1 ?side2 A3.out).mono ?_); (case side1 => repeat (first | exact HR0.out | (with_reducible refine Kd.C_alloc ?_ _) | (with_reducible refine Kd.C_drewN ?_ _) | (with_reducible refine Kd.C_drew ?_))); (case side2 => exact HC0.out); rintro e w' ⟨rfl, ⟨nd, rfl⟩⟩; refine ⟨_, rfl, ?_⟩))
 go_ret
 exact ⟨z2_, z13_⟩


/-! ### impl_isLong: function 93 -/
def impl_isLong.f (k : Nat) (l0 : List ByteArray) : Option (Bool) := (slices_ContainsFunc_string_string_impl_isLong_1.f k l0).bind fun t376 => (some t376)
theorem impl_isLong.mono : ∀ a0 k, LeO (impl_isLong.f k a0) (impl_isLong.f (k + 1) a0) := by
 intro a0 k
 unfold impl_isLong.f
 repeat' first
   | (with_reducible exact slices_ContainsFunc_string_string_impl_isLong_1.mono _ _)
   | (with_reducible exact LeO.refl _)
   | (with_reducible exact LeO.none _)
   | (with_reducible refine LeO.ite ?_ ?_)
   | (with_reducible refine LeO.bind ?_ (fun _ => ?_))
   | exact slices_ContainsFunc_string_string_impl_isLong_1.mono _ _
   | exact LeO.none _
   | refine LeO.ite ?_ ?_
   | refine LeO.bind ?_ (fun _ => ?_)
set_option maxHeartbeats 8000000 in
set_option maxRecDepth 100000 in
theorem impl_isLong.calls (k : Nat) (A0 : Option Addr) (c0 : Nat) (l0 : List ByteArray) (r : Bool) (w : World) (hr0 : Kd.C Kd.string w A0 l0.length l0) (hc0 : l0.length ≤ c0) (h : impl_isLong.f k l0 = some r) :
  Calls Try.prog 93 #[.slice A0 l0.length c0] w fun e w' => e = .returned (.bool r) ∧ Drawn0 w w' := by
 have HR0 := Aside0.mk hr0
 have HC0 := Aside0.mk hc0
 clear hr0 hc0
 have H : ((slices_ContainsFunc_string_string_impl_isLong_1.f k l0).bind fun t376 => (some t376)) = some r := h
 clear h
 replace H := Option.bind_eq_some_iff.mp H
 obtain ⟨t376, A20, H⟩ := H
 replace H : (some t376) = some r := H
 have A2 := Aside0.mk A20
 clear A20
 obtain rfl := Option.some.inj H
 go_enter Try.func93, Try.ntmps93
 go_wp2_with (first | ((with_reducible refine gate_callee (f := 158) rfl ?_); refine goesL_ (some 4) rfl rfl Try.func158 (by kernel_rfl) rfl #[.slice A0 l0.length c0, .func (.func 159) #[] #[]] rfl (z0_) ?_; (with_reducible refine (slices_ContainsFunc_string_string_impl_isLong_1.calls k _ _ l0  t376 _ ?side1 ?side2 A2.out).mono ?_); (case side1 => repeat (first | exact HR0.out | (with_reducible refine Kd.C_alloc ?_ _) | (with_reducible refine Kd.C_drewN ?_ _) | (with_reducible refine Kd.C_drew ?_))); (case side2 => exact HC0.out); rintro e w' ⟨rfl, ⟨nd, rfl⟩⟩; refine ⟨_, rfl, ?_⟩))
 go_ret
 exact ⟨z2_, z13_⟩


/-! ### impl_size: function 162 -/
def impl_size.f (a0 : ByteArray) : Option (Int) := some (a0.size : Int)
set_option maxHeartbeats 8000000 in
set_option maxRecDepth 100000 in
theorem impl_size.calls (a0 : ByteArray) (r : Int) (w : World) (h : impl_size.f a0 = some r) :
  Calls Try.prog 162 #[.string a0] w fun e w' => e = .returned (.int .i64 r) ∧ Drawn0 w w' := by
 have H : (some (a0.size : Int)) = some r := h
 clear h
 obtain rfl := Option.some.inj H
 go_enter Try.func162, Try.ntmps162
 go_wp2
 go_ret
 exact ⟨z2_, z13_⟩

end Go.Proofs.Ytconpopbpphpgaa.P
