/- For every set the program's Values and the reference's return the same texts, of their own memory, and the set stays as it was. No condition. (Part 6 of 6: written by programs of this workplace and by hand, merged.) -/
import Derived.Test.YtdjhclgkkklajaaMFnExactValuesa
import Derived.Test.YtdjhclgkkklajaaMFnExactValuese
import Derived.Test.YtdjhclgkkklajaaMFnExactValuesd
import Derived.Test.YtdjhclgkkklajaaMFnExactValuesWWords
import Derived.Test.YtdjhclgkkklajaaMFnExactValuesWMore
import Derived.Laws.BitsLemmas
import Derived.Test.YtdjhclgkkklajaaMFnExactValuesb
import Derived.Test.YtdjhclgkkklajaaMFnExactValuesc
import Derived.Test.YtdjhclgkkklajaaRows
import Derived.WalkKit
import Derived.ProofKit
import Derived.OpenShut
import Derived.ShutString
import Derived.ChangeOld
import Derived.Below
import Derived.SizedLaws
set_option linter.unusedVariables false
set_option linter.unusedSimpArgs false

namespace Go.Proofs.Ytdjhclgkkklajaa.P
open Go.RowKit Go.Proofs.YtdjhclgkkklajaaW.PrintWords Go.Proofs.YtdjhclgkkklajaaW.PrintLast Go.Proofs.YtdjhclgkkklajaaW.PrintMore
attribute [local go_sem] max2_int min2_int max_two min_two max_three min_three max_four min_four   -- for this text's walks alone
set_option linter.unusedVariables false
set_option linter.unusedSimpArgs false

/-! ### laws_heldStringS: function 61 -/
def laws_heldStringS.l0 : Nat → List ByteArray → Int → Int → Option (Int)
 | 0, _, _, _ => none
 | k + 1, x0, x1, x5 => if x5 < (x0.length : Int) then (if 0 ≤ x5 then ((laws_markText.f k x1).bind fun t752 => (if (rdOf ByteArray.empty x0 x5).toList = t752.toList then (laws_heldStringS.l0 k x0 (wrap64 (x1 + 1)) (wrap64 (x5 + 1))) else (none))) else (none)) else (some x1)
def laws_heldStringS.f (k : Nat) (l0 : List ByteArray) (a1 : Int) : Option (Int) := laws_heldStringS.l0 k l0 a1 0
theorem laws_heldStringS.mono_l : ∀ k, (∀ y0 y1 y2, LeO (laws_heldStringS.l0 k y0 y1 y2) (laws_heldStringS.l0 (k + 1) y0 y1 y2))
 | 0 => fun _ _ _ r h => by simp [laws_heldStringS.l0] at h
 | k + 1 => by
  have ih0 := laws_heldStringS.mono_l k
  ·intro y0 y1 y2
   unfold laws_heldStringS.l0
   repeat' first
   | (with_reducible exact ih0 _ _ _)
   | (with_reducible exact laws_markText.mono _ _)
   | (with_reducible exact LeO.refl _)
   | (with_reducible exact LeO.none _)
   | (with_reducible refine LeO.ite ?_ ?_)
   | (with_reducible refine LeO.bind ?_ (fun _ => ?_))
   | exact ih0 _ _ _
   | exact laws_markText.mono _ _
   | exact LeO.none _
   | refine LeO.ite ?_ ?_
   | refine LeO.bind ?_ (fun _ => ?_)
theorem laws_heldStringS.mono : ∀ a0 a1 k, LeO (laws_heldStringS.f k a0 a1) (laws_heldStringS.f (k + 1) a0 a1) := by
 intro a0 a1 k
 have ih0 := laws_heldStringS.mono_l k
 unfold laws_heldStringS.f
 repeat' first
   | (with_reducible exact ih0 _ _ _)
   | (with_reducible exact laws_markText.mono _ _)
   | (with_reducible exact LeO.refl _)
   | (with_reducible exact LeO.none _)
   | (with_reducible refine LeO.ite ?_ ?_)
   | (with_reducible refine LeO.bind ?_ (fun _ => ?_))
   | exact ih0 _ _ _
   | exact laws_markText.mono _ _
   | exact LeO.none _
   | refine LeO.ite ?_ ?_
   | refine LeO.bind ?_ (fun _ => ?_)
set_option maxHeartbeats 8000000 in
set_option maxRecDepth 100000 in
theorem laws_heldStringS.calls (k : Nat) (A0 : Option Addr) (c0 : Nat) (l0 : List ByteArray) (a1 : Int) (r : Int) (w : World) (hr0 : Kd.C Kd.string w A0 l0.length l0) (hc0 : l0.length ≤ c0) (h : laws_heldStringS.f k l0 a1 = some r) :
  Calls Try.prog 61 #[.slice A0 l0.length c0, .int .i64 a1] w fun e w' => e = .returned (.int .i64 r) ∧ Below w.heap.size w w' := by
 have HR0 := Aside0.mk hr0
 have HC0 := Aside0.mk hc0
 clear hr0 hc0
 have HB := Aside0.mk (Below.refl w.heap.size w)
 have H : (laws_heldStringS.l0 k l0 a1 0) = some r := h
 clear h
 have H' := Aside0.mk H
 clear H
 go_enter Try.func61, Try.ntmps61
 go_wp2
 go_loopg [1, 5] k (fun kq v1 v5 w' => ∃ (x1_1 : Int) (x5_1 : Int), v1 = .int .i64 x1_1 ∧ v5 = .int .i64 x5_1 ∧ Aside0 (laws_heldStringS.l0 kq l0 x1_1 x5_1 = some r) ∧ Aside0 (kq ≤ k) ∧ Aside0 (Below w.heap.size w w'))
 case atStart => exact ⟨(a1), (0), (by first | rfl | (simp; done) | (simp [*]; done)), (by first | rfl | (simp; done) | (simp [*]; done)), H', ⟨Nat.le_refl _⟩, ⟨by repeat (first | (with_reducible first | exact HB.out | apply below_alloc | apply pw_below_drewN | apply below_drew1) | exact HB.out)⟩⟩
 case round =>
  clear H'
  try clear p2
  obtain ⟨x1_1, x5_1, rfl, rfl, HA, HK1, HB⟩ := hrel
  cases gk with
  | zero => exact absurd HA.out (by simp [laws_heldStringS.l0])
  | succ k1 =>
   have H := HA.out
   clear HA
   simp only [laws_heldStringS.l0] at H
   by_cases c3 : x5_1 < (l0.length : Int)
   ·rw [if_pos c3] at H
    have c3b0 : decide (x5_1 < (l0.length : Int)) = true := decide_eq_true c3
    clear c3
    by_cases c4 : 0 ≤ x5_1
    ·rw [if_pos c4] at H
     have c4b0 : decide (0 ≤ x5_1) = true := decide_eq_true c4
     clear c4
     replace H := Option.bind_eq_some_iff.mp H
     obtain ⟨t752, A50, H⟩ := H
     replace H : (if (rdOf ByteArray.empty l0 x5_1).toList = t752.toList then (laws_heldStringS.l0 k1 l0 (wrap64 (x1_1 + 1)) (wrap64 (x5_1 + 1))) else (none)) = some r := H
     have A5 := Aside0.mk A50
     clear A50
     by_cases c6 : (rdOf ByteArray.empty l0 x5_1).toList = t752.toList
     ·rw [if_pos c6] at H
      have c6b0 : ((rdOf ByteArray.empty l0 x5_1).toList == t752.toList) = true := beq_iff_eq.mpr c6
      have c6b1 : ((rdOf ByteArray.empty l0 x5_1).toList != t752.toList) = false := bne_eq_false_iff_eq.mpr c6
      clear c6
      have H' := Aside0.mk H
      clear H
      try go_wp2
      have n0_ := Aside0.mk (below_drew1 HB.out)
      clear HB
      have HB := n0_
      clear n0_
      have p751 : 0 ≤ (x5_1 : Int) := of_decide_eq_true (by first | (with_reducible assumption) | assumption)
      have q751 : x5_1 < (l0.length : Int) := of_decide_eq_true (by first | (with_reducible assumption) | assumption)
      obtain ⟨ad751, e751, hx751_0⟩ := Kd.at_string HR0.out x5_1 p751 q751
      have hw751_0 := hx751_0
      cases e751
      replace hx751_0 := (HB.out.cell (World.block_lt_of_cell? w _ hx751_0)).trans hx751_0
      replace p751 := eq_true p751
      replace q751 := eq_true q751
      refine start_ (n := 7) (S := fun w' => w'.cell? (ad751.add (x5_1).toNat) = some (.string (rdOf ByteArray.empty l0 x5_1))) (ds := []) #[false, false, false, false, false, false, false] (by kernel_rfl) rfl rfl (((HB.out.cell (World.block_lt_of_cell? w _ hw751_0)).trans hw751_0)) (fun hHeld => ?_)
      generalize wr.drew = w7 at HB hx751_0 hHeld ⊢
      refine pure_ (i := 0) (N := some 12) (v := ?_) (a' := ?_) #[true, false, false, false, false, false, false] rfl rfl (by kernel_rfl) (fun _ _ _ h => h) (Or.inl ⟨by rfl, ?_⟩) ?_ ?_
      rotate_left
      ·intro w'
       go_simp
       with_reducible rfl
      rotate_left
      ·simp only [Act.put, sa_, s0_, ss_, i64_w, i32_w]
       rfl
      refine pure_ (i := 1) (N := some 13) (v := ?_) (a' := ?_) #[true, true, false, false, false, false, false] rfl rfl (by kernel_rfl) (fun _ _ _ h => h) (Or.inl ⟨by rfl, ?_⟩) ?_ ?_
      rotate_left
      ·intro w'
       go_simp
       with_reducible rfl
      rotate_left
      ·simp only [Act.put, sa_, s0_, ss_, i64_w, i32_w]
       rfl
      refine pure_ (i := 2) (N := some 14) (v := ?_) (a' := ?_) #[true, true, true, false, false, false, false] rfl rfl (by kernel_rfl) (fun _ _ _ h => h) (Or.inl ⟨by rfl, ?_⟩) ?_ ?_
      rotate_left
      ·intro w'
       go_simp
       with_reducible rfl
      rotate_left
      ·simp only [Act.put, sa_, s0_, ss_, i64_w, i32_w]
       rfl
      refine pure_ (i := 4) (N := some 16) (v := ?_) (a' := ?_) #[true, true, true, false, true, false, false] rfl rfl (by kernel_rfl) (fun _ _ _ h => h) (Or.inl ⟨by rfl, ?_⟩) ?_ ?_
      rotate_left
      ·intro w'
       go_simp
       with_reducible rfl
      rotate_left
      ·simp only [Act.put, sa_, s0_, ss_, i64_w, i32_w]
       rfl
      refine take_ (i := 3) (N := some 15) (v := ?_) (a' := ?_) #[true, true, true, true, true, false, false] rfl rfl (by kernel_rfl) (fun _ _ _ h => h) (Or.inl ⟨by rfl, ?_⟩) hHeld ?_ ?_
      rotate_left
      ·intro w' s0
       go_simp
       with_reducible rfl
      rotate_left
      ·simp only [Act.put, sa_, s0_, ss_, i64_w, i32_w]
       rfl
      refine one_ (i := 5) (N := some 17) #[true, true, true, true, true, true, false] rfl rfl (by kernel_rfl) (by decide) (fun K hK => ?_)
      refine goes_ Try.func127 (by kernel_rfl) rfl #[.int .i64 x1_1] (by rfl) rfl rfl (by (try simp only [List.map_toArray, List.map_cons, List.map_nil]); first | done | rfl | (simp only [List.length_drop, List.length_take]; rfl)) ?_
      with_reducible refine (laws_markText.calls k1 x1_1 t752 _ A5.out).mono ?_
      rintro e w8 ⟨rfl, hb⟩
      refine ⟨_, rfl, ?_⟩
      have n0_ := Aside0.mk (below_step (by repeat (first | (with_reducible first | exact HB.out | apply below_alloc | apply pw_below_drewN | apply below_drew1) | exact HB.out)) hb)
      clear HB
      have HB := n0_
      clear n0_
      (try clear hb)
      (try clear hb2)
      (try clear hk)
      (try clear hi)
      refine hK.out _ _ (((HB.out.cell (World.block_lt_of_cell? w _ hw751_0)).trans hw751_0)) (fun hHeld => ?_)
      clear hK K
      refine norm_ (a' := ?_) ?_ ?_
      rotate_left
      ·show Act.put _ (some 17) _ = _
       simp only [Act.put, sa_, s0_, ss_, i64_w, i32_w]
       rfl
      refine pure_ (i := 6) (N := some 18) (v := ?_) (a' := ?_) #[true, true, true, true, true, true, true] rfl rfl (by kernel_rfl) (fun _ _ _ h => h) (Or.inl ⟨by rfl, ?_⟩) ?_ ?_
      rotate_left
      ·intro w'
       go_simp
       with_reducible rfl
      rotate_left
      ·simp only [Act.put, sa_, s0_, ss_, i64_w, i32_w]
       rfl
      refine done_ (by kernel_rfl) ?_
      try go_wp2
      go_roundg k1
      case measure => have := HK1.out; omega
      case rel => exact ⟨(wrap64 (x1_1 + 1)), (wrap64 (x5_1 + 1)), (by first | rfl | (simp; done) | (simp [*]; done)), (by first | rfl | (simp; done) | (simp [*]; done)), H', ⟨by have := HK1.out; omega⟩, ⟨by repeat (first | (with_reducible first | exact HB.out | apply below_alloc | apply pw_below_drewN | apply below_drew1) | exact HB.out)⟩⟩
     ·rw [if_neg c6] at H
      exact absurd H (by simp)
    ·rw [if_neg c4] at H
     exact absurd H (by simp)
   ·rw [if_neg c3] at H
    have c3b0 : decide (x5_1 < (l0.length : Int)) = false := decide_eq_false c3
    clear c3
    obtain rfl := Option.some.inj H
    go_wp2
    go_ret
    exact ⟨by first | rfl | (simp [errW_none, errW_some] <;> rfl) | (simp [*, errW_none, errW_some] <;> rfl), by repeat (first | (with_reducible first | exact HB.out | apply below_alloc | apply pw_below_drewN | apply below_drew1) | exact HB.out)⟩

end Go.Proofs.Ytdjhclgkkklajaa.P

namespace Go.Proofs.Ytdjhclgkkklajaa.P
open Go.RowKit Go.Proofs.YtdjhclgkkklajaaW.PrintWords Go.Proofs.YtdjhclgkkklajaaW.PrintLast Go.Proofs.YtdjhclgkkklajaaW.PrintMore
attribute [local go_sem] max2_int min2_int max_two min_two max_three min_three max_four min_four   -- for this text's walks alone
set_option linter.unusedVariables false
set_option linter.unusedSimpArgs false

/-! ### laws_FnExactValues: function 11 -/
def laws_FnExactValues.j0 : Nat → List ByteArray → List ByteArray → Bool → List (S36) → List (S177) → Option (Bool)
 | 0, _, _, _, _, _ => none
 | k + 1, x4, x6, x42, x754000, x754001 => if x42 = true then (none) else ((laws_markStringS.f k x6 1).bind fun bt786 => ((laws_heldStringS.f k bt786.2 1).bind fun t788 => (if t788 < 0 then (none) else (if t788 = bt786.1 then ((laws_toSet.f k x754000 x754001).bind fun bt789 => ((impl_Values.f k bt789.1 bt789.2).bind fun t795 => ((laws_eqStringS.f k t795 x4).bind fun t798 => (if t798 = true then ((laws_heldStringS.f k bt786.2 1).bind fun t799 => (if t799 < 0 then (none) else (if t799 = bt786.1 then (some true) else (none)))) else (none))))) else (none)))))
def laws_FnExactValues.f (k : Nat) (l0_0 : List (S36)) (l0_1 : List (S177)) : Option (Bool) := (laws_szSet.f k l0_0 l0_1 1048576).bind fun t754 => (if t754 < 0 then (some true) else ((laws_toSet.f k l0_0 l0_1).bind fun bt755 => ((spec_Values.f k bt755.1 bt755.2).bind fun t761 => ((laws_toSet.f k l0_0 l0_1).bind fun bt764 => ((impl_Values.f k bt764.1 bt764.2).bind fun t771 => ((laws_eqStringS.f k t771 t761).bind fun t774 => (if t774 = true then ((laws_toSet.f k l0_0 l0_1).bind fun bt775 => ((laws_eqSet.f k bt764.1 bt764.2 bt775.1 bt775.2).bind fun t781 => (if t781 = true then ((laws_markSet.f k bt764.1 bt764.2 1).bind fun bt782 => (if bt782.1 < 0 then (laws_FnExactValues.j0 k t761 t771 true l0_0 l0_1) else ((laws_eqStringS.f k t771 t761).bind fun t785 => (laws_FnExactValues.j0 k t761 t771 (!t785) l0_0 l0_1)))) else (none)))) else (none))))))))
theorem laws_FnExactValues.mono_l : ∀ k, (∀ y0 y1 y2 y3 y4, LeO (laws_FnExactValues.j0 k y0 y1 y2 y3 y4) (laws_FnExactValues.j0 (k + 1) y0 y1 y2 y3 y4))
 | 0 => fun _ _ _ _ _ r h => by simp [laws_FnExactValues.j0] at h
 | k + 1 => by
  have ih0 := laws_FnExactValues.mono_l k
  ·intro y0 y1 y2 y3 y4
   unfold laws_FnExactValues.j0
   repeat' first
   | (with_reducible exact ih0 _ _ _ _ _)
   | (with_reducible exact impl_Values.mono _ _ _)
   | (with_reducible exact laws_eqSet.mono _ _ _ _ _)
   | (with_reducible exact laws_eqStringS.mono _ _ _)
   | (with_reducible exact laws_heldStringS.mono _ _ _)
   | (with_reducible exact laws_markSet.mono _ _ _ _)
   | (with_reducible exact laws_markStringS.mono _ _ _)
   | (with_reducible exact laws_szSet.mono _ _ _ _)
   | (with_reducible exact laws_toSet.mono _ _ _)
   | (with_reducible exact spec_Values.mono _ _ _)
   | (with_reducible exact LeO.refl _)
   | (with_reducible exact LeO.none _)
   | (with_reducible refine LeO.ite ?_ ?_)
   | (with_reducible refine LeO.bind ?_ (fun _ => ?_))
   | exact ih0 _ _ _ _ _
   | exact impl_Values.mono _ _ _
   | exact laws_eqSet.mono _ _ _ _ _
   | exact laws_eqStringS.mono _ _ _
   | exact laws_heldStringS.mono _ _ _
   | exact laws_markSet.mono _ _ _ _
   | exact laws_markStringS.mono _ _ _
   | exact laws_szSet.mono _ _ _ _
   | exact laws_toSet.mono _ _ _
   | exact spec_Values.mono _ _ _
   | exact LeO.none _
   | refine LeO.ite ?_ ?_
   | refine LeO.bind ?_ (fun _ => ?_)
theorem laws_FnExactValues.mono : ∀ a0 a1 k, LeO (laws_FnExactValues.f k a0 a1) (laws_FnExactValues.f (k + 1) a0 a1) := by
 intro a0 a1 k
 have ih0 := laws_FnExactValues.mono_l k
 unfold laws_FnExactValues.f
 repeat' first
   | (with_reducible exact ih0 _ _ _ _ _)
   | (with_reducible exact impl_Values.mono _ _ _)
   | (with_reducible exact laws_eqSet.mono _ _ _ _ _)
   | (with_reducible exact laws_eqStringS.mono _ _ _)
   | (with_reducible exact laws_heldStringS.mono _ _ _)
   | (with_reducible exact laws_markSet.mono _ _ _ _)
   | (with_reducible exact laws_markStringS.mono _ _ _)
   | (with_reducible exact laws_szSet.mono _ _ _ _)
   | (with_reducible exact laws_toSet.mono _ _ _)
   | (with_reducible exact spec_Values.mono _ _ _)
   | (with_reducible exact LeO.refl _)
   | (with_reducible exact LeO.none _)
   | (with_reducible refine LeO.ite ?_ ?_)
   | (with_reducible refine LeO.bind ?_ (fun _ => ?_))
   | exact ih0 _ _ _ _ _
   | exact impl_Values.mono _ _ _
   | exact laws_eqSet.mono _ _ _ _ _
   | exact laws_eqStringS.mono _ _ _
   | exact laws_heldStringS.mono _ _ _
   | exact laws_markSet.mono _ _ _ _
   | exact laws_markStringS.mono _ _ _
   | exact laws_szSet.mono _ _ _ _
   | exact laws_toSet.mono _ _ _
   | exact spec_Values.mono _ _ _
   | exact LeO.none _
   | refine LeO.ite ?_ ?_
   | refine LeO.bind ?_ (fun _ => ?_)
set_option maxHeartbeats 8000000 in
set_option maxRecDepth 100000 in
theorem laws_FnExactValues.calls (k : Nat) (A0_0 : Option Addr) (c0_0 : Nat) (l0_0 : List (S36)) (A0_1 : Option Addr) (c0_1 : Nat) (l0_1 : List (S177)) (r : Bool) (w : World) (hr0_0 : Kd.C k36 w A0_0 l0_0.length l0_0) (hc0_0 : l0_0.length ≤ c0_0) (hr0_1 : Kd.C k177 w A0_1 l0_1.length l0_1) (hc0_1 : l0_1.length ≤ c0_1) (h : laws_FnExactValues.f k l0_0 l0_1 = some r) :
  Calls Try.prog 11 #[.agg #[.slice A0_0 l0_0.length c0_0, .slice A0_1 l0_1.length c0_1]] w fun e w' => e = .returned (.bool r) ∧ Below w.heap.size w w' := by
 have hu70 := Try.underlying70
 have hu75 := Try.underlying75
 have HR0_0 := Aside0.mk hr0_0
 have HC0_0 := Aside0.mk hc0_0
 clear hr0_0 hc0_0
 have HR0_1 := Aside0.mk hr0_1
 have HC0_1 := Aside0.mk hc0_1
 clear hr0_1 hc0_1
 have HB := Aside0.mk (Below.refl w.heap.size w)
 have H : ((laws_szSet.f k l0_0 l0_1 1048576).bind fun t754 => (if t754 < 0 then (some true) else ((laws_toSet.f k l0_0 l0_1).bind fun bt755 => ((spec_Values.f k bt755.1 bt755.2).bind fun t761 => ((laws_toSet.f k l0_0 l0_1).bind fun bt764 => ((impl_Values.f k bt764.1 bt764.2).bind fun t771 => ((laws_eqStringS.f k t771 t761).bind fun t774 => (if t774 = true then ((laws_toSet.f k l0_0 l0_1).bind fun bt775 => ((laws_eqSet.f k bt764.1 bt764.2 bt775.1 bt775.2).bind fun t781 => (if t781 = true then ((laws_markSet.f k bt764.1 bt764.2 1).bind fun bt782 => (if bt782.1 < 0 then (laws_FnExactValues.j0 k t761 t771 true l0_0 l0_1) else ((laws_eqStringS.f k t771 t761).bind fun t785 => (laws_FnExactValues.j0 k t761 t771 (!t785) l0_0 l0_1)))) else (none)))) else (none))))))))) = some r := h
 clear h
 replace H := Option.bind_eq_some_iff.mp H
 obtain ⟨t754, A20, H⟩ := H
 replace H : (if t754 < 0 then (some true) else ((laws_toSet.f k l0_0 l0_1).bind fun bt755 => ((spec_Values.f k bt755.1 bt755.2).bind fun t761 => ((laws_toSet.f k l0_0 l0_1).bind fun bt764 => ((impl_Values.f k bt764.1 bt764.2).bind fun t771 => ((laws_eqStringS.f k t771 t761).bind fun t774 => (if t774 = true then ((laws_toSet.f k l0_0 l0_1).bind fun bt775 => ((laws_eqSet.f k bt764.1 bt764.2 bt775.1 bt775.2).bind fun t781 => (if t781 = true then ((laws_markSet.f k bt764.1 bt764.2 1).bind fun bt782 => (if bt782.1 < 0 then (laws_FnExactValues.j0 k t761 t771 true l0_0 l0_1) else ((laws_eqStringS.f k t771 t761).bind fun t785 => (laws_FnExactValues.j0 k t761 t771 (!t785) l0_0 l0_1)))) else (none)))) else (none)))))))) = some r := H
 have A2 := Aside0.mk A20
 clear A20
 by_cases c3 : t754 < 0
 ·rw [if_pos c3] at H
  have c3b0 : decide (t754 < 0) = true := decide_eq_true c3
  clear c3
  obtain rfl := Option.some.inj H
  go_enter Try.func11, Try.ntmps11
  go_wp2_with (first | ((with_reducible refine gate_dst (N := 1) rfl ?_); refine box_event ?hg (N := 1) ?hd (cs := #[.slice A0_0 l0_0.length c0_0, .slice A0_1 l0_1.length c0_1]) (t := 70) ?hr ?_; (case hd => rfl); (case hg => rfl); (case hr => first | (go_simp; done) | (go_simp; rfl)); intro gb753 hg w4 hbox hb; have n0_ := Aside0.mk (below_step (by repeat (first | (with_reducible first | exact HB.out | apply below_alloc | apply pw_below_drewN | apply below_drew1) | exact HB.out)) hb); have n1_ := Aside0.mk (hbox); have n2_ := Aside0.mk ((by rw [hg]; exact (below_size (by repeat (first | (with_reducible first | exact HB.out | apply below_alloc | apply pw_below_drewN | apply below_drew1) | exact HB.out))) : w.heap.size ≤ gb753)); have n3_ := Aside0.mk ((by rw [hg]; exact (below_size (by repeat (first | (with_reducible first | exact HB.out | apply below_alloc | apply pw_below_drewN | apply below_drew1) | exact HB.out))) : w.heap.size ≤ gb753)); clear HB; have HB := n0_; have BK753 := n1_; have GW753 := n2_; have GE753 := n3_; clear n0_ n1_ n2_ n3_; clear hb hbox hg; have hcz5_0 : w4.cell? ⟨gb753, 0, none⟩ = some (.slice A0_0 l0_0.length c0_0) := (blk_cell BK753.out 0).trans rfl; have hcz5_1 : w4.cell? ⟨gb753, 1, none⟩ = some (.slice A0_1 l0_1.length c0_1) := (blk_cell BK753.out 1).trans rfl; have hfz5_0 := blk_frozen BK753.out 0; have hfz5_1 := blk_frozen BK753.out 1) | ((with_reducible refine gate_callee (f := 42) rfl ?_); refine goesL_ (some 13) rfl rfl Try.func42 (by kernel_rfl) rfl #[.agg #[.slice A0_0 l0_0.length c0_0, .slice A0_1 l0_1.length c0_1], .int .i64 1048576] rfl (by (try simp only [List.map_toArray, List.map_cons, List.map_nil]); first | done | rfl | (simp only [List.length_drop, List.length_take]; rfl)) ?_; (with_reducible refine (laws_szSet.calls k _ _ l0_0 _ _ l0_1 1048576 t754 _ ?side1 ?side2 ?side3 ?side4 A2.out).mono ?_); (case side1 => repeat (first | exact (Kd.C_below HR0_0.out HB.out) | (with_reducible refine Kd.C_alloc ?_ _) | (with_reducible refine Kd.C_drewN ?_ _) | (with_reducible refine Kd.C_drew ?_))); (case side2 => exact HC0_0.out); (case side3 => repeat (first | exact (Kd.C_below HR0_1.out HB.out) | (with_reducible refine Kd.C_alloc ?_ _) | (with_reducible refine Kd.C_drewN ?_ _) | (with_reducible refine Kd.C_drew ?_))); (case side4 => exact HC0_1.out); rintro e w6 ⟨rfl, hb⟩; refine ⟨_, rfl, ?_⟩; have n0_ := Aside0.mk (blk_below (g := gb753) (o := .cells #[.slice A0_0 l0_0.length c0_0, .slice A0_1 l0_1.length c0_1] 70 (0, 0)) (by (with_reducible repeat (first | refine blk_drewN ?_ _ | refine blk_drew ?_ | refine blk_alloc ?_ _)); exact BK753.out) hb); have n1_ := Aside0.mk (below_step (by repeat (first | (with_reducible first | exact HB.out | apply below_alloc | apply pw_below_drewN | apply below_drew1 | refine below_set ?_ GE753.out) | exact HB.out)) hb); clear BK753; clear HB; have BK753 := n0_; have HB := n1_; clear n0_ n1_; (try clear hb); (try clear hb2); (try clear hk); (try clear hi)))
  go_ret
  exact ⟨by first | rfl | (simp [errW_none, errW_some] <;> rfl) | (simp [*, errW_none, errW_some] <;> rfl), by repeat (first | (with_reducible first | exact HB.out | apply below_alloc | apply pw_below_drewN | apply below_drew1 | refine below_set ?_ GE753.out) | exact HB.out)⟩
 ·rw [if_neg c3] at H
  have c3b0 : decide (t754 < 0) = false := decide_eq_false c3
  clear c3
  replace H := Option.bind_eq_some_iff.mp H
  obtain ⟨⟨t755, t758⟩, A70, H⟩ := H
  replace H : ((spec_Values.f k t755 t758).bind fun t761 => ((laws_toSet.f k l0_0 l0_1).bind fun bt764 => ((impl_Values.f k bt764.1 bt764.2).bind fun t771 => ((laws_eqStringS.f k t771 t761).bind fun t774 => (if t774 = true then ((laws_toSet.f k l0_0 l0_1).bind fun bt775 => ((laws_eqSet.f k bt764.1 bt764.2 bt775.1 bt775.2).bind fun t781 => (if t781 = true then ((laws_markSet.f k bt764.1 bt764.2 1).bind fun bt782 => (if bt782.1 < 0 then (laws_FnExactValues.j0 k t761 t771 true l0_0 l0_1) else ((laws_eqStringS.f k t771 t761).bind fun t785 => (laws_FnExactValues.j0 k t761 t771 (!t785) l0_0 l0_1)))) else (none)))) else (none)))))) = some r := H
  have A7 := Aside0.mk A70
  clear A70
  replace H := Option.bind_eq_some_iff.mp H
  obtain ⟨t761, A80, H⟩ := H
  replace H : ((laws_toSet.f k l0_0 l0_1).bind fun bt764 => ((impl_Values.f k bt764.1 bt764.2).bind fun t771 => ((laws_eqStringS.f k t771 t761).bind fun t774 => (if t774 = true then ((laws_toSet.f k l0_0 l0_1).bind fun bt775 => ((laws_eqSet.f k bt764.1 bt764.2 bt775.1 bt775.2).bind fun t781 => (if t781 = true then ((laws_markSet.f k bt764.1 bt764.2 1).bind fun bt782 => (if bt782.1 < 0 then (laws_FnExactValues.j0 k t761 t771 true l0_0 l0_1) else ((laws_eqStringS.f k t771 t761).bind fun t785 => (laws_FnExactValues.j0 k t761 t771 (!t785) l0_0 l0_1)))) else (none)))) else (none))))) = some r := H
  have A8 := Aside0.mk A80
  clear A80
  replace H := Option.bind_eq_some_iff.mp H
  obtain ⟨⟨t764, t767⟩, A90, H⟩ := H
  replace H : ((impl_Values.f k t764 t767).bind fun t771 => ((laws_eqStringS.f k t771 t761).bind fun t774 => (if t774 = true then ((laws_toSet.f k l0_0 l0_1).bind fun bt775 => ((laws_eqSet.f k t764 t767 bt775.1 bt775.2).bind fun t781 => (if t781 = true then ((laws_markSet.f k t764 t767 1).bind fun bt782 => (if bt782.1 < 0 then (laws_FnExactValues.j0 k t761 t771 true l0_0 l0_1) else ((laws_eqStringS.f k t771 t761).bind fun t785 => (laws_FnExactValues.j0 k t761 t771 (!t785) l0_0 l0_1)))) else (none)))) else (none)))) = some r := H
  have A9 := Aside0.mk A90
  clear A90
  replace H := Option.bind_eq_some_iff.mp H
  obtain ⟨t771, A100, H⟩ := H
  replace H : ((laws_eqStringS.f k t771 t761).bind fun t774 => (if t774 = true then ((laws_toSet.f k l0_0 l0_1).bind fun bt775 => ((laws_eqSet.f k t764 t767 bt775.1 bt775.2).bind fun t781 => (if t781 = true then ((laws_markSet.f k t764 t767 1).bind fun bt782 => (if bt782.1 < 0 then (laws_FnExactValues.j0 k t761 t771 true l0_0 l0_1) else ((laws_eqStringS.f k t771 t761).bind fun t785 => (laws_FnExactValues.j0 k t761 t771 (!t785) l0_0 l0_1)))) else (none)))) else (none))) = some r := H
  have A10 := Aside0.mk A100
  clear A100
  replace H := Option.bind_eq_some_iff.mp H
  obtain ⟨t774, A110, H⟩ := H
  replace H : (if t774 = true then ((laws_toSet.f k l0_0 l0_1).bind fun bt775 => ((laws_eqSet.f k t764 t767 bt775.1 bt775.2).bind fun t781 => (if t781 = true then ((laws_markSet.f k t764 t767 1).bind fun bt782 => (if bt782.1 < 0 then (laws_FnExactValues.j0 k t761 t771 true l0_0 l0_1) else ((laws_eqStringS.f k t771 t761).bind fun t785 => (laws_FnExactValues.j0 k t761 t771 (!t785) l0_0 l0_1)))) else (none)))) else (none)) = some r := H
  have A11 := Aside0.mk A110
  clear A110
  by_cases c12 : t774 = true
  ·subst c12
   have H1 : ((laws_toSet.f k l0_0 l0_1).bind fun bt775 => ((laws_eqSet.f k t764 t767 bt775.1 bt775.2).bind fun t781 => (if t781 = true then ((laws_markSet.f k t764 t767 1).bind fun bt782 => (if bt782.1 < 0 then (laws_FnExactValues.j0 k t761 t771 true l0_0 l0_1) else ((laws_eqStringS.f k t771 t761).bind fun t785 => (laws_FnExactValues.j0 k t761 t771 (!t785) l0_0 l0_1)))) else (none)))) = some r := by rw [if_pos rfl] at H; exact H
   clear H
   have H := H1
   clear H1
   replace H := Option.bind_eq_some_iff.mp H
   obtain ⟨⟨t775, t778⟩, A130, H⟩ := H
   replace H : ((laws_eqSet.f k t764 t767 t775 t778).bind fun t781 => (if t781 = true then ((laws_markSet.f k t764 t767 1).bind fun bt782 => (if bt782.1 < 0 then (laws_FnExactValues.j0 k t761 t771 true l0_0 l0_1) else ((laws_eqStringS.f k t771 t761).bind fun t785 => (laws_FnExactValues.j0 k t761 t771 (!t785) l0_0 l0_1)))) else (none))) = some r := H
   have A13 := Aside0.mk A130
   clear A130
   replace H := Option.bind_eq_some_iff.mp H
   obtain ⟨t781, A140, H⟩ := H
   replace H : (if t781 = true then ((laws_markSet.f k t764 t767 1).bind fun bt782 => (if bt782.1 < 0 then (laws_FnExactValues.j0 k t761 t771 true l0_0 l0_1) else ((laws_eqStringS.f k t771 t761).bind fun t785 => (laws_FnExactValues.j0 k t761 t771 (!t785) l0_0 l0_1)))) else (none)) = some r := H
   have A14 := Aside0.mk A140
   clear A140
   by_cases c15 : t781 = true
   ·subst c15
    have H1 : ((laws_markSet.f k t764 t767 1).bind fun bt782 => (if bt782.1 < 0 then (laws_FnExactValues.j0 k t761 t771 true l0_0 l0_1) else ((laws_eqStringS.f k t771 t761).bind fun t785 => (laws_FnExactValues.j0 k t761 t771 (!t785) l0_0 l0_1)))) = some r := by rw [if_pos rfl] at H; exact H
    clear H
    have H := H1
    clear H1
    replace H := Option.bind_eq_some_iff.mp H
    obtain ⟨⟨t782, t783, t784⟩, A160, H⟩ := H
    replace H : (if t782 < 0 then (laws_FnExactValues.j0 k t761 t771 true l0_0 l0_1) else ((laws_eqStringS.f k t771 t761).bind fun t785 => (laws_FnExactValues.j0 k t761 t771 (!t785) l0_0 l0_1))) = some r := H
    have A16 := Aside0.mk A160
    clear A160
    have HC17 := Aside0.mk H
    clear H
    go_enter Try.func11, Try.ntmps11
    try go_wp2_with (first | ((with_reducible refine gate_dst (N := 1) rfl ?_); refine box_event ?hg (N := 1) ?hd (cs := #[.slice A0_0 l0_0.length c0_0, .slice A0_1 l0_1.length c0_1]) (t := 70) ?hr ?_; (case hd => rfl); (case hg => rfl); (case hr => first | (go_simp; done) | (go_simp; rfl)); intro gb753 hg w18 hbox hb; have n0_ := Aside0.mk (below_step (by repeat (first | (with_reducible first | exact HB.out | apply below_alloc | apply pw_below_drewN | apply below_drew1) | exact HB.out)) hb); have n1_ := Aside0.mk (hbox); have n2_ := Aside0.mk ((by rw [hg]; exact (below_size (by repeat (first | (with_reducible first | exact HB.out | apply below_alloc | apply pw_below_drewN | apply below_drew1) | exact HB.out))) : w.heap.size ≤ gb753)); have n3_ := Aside0.mk ((by rw [hg]; exact (below_size (by repeat (first | (with_reducible first | exact HB.out | apply below_alloc | apply pw_below_drewN | apply below_drew1) | exact HB.out))) : w.heap.size ≤ gb753)); clear HB; have HB := n0_; have BK753 := n1_; have GW753 := n2_; have GE753 := n3_; clear n0_ n1_ n2_ n3_; clear hb hbox hg; have hcz19_0 : w18.cell? ⟨gb753, 0, none⟩ = some (.slice A0_0 l0_0.length c0_0) := (blk_cell BK753.out 0).trans rfl; have hcz19_1 : w18.cell? ⟨gb753, 1, none⟩ = some (.slice A0_1 l0_1.length c0_1) := (blk_cell BK753.out 1).trans rfl; have hfz19_0 := blk_frozen BK753.out 0; have hfz19_1 := blk_frozen BK753.out 1) | ((with_reducible refine gate_callee (f := 42) rfl ?_); refine goesL_ (some 13) rfl rfl Try.func42 (by kernel_rfl) rfl #[.agg #[.slice A0_0 l0_0.length c0_0, .slice A0_1 l0_1.length c0_1], .int .i64 1048576] rfl (by (try simp only [List.map_toArray, List.map_cons, List.map_nil]); first | done | rfl | (simp only [List.length_drop, List.length_take]; rfl)) ?_; (with_reducible refine (laws_szSet.calls k _ _ l0_0 _ _ l0_1 1048576 t754 _ ?side1 ?side2 ?side3 ?side4 A2.out).mono ?_); (case side1 => repeat (first | exact (Kd.C_below HR0_0.out HB.out) | (with_reducible refine Kd.C_alloc ?_ _) | (with_reducible refine Kd.C_drewN ?_ _) | (with_reducible refine Kd.C_drew ?_))); (case side2 => exact HC0_0.out); (case side3 => repeat (first | exact (Kd.C_below HR0_1.out HB.out) | (with_reducible refine Kd.C_alloc ?_ _) | (with_reducible refine Kd.C_drewN ?_ _) | (with_reducible refine Kd.C_drew ?_))); (case side4 => exact HC0_1.out); rintro e w20 ⟨rfl, hb⟩; refine ⟨_, rfl, ?_⟩; have n0_ := Aside0.mk (blk_below (g := gb753) (o := .cells #[.slice A0_0 l0_0.length c0_0, .slice A0_1 l0_1.length c0_1] 70 (0, 0)) (by (with_reducible repeat (first | refine blk_drewN ?_ _ | refine blk_drew ?_ | refine blk_alloc ?_ _)); exact BK753.out) hb); have n1_ := Aside0.mk (below_step (by repeat (first | (with_reducible first | exact HB.out | apply below_alloc | apply pw_below_drewN | apply below_drew1 | refine below_set ?_ GE753.out) | exact HB.out)) hb); clear BK753; clear HB; have BK753 := n0_; have HB := n1_; clear n0_ n1_; (try clear hb); (try clear hb2); (try clear hk); (try clear hi); have hcz21_0 : w20.cell? ⟨gb753, 0, none⟩ = some (.slice A0_0 l0_0.length c0_0) := (blk_cell BK753.out 0).trans rfl; have hcz21_1 : w20.cell? ⟨gb753, 1, none⟩ = some (.slice A0_1 l0_1.length c0_1) := (blk_cell BK753.out 1).trans rfl; have hfz21_0 := blk_frozen BK753.out 0; have hfz21_1 := blk_frozen BK753.out 1) | ((with_reducible refine gate_callee (f := 44) rfl ?_); refine goesL_ (some 17) rfl rfl Try.func44 (by kernel_rfl) rfl #[.agg #[.slice A0_0 l0_0.length c0_0, .slice A0_1 l0_1.length c0_1]] rfl (by (try simp only [List.map_toArray, List.map_cons, List.map_nil]); first | done | rfl | (simp only [List.length_drop, List.length_take]; rfl)) ?_; (with_reducible refine (laws_toSet.calls k _ _ l0_0 _ _ l0_1 t755 t758 _ ?side1 ?side2 ?side3 ?side4 A7.out).mono ?_); (case side1 => repeat (first | exact (Kd.C_below HR0_0.out HB.out) | (with_reducible refine Kd.C_alloc ?_ _) | (with_reducible refine Kd.C_drewN ?_ _) | (with_reducible refine Kd.C_drew ?_))); (case side2 => exact HC0_0.out); (case side3 => repeat (first | exact (Kd.C_below HR0_1.out HB.out) | (with_reducible refine Kd.C_alloc ?_ _) | (with_reducible refine Kd.C_drewN ?_ _) | (with_reducible refine Kd.C_drew ?_))); (case side4 => exact HC0_1.out); rintro e w22 ⟨v756, v759, rfl, ho0, ho1, hb⟩; refine ⟨_, rfl, ?_⟩; have n0_ := Aside0.mk (Kd.R_lower ho0 (below_size (by repeat (first | (with_reducible first | exact HB.out | apply below_alloc | apply pw_below_drewN | apply below_drew1 | refine below_set ?_ GE753.out) | exact HB.out)))); have n1_ := Aside0.mk (Kd.R_lower ho1 (below_size (by repeat (first | (with_reducible first | exact HB.out | apply below_alloc | apply pw_below_drewN | apply below_drew1 | refine below_set ?_ GE753.out) | exact HB.out)))); have n2_ := Aside0.mk (blk_below (g := gb753) (o := .cells #[.slice A0_0 l0_0.length c0_0, .slice A0_1 l0_1.length c0_1] 70 (0, 0)) (by (with_reducible repeat (first | refine blk_drewN ?_ _ | refine blk_drew ?_ | refine blk_alloc ?_ _)); exact BK753.out) hb); have n3_ := Aside0.mk (below_step (by repeat (first | (with_reducible first | exact HB.out | apply below_alloc | apply pw_below_drewN | apply below_drew1 | refine below_set ?_ GE753.out) | exact HB.out)) hb); clear BK753; clear HB; have HO757 := n0_; have HO760 := n1_; have BK753 := n2_; have HB := n3_; clear n0_ n1_ n2_ n3_; (try clear hb); (try clear hb2); (try clear hk); (try clear hi); (try clear ho0); (try clear ho1); obtain ⟨Ao23, co23, eo23⟩ := Kd.R_slice HO757.out; subst eo23; obtain ⟨Ao24, co24, eo24⟩ := Kd.R_slice HO760.out; subst eo24) | ((with_reducible refine gate_callee (f := 56) rfl ?_); refine goesL_ (some 18) rfl rfl Try.func56 (by kernel_rfl) rfl #[.agg #[.slice Ao23 t755.length co23, .slice Ao24 t758.length co24]] rfl (by (try simp only [List.map_toArray, List.map_cons, List.map_nil]); first | done | rfl | (simp only [List.length_drop, List.length_take]; rfl)) ?_; (with_reducible refine (spec_Values.calls k _ _ t755 _ _ t758 t761 _ ?side1 ?side2 ?side3 ?side4 A8.out).mono ?_); (case side1 => repeat (first | exact (Kd.R_reads' HO757.out).2.2 | (with_reducible refine Kd.C_alloc ?_ _) | (with_reducible refine Kd.C_drewN ?_ _) | (with_reducible refine Kd.C_drew ?_))); (case side2 => exact (Kd.R_reads' HO757.out).2.1); (case side3 => repeat (first | exact (Kd.R_reads' HO760.out).2.2 | (with_reducible refine Kd.C_alloc ?_ _) | (with_reducible refine Kd.C_drewN ?_ _) | (with_reducible refine Kd.C_drew ?_))); (case side4 => exact (Kd.R_reads' HO760.out).2.1); rintro e w25 ⟨v762, rfl, ho0, hb⟩; refine ⟨_, rfl, ?_⟩; have n0_ := Aside0.mk (Kd.R_below (by (with_reducible repeat (first | apply Kd.R_alloc | apply Kd.R_drewN | apply Kd.R_drew)); exact HO757.out) hb); have n1_ := Aside0.mk (Kd.R_below (by (with_reducible repeat (first | apply Kd.R_alloc | apply Kd.R_drewN | apply Kd.R_drew)); exact HO760.out) hb); have n2_ := Aside0.mk (Kd.R_lower ho0 (below_size (by repeat (first | (with_reducible first | exact HB.out | apply below_alloc | apply pw_below_drewN | apply below_drew1 | refine below_set ?_ GE753.out) | exact HB.out)))); have n3_ := Aside0.mk (blk_below (g := gb753) (o := .cells #[.slice A0_0 l0_0.length c0_0, .slice A0_1 l0_1.length c0_1] 70 (0, 0)) (by (with_reducible repeat (first | refine blk_drewN ?_ _ | refine blk_drew ?_ | refine blk_alloc ?_ _)); exact BK753.out) hb); have n4_ := Aside0.mk (below_step (by repeat (first | (with_reducible first | exact HB.out | apply below_alloc | apply pw_below_drewN | apply below_drew1 | refine below_set ?_ GE753.out) | exact HB.out)) hb); clear HO757; clear HO760; clear BK753; clear HB; have HO757 := n0_; have HO760 := n1_; have HO763 := n2_; have BK753 := n3_; have HB := n4_; clear n0_ n1_ n2_ n3_ n4_; (try clear hb); (try clear hb2); (try clear hk); (try clear hi); (try clear ho0); have hcz26_0 : w25.cell? ⟨gb753, 0, none⟩ = some (.slice A0_0 l0_0.length c0_0) := (blk_cell BK753.out 0).trans rfl; have hcz26_1 : w25.cell? ⟨gb753, 1, none⟩ = some (.slice A0_1 l0_1.length c0_1) := (blk_cell BK753.out 1).trans rfl; have hfz26_0 := blk_frozen BK753.out 0; have hfz26_1 := blk_frozen BK753.out 1) | ((with_reducible refine gate_callee (f := 44) rfl ?_); refine goesL_ (some 20) rfl rfl Try.func44 (by kernel_rfl) rfl #[.agg #[.slice A0_0 l0_0.length c0_0, .slice A0_1 l0_1.length c0_1]] rfl (by (try simp only [List.map_toArray, List.map_cons, List.map_nil]); first | done | rfl | (simp only [List.length_drop, List.length_take]; rfl)) ?_; (with_reducible refine (laws_toSet.calls k _ _ l0_0 _ _ l0_1 t764 t767 _ ?side1 ?side2 ?side3 ?side4 A9.out).mono ?_); (case side1 => repeat (first | exact (Kd.C_below HR0_0.out HB.out) | (with_reducible refine Kd.C_alloc ?_ _) | (with_reducible refine Kd.C_drewN ?_ _) | (with_reducible refine Kd.C_drew ?_))); (case side2 => exact HC0_0.out); (case side3 => repeat (first | exact (Kd.C_below HR0_1.out HB.out) | (with_reducible refine Kd.C_alloc ?_ _) | (with_reducible refine Kd.C_drewN ?_ _) | (with_reducible refine Kd.C_drew ?_))); (case side4 => exact HC0_1.out); rintro e w27 ⟨v765, v768, rfl, ho0, ho1, hb⟩; refine ⟨_, rfl, ?_⟩; have n0_ := Aside0.mk (Kd.R_elder' (by (with_reducible repeat (first | apply Kd.R_alloc | apply Kd.R_drewN | apply Kd.R_drew)); exact HO757.out) (Kd.R_base ho0) hb); have n1_ := Aside0.mk (Kd.R_elder' (by (with_reducible repeat (first | apply Kd.R_alloc | apply Kd.R_drewN | apply Kd.R_drew)); exact HO760.out) (Kd.R_base ho1) hb); have n2_ := Aside0.mk (Kd.R_below (by (with_reducible repeat (first | apply Kd.R_alloc | apply Kd.R_drewN | apply Kd.R_drew)); exact HO763.out) hb); have n3_ := Aside0.mk (Kd.R_lower (Kd.R_new' ho0 (Kd.R_lt (by (with_reducible repeat (first | apply Kd.R_alloc | apply Kd.R_drewN | apply Kd.R_drew)); exact HO757.out))) (below_size (by repeat (first | (with_reducible first | exact HB.out | apply below_alloc | apply pw_below_drewN | apply below_drew1 | refine below_set ?_ GE753.out) | exact HB.out)))); have n4_ := Aside0.mk (Kd.R_lower (Kd.R_new' ho1 (Kd.R_lt (by (with_reducible repeat (first | apply Kd.R_alloc | apply Kd.R_drewN | apply Kd.R_drew)); exact HO760.out))) (below_size (by repeat (first | (with_reducible first | exact HB.out | apply below_alloc | apply pw_below_drewN | apply below_drew1 | refine below_set ?_ GE753.out) | exact HB.out)))); have n5_ := Aside0.mk (blk_below (g := gb753) (o := .cells #[.slice A0_0 l0_0.length c0_0, .slice A0_1 l0_1.length c0_1] 70 (0, 0)) (by (with_reducible repeat (first | refine blk_drewN ?_ _ | refine blk_drew ?_ | refine blk_alloc ?_ _)); exact BK753.out) hb); have n6_ := Aside0.mk (below_step (by repeat (first | (with_reducible first | exact HB.out | apply below_alloc | apply pw_below_drewN | apply below_drew1 | refine below_set ?_ GE753.out) | exact HB.out)) hb); clear HO757; clear HO760; clear HO763; clear BK753; clear HB; have HO757 := n0_; have HO760 := n1_; have HO763 := n2_; have HO766 := n3_; have HO769 := n4_; have BK753 := n5_; have HB := n6_; clear n0_ n1_ n2_ n3_ n4_ n5_ n6_; (try clear hb); (try clear hb2); (try clear hk); (try clear hi); (try clear ho0); (try clear ho1)) | ((with_reducible refine gate_dst (N := 5) rfl ?_); refine box_event ?hg (N := 5) ?hd (cs := #[.slice none 0 0, .slice none 0 0]) (t := 75) ?hr ?_; (case hd => rfl); (case hg => rfl); (case hr => first | (go_simp; done) | (go_simp; rfl)); intro gb770 hg w28 hbox hb; have n0_ := Aside0.mk (Kd.R_below (by (with_reducible repeat (first | apply Kd.R_alloc | apply Kd.R_drewN | apply Kd.R_drew)); exact HO757.out) hb); have n1_ := Aside0.mk (Kd.R_below (by (with_reducible repeat (first | apply Kd.R_alloc | apply Kd.R_drewN | apply Kd.R_drew)); exact HO760.out) hb); have n2_ := Aside0.mk (Kd.R_below (by (with_reducible repeat (first | apply Kd.R_alloc | apply Kd.R_drewN | apply Kd.R_drew)); exact HO763.out) hb); have n3_ := Aside0.mk (Kd.R_below (by (with_reducible repeat (first | apply Kd.R_alloc | apply Kd.R_drewN | apply Kd.R_drew)); exact HO766.out) hb); have n4_ := Aside0.mk (Kd.R_below (by (with_reducible repeat (first | apply Kd.R_alloc | apply Kd.R_drewN | apply Kd.R_drew)); exact HO769.out) hb); have n5_ := Aside0.mk (blk_below (g := gb753) (o := .cells #[.slice A0_0 l0_0.length c0_0, .slice A0_1 l0_1.length c0_1] 70 (0, 0)) (by (with_reducible repeat (first | refine blk_drewN ?_ _ | refine blk_drew ?_ | refine blk_alloc ?_ _)); exact BK753.out) hb); have n6_ := Aside0.mk (below_step (by repeat (first | (with_reducible first | exact HB.out | apply below_alloc | apply pw_below_drewN | apply below_drew1 | refine below_set ?_ GE753.out) | exact HB.out)) hb); have n7_ := Aside0.mk (hbox); have n8_ := Aside0.mk ((by rw [hg]; exact (below_size (by repeat (first | (with_reducible first | exact HB.out | apply below_alloc | apply pw_below_drewN | apply below_drew1 | refine below_set ?_ GE753.out) | exact HB.out))) : w.heap.size ≤ gb770)); have n9_ := Aside0.mk ((by rw [hg]; exact (below_size (by repeat (first | (with_reducible first | exact HB.out | apply below_alloc | apply pw_below_drewN | apply below_drew1 | refine below_set ?_ GE753.out) | exact HB.out))) : w.heap.size ≤ gb770)); have n10_ := Aside0.mk ((by rw [hg]; exact Nat.ne_of_lt (blk_lt (g := gb753) (o := .cells #[.slice A0_0 l0_0.length c0_0, .slice A0_1 l0_1.length c0_1] 70 (0, 0)) (by (with_reducible repeat (first | refine blk_drewN ?_ _ | refine blk_drew ?_ | refine blk_alloc ?_ _)); exact BK753.out)) : gb753 ≠ gb770)); have n11_ := Aside0.mk ((by rw [hg]; exact Nat.ne_of_gt (blk_lt (g := gb753) (o := .cells #[.slice A0_0 l0_0.length c0_0, .slice A0_1 l0_1.length c0_1] 70 (0, 0)) (by (with_reducible repeat (first | refine blk_drewN ?_ _ | refine blk_drew ?_ | refine blk_alloc ?_ _)); exact BK753.out)) : gb770 ≠ gb753)); clear HO757; clear HO760; clear HO763; clear HO766; clear HO769; clear BK753; clear HB; have HO757 := n0_; have HO760 := n1_; have HO763 := n2_; have HO766 := n3_; have HO769 := n4_; have BK753 := n5_; have HB := n6_; have BK770 := n7_; have GW770 := n8_; have GE770 := n9_; have NB753_770 := n10_; have NB770_753 := n11_; clear n0_ n1_ n2_ n3_ n4_ n5_ n6_ n7_ n8_ n9_ n10_ n11_; clear hb hbox hg; obtain ⟨Ao29, co29, eo29⟩ := Kd.R_slice HO766.out; subst eo29; have hnb30 := NB770_753.out; have hnc30 := NB753_770.out; have hcz31_0 : w28.cell? ⟨gb770, 0, none⟩ = some (.slice none 0 0) := (blk_cell BK770.out 0).trans rfl; have hcz31_1 : w28.cell? ⟨gb770, 1, none⟩ = some (.slice none 0 0) := (blk_cell BK770.out 1).trans rfl; have hfz31_0 := blk_frozen BK770.out 0; have hfz31_1 := blk_frozen BK770.out 1; obtain ⟨Ao32, co32, eo32⟩ := Kd.R_slice HO769.out; subst eo32) | ((with_reducible refine gate_callee (f := 57) rfl ?_); refine goesL_ (some 22) rfl rfl Try.func57 (by kernel_rfl) rfl #[.agg #[.slice Ao29 t764.length co29, .slice Ao32 t767.length co32]] rfl (by (try simp only [List.map_toArray, List.map_cons, List.map_nil]); first | done | rfl | (simp only [List.length_drop, List.length_take]; rfl)) ?_; (with_reducible refine (impl_Values.calls k _ _ t764 _ _ t767 t771 _ ?side1 ?side2 ?side3 ?side4 A10.out).mono ?_); (case side1 => refine (Kd.R_reads' (e := 43) (base := w.heap.size) (ok := fun k_ => (True ∧ some k_ ≠ (.slice Ao23 t755.length co23 : Value).ownBlock)) (n := t764.length) (c := co29) ?_).2.2; exact (by (with_reducible repeat (first | apply Kd.R_alloc | apply Kd.R_drewN | apply Kd.R_drew)); exact (Kd.R_mono (Kd.R_far (p := ⟨gb770, 1, none⟩) (Kd.R_far (p := ⟨gb770, 0, none⟩) (Kd.R_types HO766.out BK770.out (by decide)) (fun _ hk => hk.2) (.slice Ao29 t764.length co29)) (fun _ hk => hk.2) (.slice Ao32 t767.length co32)) (fun _ h_ => h_.1)))); (case side2 => exact (Kd.R_reads' HO766.out).2.1); (case side3 => refine (Kd.R_reads' (e := 139) (base := w.heap.size) (ok := fun k_ => (True ∧ some k_ ≠ (.slice Ao24 t758.length co24 : Value).ownBlock)) (n := t767.length) (c := co32) ?_).2.2; exact (by (with_reducible repeat (first | apply Kd.R_alloc | apply Kd.R_drewN | apply Kd.R_drew)); exact (Kd.R_mono (Kd.R_far (p := ⟨gb770, 1, none⟩) (Kd.R_far (p := ⟨gb770, 0, none⟩) (Kd.R_types HO769.out BK770.out (by decide)) (fun _ hk => hk.2) (.slice Ao29 t764.length co29)) (fun _ hk => hk.2) (.slice Ao32 t767.length co32)) (fun _ h_ => h_.1)))); (case side4 => exact (Kd.R_reads' HO769.out).2.1); rintro e w33 ⟨v772, rfl, ho0, hb⟩; refine ⟨_, rfl, ?_⟩; have n0_ := Aside0.mk (Kd.R_below (by (with_reducible repeat (first | apply Kd.R_alloc | apply Kd.R_drewN | apply Kd.R_drew)); exact (Kd.R_mono (Kd.R_far (p := ⟨gb770, 1, none⟩) (Kd.R_far (p := ⟨gb770, 0, none⟩) (Kd.R_types HO757.out BK770.out (by decide)) (fun _ hk => hk.2) (.slice Ao29 t764.length co29)) (fun _ hk => hk.2) (.slice Ao32 t767.length co32)) (fun _ h_ => h_.1))) hb); have n1_ := Aside0.mk (Kd.R_below (by (with_reducible repeat (first | apply Kd.R_alloc | apply Kd.R_drewN | apply Kd.R_drew)); exact (Kd.R_mono (Kd.R_far (p := ⟨gb770, 1, none⟩) (Kd.R_far (p := ⟨gb770, 0, none⟩) (Kd.R_types HO760.out BK770.out (by decide)) (fun _ hk => hk.2) (.slice Ao29 t764.length co29)) (fun _ hk => hk.2) (.slice Ao32 t767.length co32)) (fun _ h_ => h_.1))) hb); have n2_ := Aside0.mk (Kd.R_elder' (by (with_reducible repeat (first | apply Kd.R_alloc | apply Kd.R_drewN | apply Kd.R_drew)); exact (Kd.R_mono (Kd.R_far (p := ⟨gb770, 1, none⟩) (Kd.R_far (p := ⟨gb770, 0, none⟩) (Kd.R_types HO763.out BK770.out (by decide)) (fun _ hk => hk.2) (.slice Ao29 t764.length co29)) (fun _ hk => hk.2) (.slice Ao32 t767.length co32)) (fun _ h_ => h_.1))) (Kd.R_base ho0) hb); have n3_ := Aside0.mk (Kd.R_below (by (with_reducible repeat (first | apply Kd.R_alloc | apply Kd.R_drewN | apply Kd.R_drew)); exact (Kd.R_mono (Kd.R_far (p := ⟨gb770, 1, none⟩) (Kd.R_far (p := ⟨gb770, 0, none⟩) (Kd.R_types HO766.out BK770.out (by decide)) (fun _ hk => hk.2) (.slice Ao29 t764.length co29)) (fun _ hk => hk.2) (.slice Ao32 t767.length co32)) (fun _ h_ => h_.1))) hb); have n4_ := Aside0.mk (Kd.R_below (by (with_reducible repeat (first | apply Kd.R_alloc | apply Kd.R_drewN | apply Kd.R_drew)); exact (Kd.R_mono (Kd.R_far (p := ⟨gb770, 1, none⟩) (Kd.R_far (p := ⟨gb770, 0, none⟩) (Kd.R_types HO769.out BK770.out (by decide)) (fun _ hk => hk.2) (.slice Ao29 t764.length co29)) (fun _ hk => hk.2) (.slice Ao32 t767.length co32)) (fun _ h_ => h_.1))) hb); have n5_ := Aside0.mk (Kd.R_lower (Kd.R_new' ho0 (Kd.R_lt (by (with_reducible repeat (first | apply Kd.R_alloc | apply Kd.R_drewN | apply Kd.R_drew)); exact (Kd.R_mono (Kd.R_far (p := ⟨gb770, 1, none⟩) (Kd.R_far (p := ⟨gb770, 0, none⟩) (Kd.R_types HO763.out BK770.out (by decide)) (fun _ hk => hk.2) (.slice Ao29 t764.length co29)) (fun _ hk => hk.2) (.slice Ao32 t767.length co32)) (fun _ h_ => h_.1))))) (below_size (by repeat (first | (with_reducible first | exact HB.out | apply below_alloc | apply pw_below_drewN | apply below_drew1 | refine below_set ?_ GE753.out | refine below_set ?_ GE770.out) | exact HB.out)))); have n6_ := Aside0.mk (blk_below (g := gb753) (o := .cells #[.slice A0_0 l0_0.length c0_0, .slice A0_1 l0_1.length c0_1] 70 (0, 0)) (by (with_reducible repeat (first | refine blk_drewN ?_ _ | refine blk_drew ?_ | refine blk_alloc ?_ _)); refine blk_far ?_ NB753_770.out _; (with_reducible repeat (first | refine blk_drewN ?_ _ | refine blk_drew ?_ | refine blk_alloc ?_ _)); refine blk_far ?_ NB753_770.out _; (with_reducible repeat (first | refine blk_drewN ?_ _ | refine blk_drew ?_ | refine blk_alloc ?_ _)); exact BK753.out) hb); have n7_ := Aside0.mk (blk_below (g := gb770) (o := .cells #[.slice Ao29 t764.length co29, .slice Ao32 t767.length co32] 75 (0, 0)) (by (with_reducible repeat (first | refine blk_drewN ?_ _ | refine blk_drew ?_ | refine blk_alloc ?_ _)); refine blk_put (cs := #[.slice Ao29 t764.length co29, .slice none 0 0]) ?_ 1 _ rfl; (with_reducible repeat (first | refine blk_drewN ?_ _ | refine blk_drew ?_ | refine blk_alloc ?_ _)); refine blk_put (cs := #[.slice none 0 0, .slice none 0 0]) ?_ 0 _ rfl; (with_reducible repeat (first | refine blk_drewN ?_ _ | refine blk_drew ?_ | refine blk_alloc ?_ _)); exact BK770.out) hb); have n8_ := Aside0.mk (below_step (by repeat (first | (with_reducible first | exact HB.out | apply below_alloc | apply pw_below_drewN | apply below_drew1 | refine below_set ?_ GE753.out | refine below_set ?_ GE770.out) | exact HB.out)) hb); clear HO757; clear HO760; clear HO763; clear HO766; clear HO769; clear BK753; clear BK770; clear HB; have HO757 := n0_; have HO760 := n1_; have HO763 := n2_; have HO766 := n3_; have HO769 := n4_; have HO773 := n5_; have BK753 := n6_; have BK770 := n7_; have HB := n8_; clear n0_ n1_ n2_ n3_ n4_ n5_ n6_ n7_ n8_; (try clear hb); (try clear hb2); (try clear hk); (try clear hi); (try clear ho0); obtain ⟨Ao34, co34, eo34⟩ := Kd.R_slice HO773.out; subst eo34; obtain ⟨Ao35, co35, eo35⟩ := Kd.R_slice HO763.out; subst eo35) | ((with_reducible refine gate_callee (f := 58) rfl ?_); refine goesL_ (some 25) rfl rfl Try.func58 (by kernel_rfl) rfl #[.slice Ao34 t771.length co34, .slice Ao35 t761.length co35] rfl (by (try simp only [List.map_toArray, List.map_cons, List.map_nil]); first | done | rfl | (simp only [List.length_drop, List.length_take]; rfl)) ?_; (with_reducible refine (laws_eqStringS.calls k _ _ t771 _ _ t761 true _ ?side1 ?side2 ?side3 ?side4 A11.out).mono ?_); (case side1 => repeat (first | exact (Kd.R_reads' HO773.out).2.2 | (with_reducible refine Kd.C_alloc ?_ _) | (with_reducible refine Kd.C_drewN ?_ _) | (with_reducible refine Kd.C_drew ?_))); (case side2 => exact (Kd.R_reads' HO773.out).2.1); (case side3 => repeat (first | exact (Kd.R_reads' HO763.out).2.2 | (with_reducible refine Kd.C_alloc ?_ _) | (with_reducible refine Kd.C_drewN ?_ _) | (with_reducible refine Kd.C_drew ?_))); (case side4 => exact (Kd.R_reads' HO763.out).2.1); rintro e w' ⟨rfl, ⟨nd, rfl⟩⟩; refine ⟨_, rfl, ?_⟩))
    (try (rw [drewN_self w33]; generalize hq_ : World.drewN w33 _ = w33; have n0_ : Aside0 (Kd.R k43 43 w33 w.heap.size (fun k_ => some k_ ≠ (.slice Ao29 t764.length co29 : Value).ownBlock) (.slice Ao23 t755.length co23) t755) := ⟨by rw [← hq_]; exact (by (with_reducible repeat (first | apply Kd.R_alloc | apply Kd.R_drewN | apply Kd.R_drew)); exact Kd.R_mono HO757.out (fun _ hk => hk.2))⟩; have n1_ : Aside0 (Kd.R k139 139 w33 w.heap.size (fun k_ => some k_ ≠ (.slice Ao32 t767.length co32 : Value).ownBlock) (.slice Ao24 t758.length co24) t758) := ⟨by rw [← hq_]; exact (by (with_reducible repeat (first | apply Kd.R_alloc | apply Kd.R_drewN | apply Kd.R_drew)); exact Kd.R_mono HO760.out (fun _ hk => hk.2))⟩; have n2_ : Aside0 (Kd.R Kd.string 9 w33 w.heap.size (fun k_ => some k_ ≠ (.slice Ao34 t771.length co34 : Value).ownBlock) (.slice Ao35 t761.length co35) t761) := ⟨by rw [← hq_]; exact (by (with_reducible repeat (first | apply Kd.R_alloc | apply Kd.R_drewN | apply Kd.R_drew)); exact Kd.R_mono HO763.out (fun _ hk => hk.2))⟩; have n3_ : Aside0 (Kd.R k43 43 w33 w.heap.size (fun k_ => some k_ ≠ (.slice Ao23 t755.length co23 : Value).ownBlock) (.slice Ao29 t764.length co29) t764) := ⟨by rw [← hq_]; exact (by (with_reducible repeat (first | apply Kd.R_alloc | apply Kd.R_drewN | apply Kd.R_drew)); exact Kd.R_mono HO766.out (fun _ hk => hk.2))⟩; have n4_ : Aside0 (Kd.R k139 139 w33 w.heap.size (fun k_ => some k_ ≠ (.slice Ao24 t758.length co24 : Value).ownBlock) (.slice Ao32 t767.length co32) t767) := ⟨by rw [← hq_]; exact (by (with_reducible repeat (first | apply Kd.R_alloc | apply Kd.R_drewN | apply Kd.R_drew)); exact Kd.R_mono HO769.out (fun _ hk => hk.2))⟩; have n5_ : Aside0 (Kd.R Kd.string 9 w33 w.heap.size (fun k_ => some k_ ≠ (.slice Ao35 t761.length co35 : Value).ownBlock) (.slice Ao34 t771.length co34) t771) := ⟨by rw [← hq_]; exact (by (with_reducible repeat (first | apply Kd.R_alloc | apply Kd.R_drewN | apply Kd.R_drew)); exact Kd.R_mono HO773.out (fun _ hk => hk.2))⟩; have n6_ : Aside0 (w33.heap[gb753]? = some (.cells #[.slice A0_0 l0_0.length c0_0, .slice A0_1 l0_1.length c0_1] 70 (0, 0))) := ⟨by rw [← hq_]; exact (by (with_reducible repeat (first | refine blk_drewN ?_ _ | refine blk_drew ?_ | refine blk_alloc ?_ _)); exact BK753.out)⟩; have n7_ : Aside0 (w33.heap[gb770]? = some (.cells #[.slice Ao29 t764.length co29, .slice Ao32 t767.length co32] 75 (0, 0))) := ⟨by rw [← hq_]; exact (by (with_reducible repeat (first | refine blk_drewN ?_ _ | refine blk_drew ?_ | refine blk_alloc ?_ _)); exact BK770.out)⟩; have n8_ : Aside0 (Below w.heap.size w w33) := ⟨by rw [← hq_]; exact (by repeat (first | (with_reducible first | exact HB.out | apply below_alloc | apply pw_below_drewN | apply below_drew1 | refine below_set ?_ GE753.out | refine below_set ?_ GE770.out) | exact HB.out))⟩; clear HO757 HO760 HO763 HO766 HO769 HO773 BK753 BK770 HB hq_; have HO757 := n0_; have HO760 := n1_; have HO763 := n2_; have HO766 := n3_; have HO769 := n4_; have HO773 := n5_; have BK753 := n6_; have BK770 := n7_; have HB := n8_; clear n0_ n1_ n2_ n3_ n4_ n5_ n6_ n7_ n8_))
    have n0_ := Aside0.mk (Kd.R_drew HO757.out)
    have n1_ := Aside0.mk (Kd.R_drew HO760.out)
    have n2_ := Aside0.mk (Kd.R_drew HO763.out)
    have n3_ := Aside0.mk (Kd.R_drew HO766.out)
    have n4_ := Aside0.mk (Kd.R_drew HO769.out)
    have n5_ := Aside0.mk (Kd.R_drew HO773.out)
    have n6_ := Aside0.mk (blk_drew BK753.out)
    have n7_ := Aside0.mk (blk_drew BK770.out)
    have n8_ := Aside0.mk (below_drew1 HB.out)
    clear HO757
    clear HO760
    clear HO763
    clear HO766
    clear HO769
    clear HO773
    clear BK753
    clear BK770
    clear HB
    have HO757 := n0_
    have HO760 := n1_
    have HO763 := n2_
    have HO766 := n3_
    have HO769 := n4_
    have HO773 := n5_
    have BK753 := n6_
    have BK770 := n7_
    have HB := n8_
    clear n0_ n1_ n2_ n3_ n4_ n5_ n6_ n7_ n8_
    refine start_ (n := 5) (S := fun w' => w'.cell? ⟨gb770, 0, none⟩ = some (.slice Ao29 t764.length co29) ∧ w'.cell? ⟨gb770, 1, none⟩ = some (.slice Ao32 t767.length co32) ∧ w'.cell? ⟨gb753, 0, none⟩ = some (.slice A0_0 l0_0.length c0_0) ∧ w'.cell? ⟨gb753, 1, none⟩ = some (.slice A0_1 l0_1.length c0_1)) (ds := []) #[false, false, false, false, false] (by kernel_rfl) rfl rfl ⟨(blk_cell BK770.out 0).trans rfl, (blk_cell BK770.out 1).trans rfl, (blk_cell BK753.out 0).trans rfl, (blk_cell BK753.out 1).trans rfl⟩ (fun hHeld => ?_)
    generalize w33.drew = w36 at HO757 HO760 HO763 HO766 HO769 HO773 BK753 BK770 HB hHeld ⊢
    refine take_ (i := 0) (N := some 27) (v := ?_) (a' := ?_) #[true, false, false, false, false] rfl rfl (by kernel_rfl) (fun _ _ _ h => h) (Or.inl ⟨by rfl, ?_⟩) hHeld ?_ ?_
    rotate_left
    ·rintro w' ⟨s0, s1, s2, s3⟩
     go_simp
     with_reducible rfl
    rotate_left
    ·simp only [Act.put, sa_, s0_, ss_, i64_w, i32_w]
     rfl
    refine take_ (i := 1) (N := some 28) (v := ?_) (a' := ?_) #[true, true, false, false, false] rfl rfl (by kernel_rfl) (fun _ _ _ h => h) (Or.inl ⟨by rfl, ?_⟩) hHeld ?_ ?_
    rotate_left
    ·rintro w' ⟨s0, s1, s2, s3⟩
     go_simp
     with_reducible rfl
    rotate_left
    ·simp only [Act.put, sa_, s0_, ss_, i64_w, i32_w]
     rfl
    refine one_ (i := 2) (N := some 29) #[true, true, true, false, false] rfl rfl (by kernel_rfl) (by decide) (fun K hK => ?_)
    refine goes_ Try.func44 (by kernel_rfl) rfl #[.agg #[.slice A0_0 l0_0.length c0_0, .slice A0_1 l0_1.length c0_1]] (by rfl) rfl rfl (by (try simp only [List.map_toArray, List.map_cons, List.map_nil]); first | done | rfl | (simp only [List.length_drop, List.length_take]; rfl)) ?_
    with_reducible refine (laws_toSet.calls k _ _ l0_0 _ _ l0_1 t775 t778 _ ?side1 ?side2 ?side3 ?side4 A13.out).mono ?_
    (case side1 => repeat (first | exact (Kd.C_below HR0_0.out HB.out) | (with_reducible refine Kd.C_alloc ?_ _) | (with_reducible refine Kd.C_drewN ?_ _) | (with_reducible refine Kd.C_drew ?_)))
    (case side2 => exact HC0_0.out)
    (case side3 => repeat (first | exact (Kd.C_below HR0_1.out HB.out) | (with_reducible refine Kd.C_alloc ?_ _) | (with_reducible refine Kd.C_drewN ?_ _) | (with_reducible refine Kd.C_drew ?_)))
    (case side4 => exact HC0_1.out)
    rintro e w37 ⟨v776, v779, rfl, ho0, ho1, hb⟩
    refine ⟨_, rfl, ?_⟩
    have n0_ := Aside0.mk (Kd.R_elder' (by (with_reducible repeat (first | apply Kd.R_alloc | apply Kd.R_drewN | apply Kd.R_drew)); exact HO757.out) (Kd.R_base ho0) hb)
    have n1_ := Aside0.mk (Kd.R_elder' (by (with_reducible repeat (first | apply Kd.R_alloc | apply Kd.R_drewN | apply Kd.R_drew)); exact HO760.out) (Kd.R_base ho1) hb)
    have n2_ := Aside0.mk (Kd.R_below (by (with_reducible repeat (first | apply Kd.R_alloc | apply Kd.R_drewN | apply Kd.R_drew)); exact HO763.out) hb)
    have n3_ := Aside0.mk (Kd.R_elder' (by (with_reducible repeat (first | apply Kd.R_alloc | apply Kd.R_drewN | apply Kd.R_drew)); exact HO766.out) (Kd.R_base ho0) hb)
    have n4_ := Aside0.mk (Kd.R_elder' (by (with_reducible repeat (first | apply Kd.R_alloc | apply Kd.R_drewN | apply Kd.R_drew)); exact HO769.out) (Kd.R_base ho1) hb)
    have n5_ := Aside0.mk (Kd.R_below (by (with_reducible repeat (first | apply Kd.R_alloc | apply Kd.R_drewN | apply Kd.R_drew)); exact HO773.out) hb)
    have n6_ := Aside0.mk (Kd.R_lower (Kd.R_new' (Kd.R_new' ho0 (Kd.R_lt (by (with_reducible repeat (first | apply Kd.R_alloc | apply Kd.R_drewN | apply Kd.R_drew)); exact HO757.out))) (Kd.R_lt (by (with_reducible repeat (first | apply Kd.R_alloc | apply Kd.R_drewN | apply Kd.R_drew)); exact HO766.out))) (below_size (by repeat (first | (with_reducible first | exact HB.out | apply below_alloc | apply pw_below_drewN | apply below_drew1 | refine below_set ?_ GE753.out | refine below_set ?_ GE770.out) | exact HB.out))))
    have n7_ := Aside0.mk (Kd.R_lower (Kd.R_new' (Kd.R_new' ho1 (Kd.R_lt (by (with_reducible repeat (first | apply Kd.R_alloc | apply Kd.R_drewN | apply Kd.R_drew)); exact HO760.out))) (Kd.R_lt (by (with_reducible repeat (first | apply Kd.R_alloc | apply Kd.R_drewN | apply Kd.R_drew)); exact HO769.out))) (below_size (by repeat (first | (with_reducible first | exact HB.out | apply below_alloc | apply pw_below_drewN | apply below_drew1 | refine below_set ?_ GE753.out | refine below_set ?_ GE770.out) | exact HB.out))))
    have n8_ := Aside0.mk (blk_below (g := gb753) (o := .cells #[.slice A0_0 l0_0.length c0_0, .slice A0_1 l0_1.length c0_1] 70 (0, 0)) (by (with_reducible repeat (first | refine blk_drewN ?_ _ | refine blk_drew ?_ | refine blk_alloc ?_ _)); exact BK753.out) hb)
    have n9_ := Aside0.mk (blk_below (g := gb770) (o := .cells #[.slice Ao29 t764.length co29, .slice Ao32 t767.length co32] 75 (0, 0)) (by (with_reducible repeat (first | refine blk_drewN ?_ _ | refine blk_drew ?_ | refine blk_alloc ?_ _)); exact BK770.out) hb)
    have n10_ := Aside0.mk (below_step (by repeat (first | (with_reducible first | exact HB.out | apply below_alloc | apply pw_below_drewN | apply below_drew1 | refine below_set ?_ GE753.out | refine below_set ?_ GE770.out) | exact HB.out)) hb)
    clear HO757
    clear HO760
    clear HO763
    clear HO766
    clear HO769
    clear HO773
    clear BK753
    clear BK770
    clear HB
    have HO757 := n0_
    have HO760 := n1_
    have HO763 := n2_
    have HO766 := n3_
    have HO769 := n4_
    have HO773 := n5_
    have HO777 := n6_
    have HO780 := n7_
    have BK753 := n8_
    have BK770 := n9_
    have HB := n10_
    clear n0_ n1_ n2_ n3_ n4_ n5_ n6_ n7_ n8_ n9_ n10_
    (try clear hb)
    (try clear hb2)
    (try clear hk)
    (try clear hi)
    (try clear ho0)
    (try clear ho1)
    obtain ⟨Ao38, co38, eo38⟩ := Kd.R_slice HO777.out
    (first | subst eo38 | (injection eo38 with f1_ f2_ f3_; have f4_ := f1_.symm; have f5_ := f3_.symm; clear f1_ f2_ f3_; subst f4_; subst f5_))
    obtain ⟨Ao39, co39, eo39⟩ := Kd.R_slice HO780.out
    (first | subst eo39 | (injection eo39 with f1_ f2_ f3_; have f4_ := f1_.symm; have f5_ := f3_.symm; clear f1_ f2_ f3_; subst f4_; subst f5_))
    refine hK.out _ _ ⟨(blk_cell BK770.out 0).trans rfl, (blk_cell BK770.out 1).trans rfl, (blk_cell BK753.out 0).trans rfl, (blk_cell BK753.out 1).trans rfl⟩ (fun hHeld => ?_)
    clear hK K
    refine norm_ (a' := ?_) ?_ ?_
    rotate_left
    ·show Act.put _ (some 29) _ = _
     simp only [Act.put, sa_, s0_, ss_, i64_w, i32_w]
     rfl
    refine one_ (i := 3) (N := some 30) #[true, true, true, true, false] rfl rfl (by kernel_rfl) (by decide) (fun K hK => ?_)
    refine goes_ Try.func46 (by kernel_rfl) rfl #[.agg #[.slice Ao29 t764.length co29, .slice Ao32 t767.length co32], .agg #[.slice Ao38 t775.length co38, .slice Ao39 t778.length co39]] (by rfl) rfl rfl (by (try simp only [List.map_toArray, List.map_cons, List.map_nil]); first | done | rfl | (simp only [List.length_drop, List.length_take]; rfl)) ?_
    with_reducible refine (laws_eqSet.calls k _ _ t764 _ _ t767 _ _ t775 _ _ t778 true _ ?side1 ?side2 ?side3 ?side4 ?side5 ?side6 ?side7 ?side8 A14.out).mono ?_
    (case side1 => repeat (first | exact (Kd.R_reads' HO766.out).2.2 | (with_reducible refine Kd.C_alloc ?_ _) | (with_reducible refine Kd.C_drewN ?_ _) | (with_reducible refine Kd.C_drew ?_)))
    (case side2 => exact (Kd.R_reads' HO766.out).2.1)
    (case side3 => repeat (first | exact (Kd.R_reads' HO769.out).2.2 | (with_reducible refine Kd.C_alloc ?_ _) | (with_reducible refine Kd.C_drewN ?_ _) | (with_reducible refine Kd.C_drew ?_)))
    (case side4 => exact (Kd.R_reads' HO769.out).2.1)
    (case side5 => repeat (first | exact (Kd.R_reads' HO777.out).2.2 | (with_reducible refine Kd.C_alloc ?_ _) | (with_reducible refine Kd.C_drewN ?_ _) | (with_reducible refine Kd.C_drew ?_)))
    (case side6 => exact (Kd.R_reads' HO777.out).2.1)
    (case side7 => repeat (first | exact (Kd.R_reads' HO780.out).2.2 | (with_reducible refine Kd.C_alloc ?_ _) | (with_reducible refine Kd.C_drewN ?_ _) | (with_reducible refine Kd.C_drew ?_)))
    (case side8 => exact (Kd.R_reads' HO780.out).2.1)
    rintro e w40 ⟨rfl, hb⟩
    refine ⟨_, rfl, ?_⟩
    have n0_ := Aside0.mk (Kd.R_below (by (with_reducible repeat (first | apply Kd.R_alloc | apply Kd.R_drewN | apply Kd.R_drew)); exact HO757.out) hb)
    have n1_ := Aside0.mk (Kd.R_below (by (with_reducible repeat (first | apply Kd.R_alloc | apply Kd.R_drewN | apply Kd.R_drew)); exact HO760.out) hb)
    have n2_ := Aside0.mk (Kd.R_below (by (with_reducible repeat (first | apply Kd.R_alloc | apply Kd.R_drewN | apply Kd.R_drew)); exact HO763.out) hb)
    have n3_ := Aside0.mk (Kd.R_below (by (with_reducible repeat (first | apply Kd.R_alloc | apply Kd.R_drewN | apply Kd.R_drew)); exact HO766.out) hb)
    have n4_ := Aside0.mk (Kd.R_below (by (with_reducible repeat (first | apply Kd.R_alloc | apply Kd.R_drewN | apply Kd.R_drew)); exact HO769.out) hb)
    have n5_ := Aside0.mk (Kd.R_below (by (with_reducible repeat (first | apply Kd.R_alloc | apply Kd.R_drewN | apply Kd.R_drew)); exact HO773.out) hb)
    have n6_ := Aside0.mk (Kd.R_below (by (with_reducible repeat (first | apply Kd.R_alloc | apply Kd.R_drewN | apply Kd.R_drew)); exact HO777.out) hb)
    have n7_ := Aside0.mk (Kd.R_below (by (with_reducible repeat (first | apply Kd.R_alloc | apply Kd.R_drewN | apply Kd.R_drew)); exact HO780.out) hb)
    have n8_ := Aside0.mk (blk_below (g := gb753) (o := .cells #[.slice A0_0 l0_0.length c0_0, .slice A0_1 l0_1.length c0_1] 70 (0, 0)) (by (with_reducible repeat (first | refine blk_drewN ?_ _ | refine blk_drew ?_ | refine blk_alloc ?_ _)); exact BK753.out) hb)
    have n9_ := Aside0.mk (blk_below (g := gb770) (o := .cells #[.slice Ao29 t764.length co29, .slice Ao32 t767.length co32] 75 (0, 0)) (by (with_reducible repeat (first | refine blk_drewN ?_ _ | refine blk_drew ?_ | refine blk_alloc ?_ _)); exact BK770.out) hb)
    have n10_ := Aside0.mk (below_step (by repeat (first | (with_reducible first | exact HB.out | apply below_alloc | apply pw_below_drewN | apply below_drew1 | refine below_set ?_ GE753.out | refine below_set ?_ GE770.out) | exact HB.out)) hb)
    clear HO757
    clear HO760
    clear HO763
    clear HO766
    clear HO769
    clear HO773
    clear HO777
    clear HO780
    clear BK753
    clear BK770
    clear HB
    have HO757 := n0_
    have HO760 := n1_
    have HO763 := n2_
    have HO766 := n3_
    have HO769 := n4_
    have HO773 := n5_
    have HO777 := n6_
    have HO780 := n7_
    have BK753 := n8_
    have BK770 := n9_
    have HB := n10_
    clear n0_ n1_ n2_ n3_ n4_ n5_ n6_ n7_ n8_ n9_ n10_
    (try clear hb)
    (try clear hb2)
    (try clear hk)
    (try clear hi)
    refine hK.out _ _ ⟨(blk_cell BK770.out 0).trans rfl, (blk_cell BK770.out 1).trans rfl, (blk_cell BK753.out 0).trans rfl, (blk_cell BK753.out 1).trans rfl⟩ (fun hHeld => ?_)
    clear hK K
    refine norm_ (a' := ?_) ?_ ?_
    rotate_left
    ·show Act.put _ (some 30) _ = _
     simp only [Act.put, sa_, s0_, ss_, i64_w, i32_w]
     rfl
    refine pure_ (i := 4) (N := some 31) (v := ?_) (a' := ?_) #[true, true, true, true, true] rfl rfl (by kernel_rfl) (fun _ _ _ h => h) (Or.inl ⟨by rfl, ?_⟩) ?_ ?_
    rotate_left
    ·intro w'
     go_simp
     with_reducible rfl
    rotate_left
    ·simp only [Act.put, sa_, s0_, ss_, i64_w, i32_w]
     rfl
    refine done_ (by kernel_rfl) ?_
    have hcz41_0 : w40.cell? ⟨gb770, 0, none⟩ = some (.slice Ao29 t764.length co29) := (blk_cell BK770.out 0).trans rfl
    have hcz41_1 : w40.cell? ⟨gb770, 1, none⟩ = some (.slice Ao32 t767.length co32) := (blk_cell BK770.out 1).trans rfl
    have hfz41_0 := blk_frozen BK770.out 0
    have hfz41_1 := blk_frozen BK770.out 1
    go_upto_region 14 with (first | ((with_reducible refine gate_callee (f := 59) rfl ?_); refine goesL_ (some 34) rfl rfl Try.func59 (by kernel_rfl) rfl #[.agg #[.slice Ao29 t764.length co29, .slice Ao32 t767.length co32], .int .i64 1] rfl (by (try simp only [List.map_toArray, List.map_cons, List.map_nil]); first | done | rfl | (simp only [List.length_drop, List.length_take]; rfl)) ?_; (with_reducible refine (laws_markSet.calls k (fun k_ => some k_ = (.slice Ao29 t764.length co29 : Value).ownBlock) (.slice Ao29 t764.length co29) t764 (fun k_ => some k_ = (.slice Ao32 t767.length co32 : Value).ownBlock) (.slice Ao32 t767.length co32) t767 1 t782 t783 t784 w _ ?side1 ?side2 ?side3 A16.out).mono ?_); (case side1 => repeat (first | (with_reducible first | exact HB.out | apply below_alloc | apply pw_below_drewN | apply below_drew1 | refine below_set ?_ GE753.out | refine below_set ?_ GE770.out) | exact HB.out)); (case side2 => exact Kd.R_tight rfl HO766.out); (case side3 => exact Kd.R_tight rfl HO769.out); rintro e w42 ⟨rfl, hy0, hy1, hb, hkp⟩; refine ⟨_, rfl, ?_⟩; have n0_ := Aside0.mk (blk_kept (by (with_reducible repeat (first | refine blk_drewN ?_ _ | refine blk_drew ?_ | refine blk_alloc ?_ _)); exact BK753.out) hkp (fun hs_ => Or.elim hs_ (fun e_ => (fun e_ => (Kd.R_ne HO766.out BK753.out (by decide)) e_) e_) (fun e_ => (fun e_ => (Kd.R_ne HO769.out BK753.out (by decide)) e_) e_))); have n1_ := Aside0.mk (Kd.R_mono (ok' := fun k_ => some k_ ≠ (.slice Ao29 t764.length co29 : Value).ownBlock ∧ some k_ ≠ (.slice Ao38 t775.length co38 : Value).ownBlock) (Kd.R_keptB ((Kd.R_apart' HO757.out (Kd.R_typed HO769.out) (by decide))) hkp (fun k_ hk_ hs_ => Or.elim hs_ (fun e_ => absurd e_ (by first | exact hk_.1.1.2 | (have h_ := hk_; simp only [and_assoc] at h_; first | exact h_.1 | exact h_.2.1 | exact h_.2.2.1 | exact h_.2.2.2.1 | exact h_.2.2.2.2.1 | exact h_.2 | exact h_.2.2 | exact h_.2.2.2 | exact h_.2.2.2.2))) (fun e_ => absurd e_ (by first | exact hk_.2 | (have h_ := hk_; simp only [and_assoc] at h_; first | exact h_.1 | exact h_.2.1 | exact h_.2.2.1 | exact h_.2.2.2.1 | exact h_.2.2.2.2.1 | exact h_.2 | exact h_.2.2 | exact h_.2.2.2 | exact h_.2.2.2.2))))) (fun k_ hk_ => ⟨(by first | exact hk_.1.1.1.2 | (have h_ := hk_; simp only [and_assoc] at h_; first | exact h_.1 | exact h_.2.1 | exact h_.2.2.1 | exact h_.2.2.2.1 | exact h_.2.2.2.2.1 | exact h_.2 | exact h_.2.2 | exact h_.2.2.2 | exact h_.2.2.2.2)), (by first | exact hk_.1.1.2 | (have h_ := hk_; simp only [and_assoc] at h_; first | exact h_.1 | exact h_.2.1 | exact h_.2.2.1 | exact h_.2.2.2.1 | exact h_.2.2.2.2.1 | exact h_.2 | exact h_.2.2 | exact h_.2.2.2 | exact h_.2.2.2.2))⟩)); have n2_ := Aside0.mk (Kd.R_mono (ok' := fun k_ => some k_ ≠ (.slice Ao32 t767.length co32 : Value).ownBlock ∧ some k_ ≠ (.slice Ao39 t778.length co39 : Value).ownBlock) (Kd.R_keptB ((Kd.R_apart' HO760.out (Kd.R_typed HO766.out) (by decide))) hkp (fun k_ hk_ hs_ => Or.elim hs_ (fun e_ => absurd e_ (by first | exact hk_.2 | (have h_ := hk_; simp only [and_assoc] at h_; first | exact h_.1 | exact h_.2.1 | exact h_.2.2.1 | exact h_.2.2.2.1 | exact h_.2.2.2.2.1 | exact h_.2 | exact h_.2.2 | exact h_.2.2.2 | exact h_.2.2.2.2))) (fun e_ => absurd e_ (by first | exact hk_.1.1.2 | (have h_ := hk_; simp only [and_assoc] at h_; first | exact h_.1 | exact h_.2.1 | exact h_.2.2.1 | exact h_.2.2.2.1 | exact h_.2.2.2.2.1 | exact h_.2 | exact h_.2.2 | exact h_.2.2.2 | exact h_.2.2.2.2))))) (fun k_ hk_ => ⟨(by first | exact hk_.1.1.1.2 | (have h_ := hk_; simp only [and_assoc] at h_; first | exact h_.1 | exact h_.2.1 | exact h_.2.2.1 | exact h_.2.2.2.1 | exact h_.2.2.2.2.1 | exact h_.2 | exact h_.2.2 | exact h_.2.2.2 | exact h_.2.2.2.2)), (by first | exact hk_.1.1.2 | (have h_ := hk_; simp only [and_assoc] at h_; first | exact h_.1 | exact h_.2.1 | exact h_.2.2.1 | exact h_.2.2.2.1 | exact h_.2.2.2.2.1 | exact h_.2 | exact h_.2.2 | exact h_.2.2.2 | exact h_.2.2.2.2))⟩)); have n3_ := Aside0.mk (Kd.R_mono (ok' := fun k_ => some k_ ≠ (.slice Ao34 t771.length co34 : Value).ownBlock) (Kd.R_keptB ((Kd.R_apart' (Kd.R_apart' HO763.out (Kd.R_typed HO766.out) (by decide)) (Kd.R_typed HO769.out) (by decide))) hkp (fun k_ hk_ hs_ => Or.elim hs_ (fun e_ => absurd e_ (by first | exact hk_.1.2 | (have h_ := hk_; simp only [and_assoc] at h_; first | exact h_.1 | exact h_.2.1 | exact h_.2.2.1 | exact h_.2.2.2.1 | exact h_.2.2.2.2.1 | exact h_.2 | exact h_.2.2 | exact h_.2.2.2 | exact h_.2.2.2.2))) (fun e_ => absurd e_ (by first | exact hk_.2 | (have h_ := hk_; simp only [and_assoc] at h_; first | exact h_.1 | exact h_.2.1 | exact h_.2.2.1 | exact h_.2.2.2.1 | exact h_.2.2.2.2.1 | exact h_.2 | exact h_.2.2 | exact h_.2.2.2 | exact h_.2.2.2.2))))) (fun k_ hk_ => (by first | exact hk_.1.1.1.2 | (have h_ := hk_; simp only [and_assoc] at h_; first | exact h_.1 | exact h_.2.1 | exact h_.2.2.1 | exact h_.2.2.2.1 | exact h_.2.2.2.2.1 | exact h_.2 | exact h_.2.2 | exact h_.2.2.2 | exact h_.2.2.2.2)))); have n4_ := Aside0.mk (Kd.R_reok rfl hy0 (fun k_ e_ => HO766.out.1 k_ e_)); have n5_ := Aside0.mk (Kd.R_reok rfl hy1 (fun k_ e_ => HO769.out.1 k_ e_)); have n6_ := Aside0.mk (blk_kept (by (with_reducible repeat (first | refine blk_drewN ?_ _ | refine blk_drew ?_ | refine blk_alloc ?_ _)); exact BK770.out) hkp (fun hs_ => Or.elim hs_ (fun e_ => (fun e_ => (Kd.R_ne HO766.out BK770.out (by decide)) e_) e_) (fun e_ => (fun e_ => (Kd.R_ne HO769.out BK770.out (by decide)) e_) e_))); have n7_ := Aside0.mk (Kd.R_mono (ok' := fun k_ => some k_ ≠ (.slice Ao35 t761.length co35 : Value).ownBlock) (Kd.R_keptB ((Kd.R_apart' (Kd.R_apart' HO773.out (Kd.R_typed HO766.out) (by decide)) (Kd.R_typed HO769.out) (by decide))) hkp (fun k_ hk_ hs_ => Or.elim hs_ (fun e_ => absurd e_ (by first | exact hk_.1.2 | (have h_ := hk_; simp only [and_assoc] at h_; first | exact h_.1 | exact h_.2.1 | exact h_.2.2.1 | exact h_.2.2.2.1 | exact h_.2.2.2.2.1 | exact h_.2 | exact h_.2.2 | exact h_.2.2.2 | exact h_.2.2.2.2))) (fun e_ => absurd e_ (by first | exact hk_.2 | (have h_ := hk_; simp only [and_assoc] at h_; first | exact h_.1 | exact h_.2.1 | exact h_.2.2.1 | exact h_.2.2.2.1 | exact h_.2.2.2.2.1 | exact h_.2 | exact h_.2.2 | exact h_.2.2.2 | exact h_.2.2.2.2))))) (fun k_ hk_ => (by first | exact hk_.1.1.1.2 | (have h_ := hk_; simp only [and_assoc] at h_; first | exact h_.1 | exact h_.2.1 | exact h_.2.2.1 | exact h_.2.2.2.1 | exact h_.2.2.2.2.1 | exact h_.2 | exact h_.2.2 | exact h_.2.2.2 | exact h_.2.2.2.2)))); have n8_ := Aside0.mk (Kd.R_mono (ok' := fun k_ => some k_ ≠ (.slice Ao23 t755.length co23 : Value).ownBlock ∧ some k_ ≠ (.slice Ao29 t764.length co29 : Value).ownBlock) (Kd.R_keptB ((Kd.R_apart' HO777.out (Kd.R_typed HO769.out) (by decide))) hkp (fun k_ hk_ hs_ => Or.elim hs_ (fun e_ => absurd e_ (by first | exact hk_.1.2 | (have h_ := hk_; simp only [and_assoc] at h_; first | exact h_.1 | exact h_.2.1 | exact h_.2.2.1 | exact h_.2.2.2.1 | exact h_.2.2.2.2.1 | exact h_.2 | exact h_.2.2 | exact h_.2.2.2 | exact h_.2.2.2.2))) (fun e_ => absurd e_ (by first | exact hk_.2 | (have h_ := hk_; simp only [and_assoc] at h_; first | exact h_.1 | exact h_.2.1 | exact h_.2.2.1 | exact h_.2.2.2.1 | exact h_.2.2.2.2.1 | exact h_.2 | exact h_.2.2 | exact h_.2.2.2 | exact h_.2.2.2.2))))) (fun k_ hk_ => ⟨(by first | exact hk_.1.1.1.2 | (have h_ := hk_; simp only [and_assoc] at h_; first | exact h_.1 | exact h_.2.1 | exact h_.2.2.1 | exact h_.2.2.2.1 | exact h_.2.2.2.2.1 | exact h_.2 | exact h_.2.2 | exact h_.2.2.2 | exact h_.2.2.2.2)), (by first | exact hk_.1.1.2 | (have h_ := hk_; simp only [and_assoc] at h_; first | exact h_.1 | exact h_.2.1 | exact h_.2.2.1 | exact h_.2.2.2.1 | exact h_.2.2.2.2.1 | exact h_.2 | exact h_.2.2 | exact h_.2.2.2 | exact h_.2.2.2.2))⟩)); have n9_ := Aside0.mk (Kd.R_mono (ok' := fun k_ => some k_ ≠ (.slice Ao24 t758.length co24 : Value).ownBlock ∧ some k_ ≠ (.slice Ao32 t767.length co32 : Value).ownBlock) (Kd.R_keptB ((Kd.R_apart' HO780.out (Kd.R_typed HO766.out) (by decide))) hkp (fun k_ hk_ hs_ => Or.elim hs_ (fun e_ => absurd e_ (by first | exact hk_.2 | (have h_ := hk_; simp only [and_assoc] at h_; first | exact h_.1 | exact h_.2.1 | exact h_.2.2.1 | exact h_.2.2.2.1 | exact h_.2.2.2.2.1 | exact h_.2 | exact h_.2.2 | exact h_.2.2.2 | exact h_.2.2.2.2))) (fun e_ => absurd e_ (by first | exact hk_.1.2 | (have h_ := hk_; simp only [and_assoc] at h_; first | exact h_.1 | exact h_.2.1 | exact h_.2.2.1 | exact h_.2.2.2.1 | exact h_.2.2.2.2.1 | exact h_.2 | exact h_.2.2 | exact h_.2.2.2 | exact h_.2.2.2.2))))) (fun k_ hk_ => ⟨(by first | exact hk_.1.1.1.2 | (have h_ := hk_; simp only [and_assoc] at h_; first | exact h_.1 | exact h_.2.1 | exact h_.2.2.1 | exact h_.2.2.2.1 | exact h_.2.2.2.2.1 | exact h_.2 | exact h_.2.2 | exact h_.2.2.2 | exact h_.2.2.2.2)), (by first | exact hk_.1.1.2 | (have h_ := hk_; simp only [and_assoc] at h_; first | exact h_.1 | exact h_.2.1 | exact h_.2.2.1 | exact h_.2.2.2.1 | exact h_.2.2.2.2.1 | exact h_.2 | exact h_.2.2 | exact h_.2.2.2 | exact h_.2.2.2.2))⟩)); have n10_ := Aside0.mk (hb); clear BK753; clear HO757; clear HO760; clear HO763; clear HO766; clear HO769; clear BK770; clear HO773; clear HO777; clear HO780; clear HB; have BK753 := n0_; have HO757 := n1_; have HO760 := n2_; have HO763 := n3_; have HO766 := n4_; have HO769 := n5_; have BK770 := n6_; have HO773 := n7_; have HO777 := n8_; have HO780 := n9_; have HB := n10_; clear n0_ n1_ n2_ n3_ n4_ n5_ n6_ n7_ n8_ n9_ n10_; (try clear hb); (try clear hkp); (try clear hy0); (try clear hy1)))
    (try simp only [Act.put, sa_, s0_, ss_])
    go_cut [42] (fun v42 wc => ∃ (kq : Nat) (x42_16 : Bool), v42 = .bool x42_16 ∧ Aside0 (laws_FnExactValues.j0 kq t761 t771 x42_16 l0_0 l0_1 = some r) ∧ Aside0 (kq ≤ k) ∧ Aside0 (Kd.R Kd.string 9 wc w.heap.size (fun k_ => some k_ ≠ ((.slice Ao34 t771.length co34) : Value).ownBlock) (.slice Ao35 t761.length co35) t761) ∧ Aside0 (Kd.R Kd.string 9 wc w.heap.size (fun k_ => some k_ ≠ ((.slice Ao35 t761.length co35) : Value).ownBlock) (.slice Ao34 t771.length co34) t771) ∧ Aside0 (Kd.R k43 43 wc w.heap.size (fun _ => True) (.slice Ao29 t764.length co29) t783) ∧ Aside0 (Kd.R k139 139 wc w.heap.size (fun _ => True) (.slice Ao32 t767.length co32) t784) ∧ Aside0 (wc.heap[gb753]? = some (.cells #[(.slice A0_0 l0_0.length c0_0), (.slice A0_1 l0_1.length c0_1)] 70 (0, 0))) ∧ Aside0 (wc.heap[gb770]? = some (.cells #[(.slice Ao29 t764.length co29), (.slice Ao32 t767.length co32)] 75 (0, 0))) ∧ Aside0 (Below w.heap.size w wc))
    case first =>
     have H := HC17.out
     clear HC17
     by_cases c43 : t782 < 0
     ·rw [if_pos c43] at H
      have c43b0 : decide (t782 < 0) = true := decide_eq_true c43
      clear c43
      (first | rw [c43b0] | (simp only [i64_w, i32_w]; rw [c43b0]) | skip)
      have H' := Aside0.mk H
      clear H
      go_wp2
      go_meet
      case rel => exact ⟨_, (true), (by first | rfl | (simp; done) | (simp [*]; done)), H', ⟨by first | omega | exact Nat.le_refl _⟩, ⟨by (with_reducible repeat (first | apply Kd.R_alloc | apply Kd.R_drewN | apply Kd.R_drew)); exact HO763.out⟩, ⟨by (with_reducible repeat (first | apply Kd.R_alloc | apply Kd.R_drewN | apply Kd.R_drew)); exact HO773.out⟩, ⟨by (with_reducible repeat (first | apply Kd.R_alloc | apply Kd.R_drewN | apply Kd.R_drew)); exact Kd.R_mono HO766.out (fun _ hk => trivial)⟩, ⟨by (with_reducible repeat (first | apply Kd.R_alloc | apply Kd.R_drewN | apply Kd.R_drew)); exact Kd.R_mono HO769.out (fun _ hk => trivial)⟩, ⟨by (with_reducible repeat (first | refine blk_drewN ?_ _ | refine blk_drew ?_ | refine blk_alloc ?_ _)); exact BK753.out⟩, ⟨by (with_reducible repeat (first | refine blk_drewN ?_ _ | refine blk_drew ?_ | refine blk_alloc ?_ _)); exact BK770.out⟩, ⟨by repeat (first | (with_reducible first | exact HB.out | apply below_alloc | apply pw_below_drewN | apply below_drew1 | refine below_set ?_ GE753.out | refine below_set ?_ GE770.out) | exact HB.out)⟩⟩
     ·rw [if_neg c43] at H
      have c43b0 : decide (t782 < 0) = false := decide_eq_false c43
      clear c43
      (first | rw [c43b0] | (simp only [i64_w, i32_w]; rw [c43b0]) | skip)
      replace H := Option.bind_eq_some_iff.mp H
      obtain ⟨t785, A440, H⟩ := H
      replace H : (laws_FnExactValues.j0 k t761 t771 (!t785) l0_0 l0_1) = some r := H
      have A44 := Aside0.mk A440
      clear A440
      have H' := Aside0.mk H
      clear H
      go_wp2_with (first | (go_at_call 58; (with_reducible refine (laws_eqStringS.calls k _ _ t771 _ _ t761 t785 _ ?side1 ?side2 ?side3 ?side4 A44.out).mono ?_); (case side1 => repeat (first | exact (Kd.R_reads' HO773.out).2.2 | (with_reducible refine Kd.C_alloc ?_ _) | (with_reducible refine Kd.C_drewN ?_ _) | (with_reducible refine Kd.C_drew ?_))); (case side2 => exact (Kd.R_reads' HO773.out).2.1); (case side3 => repeat (first | exact (Kd.R_reads' HO763.out).2.2 | (with_reducible refine Kd.C_alloc ?_ _) | (with_reducible refine Kd.C_drewN ?_ _) | (with_reducible refine Kd.C_drew ?_))); (case side4 => exact (Kd.R_reads' HO763.out).2.1); rintro e w' ⟨rfl, ⟨nd, rfl⟩⟩))
      go_meet
      case rel => exact ⟨_, (!t785), (by first | rfl | (simp; done) | (simp [*]; done)), H', ⟨by first | omega | exact Nat.le_refl _⟩, ⟨by (with_reducible repeat (first | apply Kd.R_alloc | apply Kd.R_drewN | apply Kd.R_drew)); exact HO763.out⟩, ⟨by (with_reducible repeat (first | apply Kd.R_alloc | apply Kd.R_drewN | apply Kd.R_drew)); exact HO773.out⟩, ⟨by (with_reducible repeat (first | apply Kd.R_alloc | apply Kd.R_drewN | apply Kd.R_drew)); exact Kd.R_mono HO766.out (fun _ hk => trivial)⟩, ⟨by (with_reducible repeat (first | apply Kd.R_alloc | apply Kd.R_drewN | apply Kd.R_drew)); exact Kd.R_mono HO769.out (fun _ hk => trivial)⟩, ⟨by (with_reducible repeat (first | refine blk_drewN ?_ _ | refine blk_drew ?_ | refine blk_alloc ?_ _)); exact BK753.out⟩, ⟨by (with_reducible repeat (first | refine blk_drewN ?_ _ | refine blk_drew ?_ | refine blk_alloc ?_ _)); exact BK770.out⟩, ⟨by repeat (first | (with_reducible first | exact HB.out | apply below_alloc | apply pw_below_drewN | apply below_drew1 | refine below_set ?_ GE753.out | refine below_set ?_ GE770.out) | exact HB.out)⟩⟩
    case rest =>
     clear HC17
     try clear c1
     try clear p2
     try clear c3
     try clear c3b0
     try clear c4
     try clear c5
     try clear c11
     try clear c12
     try clear c15
     try clear c30
     try clear c42
     try clear c43
     try clear c43b0
     try clear c44
     try clear hcz19_0
     try clear hcz19_1
     try clear hcz21_0
     try clear hcz21_1
     try clear hcz26_0
     try clear hcz26_1
     try clear hcz31_0
     try clear hcz31_1
     try clear hcz41_0
     try clear hcz41_1
     try clear hcz5_0
     try clear hcz5_1
     try clear hfz19_0
     try clear hfz19_1
     try clear hfz21_0
     try clear hfz21_1
     try clear hfz26_0
     try clear hfz26_1
     try clear hfz31_0
     try clear hfz31_1
     try clear hfz41_0
     try clear hfz41_1
     try clear hfz5_0
     try clear hfz5_1
     obtain ⟨kq, x42_16, rfl, HA, HJ16, HO_4, HO_6, HO_771000, HO_771001, BK753, BK770, HB⟩ := hcut
     have hl771000_16 := (Kd.R_reads' HO_771000.out).1
     rw [hl771000_16] at HO_771000
     (try simp only [hl771000_16])
     (try simp only [hl771000_16] at BK753)
     (try simp only [hl771000_16] at BK770)
     (try simp only [hl771000_16] at HO_4)
     (try simp only [hl771000_16] at HO_6)
     (try simp only [hl771000_16] at HO_771001)
     have hl771001_16 := (Kd.R_reads' HO_771001.out).1
     rw [hl771001_16] at HO_771001
     (try simp only [hl771001_16])
     (try simp only [hl771001_16] at BK753)
     (try simp only [hl771001_16] at BK770)
     (try simp only [hl771001_16] at HO_4)
     (try simp only [hl771001_16] at HO_6)
     (try simp only [hl771001_16] at HO_771000)
     cases kq with
     | zero => exact absurd HA.out (by simp [laws_FnExactValues.j0])
     | succ kj16 =>
      have H := HA.out
      clear HA
      simp only [laws_FnExactValues.j0] at H
      by_cases c45 : x42_16 = true
      ·subst c45
       have H1 : (none) = some r := by rw [if_pos rfl] at H; exact H
       clear H
       have H := H1
       clear H1
       exact absurd H (by simp)
      ·replace c45 := Bool.eq_false_iff.mpr c45
       subst c45
       have H1 : ((laws_markStringS.f kj16 t771 1).bind fun bt786 => ((laws_heldStringS.f kj16 bt786.2 1).bind fun t788 => (if t788 < 0 then (none) else (if t788 = bt786.1 then ((laws_toSet.f kj16 l0_0 l0_1).bind fun bt789 => ((impl_Values.f kj16 bt789.1 bt789.2).bind fun t795 => ((laws_eqStringS.f kj16 t795 t761).bind fun t798 => (if t798 = true then ((laws_heldStringS.f kj16 bt786.2 1).bind fun t799 => (if t799 < 0 then (none) else (if t799 = bt786.1 then (some true) else (none)))) else (none))))) else (none))))) = some r := by rw [if_neg (show ¬ (false = true) by decide)] at H; exact H
       clear H
       have H := H1
       clear H1
       replace H := Option.bind_eq_some_iff.mp H
       obtain ⟨⟨t786, t787⟩, A460, H⟩ := H
       replace H : ((laws_heldStringS.f kj16 t787 1).bind fun t788 => (if t788 < 0 then (none) else (if t788 = t786 then ((laws_toSet.f kj16 l0_0 l0_1).bind fun bt789 => ((impl_Values.f kj16 bt789.1 bt789.2).bind fun t795 => ((laws_eqStringS.f kj16 t795 t761).bind fun t798 => (if t798 = true then ((laws_heldStringS.f kj16 t787 1).bind fun t799 => (if t799 < 0 then (none) else (if t799 = t786 then (some true) else (none)))) else (none))))) else (none)))) = some r := H
       have A46 := Aside0.mk A460
       clear A460
       replace H := Option.bind_eq_some_iff.mp H
       obtain ⟨t788, A470, H⟩ := H
       replace H : (if t788 < 0 then (none) else (if t788 = t786 then ((laws_toSet.f kj16 l0_0 l0_1).bind fun bt789 => ((impl_Values.f kj16 bt789.1 bt789.2).bind fun t795 => ((laws_eqStringS.f kj16 t795 t761).bind fun t798 => (if t798 = true then ((laws_heldStringS.f kj16 t787 1).bind fun t799 => (if t799 < 0 then (none) else (if t799 = t786 then (some true) else (none)))) else (none))))) else (none))) = some r := H
       have A47 := Aside0.mk A470
       clear A470
       by_cases c48 : t788 < 0
       ·rw [if_pos c48] at H
        exact absurd H (by simp)
       ·rw [if_neg c48] at H
        have c48b0 : decide (t788 < 0) = false := decide_eq_false c48
        clear c48
        by_cases c49 : t788 = t786
        ·rw [if_pos c49] at H
         have c49b0 : (t788 == t786) = true := beq_iff_eq.mpr c49
         have c49b1 : (t788 != t786) = false := bne_eq_false_iff_eq.mpr c49
         clear c49
         replace H := Option.bind_eq_some_iff.mp H
         obtain ⟨⟨t789, t792⟩, A500, H⟩ := H
         replace H : ((impl_Values.f kj16 t789 t792).bind fun t795 => ((laws_eqStringS.f kj16 t795 t761).bind fun t798 => (if t798 = true then ((laws_heldStringS.f kj16 t787 1).bind fun t799 => (if t799 < 0 then (none) else (if t799 = t786 then (some true) else (none)))) else (none)))) = some r := H
         have A50 := Aside0.mk A500
         clear A500
         replace H := Option.bind_eq_some_iff.mp H
         obtain ⟨t795, A510, H⟩ := H
         replace H : ((laws_eqStringS.f kj16 t795 t761).bind fun t798 => (if t798 = true then ((laws_heldStringS.f kj16 t787 1).bind fun t799 => (if t799 < 0 then (none) else (if t799 = t786 then (some true) else (none)))) else (none))) = some r := H
         have A51 := Aside0.mk A510
         clear A510
         replace H := Option.bind_eq_some_iff.mp H
         obtain ⟨t798, A520, H⟩ := H
         replace H : (if t798 = true then ((laws_heldStringS.f kj16 t787 1).bind fun t799 => (if t799 < 0 then (none) else (if t799 = t786 then (some true) else (none)))) else (none)) = some r := H
         have A52 := Aside0.mk A520
         clear A520
         by_cases c53 : t798 = true
         ·subst c53
          have H1 : ((laws_heldStringS.f kj16 t787 1).bind fun t799 => (if t799 < 0 then (none) else (if t799 = t786 then (some true) else (none)))) = some r := by rw [if_pos rfl] at H; exact H
          clear H
          have H := H1
          clear H1
          replace H := Option.bind_eq_some_iff.mp H
          obtain ⟨t799, A540, H⟩ := H
          replace H : (if t799 < 0 then (none) else (if t799 = t786 then (some true) else (none))) = some r := H
          have A54 := Aside0.mk A540
          clear A540
          by_cases c55 : t799 < 0
          ·rw [if_pos c55] at H
           exact absurd H (by simp)
          ·rw [if_neg c55] at H
           have c55b0 : decide (t799 < 0) = false := decide_eq_false c55
           clear c55
           by_cases c56 : t799 = t786
           ·rw [if_pos c56] at H
            have c56b0 : (t799 == t786) = true := beq_iff_eq.mpr c56
            have c56b1 : (t799 != t786) = false := bne_eq_false_iff_eq.mpr c56
            clear c56
            obtain rfl := Option.some.inj H
            go_wp2_with (first | ((with_reducible refine gate_callee (f := 60) rfl ?_); refine goesL_ (some 45) rfl rfl Try.func60 (by kernel_rfl) rfl #[.slice Ao34 t771.length co34, .int .i64 1] rfl (by (try simp only [List.map_toArray, List.map_cons, List.map_nil]); first | done | rfl | (simp only [List.length_drop, List.length_take]; rfl)) ?_; (with_reducible refine (laws_markStringS.calls kj16 (fun k_ => some k_ = (.slice Ao34 t771.length co34 : Value).ownBlock) (.slice Ao34 t771.length co34) t771 1 t786 t787 w _ ?side1 ?side2 A46.out).mono ?_); (case side1 => repeat (first | (with_reducible first | exact HB.out | apply below_alloc | apply pw_below_drewN | apply below_drew1 | refine below_set ?_ GE753.out | refine below_set ?_ GE770.out) | exact HB.out)); (case side2 => exact Kd.R_tight rfl HO_6.out); rintro e w57 ⟨rfl, hy0, hb, hkp⟩; refine ⟨_, rfl, ?_⟩; have n0_ := Aside0.mk (Kd.R_mono (ok' := fun k_ => some k_ ≠ (.slice Ao34 t771.length co34 : Value).ownBlock) (Kd.R_keptB (HO_4.out) hkp (fun k_ hk_ hs_ => (hk_) hs_)) (fun k_ hk_ => (by first | exact hk_.1 | (have h_ := hk_; simp only [and_assoc] at h_; first | exact h_.1 | exact h_.2.1 | exact h_.2.2.1 | exact h_.2.2.2.1 | exact h_.2.2.2.2.1 | exact h_.2 | exact h_.2.2 | exact h_.2.2.2 | exact h_.2.2.2.2)))); have n1_ := Aside0.mk (Kd.R_reok rfl hy0 (fun k_ e_ => HO_6.out.1 k_ e_)); have n2_ := Aside0.mk (Kd.R_mono (ok' := fun k_ => True) (Kd.R_keptB ((Kd.R_apart' HO_771000.out (Kd.R_typed HO_6.out) (by decide))) hkp (fun k_ hk_ hs_ => (hk_.2) hs_)) (fun k_ hk_ => trivial)); have n3_ := Aside0.mk (Kd.R_mono (ok' := fun k_ => True) (Kd.R_keptB ((Kd.R_apart' HO_771001.out (Kd.R_typed HO_6.out) (by decide))) hkp (fun k_ hk_ hs_ => (hk_.2) hs_)) (fun k_ hk_ => trivial)); have n4_ := Aside0.mk (blk_kept (by (with_reducible repeat (first | refine blk_drewN ?_ _ | refine blk_drew ?_ | refine blk_alloc ?_ _)); exact BK753.out) hkp (fun hs_ => (fun e_ => (Kd.R_ne HO_6.out BK753.out (by decide)) e_) hs_)); have n5_ := Aside0.mk (blk_kept (by (with_reducible repeat (first | refine blk_drewN ?_ _ | refine blk_drew ?_ | refine blk_alloc ?_ _)); exact BK770.out) hkp (fun hs_ => (fun e_ => (Kd.R_ne HO_6.out BK770.out (by decide)) e_) hs_)); have n6_ := Aside0.mk (hb); clear HO_4; clear HO_6; clear HO_771000; clear HO_771001; clear BK753; clear BK770; clear HB; have HO_4 := n0_; have HO_6 := n1_; have HO_771000 := n2_; have HO_771001 := n3_; have BK753 := n4_; have BK770 := n5_; have HB := n6_; clear n0_ n1_ n2_ n3_ n4_ n5_ n6_; (try clear hb); (try clear hkp); (try clear hy0)) | ((with_reducible refine gate_callee (f := 61) rfl ?_); refine goesL_ (some 48) rfl rfl Try.func61 (by kernel_rfl) rfl #[.slice Ao34 t787.length co34, .int .i64 1] rfl (by (try simp only [List.map_toArray, List.map_cons, List.map_nil]); first | done | (rw [show t787.length = t771.length from (Kd.R_reads' HO_6.out).1.symm] <;> rfl) | rfl | (simp only [List.length_drop, List.length_take]; rfl)) ?_; (with_reducible refine (laws_heldStringS.calls kj16 _ _ t787 1 t788 _ ?side1 ?side2 A47.out).mono ?_); (case side1 => repeat (first | exact (Kd.R_reads' HO_6.out).2.2 | (with_reducible refine Kd.C_alloc ?_ _) | (with_reducible refine Kd.C_drewN ?_ _) | (with_reducible refine Kd.C_drew ?_))); (case side2 => rw [show t787.length = t771.length from (Kd.R_reads' HO_6.out).1.symm]; exact (Kd.R_reads' HO_6.out).2.1); rintro e w58 ⟨rfl, hb⟩; refine ⟨_, rfl, ?_⟩; have n0_ := Aside0.mk (Kd.R_below (by (with_reducible repeat (first | apply Kd.R_alloc | apply Kd.R_drewN | apply Kd.R_drew)); exact HO_4.out) hb); have n1_ := Aside0.mk (Kd.R_below (by (with_reducible repeat (first | apply Kd.R_alloc | apply Kd.R_drewN | apply Kd.R_drew)); exact HO_6.out) hb); have n2_ := Aside0.mk (Kd.R_below (by (with_reducible repeat (first | apply Kd.R_alloc | apply Kd.R_drewN | apply Kd.R_drew)); exact HO_771000.out) hb); have n3_ := Aside0.mk (Kd.R_below (by (with_reducible repeat (first | apply Kd.R_alloc | apply Kd.R_drewN | apply Kd.R_drew)); exact HO_771001.out) hb); have n4_ := Aside0.mk (blk_below (g := gb753) (o := .cells #[.slice A0_0 l0_0.length c0_0, .slice A0_1 l0_1.length c0_1] 70 (0, 0)) (by (with_reducible repeat (first | refine blk_drewN ?_ _ | refine blk_drew ?_ | refine blk_alloc ?_ _)); exact BK753.out) hb); have n5_ := Aside0.mk (blk_below (g := gb770) (o := .cells #[.slice Ao29 t783.length co29, .slice Ao32 t784.length co32] 75 (0, 0)) (by (with_reducible repeat (first | refine blk_drewN ?_ _ | refine blk_drew ?_ | refine blk_alloc ?_ _)); exact BK770.out) hb); have n6_ := Aside0.mk (below_step (by repeat (first | (with_reducible first | exact HB.out | apply below_alloc | apply pw_below_drewN | apply below_drew1 | refine below_set ?_ GE753.out | refine below_set ?_ GE770.out) | exact HB.out)) hb); clear HO_4; clear HO_6; clear HO_771000; clear HO_771001; clear BK753; clear BK770; clear HB; have HO_4 := n0_; have HO_6 := n1_; have HO_771000 := n2_; have HO_771001 := n3_; have BK753 := n4_; have BK770 := n5_; have HB := n6_; clear n0_ n1_ n2_ n3_ n4_ n5_ n6_; (try clear hb); (try clear hb2); (try clear hk); (try clear hi); have hnb59 := NB753_770.out; have hnc59 := NB770_753.out; have hcz60_0 : w58.cell? ⟨gb753, 0, none⟩ = some (.slice A0_0 l0_0.length c0_0) := (blk_cell BK753.out 0).trans rfl; have hcz60_1 : w58.cell? ⟨gb753, 1, none⟩ = some (.slice A0_1 l0_1.length c0_1) := (blk_cell BK753.out 1).trans rfl; have hfz60_0 := blk_frozen BK753.out 0; have hfz60_1 := blk_frozen BK753.out 1) | ((with_reducible refine gate_callee (f := 44) rfl ?_); refine goesL_ (some 55) rfl rfl Try.func44 (by kernel_rfl) rfl #[.agg #[.slice A0_0 l0_0.length c0_0, .slice A0_1 l0_1.length c0_1]] rfl (by (try simp only [List.map_toArray, List.map_cons, List.map_nil]); first | done | rfl | (simp only [List.length_drop, List.length_take]; rfl)) ?_; (with_reducible refine (laws_toSet.calls kj16 _ _ l0_0 _ _ l0_1 t789 t792 _ ?side1 ?side2 ?side3 ?side4 A50.out).mono ?_); (case side1 => repeat (first | exact (Kd.C_below HR0_0.out HB.out) | (with_reducible refine Kd.C_alloc ?_ _) | (with_reducible refine Kd.C_drewN ?_ _) | (with_reducible refine Kd.C_drew ?_))); (case side2 => exact HC0_0.out); (case side3 => repeat (first | exact (Kd.C_below HR0_1.out HB.out) | (with_reducible refine Kd.C_alloc ?_ _) | (with_reducible refine Kd.C_drewN ?_ _) | (with_reducible refine Kd.C_drew ?_))); (case side4 => exact HC0_1.out); rintro e w61 ⟨v790, v793, rfl, ho0, ho1, hb⟩; refine ⟨_, rfl, ?_⟩; have n0_ := Aside0.mk (Kd.R_below (by (with_reducible repeat (first | apply Kd.R_alloc | apply Kd.R_drewN | apply Kd.R_drew)); exact HO_4.out) hb); have n1_ := Aside0.mk (Kd.R_below (by (with_reducible repeat (first | apply Kd.R_alloc | apply Kd.R_drewN | apply Kd.R_drew)); exact HO_6.out) hb); have n2_ := Aside0.mk (Kd.R_elder' (by (with_reducible repeat (first | apply Kd.R_alloc | apply Kd.R_drewN | apply Kd.R_drew)); exact HO_771000.out) (Kd.R_base ho0) hb); have n3_ := Aside0.mk (Kd.R_elder' (by (with_reducible repeat (first | apply Kd.R_alloc | apply Kd.R_drewN | apply Kd.R_drew)); exact HO_771001.out) (Kd.R_base ho1) hb); have n4_ := Aside0.mk (Kd.R_lower (Kd.R_new' ho0 (Kd.R_lt (by (with_reducible repeat (first | apply Kd.R_alloc | apply Kd.R_drewN | apply Kd.R_drew)); exact HO_771000.out))) (below_size (by repeat (first | (with_reducible first | exact HB.out | apply below_alloc | apply pw_below_drewN | apply below_drew1 | refine below_set ?_ GE753.out | refine below_set ?_ GE770.out) | exact HB.out)))); have n5_ := Aside0.mk (Kd.R_lower (Kd.R_new' ho1 (Kd.R_lt (by (with_reducible repeat (first | apply Kd.R_alloc | apply Kd.R_drewN | apply Kd.R_drew)); exact HO_771001.out))) (below_size (by repeat (first | (with_reducible first | exact HB.out | apply below_alloc | apply pw_below_drewN | apply below_drew1 | refine below_set ?_ GE753.out | refine below_set ?_ GE770.out) | exact HB.out)))); have n6_ := Aside0.mk (blk_below (g := gb753) (o := .cells #[.slice A0_0 l0_0.length c0_0, .slice A0_1 l0_1.length c0_1] 70 (0, 0)) (by (with_reducible repeat (first | refine blk_drewN ?_ _ | refine blk_drew ?_ | refine blk_alloc ?_ _)); exact BK753.out) hb); have n7_ := Aside0.mk (blk_below (g := gb770) (o := .cells #[.slice Ao29 t783.length co29, .slice Ao32 t784.length co32] 75 (0, 0)) (by (with_reducible repeat (first | refine blk_drewN ?_ _ | refine blk_drew ?_ | refine blk_alloc ?_ _)); exact BK770.out) hb); have n8_ := Aside0.mk (below_step (by repeat (first | (with_reducible first | exact HB.out | apply below_alloc | apply pw_below_drewN | apply below_drew1 | refine below_set ?_ GE753.out | refine below_set ?_ GE770.out) | exact HB.out)) hb); clear HO_4; clear HO_6; clear HO_771000; clear HO_771001; clear BK753; clear BK770; clear HB; have HO_4 := n0_; have HO_6 := n1_; have HO_771000 := n2_; have HO_771001 := n3_; have HO791 := n4_; have HO794 := n5_; have BK753 := n6_; have BK770 := n7_; have HB := n8_; clear n0_ n1_ n2_ n3_ n4_ n5_ n6_ n7_ n8_; (try clear hb); (try clear hb2); (try clear hk); (try clear hi); (try clear ho0); (try clear ho1); obtain ⟨Ao62, co62, eo62⟩ := Kd.R_slice HO791.out; subst eo62; obtain ⟨Ao63, co63, eo63⟩ := Kd.R_slice HO794.out; subst eo63) | ((with_reducible refine gate_callee (f := 57) rfl ?_); refine goesL_ (some 56) rfl rfl Try.func57 (by kernel_rfl) rfl #[.agg #[.slice Ao62 t789.length co62, .slice Ao63 t792.length co63]] rfl (by (try simp only [List.map_toArray, List.map_cons, List.map_nil]); first | done | rfl | (simp only [List.length_drop, List.length_take]; rfl)) ?_; (with_reducible refine (impl_Values.calls kj16 _ _ t789 _ _ t792 t795 _ ?side1 ?side2 ?side3 ?side4 A51.out).mono ?_); (case side1 => repeat (first | exact (Kd.R_reads' HO791.out).2.2 | (with_reducible refine Kd.C_alloc ?_ _) | (with_reducible refine Kd.C_drewN ?_ _) | (with_reducible refine Kd.C_drew ?_))); (case side2 => exact (Kd.R_reads' HO791.out).2.1); (case side3 => repeat (first | exact (Kd.R_reads' HO794.out).2.2 | (with_reducible refine Kd.C_alloc ?_ _) | (with_reducible refine Kd.C_drewN ?_ _) | (with_reducible refine Kd.C_drew ?_))); (case side4 => exact (Kd.R_reads' HO794.out).2.1); rintro e w64 ⟨v796, rfl, ho0, hb⟩; refine ⟨_, rfl, ?_⟩; have n0_ := Aside0.mk (Kd.R_elder' (by (with_reducible repeat (first | apply Kd.R_alloc | apply Kd.R_drewN | apply Kd.R_drew)); exact HO_4.out) (Kd.R_base ho0) hb); have n1_ := Aside0.mk (Kd.R_elder' (by (with_reducible repeat (first | apply Kd.R_alloc | apply Kd.R_drewN | apply Kd.R_drew)); exact HO_6.out) (Kd.R_base ho0) hb); have n2_ := Aside0.mk (Kd.R_below (by (with_reducible repeat (first | apply Kd.R_alloc | apply Kd.R_drewN | apply Kd.R_drew)); exact HO_771000.out) hb); have n3_ := Aside0.mk (Kd.R_below (by (with_reducible repeat (first | apply Kd.R_alloc | apply Kd.R_drewN | apply Kd.R_drew)); exact HO_771001.out) hb); have n4_ := Aside0.mk (Kd.R_below (by (with_reducible repeat (first | apply Kd.R_alloc | apply Kd.R_drewN | apply Kd.R_drew)); exact HO791.out) hb); have n5_ := Aside0.mk (Kd.R_below (by (with_reducible repeat (first | apply Kd.R_alloc | apply Kd.R_drewN | apply Kd.R_drew)); exact HO794.out) hb); have n6_ := Aside0.mk (Kd.R_lower (Kd.R_new' (Kd.R_new' ho0 (Kd.R_lt (by (with_reducible repeat (first | apply Kd.R_alloc | apply Kd.R_drewN | apply Kd.R_drew)); exact HO_4.out))) (Kd.R_lt (by (with_reducible repeat (first | apply Kd.R_alloc | apply Kd.R_drewN | apply Kd.R_drew)); exact HO_6.out))) (below_size (by repeat (first | (with_reducible first | exact HB.out | apply below_alloc | apply pw_below_drewN | apply below_drew1 | refine below_set ?_ GE753.out | refine below_set ?_ GE770.out) | exact HB.out)))); have n7_ := Aside0.mk (blk_below (g := gb753) (o := .cells #[.slice A0_0 l0_0.length c0_0, .slice A0_1 l0_1.length c0_1] 70 (0, 0)) (by (with_reducible repeat (first | refine blk_drewN ?_ _ | refine blk_drew ?_ | refine blk_alloc ?_ _)); exact BK753.out) hb); have n8_ := Aside0.mk (blk_below (g := gb770) (o := .cells #[.slice Ao29 t783.length co29, .slice Ao32 t784.length co32] 75 (0, 0)) (by (with_reducible repeat (first | refine blk_drewN ?_ _ | refine blk_drew ?_ | refine blk_alloc ?_ _)); exact BK770.out) hb); have n9_ := Aside0.mk (below_step (by repeat (first | (with_reducible first | exact HB.out | apply below_alloc | apply pw_below_drewN | apply below_drew1 | refine below_set ?_ GE753.out | refine below_set ?_ GE770.out) | exact HB.out)) hb); clear HO_4; clear HO_6; clear HO_771000; clear HO_771001; clear HO791; clear HO794; clear BK753; clear BK770; clear HB; have HO_4 := n0_; have HO_6 := n1_; have HO_771000 := n2_; have HO_771001 := n3_; have HO791 := n4_; have HO794 := n5_; have HO797 := n6_; have BK753 := n7_; have BK770 := n8_; have HB := n9_; clear n0_ n1_ n2_ n3_ n4_ n5_ n6_ n7_ n8_ n9_; (try clear hb); (try clear hb2); (try clear hk); (try clear hi); (try clear ho0); obtain ⟨Ao65, co65, eo65⟩ := Kd.R_slice HO797.out; subst eo65) | ((with_reducible refine gate_callee (f := 58) rfl ?_); refine goesL_ (some 59) rfl rfl Try.func58 (by kernel_rfl) rfl #[.slice Ao65 t795.length co65, .slice Ao35 t761.length co35] rfl (by (try simp only [List.map_toArray, List.map_cons, List.map_nil]); first | done | rfl | (simp only [List.length_drop, List.length_take]; rfl)) ?_; (with_reducible refine (laws_eqStringS.calls kj16 _ _ t795 _ _ t761 true _ ?side1 ?side2 ?side3 ?side4 A52.out).mono ?_); (case side1 => repeat (first | exact (Kd.R_reads' HO797.out).2.2 | (with_reducible refine Kd.C_alloc ?_ _) | (with_reducible refine Kd.C_drewN ?_ _) | (with_reducible refine Kd.C_drew ?_))); (case side2 => exact (Kd.R_reads' HO797.out).2.1); (case side3 => repeat (first | exact (Kd.R_reads' HO_4.out).2.2 | (with_reducible refine Kd.C_alloc ?_ _) | (with_reducible refine Kd.C_drewN ?_ _) | (with_reducible refine Kd.C_drew ?_))); (case side4 => exact (Kd.R_reads' HO_4.out).2.1); rintro e w' ⟨rfl, ⟨nd, rfl⟩⟩; refine ⟨_, rfl, ?_⟩) | ((with_reducible refine gate_callee (f := 61) rfl ?_); refine goesL_ (some 63) rfl rfl Try.func61 (by kernel_rfl) rfl #[.slice Ao34 t787.length co34, .int .i64 1] rfl (by (try simp only [List.map_toArray, List.map_cons, List.map_nil]); first | done | (rw [show t787.length = t771.length from (Kd.R_reads' HO_6.out).1.symm] <;> rfl) | rfl | (simp only [List.length_drop, List.length_take]; rfl)) ?_; (with_reducible refine (laws_heldStringS.calls kj16 _ _ t787 1 t799 _ ?side1 ?side2 A54.out).mono ?_); (case side1 => repeat (first | exact (Kd.R_reads' HO_6.out).2.2 | (with_reducible refine Kd.C_alloc ?_ _) | (with_reducible refine Kd.C_drewN ?_ _) | (with_reducible refine Kd.C_drew ?_))); (case side2 => rw [show t787.length = t771.length from (Kd.R_reads' HO_6.out).1.symm]; exact (Kd.R_reads' HO_6.out).2.1); rintro e w66 ⟨rfl, hb⟩; refine ⟨_, rfl, ?_⟩; have n0_ := Aside0.mk (Kd.R_below (by (with_reducible repeat (first | apply Kd.R_alloc | apply Kd.R_drewN | apply Kd.R_drew)); exact HO_4.out) hb); have n1_ := Aside0.mk (Kd.R_below (by (with_reducible repeat (first | apply Kd.R_alloc | apply Kd.R_drewN | apply Kd.R_drew)); exact HO_6.out) hb); have n2_ := Aside0.mk (Kd.R_below (by (with_reducible repeat (first | apply Kd.R_alloc | apply Kd.R_drewN | apply Kd.R_drew)); exact HO_771000.out) hb); have n3_ := Aside0.mk (Kd.R_below (by (with_reducible repeat (first | apply Kd.R_alloc | apply Kd.R_drewN | apply Kd.R_drew)); exact HO_771001.out) hb); have n4_ := Aside0.mk (Kd.R_below (by (with_reducible repeat (first | apply Kd.R_alloc | apply Kd.R_drewN | apply Kd.R_drew)); exact HO791.out) hb); have n5_ := Aside0.mk (Kd.R_below (by (with_reducible repeat (first | apply Kd.R_alloc | apply Kd.R_drewN | apply Kd.R_drew)); exact HO794.out) hb); have n6_ := Aside0.mk (Kd.R_below (by (with_reducible repeat (first | apply Kd.R_alloc | apply Kd.R_drewN | apply Kd.R_drew)); exact HO797.out) hb); have n7_ := Aside0.mk (blk_below (g := gb753) (o := .cells #[.slice A0_0 l0_0.length c0_0, .slice A0_1 l0_1.length c0_1] 70 (0, 0)) (by (with_reducible repeat (first | refine blk_drewN ?_ _ | refine blk_drew ?_ | refine blk_alloc ?_ _)); exact BK753.out) hb); have n8_ := Aside0.mk (blk_below (g := gb770) (o := .cells #[.slice Ao29 t783.length co29, .slice Ao32 t784.length co32] 75 (0, 0)) (by (with_reducible repeat (first | refine blk_drewN ?_ _ | refine blk_drew ?_ | refine blk_alloc ?_ _)); exact BK770.out) hb); have n9_ := Aside0.mk (below_step (by repeat (first | (with_reducible first | exact HB.out | apply below_alloc | apply pw_below_drewN | apply below_drew1 | refine below_set ?_ GE753.out | refine below_set ?_ GE770.out) | exact HB.out)) hb); clear HO_4; clear HO_6; clear HO_771000; clear HO_771001; clear HO791; clear HO794; clear HO797; clear BK753; clear BK770; clear HB; have HO_4 := n0_; have HO_6 := n1_; have HO_771000 := n2_; have HO_771001 := n3_; have HO791 := n4_; have HO794 := n5_; have HO797 := n6_; have BK753 := n7_; have BK770 := n8_; have HB := n9_; clear n0_ n1_ n2_ n3_ n4_ n5_ n6_ n7_ n8_ n9_; (try clear hb); (try clear hb2); (try clear hk); (try clear hi)))
            go_ret
            exact ⟨by first | rfl | (simp [errW_none, errW_some] <;> rfl) | (simp [*, errW_none, errW_some] <;> rfl), by repeat (first | (with_reducible first | exact HB.out | apply below_alloc | apply pw_below_drewN | apply below_drew1 | refine below_set ?_ GE753.out | refine below_set ?_ GE770.out) | exact HB.out)⟩
           ·rw [if_neg c56] at H
            exact absurd H (by simp)
         ·replace c53 := Bool.eq_false_iff.mpr c53
          subst c53
          have H1 : (none) = some r := by rw [if_neg (show ¬ (false = true) by decide)] at H; exact H
          clear H
          have H := H1
          clear H1
          exact absurd H (by simp)
        ·rw [if_neg c49] at H
         exact absurd H (by simp)
   ·replace c15 := Bool.eq_false_iff.mpr c15
    subst c15
    have H1 : (none) = some r := by rw [if_neg (show ¬ (false = true) by decide)] at H; exact H
    clear H
    have H := H1
    clear H1
    exact absurd H (by simp)
  ·replace c12 := Bool.eq_false_iff.mpr c12
   subst c12
   have H1 : (none) = some r := by rw [if_neg (show ¬ (false = true) by decide)] at H; exact H
   clear H
   have H := H1
   clear H1
   exact absurd H (by simp)

end Go.Proofs.Ytdjhclgkkklajaa.P

namespace Go.Proofs.Ytdjhclgkkklajaa.P
open Go.RowKit Go.Proofs.Ytdjhclgkkklajaa.RO
def laws_FnExactValues.Pure : Prop := ∀ (x0 : S70), wfT70 x0 → ∃ k, laws_FnExactValues.f k x0.f0 x0.f1 = some true
end Go.Proofs.Ytdjhclgkkklajaa.P

namespace Go.Proofs.Ytdjhclgkkklajaa.Q
open Go.RowKit Go.Proofs.YtdjhclgkkklajaaW.PrintWords Go.Proofs.YtdjhclgkkklajaaW.PrintMore

theorem w64 {x : Int} (h0 : -9223372036854775808 ≤ x) (h1 : x ≤ 9223372036854775807) : wrap64 x = x := by unfold wrap64; omega
theorem evIte {α : Type} {c : Prop} [Decidable c] {f g : Nat → Option α} {r : α} (h : c → Ev f r) (h' : ¬ c → Ev g r) : Ev (fun k => if c then f k else g k) r := by
  by_cases hc : c
  · simp only [if_pos hc]; exact h hc
  · simp only [if_neg hc]; exact h' hc
theorem evPos {α : Type} {c : Prop} [Decidable c] {f g : Nat → Option α} {r : α} (hc : c) (h : Ev f r) : Ev (fun k => if c then f k else g k) r := by
  simp only [if_pos hc]; exact h
theorem evNeg {α : Type} {c : Prop} [Decidable c] {f g : Nat → Option α} {r : α} (hc : ¬ c) (h : Ev g r) : Ev (fun k => if c then f k else g k) r := by
  simp only [if_neg hc]; exact h
theorem evBind1 {α β : Type} {g : Option α} {f : Nat → α → Option β} {a : α} {r : β} (h : g = some a) (k : Ev (fun n => f n a) r) : Ev (fun n => g.bind (f n)) r := by
  subst h; exact k
theorem dropCons {α : Type} {l : List α} {i : Nat} {a : α} {s : List α} (h : l.drop i = a :: s) (d : α) : i < l.length ∧ l.getD i d = a ∧ l.drop (i + 1) = s := by
  have hl : i < l.length := by
    have := congrArg List.length h
    simp at this; omega
  rw [List.drop_eq_getElem_cons hl] at h
  injection h with h1 h2
  exact ⟨hl, by rw [List.getD_eq_getElem?_getD, List.getElem?_eq_getElem hl]; exact h1, h2⟩
theorem dropNil {α : Type} {l : List α} {i : Nat} (h : l.drop i = []) : l.length ≤ i := by
  have := congrArg List.length h
  simp at this; omega
theorem dropNil' {α : Type} {l : List α} {i : Nat} (h : l.drop i = []) (hi : i ≤ l.length) : l.length = i := by
  have := dropNil h; omega
end Go.Proofs.Ytdjhclgkkklajaa.Q

namespace Go.Proofs.Ytdjhclgkkklajaa.P
open Go.RowKit Go.Proofs.YtdjhclgkkklajaaW.PrintWords Go.Proofs.YtdjhclgkkklajaaW.PrintLast Go.Proofs.YtdjhclgkkklajaaW.PrintMore
attribute [local go_sem] max2_int min2_int max_two min_two max_three min_three max_four min_four   -- for this text's walks alone
set_option linter.unusedVariables false
set_option linter.unusedSimpArgs false

/-! ### impl_isMany_impl_Mark: function 85 -/
def impl_isMany_impl_Mark.f (l0 : List (S43)) : Option (Bool) := some (decide ((l0.length : Int) > 400))
end Go.Proofs.Ytdjhclgkkklajaa.P

namespace Go.Proofs.Ytdjhclgkkklajaa.Q
open Go.RowKit Go.Proofs.Ytdjhclgkkklajaa.P Go.Proofs.YtdjhclgkkklajaaW.PrintWords Go.Proofs.YtdjhclgkkklajaaW.PrintMore

abbrev Mark := S43
def isWithin (n low high : Int) : Bool := decide (low ≤ n) && decide (n ≤ high)
def isNode (n : Int) : Bool := isWithin n 1 5
def isDot (a b : Int) : Bool := isNode a && isWithin b 1 1000000
theorem l02Is_is (n a b : Int) : spec_l02Is.f n a b = some (isWithin n a b) := by
  unfold spec_l02Is.f isWithin
  split
  · rename_i h; simp [show a ≤ n from h]
  · rename_i h; simp [show ¬ a ≤ n from h]
theorem l02Node_is (n : Int) : spec_l02Node.f n = some (isNode n) := by simp [spec_l02Node.f, l02Is_is, isNode]
theorem l02Dot_is (a b : Int) : spec_l02Dot.f a b = some (isDot a b) := by
  simp only [spec_l02Dot.f, l02Node_is, l02Is_is, isDot, Option.bind_some]
  cases isNode a <;> simp
theorem within_is (n a b : Int) : impl_within.f n a b = some (isWithin n a b) := by
  unfold impl_within.f isWithin
  split
  · rename_i h; simp [show a ≤ n from h]
  · rename_i h; simp [show ¬ a ≤ n from h]
theorem isNode_is (n : Int) : impl_isNode.f n = some (isNode n) := by simp [impl_isNode.f, within_is, isNode]
theorem isDot_is (a b : Int) : impl_isDot.f a b = some (isDot a b) := by
  simp only [impl_isDot.f, isNode_is, within_is, isDot, Option.bind_some]
  cases isNode a <;> simp
/-- Dots whose nodes rise from above p. -/
def okFrom : Int → List Mark → Bool
  | _, [] => true
  | p, m :: r => isDot m.f0 m.f1 && (decide (p < m.f0) && okFrom m.f0 r)
def seenOk (v : List Mark) : Bool := okFrom 0 v
theorem isDot_iff (a b : Int) : isDot a b = true ↔ (1 ≤ a ∧ a ≤ 5) ∧ 1 ≤ b ∧ b ≤ 1000000 := by simp [isDot, isNode, isWithin]
/-- The node ahead of place i. -/
def prevAt (l : List Mark) (i : Nat) : Int := if i = 0 then 0 else (l.getD (i - 1) z43).f0
theorem prevAt_succ {l : List Mark} {i : Nat} {m : Mark} (h : l.getD i z43 = m) : prevAt l (i + 1) = m.f0 := by
  simp only [prevAt, Nat.add_sub_cancel, h]
  simp
theorem impl_seenRight_l0 (l : List Mark) (hl : l.length ≤ 4611686018427387904) : ∀ (s : List Mark) (i : Nat), l.drop i = s → i ≤ l.length → 0 ≤ prevAt l i →
    Ev (fun k => impl_seenRight.l0 k l l (l.length : Int) (i : Int)) (okFrom (prevAt l i) s)
  | [], i, h, hi, hp => by
    have := dropNil' h hi
    refine Ev.step (f := fun _ => some true) (fun k => ?_) (Ev.now _)
    simp only [impl_seenRight.l0]
    rw [if_neg (by omega)]
  | m :: s, i, h, hi, hp => by
    obtain ⟨h1, h2, h3⟩ := dropCons h z43
    have hr : rd_T43 l (i : Int) = m := by simpa [rd_T43] using h2
    have ih := fun hq => impl_seenRight_l0 l hl s (i + 1) h3 (by omega) hq
    rw [prevAt_succ h2] at ih
    by_cases hd : isDot m.f0 m.f1 = true
    · have hd' := (isDot_iff _ _).1 hd
      by_cases hlt : prevAt l i < m.f0
      · have ih := ih (by omega)
        refine Ev.step (fun k => ?_) (show Ev _ (okFrom (prevAt l i) (m :: s)) from by simp only [okFrom, hd, hlt, decide_true, Bool.true_and]; exact ih)
        simp only [impl_seenRight.l0, hr, isDot_is, Option.bind_some]
        rw [if_pos (by omega), if_pos (by omega), if_pos (by omega), if_pos hd, w64 (x := (i : Int) + 1) (by omega) (by omega)]
        by_cases hi0 : i = 0
        · subst hi0
          rw [if_neg (by omega)]; rfl
        · have hq : rd_T43 l ((i : Int) - 1) = l.getD (i - 1) z43 := by
            simp only [rd_T43]; congr 1; omega
          rw [w64 (x := (i : Int) - 1) (by omega) (by omega), if_pos (by omega), if_pos (by omega), if_pos (by omega), hq, if_neg (by simp only [prevAt, if_neg hi0] at hlt; omega)]
          rfl
      · refine Ev.step (f := fun _ => some false) (fun k => ?_) (show Ev _ (okFrom (prevAt l i) (m :: s)) from by simp only [okFrom, hd, hlt, decide_false, Bool.false_and, Bool.and_false]; exact Ev.now _)
        have hi0 : i ≠ 0 := by
          intro e; subst e
          simp [prevAt] at hlt; omega
        have hq : rd_T43 l ((i : Int) - 1) = l.getD (i - 1) z43 := by
          simp only [rd_T43]; congr 1; omega
        simp only [impl_seenRight.l0, hr, isDot_is, Option.bind_some]
        rw [if_pos (by omega), if_pos (by omega), if_pos (by omega), if_pos hd, w64 (x := (i : Int) - 1) (by omega) (by omega), if_pos (by omega), if_pos (by omega), if_pos (by omega), hq,
          if_pos (by simp only [prevAt, if_neg hi0] at hlt; omega)]
    · refine Ev.step (f := fun _ => some false) (fun k => ?_) (show Ev _ (okFrom (prevAt l i) (m :: s)) from by simp only [okFrom, Bool.eq_false_iff.mpr hd, Bool.false_and]; exact Ev.now _)
      simp only [impl_seenRight.l0, hr, isDot_is, Option.bind_some]
      rw [if_pos (by omega), if_pos (by omega), if_pos (by omega), if_neg hd]
theorem impl_seenRight_ev (l : List Mark) (hl : l.length ≤ 4611686018427387904) : Ev (fun k => impl_seenRight.f k l) (seenOk l) :=
  impl_seenRight_l0 l hl l 0 rfl (by omega) (by simp [prevAt])
theorem spec_SeenRight_l0 (l : List Mark) (hl : l.length ≤ 4611686018427387904) : ∀ (s : List Mark) (i : Nat), l.drop i = s → i ≤ l.length → (i : Int) ≤ prevAt l i → prevAt l i ≤ 5 →
    Ev (fun k => spec_SeenRight.l0 k l (i : Int)) (okFrom (prevAt l i) s)
  | [], i, h, hi, hp, hp5 => by
    have := dropNil' h hi
    refine Ev.step (f := fun k => spec_SeenRight.j1 k l (i : Int) false) (fun k => ?_) (Ev.step (f := fun _ => some true) (fun k => ?_) (Ev.now _))
    · simp only [spec_SeenRight.l0]
      rw [if_neg (by omega)]
    · simp only [spec_SeenRight.j1]
      rw [if_neg (by simp)]
      congr 1
      simp; omega
  | m :: s, i, h, hi, hp, hp5 => by
    obtain ⟨h1, h2, h3⟩ := dropCons h z43
    have hr : rd_T43 l (i : Int) = m := by simpa [rd_T43] using h2
    have ih := fun hq => spec_SeenRight_l0 l hl s (i + 1) h3 (by omega) hq
    rw [prevAt_succ h2] at ih
    have hj : decide ((i : Int) ≤ 5) = true := by simp; omega
    have hl0 : ∀ k, spec_SeenRight.l0 (k + 1) l (i : Int) = spec_SeenRight.j1 k l (i : Int) true := fun k => by
      simp only [spec_SeenRight.l0]
      rw [if_pos (by omega), hj]
    by_cases hd : isDot m.f0 m.f1 = true
    · have hd' := (isDot_iff _ _).1 hd
      by_cases hlt : prevAt l i < m.f0
      · have ih := ih (by omega) (by omega)
        refine Ev.step hl0 (Ev.step (fun k => ?_) (show Ev _ (okFrom (prevAt l i) (m :: s)) from by simp only [okFrom, hd, hlt, decide_true, Bool.true_and]; exact ih))
        simp only [spec_SeenRight.j1, hr, l02Dot_is, Option.bind_some]
        rw [if_pos trivial, if_pos (by omega), if_pos (by omega), if_pos hd, w64 (x := (i : Int) + 1) (by omega) (by omega)]
        by_cases hi0 : i = 0
        · subst hi0
          rw [if_neg (by omega)]; rfl
        · have hq : rd_T43 l ((i : Int) - 1) = l.getD (i - 1) z43 := by
            simp only [rd_T43]; congr 1; omega
          rw [w64 (x := (i : Int) - 1) (by omega) (by omega), if_pos (by omega), if_pos (by omega), if_pos (by omega), hq, if_neg (by simp only [prevAt, if_neg hi0] at hlt; omega)]
          rfl
      · refine Ev.step hl0 (Ev.step (f := fun _ => some false) (fun k => ?_) (show Ev _ (okFrom (prevAt l i) (m :: s)) from by simp only [okFrom, hd, hlt, decide_false, Bool.false_and, Bool.and_false]; exact Ev.now _))
        have hi0 : i ≠ 0 := by
          intro e; subst e
          simp [prevAt] at hlt; omega
        have hq : rd_T43 l ((i : Int) - 1) = l.getD (i - 1) z43 := by
          simp only [rd_T43]; congr 1; omega
        simp only [spec_SeenRight.j1, hr, l02Dot_is, Option.bind_some]
        rw [if_pos trivial, if_pos (by omega), if_pos (by omega), if_pos hd, w64 (x := (i : Int) - 1) (by omega) (by omega), if_pos (by omega), if_pos (by omega), if_pos (by omega), hq,
          if_pos (by simp only [prevAt, if_neg hi0] at hlt; omega)]
    · refine Ev.step hl0 (Ev.step (f := fun _ => some false) (fun k => ?_) (show Ev _ (okFrom (prevAt l i) (m :: s)) from by simp only [okFrom, Bool.eq_false_iff.mpr hd, Bool.false_and]; exact Ev.now _))
      simp only [spec_SeenRight.j1, hr, l02Dot_is, Option.bind_some]
      rw [if_pos trivial, if_pos (by omega), if_pos (by omega), if_neg hd]
theorem spec_SeenRight_ev (l : List Mark) (hl : l.length ≤ 4611686018427387904) : Ev (fun k => spec_SeenRight.f k l) (seenOk l) :=
  spec_SeenRight_l0 l hl l 0 rfl (by omega) (by simp [prevAt]) (by simp [prevAt])
end Go.Proofs.Ytdjhclgkkklajaa.Q

namespace Go.Proofs.Ytdjhclgkkklajaa.Q
open Go.RowKit Go.Proofs.Ytdjhclgkkklajaa.P Go.Proofs.YtdjhclgkkklajaaW.PrintWords Go.Proofs.YtdjhclgkkklajaaW.PrintMore

abbrev LMark := S36
def toMark (m : LMark) : Mark := ⟨m.f0, m.f1⟩
theorem szMarkS_is (l : List LMark) (n : Int) (h0 : 0 ≤ n) (h1 : n ≤ 1048576) (hl : l.length ≤ 9223372036854775807) :
    laws_szMarkS.f l n = some (if n < (l.length : Int) then -1 else n - (l.length : Int)) := by
  unfold laws_szMarkS.f
  rw [w64 (by omega) (by omega)]
  split
  · rw [if_pos (by omega)]
  · rw [if_neg (by omega)]
theorem toMarkS_l0 (l : List LMark) (hl : l.length ≤ 1048576) : ∀ (s : List LMark) (i : Nat), l.drop i = s → i ≤ l.length → ∀ (acc : List Mark), acc.length = l.length → acc.take i = (l.take i).map toMark →
    Ev (fun k => laws_toMarkS.l0 k l acc (i : Int)) (l.map toMark)
  | [], i, h, hi, acc, ha, hc => by
    have := dropNil' h hi
    refine Ev.step (f := fun _ => some (l.map toMark)) (fun k => ?_) (Ev.now _)
    simp only [laws_toMarkS.l0]
    rw [if_neg (by omega)]
    rw [← this, List.take_of_length_le (by omega), List.take_length] at hc
    rw [hc]
  | m :: s, i, h, hi, acc, ha, hc => by
    obtain ⟨h1, h2, h3⟩ := dropCons h z36
    have hr : rd_T36 l (i : Int) = m := by simpa [rd_T36] using h2
    have hm : l[i]'h1 = m := by
      rw [List.getD_eq_getElem?_getD, List.getElem?_eq_getElem h1] at h2; exact h2
    refine Ev.step (fun k => ?_) (toMarkS_l0 l hl s (i + 1) h3 (by omega) (acc.set i (toMark m)) (by simpa using ha) (by
      rw [List.take_succ_eq_append_getElem (by simp; omega), List.take_succ_eq_append_getElem h1, List.map_append, List.take_set_of_le (by omega), hc]
      simp [hm]))
    simp only [laws_toMarkS.l0, laws_toMark.f, hr, Option.bind_some, Int.toNat_natCast]
    rw [if_pos (by omega), if_pos (by omega), if_pos (by omega), w64 (by omega) (by omega)]
    rfl
theorem toMarkS_ev (l : List LMark) (hl : l.length ≤ 1048576) : Ev (fun k => laws_toMarkS.f k l) (l.map toMark) := by
  unfold laws_toMarkS.f
  refine evPos (by omega) (evPos (by omega) ?_)
  exact toMarkS_l0 l hl l 0 rfl (by omega) _ (by simp) (by simp)
theorem eqMark_refl (a b : Int) : laws_eqMark.f a b a b = some true := by simp [laws_eqMark.f]
theorem eqMarkS_l0 (l : List Mark) (hl : l.length ≤ 4611686018427387904) : ∀ (s : List Mark) (i : Nat), l.drop i = s → i ≤ l.length →
    Ev (fun k => laws_eqMarkS.l0 k l l (i : Int)) true
  | [], i, h, hi => by
    have := dropNil' h hi
    refine Ev.step (f := fun _ => some true) (fun k => ?_) (Ev.now _)
    simp only [laws_eqMarkS.l0]
    rw [if_neg (by omega)]
  | m :: s, i, h, hi => by
    obtain ⟨h1, h2, h3⟩ := dropCons h z43
    refine Ev.step (fun k => ?_) (eqMarkS_l0 l hl s (i + 1) h3 (by omega))
    simp only [laws_eqMarkS.l0, eqMark_refl, Option.bind_some]
    rw [if_pos (by omega), if_pos (by omega), if_pos (by omega), if_pos trivial, w64 (by omega) (by omega)]
    rfl
theorem eqMarkS_ev (l : List Mark) (hl : l.length ≤ 4611686018427387904) : Ev (fun k => laws_eqMarkS.f k l l) true := by
  unfold laws_eqMarkS.f
  exact evPos rfl (eqMarkS_l0 l hl l 0 rfl (by omega))
end Go.Proofs.Ytdjhclgkkklajaa.Q

namespace Go.Proofs.Ytdjhclgkkklajaa.P
open Go.RowKit Go.Proofs.YtdjhclgkkklajaaW.PrintWords Go.Proofs.YtdjhclgkkklajaaW.PrintLast Go.Proofs.YtdjhclgkkklajaaW.PrintMore
attribute [local go_sem] max2_int min2_int max_two min_two max_three min_three max_four min_four   -- for this text's walks alone
set_option linter.unusedVariables false
set_option linter.unusedSimpArgs false

/-! ### spec_l01Fold: function 75 -/
def spec_l01Fold.f (a0 : Int) : Option (Int) := if a0 < 0 then (some (IntKind.u64.wrap ((IntKind.u64.wrap (2 * (IntKind.u64.wrap (wrap64 (-(wrap64 (a0 + 1))))))) + 1))) else (some (IntKind.u64.wrap (2 * (IntKind.u64.wrap (a0)))))
end Go.Proofs.Ytdjhclgkkklajaa.P

namespace Go.Proofs.Ytdjhclgkkklajaa.P
open Go.RowKit Go.Proofs.YtdjhclgkkklajaaW.PrintWords Go.Proofs.YtdjhclgkkklajaaW.PrintLast Go.Proofs.YtdjhclgkkklajaaW.PrintMore
attribute [local go_sem] max2_int min2_int max_two min_two max_three min_three max_four min_four   -- for this text's walks alone
set_option linter.unusedVariables false
set_option linter.unusedSimpArgs false

/-! ### spec_PutNum: function 17 -/
def spec_PutNum.l0 : Nat → Int → List Int → Option (ByteArray)
 | 0, _, _ => none
 | k + 1, x3, x4 => if x3 ≥ 128 then (if x4.length < 140737488355328 then (spec_PutNum.l0 k (IntKind.u64.wrap (Int.tdiv x3 128)) (x4 ++ [(IntKind.u64.wrap ((Int.tmod x3 128) + 128)) % 256])) else (none)) else (if x4.length < 140737488355328 then (some (strOfNums (x4 ++ [(x3) % 256]))) else (none))
def spec_PutNum.f (k : Nat) (a0 : Int) : Option (ByteArray) := (spec_l01Fold.f a0).bind fun t118 => (spec_PutNum.l0 k t118 (([] : List Int)))
theorem spec_PutNum.mono_l : ∀ k, (∀ y0 y1, LeO (spec_PutNum.l0 k y0 y1) (spec_PutNum.l0 (k + 1) y0 y1))
 | 0 => fun _ _ r h => by simp [spec_PutNum.l0] at h
 | k + 1 => by
  have ih0 := spec_PutNum.mono_l k
  ·intro y0 y1
   unfold spec_PutNum.l0
   repeat' first
   | (with_reducible exact ih0 _ _)
   | (with_reducible exact LeO.refl _)
   | (with_reducible exact LeO.none _)
   | (with_reducible refine LeO.ite ?_ ?_)
   | (with_reducible refine LeO.bind ?_ (fun _ => ?_))
   | exact ih0 _ _
   | exact LeO.none _
   | refine LeO.ite ?_ ?_
   | refine LeO.bind ?_ (fun _ => ?_)
theorem spec_PutNum.mono : ∀ a0 k, LeO (spec_PutNum.f k a0) (spec_PutNum.f (k + 1) a0) := by
 intro a0 k
 have ih0 := spec_PutNum.mono_l k
 unfold spec_PutNum.f
 repeat' first
   | (with_reducible exact ih0 _ _)
   | (with_reducible exact LeO.refl _)
   | (with_reducible exact LeO.none _)
   | (with_reducible refine LeO.ite ?_ ?_)
   | (with_reducible refine LeO.bind ?_ (fun _ => ?_))
   | exact ih0 _ _
   | exact LeO.none _
   | refine LeO.ite ?_ ?_
   | refine LeO.bind ?_ (fun _ => ?_)
end Go.Proofs.Ytdjhclgkkklajaa.P

namespace Go.Proofs.Ytdjhclgkkklajaa.P
open Go.RowKit Go.Proofs.YtdjhclgkkklajaaW.PrintWords Go.Proofs.YtdjhclgkkklajaaW.PrintLast Go.Proofs.YtdjhclgkkklajaaW.PrintMore
attribute [local go_sem] max2_int min2_int max_two min_two max_three min_three max_four min_four   -- for this text's walks alone
set_option linter.unusedVariables false
set_option linter.unusedSimpArgs false

/-! ### impl_PutNum: function 16 -/
def impl_PutNum.l0 : Nat → Int → List Int → Option (ByteArray)
 | 0, _, _ => none
 | k + 1, x3, x4 => if x3 ≥ 128 then (if x4.length < 140737488355328 then (impl_PutNum.l0 k (x3 / 128) (x4 ++ [Go.bits .or .u8 ((Go.bits .and .u64 x3 127) % 256) 128])) else (none)) else (if x4.length < 140737488355328 then (some (strOfNums (x4 ++ [(x3) % 256]))) else (none))
def impl_PutNum.f (k : Nat) (a0 : Int) : Option (ByteArray) := impl_PutNum.l0 k (Go.bits .xor .u64 (IntKind.u64.wrap ((IntKind.u64.wrap (a0)) * 2)) (IntKind.u64.wrap (a0 / 9223372036854775808))) ([] : List Int)
theorem impl_PutNum.mono_l : ∀ k, (∀ y0 y1, LeO (impl_PutNum.l0 k y0 y1) (impl_PutNum.l0 (k + 1) y0 y1))
 | 0 => fun _ _ r h => by simp [impl_PutNum.l0] at h
 | k + 1 => by
  have ih0 := impl_PutNum.mono_l k
  ·intro y0 y1
   unfold impl_PutNum.l0
   repeat' first
   | (with_reducible exact ih0 _ _)
   | (with_reducible exact LeO.refl _)
   | (with_reducible exact LeO.none _)
   | (with_reducible refine LeO.ite ?_ ?_)
   | (with_reducible refine LeO.bind ?_ (fun _ => ?_))
   | exact ih0 _ _
   | exact LeO.none _
   | refine LeO.ite ?_ ?_
   | refine LeO.bind ?_ (fun _ => ?_)
theorem impl_PutNum.mono : ∀ a0 k, LeO (impl_PutNum.f k a0) (impl_PutNum.f (k + 1) a0) := by
 intro a0 k
 have ih0 := impl_PutNum.mono_l k
 unfold impl_PutNum.f
 repeat' first
   | (with_reducible exact ih0 _ _)
   | (with_reducible exact LeO.refl _)
   | (with_reducible exact LeO.none _)
   | (with_reducible refine LeO.ite ?_ ?_)
   | (with_reducible refine LeO.bind ?_ (fun _ => ?_))
   | exact ih0 _ _
   | exact LeO.none _
   | refine LeO.ite ?_ ?_
   | refine LeO.bind ?_ (fun _ => ?_)
end Go.Proofs.Ytdjhclgkkklajaa.P

namespace Go.Proofs.Ytdjhclgkkklajaa.P
open Go.RowKit Go.Proofs.YtdjhclgkkklajaaW.PrintWords Go.Proofs.YtdjhclgkkklajaaW.PrintLast Go.Proofs.YtdjhclgkkklajaaW.PrintMore
attribute [local go_sem] max2_int min2_int max_two min_two max_three min_three max_four min_four   -- for this text's walks alone
set_option linter.unusedVariables false
set_option linter.unusedSimpArgs false

/-! ### impl_isLong_1: function 137 -/
def impl_isLong_1.f (a0 : ByteArray) : Option (Bool) := some (decide ((a0.size : Int) > 8000))
end Go.Proofs.Ytdjhclgkkklajaa.P

namespace Go.Proofs.Ytdjhclgkkklajaa.P
open Go.RowKit Go.Proofs.YtdjhclgkkklajaaW.PrintWords Go.Proofs.YtdjhclgkkklajaaW.PrintLast Go.Proofs.YtdjhclgkkklajaaW.PrintMore
attribute [local go_sem] max2_int min2_int max_two min_two max_three min_three max_four min_four   -- for this text's walks alone
set_option linter.unusedVariables false
set_option linter.unusedSimpArgs false

/-! ### slices_IndexFunc_string_string_impl_isLong_1: function 163 -/
def slices_IndexFunc_string_string_impl_isLong_1.l0 : Nat → List ByteArray → Int → Int → Option (Int)
 | 0, _, _, _ => none
 | k + 1, x0, x7, x8 => if x8 < x7 then (if 0 ≤ x8 then (if x8 < (x0.length : Int) then ((impl_isLong_1.f (rdOf ByteArray.empty x0 x8)).bind fun t129 => (if t129 = true then (some x8) else (slices_IndexFunc_string_string_impl_isLong_1.l0 k x0 x7 (wrap64 (x8 + 1))))) else (none)) else (none)) else (some (-1))
def slices_IndexFunc_string_string_impl_isLong_1.f (k : Nat) (l0 : List ByteArray)  : Option (Int) := slices_IndexFunc_string_string_impl_isLong_1.l0 k l0 (l0.length : Int) 0
theorem slices_IndexFunc_string_string_impl_isLong_1.mono_l : ∀ k, (∀ y0 y1 y2, LeO (slices_IndexFunc_string_string_impl_isLong_1.l0 k y0 y1 y2) (slices_IndexFunc_string_string_impl_isLong_1.l0 (k + 1) y0 y1 y2))
 | 0 => fun _ _ _ r h => by simp [slices_IndexFunc_string_string_impl_isLong_1.l0] at h
 | k + 1 => by
  have ih0 := slices_IndexFunc_string_string_impl_isLong_1.mono_l k
  ·intro y0 y1 y2
   unfold slices_IndexFunc_string_string_impl_isLong_1.l0
   repeat' first
   | (with_reducible exact ih0 _ _ _)
   | (with_reducible exact LeO.refl _)
   | (with_reducible exact LeO.none _)
   | (with_reducible refine LeO.ite ?_ ?_)
   | (with_reducible refine LeO.bind ?_ (fun _ => ?_))
   | exact ih0 _ _ _
   | exact LeO.none _
   | refine LeO.ite ?_ ?_
   | refine LeO.bind ?_ (fun _ => ?_)
theorem slices_IndexFunc_string_string_impl_isLong_1.mono : ∀ a0 k, LeO (slices_IndexFunc_string_string_impl_isLong_1.f k a0) (slices_IndexFunc_string_string_impl_isLong_1.f (k + 1) a0) := by
 intro a0 k
 have ih0 := slices_IndexFunc_string_string_impl_isLong_1.mono_l k
 unfold slices_IndexFunc_string_string_impl_isLong_1.f
 repeat' first
   | (with_reducible exact ih0 _ _ _)
   | (with_reducible exact LeO.refl _)
   | (with_reducible exact LeO.none _)
   | (with_reducible refine LeO.ite ?_ ?_)
   | (with_reducible refine LeO.bind ?_ (fun _ => ?_))
   | exact ih0 _ _ _
   | exact LeO.none _
   | refine LeO.ite ?_ ?_
   | refine LeO.bind ?_ (fun _ => ?_)
end Go.Proofs.Ytdjhclgkkklajaa.P

namespace Go.Proofs.Ytdjhclgkkklajaa.P
open Go.RowKit Go.Proofs.YtdjhclgkkklajaaW.PrintWords Go.Proofs.YtdjhclgkkklajaaW.PrintLast Go.Proofs.YtdjhclgkkklajaaW.PrintMore
attribute [local go_sem] max2_int min2_int max_two min_two max_three min_three max_four min_four   -- for this text's walks alone
set_option linter.unusedVariables false
set_option linter.unusedSimpArgs false

/-! ### slices_ContainsFunc_string_string_impl_isLong_1: function 136 -/
def slices_ContainsFunc_string_string_impl_isLong_1.f (k : Nat) (l0 : List ByteArray)  : Option (Bool) := (slices_IndexFunc_string_string_impl_isLong_1.f k l0).bind fun t130 => (some (decide (t130 ≥ 0)))
theorem slices_ContainsFunc_string_string_impl_isLong_1.mono : ∀ a0 k, LeO (slices_ContainsFunc_string_string_impl_isLong_1.f k a0) (slices_ContainsFunc_string_string_impl_isLong_1.f (k + 1) a0) := by
 intro a0 k
 unfold slices_ContainsFunc_string_string_impl_isLong_1.f
 repeat' first
   | (with_reducible exact slices_IndexFunc_string_string_impl_isLong_1.mono _ _)
   | (with_reducible exact LeO.refl _)
   | (with_reducible exact LeO.none _)
   | (with_reducible refine LeO.ite ?_ ?_)
   | (with_reducible refine LeO.bind ?_ (fun _ => ?_))
   | exact slices_IndexFunc_string_string_impl_isLong_1.mono _ _
   | exact LeO.none _
   | refine LeO.ite ?_ ?_
   | refine LeO.bind ?_ (fun _ => ?_)
end Go.Proofs.Ytdjhclgkkklajaa.P

namespace Go.Proofs.Ytdjhclgkkklajaa.P
open Go.RowKit Go.Proofs.YtdjhclgkkklajaaW.PrintWords Go.Proofs.YtdjhclgkkklajaaW.PrintLast Go.Proofs.YtdjhclgkkklajaaW.PrintMore
attribute [local go_sem] max2_int min2_int max_two min_two max_three min_three max_four min_four   -- for this text's walks alone
set_option linter.unusedVariables false
set_option linter.unusedSimpArgs false

/-! ### impl_isLong: function 76 -/
def impl_isLong.f (k : Nat) (l0 : List ByteArray) : Option (Bool) := (slices_ContainsFunc_string_string_impl_isLong_1.f k l0).bind fun t131 => (some t131)
theorem impl_isLong.mono : ∀ a0 k, LeO (impl_isLong.f k a0) (impl_isLong.f (k + 1) a0) := by
 intro a0 k
 unfold impl_isLong.f
 repeat' first
   | (with_reducible exact slices_ContainsFunc_string_string_impl_isLong_1.mono _ _)
   | (with_reducible exact LeO.refl _)
   | (with_reducible exact LeO.none _)
   | (with_reducible refine LeO.ite ?_ ?_)
   | (with_reducible refine LeO.bind ?_ (fun _ => ?_))
   | exact slices_ContainsFunc_string_string_impl_isLong_1.mono _ _
   | exact LeO.none _
   | refine LeO.ite ?_ ?_
   | refine LeO.bind ?_ (fun _ => ?_)
end Go.Proofs.Ytdjhclgkkklajaa.P

namespace Go.Proofs.Ytdjhclgkkklajaa.P
open Go.RowKit Go.Proofs.YtdjhclgkkklajaaW.PrintWords Go.Proofs.YtdjhclgkkklajaaW.PrintLast Go.Proofs.YtdjhclgkkklajaaW.PrintMore
attribute [local go_sem] max2_int min2_int max_two min_two max_three min_three max_four min_four   -- for this text's walks alone
set_option linter.unusedVariables false
set_option linter.unusedSimpArgs false

/-! ### spec_PutText: function 21 -/
def spec_PutText.f (k : Nat) (a0 : ByteArray) : Option (ByteArray) := if (a0.size : Int) > 8000 then (some (⟨#[]⟩ : ByteArray)) else ((spec_PutNum.f k (a0.size : Int)).bind fun t153 => (if t153.size + a0.size ≤ 9223372036854775807 then (some (t153 ++ a0)) else (none)))
theorem spec_PutText.mono : ∀ a0 k, LeO (spec_PutText.f k a0) (spec_PutText.f (k + 1) a0) := by
 intro a0 k
 unfold spec_PutText.f
 repeat' first
   | (with_reducible exact spec_PutNum.mono _ _)
   | (with_reducible exact LeO.refl _)
   | (with_reducible exact LeO.none _)
   | (with_reducible refine LeO.ite ?_ ?_)
   | (with_reducible refine LeO.bind ?_ (fun _ => ?_))
   | exact spec_PutNum.mono _ _
   | exact LeO.none _
   | refine LeO.ite ?_ ?_
   | refine LeO.bind ?_ (fun _ => ?_)
end Go.Proofs.Ytdjhclgkkklajaa.P

namespace Go.Proofs.Ytdjhclgkkklajaa.P
open Go.RowKit Go.Proofs.YtdjhclgkkklajaaW.PrintWords Go.Proofs.YtdjhclgkkklajaaW.PrintLast Go.Proofs.YtdjhclgkkklajaaW.PrintMore
attribute [local go_sem] max2_int min2_int max_two min_two max_three min_three max_four min_four   -- for this text's walks alone
set_option linter.unusedVariables false
set_option linter.unusedSimpArgs false

/-! ### impl_size: function 77 -/
def impl_size.f (a0 : ByteArray) : Option (Int) := some (a0.size : Int)
end Go.Proofs.Ytdjhclgkkklajaa.P

namespace Go.Proofs.Ytdjhclgkkklajaa.P
open Go.RowKit Go.Proofs.YtdjhclgkkklajaaW.PrintWords Go.Proofs.YtdjhclgkkklajaaW.PrintLast Go.Proofs.YtdjhclgkkklajaaW.PrintMore
attribute [local go_sem] max2_int min2_int max_two min_two max_three min_three max_four min_four   -- for this text's walks alone
set_option linter.unusedVariables false
set_option linter.unusedSimpArgs false

/-! ### impl_PutText: function 20 -/
def impl_PutText.f (k : Nat) (a0 : ByteArray) : Option (ByteArray) := (impl_isLong.f k (([a0] : List ByteArray))).bind fun t150 => (if t150 = true then (some (⟨#[]⟩ : ByteArray)) else ((impl_size.f a0).bind fun t151 => ((impl_PutNum.f k t151).bind fun t152 => (if t152.size + a0.size ≤ 9223372036854775807 then (some (t152 ++ a0)) else (none)))))
theorem impl_PutText.mono : ∀ a0 k, LeO (impl_PutText.f k a0) (impl_PutText.f (k + 1) a0) := by
 intro a0 k
 unfold impl_PutText.f
 repeat' first
   | (with_reducible exact impl_PutNum.mono _ _)
   | (with_reducible exact impl_isLong.mono _ _)
   | (with_reducible exact LeO.refl _)
   | (with_reducible exact LeO.none _)
   | (with_reducible refine LeO.ite ?_ ?_)
   | (with_reducible refine LeO.bind ?_ (fun _ => ?_))
   | exact impl_PutNum.mono _ _
   | exact impl_isLong.mono _ _
   | exact LeO.none _
   | refine LeO.ite ?_ ?_
   | refine LeO.bind ?_ (fun _ => ?_)
end Go.Proofs.Ytdjhclgkkklajaa.P

namespace Go.Proofs.Ytdjhclgkkklajaa.P
open Go.RowKit Go.Proofs.YtdjhclgkkklajaaW.PrintWords Go.Proofs.YtdjhclgkkklajaaW.PrintLast Go.Proofs.YtdjhclgkkklajaaW.PrintMore
attribute [local go_sem] max2_int min2_int max_two min_two max_three min_three max_four min_four   -- for this text's walks alone
set_option linter.unusedVariables false
set_option linter.unusedSimpArgs false

/-! ### spec_l01Max: function 138 -/
def spec_l01Max.f (a0 : Int) (a1 : Int) : Option (Int) := if a0 > a1 then (some a0) else (some a1)
end Go.Proofs.Ytdjhclgkkklajaa.P

namespace Go.Proofs.Ytdjhclgkkklajaa.P
open Go.RowKit Go.Proofs.YtdjhclgkkklajaaW.PrintWords Go.Proofs.YtdjhclgkkklajaaW.PrintLast Go.Proofs.YtdjhclgkkklajaaW.PrintMore
attribute [local go_sem] max2_int min2_int max_two min_two max_three min_three max_four min_four   -- for this text's walks alone
set_option linter.unusedVariables false
set_option linter.unusedSimpArgs false

/-! ### spec_l02Join: function 84 -/
def spec_l02Join.l0 : Nat → List (S43) → List (S43) → List (S43) → Int → Option ((List (S43)))
 | 0, _, _, _, _ => none
 | k + 1, x0, x1, x5, x6 => if x6 ≤ 5 then ((spec_l02Of.f k x0 x6).bind fun t174 => ((spec_l02Of.f k x1 x6).bind fun t175 => ((spec_l01Max.f t174 t175).bind fun t176 => (if t176 > 0 then (if x5.length < 8796093022208 then (spec_l02Join.l0 k x0 x1 (x5 ++ [(⟨x6, t176⟩ : S43)]) (wrap64 (x6 + 1))) else (none)) else (spec_l02Join.l0 k x0 x1 x5 (wrap64 (x6 + 1))))))) else (some x5)
def spec_l02Join.f (k : Nat) (l0 : List (S43)) (l1 : List (S43)) : Option ((List (S43))) := spec_l02Join.l0 k l0 l1 (([] : List (S43))) 1
theorem spec_l02Join.mono_l : ∀ k, (∀ y0 y1 y2 y3, LeO (spec_l02Join.l0 k y0 y1 y2 y3) (spec_l02Join.l0 (k + 1) y0 y1 y2 y3))
 | 0 => fun _ _ _ _ r h => by simp [spec_l02Join.l0] at h
 | k + 1 => by
  have ih0 := spec_l02Join.mono_l k
  ·intro y0 y1 y2 y3
   unfold spec_l02Join.l0
   repeat' first
   | (with_reducible exact ih0 _ _ _ _)
   | (with_reducible exact spec_l02Of.mono _ _ _)
   | (with_reducible exact LeO.refl _)
   | (with_reducible exact LeO.none _)
   | (with_reducible refine LeO.ite ?_ ?_)
   | (with_reducible refine LeO.bind ?_ (fun _ => ?_))
   | exact ih0 _ _ _ _
   | exact spec_l02Of.mono _ _ _
   | exact LeO.none _
   | refine LeO.ite ?_ ?_
   | refine LeO.bind ?_ (fun _ => ?_)
theorem spec_l02Join.mono : ∀ a0 a1 k, LeO (spec_l02Join.f k a0 a1) (spec_l02Join.f (k + 1) a0 a1) := by
 intro a0 a1 k
 have ih0 := spec_l02Join.mono_l k
 unfold spec_l02Join.f
 repeat' first
   | (with_reducible exact ih0 _ _ _ _)
   | (with_reducible exact spec_l02Of.mono _ _ _)
   | (with_reducible exact LeO.refl _)
   | (with_reducible exact LeO.none _)
   | (with_reducible refine LeO.ite ?_ ?_)
   | (with_reducible refine LeO.bind ?_ (fun _ => ?_))
   | exact ih0 _ _ _ _
   | exact spec_l02Of.mono _ _ _
   | exact LeO.none _
   | refine LeO.ite ?_ ?_
   | refine LeO.bind ?_ (fun _ => ?_)
end Go.Proofs.Ytdjhclgkkklajaa.P

namespace Go.Proofs.Ytdjhclgkkklajaa.P
open Go.RowKit Go.Proofs.YtdjhclgkkklajaaW.PrintWords Go.Proofs.YtdjhclgkkklajaaW.PrintLast Go.Proofs.YtdjhclgkkklajaaW.PrintMore
attribute [local go_sem] max2_int min2_int max_two min_two max_three min_three max_four min_four   -- for this text's walks alone
set_option linter.unusedVariables false
set_option linter.unusedSimpArgs false

/-! ### impl_seenJoin: function 88 -/
def impl_seenJoin.l0 : Nat → List (S43) → List (S43) → List (S43) → Int → Option ((List (S43)))
 | 0, _, _, _, _ => none
 | k + 1, x0, x1, x5, x6 => if x6 ≤ 5 then ((impl_seenOf.f k x0 x6).bind fun t210 => ((impl_seenOf.f k x1 x6).bind fun t211 => (if (mx t210 t211) > 0 then (if x5.length < 8796093022208 then (impl_seenJoin.l0 k x0 x1 (x5 ++ [(⟨x6, mx t210 t211⟩ : S43)]) (wrap64 (x6 + 1))) else (none)) else (impl_seenJoin.l0 k x0 x1 x5 (wrap64 (x6 + 1)))))) else (some x5)
def impl_seenJoin.f (k : Nat) (l0 : List (S43)) (l1 : List (S43)) : Option ((List (S43))) := impl_seenJoin.l0 k l0 l1 ([] : List (S43)) 1
theorem impl_seenJoin.mono_l : ∀ k, (∀ y0 y1 y2 y3, LeO (impl_seenJoin.l0 k y0 y1 y2 y3) (impl_seenJoin.l0 (k + 1) y0 y1 y2 y3))
 | 0 => fun _ _ _ _ r h => by simp [impl_seenJoin.l0] at h
 | k + 1 => by
  have ih0 := impl_seenJoin.mono_l k
  ·intro y0 y1 y2 y3
   unfold impl_seenJoin.l0
   repeat' first
   | (with_reducible exact ih0 _ _ _ _)
   | (with_reducible exact impl_seenOf.mono _ _ _)
   | (with_reducible exact LeO.refl _)
   | (with_reducible exact LeO.none _)
   | (with_reducible refine LeO.ite ?_ ?_)
   | (with_reducible refine LeO.bind ?_ (fun _ => ?_))
   | exact ih0 _ _ _ _
   | exact impl_seenOf.mono _ _ _
   | exact LeO.none _
   | refine LeO.ite ?_ ?_
   | refine LeO.bind ?_ (fun _ => ?_)
theorem impl_seenJoin.mono : ∀ a0 a1 k, LeO (impl_seenJoin.f k a0 a1) (impl_seenJoin.f (k + 1) a0 a1) := by
 intro a0 a1 k
 have ih0 := impl_seenJoin.mono_l k
 unfold impl_seenJoin.f
 repeat' first
   | (with_reducible exact ih0 _ _ _ _)
   | (with_reducible exact impl_seenOf.mono _ _ _)
   | (with_reducible exact LeO.refl _)
   | (with_reducible exact LeO.none _)
   | (with_reducible refine LeO.ite ?_ ?_)
   | (with_reducible refine LeO.bind ?_ (fun _ => ?_))
   | exact ih0 _ _ _ _
   | exact impl_seenOf.mono _ _ _
   | exact LeO.none _
   | refine LeO.ite ?_ ?_
   | refine LeO.bind ?_ (fun _ => ?_)
end Go.Proofs.Ytdjhclgkkklajaa.P

namespace Go.Proofs.Ytdjhclgkkklajaa.P
open Go.RowKit Go.Proofs.YtdjhclgkkklajaaW.PrintWords Go.Proofs.YtdjhclgkkklajaaW.PrintLast Go.Proofs.YtdjhclgkkklajaaW.PrintMore
attribute [local go_sem] max2_int min2_int max_two min_two max_three min_three max_four min_four   -- for this text's walks alone
set_option linter.unusedVariables false
set_option linter.unusedSimpArgs false

/-! ### spec_l02Bytes: function 157 -/
def spec_l02Bytes.l0 : Nat → List (S43) → ByteArray → Int → Option (ByteArray)
 | 0, _, _, _ => none
 | k + 1, x0, x3, x4 => if x4 < (x0.length : Int) then (if 0 ≤ x4 then ((spec_PutNum.f k ((rd_T43 x0 x4).f0)).bind fun t648 => (if x3.size + t648.size ≤ 9223372036854775807 then ((spec_PutNum.f k ((rd_T43 x0 x4).f1)).bind fun t650 => (if (x3.size + t648.size) + t650.size ≤ 9223372036854775807 then (spec_l02Bytes.l0 k x0 ((x3 ++ t648) ++ t650) (wrap64 (x4 + 1))) else (none))) else (none))) else (none)) else (some x3)
def spec_l02Bytes.f (k : Nat) (l0 : List (S43)) : Option (ByteArray) := (spec_PutNum.f k (l0.length : Int)).bind fun t646 => (spec_l02Bytes.l0 k l0 t646 0)
theorem spec_l02Bytes.mono_l : ∀ k, (∀ y0 y1 y2, LeO (spec_l02Bytes.l0 k y0 y1 y2) (spec_l02Bytes.l0 (k + 1) y0 y1 y2))
 | 0 => fun _ _ _ r h => by simp [spec_l02Bytes.l0] at h
 | k + 1 => by
  have ih0 := spec_l02Bytes.mono_l k
  ·intro y0 y1 y2
   unfold spec_l02Bytes.l0
   repeat' first
   | (with_reducible exact ih0 _ _ _)
   | (with_reducible exact spec_PutNum.mono _ _)
   | (with_reducible exact LeO.refl _)
   | (with_reducible exact LeO.none _)
   | (with_reducible refine LeO.ite ?_ ?_)
   | (with_reducible refine LeO.bind ?_ (fun _ => ?_))
   | exact ih0 _ _ _
   | exact spec_PutNum.mono _ _
   | exact LeO.none _
   | refine LeO.ite ?_ ?_
   | refine LeO.bind ?_ (fun _ => ?_)
theorem spec_l02Bytes.mono : ∀ a0 k, LeO (spec_l02Bytes.f k a0) (spec_l02Bytes.f (k + 1) a0) := by
 intro a0 k
 have ih0 := spec_l02Bytes.mono_l k
 unfold spec_l02Bytes.f
 repeat' first
   | (with_reducible exact ih0 _ _ _)
   | (with_reducible exact spec_PutNum.mono _ _)
   | (with_reducible exact LeO.refl _)
   | (with_reducible exact LeO.none _)
   | (with_reducible refine LeO.ite ?_ ?_)
   | (with_reducible refine LeO.bind ?_ (fun _ => ?_))
   | exact ih0 _ _ _
   | exact spec_PutNum.mono _ _
   | exact LeO.none _
   | refine LeO.ite ?_ ?_
   | refine LeO.bind ?_ (fun _ => ?_)
end Go.Proofs.Ytdjhclgkkklajaa.P

namespace Go.Proofs.Ytdjhclgkkklajaa.P
open Go.RowKit Go.Proofs.YtdjhclgkkklajaaW.PrintWords Go.Proofs.YtdjhclgkkklajaaW.PrintLast Go.Proofs.YtdjhclgkkklajaaW.PrintMore
attribute [local go_sem] max2_int min2_int max_two min_two max_three min_three max_four min_four   -- for this text's walks alone
set_option linter.unusedVariables false
set_option linter.unusedSimpArgs false

/-! ### impl_seenBytes: function 161 -/
def impl_seenBytes.l0 : Nat → ByteArray → List (S43) → Int → Int → Option (ByteArray)
 | 0, _, _, _, _ => none
 | k + 1, x3, x9, x10, x11 => if x11 < x10 then (if 0 ≤ x11 then (if x11 < (x9.length : Int) then ((impl_PutNum.f k ((rd_T43 x9 x11).f0)).bind fun t938 => ((impl_PutNum.f k ((rd_T43 x9 x11).f1)).bind fun t939 => (if t938.size + t939.size ≤ 9223372036854775807 then (if x3.size + (t938.size + t939.size) ≤ 9223372036854775807 then (impl_seenBytes.l0 k (x3 ++ (t938 ++ t939)) x9 x10 (wrap64 (x11 + 1))) else (none)) else (none)))) else (none)) else (none)) else (some x3)
def impl_seenBytes.f (k : Nat) (l0 : List (S43)) : Option (ByteArray) := (impl_PutNum.f k (l0.length : Int)).bind fun t935 => (impl_seenBytes.l0 k t935 l0 (l0.length : Int) 0)
theorem impl_seenBytes.mono_l : ∀ k, (∀ y0 y1 y2 y3, LeO (impl_seenBytes.l0 k y0 y1 y2 y3) (impl_seenBytes.l0 (k + 1) y0 y1 y2 y3))
 | 0 => fun _ _ _ _ r h => by simp [impl_seenBytes.l0] at h
 | k + 1 => by
  have ih0 := impl_seenBytes.mono_l k
  ·intro y0 y1 y2 y3
   unfold impl_seenBytes.l0
   repeat' first
   | (with_reducible exact ih0 _ _ _ _)
   | (with_reducible exact impl_PutNum.mono _ _)
   | (with_reducible exact LeO.refl _)
   | (with_reducible exact LeO.none _)
   | (with_reducible refine LeO.ite ?_ ?_)
   | (with_reducible refine LeO.bind ?_ (fun _ => ?_))
   | exact ih0 _ _ _ _
   | exact impl_PutNum.mono _ _
   | exact LeO.none _
   | refine LeO.ite ?_ ?_
   | refine LeO.bind ?_ (fun _ => ?_)
theorem impl_seenBytes.mono : ∀ a0 k, LeO (impl_seenBytes.f k a0) (impl_seenBytes.f (k + 1) a0) := by
 intro a0 k
 have ih0 := impl_seenBytes.mono_l k
 unfold impl_seenBytes.f
 repeat' first
   | (with_reducible exact ih0 _ _ _ _)
   | (with_reducible exact impl_PutNum.mono _ _)
   | (with_reducible exact LeO.refl _)
   | (with_reducible exact LeO.none _)
   | (with_reducible refine LeO.ite ?_ ?_)
   | (with_reducible refine LeO.bind ?_ (fun _ => ?_))
   | exact ih0 _ _ _ _
   | exact impl_PutNum.mono _ _
   | exact LeO.none _
   | refine LeO.ite ?_ ?_
   | refine LeO.bind ?_ (fun _ => ?_)
end Go.Proofs.Ytdjhclgkkklajaa.P

namespace Go.Proofs.Ytdjhclgkkklajaa.P
open Go.RowKit Go.Proofs.YtdjhclgkkklajaaW.PrintWords Go.Proofs.YtdjhclgkkklajaaW.PrintLast Go.Proofs.YtdjhclgkkklajaaW.PrintMore
attribute [local go_sem] max2_int min2_int max_two min_two max_three min_three max_four min_four   -- for this text's walks alone
set_option linter.unusedVariables false
set_option linter.unusedSimpArgs false

/-! ### spec_SeenBytes: function 123 -/
def spec_SeenBytes.f (k : Nat) (l0 : List (S43)) : Option (ByteArray) := (spec_SeenRight.f k l0).bind fun t651 => (if t651 = true then ((spec_l02Bytes.f k l0).bind fun t652 => (some t652)) else (some (⟨#[]⟩ : ByteArray)))
theorem spec_SeenBytes.mono : ∀ a0 k, LeO (spec_SeenBytes.f k a0) (spec_SeenBytes.f (k + 1) a0) := by
 intro a0 k
 unfold spec_SeenBytes.f
 repeat' first
   | (with_reducible exact spec_SeenRight.mono _ _)
   | (with_reducible exact spec_l02Bytes.mono _ _)
   | (with_reducible exact LeO.refl _)
   | (with_reducible exact LeO.none _)
   | (with_reducible refine LeO.ite ?_ ?_)
   | (with_reducible refine LeO.bind ?_ (fun _ => ?_))
   | exact spec_SeenRight.mono _ _
   | exact spec_l02Bytes.mono _ _
   | exact LeO.none _
   | refine LeO.ite ?_ ?_
   | refine LeO.bind ?_ (fun _ => ?_)
end Go.Proofs.Ytdjhclgkkklajaa.P

namespace Go.Proofs.Ytdjhclgkkklajaa.Q
open Go.RowKit Go.Proofs.Ytdjhclgkkklajaa.P Go.Proofs.YtdjhclgkkklajaaW.PrintWords Go.Proofs.YtdjhclgkkklajaaW.PrintMore

def seenOf : List Mark → Int → Int
  | [], _ => 0
  | m :: r, n => if m.f0 = n then m.f1 else seenOf r n
theorem l02Of_l0 (l : List Mark) (n : Int) (hl : l.length ≤ 4611686018427387904) : ∀ (s : List Mark) (i : Nat), l.drop i = s → i ≤ l.length → Ev (fun k => spec_l02Of.l0 k l n (i : Int)) (seenOf s n)
  | [], i, h, hi => by
    have := dropNil' h hi
    refine Ev.step (f := fun _ => some 0) (fun k => ?_) (Ev.now _)
    simp only [spec_l02Of.l0]
    rw [if_neg (by omega)]
  | m :: s, i, h, hi => by
    obtain ⟨h1, h2, h3⟩ := dropCons h z43
    have hr : rd_T43 l (i : Int) = m := by simpa [rd_T43] using h2
    refine Ev.step (f := fun k => if m.f0 = n then some m.f1 else spec_l02Of.l0 k l n ((i + 1 : Nat) : Int)) (fun k => ?_) ?_
    · simp only [spec_l02Of.l0, hr]
      rw [if_pos (by omega), if_pos (by omega), w64 (by omega) (by omega)]
      rfl
    · simp only [seenOf]
      refine evIte (fun h => ?_) (fun h => ?_)
      · rw [if_pos h]; exact Ev.now _
      · rw [if_neg h]; exact l02Of_l0 l n hl s (i + 1) h3 (by omega)
theorem l02Of_ev (l : List Mark) (n : Int) (hl : l.length ≤ 4611686018427387904) : Ev (fun k => spec_l02Of.f k l n) (seenOf l n) := l02Of_l0 l n hl l 0 rfl (by omega)
theorem seenOf_l0 (l : List Mark) (n : Int) (hl : l.length ≤ 4611686018427387904) : ∀ (s : List Mark) (i : Nat), l.drop i = s → i ≤ l.length → Ev (fun k => impl_seenOf.l0 k n l (l.length : Int) (i : Int)) (seenOf s n)
  | [], i, h, hi => by
    have := dropNil' h hi
    refine Ev.step (f := fun _ => some 0) (fun k => ?_) (Ev.now _)
    simp only [impl_seenOf.l0]
    rw [if_neg (by omega)]
  | m :: s, i, h, hi => by
    obtain ⟨h1, h2, h3⟩ := dropCons h z43
    have hr : rd_T43 l (i : Int) = m := by simpa [rd_T43] using h2
    refine Ev.step (f := fun k => if m.f0 = n then some m.f1 else impl_seenOf.l0 k n l (l.length : Int) ((i + 1 : Nat) : Int)) (fun k => ?_) ?_
    · simp only [impl_seenOf.l0, hr]
      rw [if_pos (by omega), if_pos (by omega), if_pos (by omega), w64 (by omega) (by omega)]
      rfl
    · simp only [seenOf]
      refine evIte (fun h => ?_) (fun h => ?_)
      · rw [if_pos h]; exact Ev.now _
      · rw [if_neg h]; exact seenOf_l0 l n hl s (i + 1) h3 (by omega)
theorem seenOf_ev (l : List Mark) (n : Int) (hl : l.length ≤ 4611686018427387904) : Ev (fun k => impl_seenOf.f k l n) (seenOf l n) := seenOf_l0 l n hl l 0 rfl (by omega)
def seenHas (l : List Mark) (a b : Int) : Bool := decide (b ≤ seenOf l a)
def seenHasOut (l : List Mark) (a b : Int) : Bool := seenOk l && (isDot a b && seenHas l a b)
theorem seenHas_ev (l : List Mark) (a b : Int) (hl : l.length ≤ 4611686018427387904) : Ev (fun k => impl_seenHas.f k l a b) (seenHas l a b) := Ev.bind (seenOf_ev l a hl) (Ev.now _)
theorem spec_SeenHas_ev (l : List Mark) (a b : Int) (hl : l.length ≤ 4611686018427387904) : Ev (fun k => spec_SeenHas.f k l a b) (seenHasOut l a b) := by
  unfold spec_SeenHas.f seenHasOut
  refine Ev.bind (spec_SeenRight_ev l hl) ?_
  cases seenOk l with
  | false => exact evNeg (by simp) (Ev.now _)
  | true =>
    refine evPos rfl (evBind1 (l02Dot_is a b) ?_)
    cases isDot a b with
    | false => exact evNeg (by simp) (Ev.now _)
    | true => exact evPos rfl (Ev.bind (l02Of_ev l a hl) (Ev.now _))
end Go.Proofs.Ytdjhclgkkklajaa.Q

namespace Go.Proofs.Ytdjhclgkkklajaa.Q
open Go.RowKit Go.Proofs.Ytdjhclgkkklajaa.P Go.Proofs.YtdjhclgkkklajaaW.PrintWords Go.Proofs.YtdjhclgkkklajaaW.PrintMore

abbrev Sib := S139
def dotLess (a b c d : Int) : Bool := decide (a < c) || (decide (a = c) && decide (b < d))
def dataOk (t : ByteArray) (gone : Bool) : Bool := decide (t.size ≤ 16) && (!gone || decide (t.toList = []))
def sibOk (v : List Mark) (x : Sib) : Bool := isDot x.f0.f0 x.f0.f1 && (seenHas v x.f0.f0 x.f0.f1 && dataOk x.f2 x.f1)
def sibsFrom (v : List Mark) : Option Sib → List Sib → Bool
  | _, [] => true
  | none, x :: r => sibOk v x && sibsFrom v (some x) r
  | some y, x :: r => sibOk v x && (dotLess y.f0.f0 y.f0.f1 x.f0.f0 x.f0.f1 && sibsFrom v (some x) r)
def setOk (v : List Mark) (s : List Sib) : Bool := seenOk v && (decide (s.length ≤ 8) && sibsFrom v none s)
/-- The sibling ahead of place i. -/
def prevSib (l : List Sib) (i : Nat) : Option Sib := if i = 0 then none else some (l.getD (i - 1) z139)
theorem prevSib_succ {l : List Sib} {i : Nat} {x : Sib} (h : l.getD i z139 = x) : prevSib l (i + 1) = some x := by
  simp only [prevSib, Nat.add_sub_cancel, h]
  simp
theorem l03Less_is (a b c d : Int) : spec_l03Less.f a b c d = some (dotLess a b c d) := by
  unfold spec_l03Less.f dotLess
  by_cases h : a < c
  · rw [if_pos h]; simp [h]
  · rw [if_neg h]
    by_cases h2 : a = c
    · rw [if_pos h2]; simp [h2]
    · rw [if_neg h2]; simp [h, h2]
def cmpI (a b : Int) : Int := if a < b then -1 else if a > b then 1 else 0
theorem Compare_is (a b : Int) : cmp_Compare_int64.f a b = some (cmpI a b) := by
  simp only [cmp_Compare_int64.f, cmp_isNaN_int64.f, cmpI]
  by_cases h : a < b
  · simp [h]
  · by_cases h2 : a > b
    · simp [h, h2]
    · simp [h, h2]
theorem Or_ev (x y : Int) : Ev (fun k => cmp_Or_int.f k [x, y]) (if x = 0 then y else x) := by
  unfold cmp_Or_int.f
  have hx : rd [x, y] 0 = x := rfl
  have hy : rd [x, y] 1 = y := rfl
  have hl : (([x, y] : List Int).length : Int) = 2 := rfl
  rw [hl]
  refine Ev.step (f := fun k => if x = 0 then cmp_Or_int.l0 k 0 [x, y] 2 1 else some x) (fun k => ?_) ?_
  · simp only [cmp_Or_int.l0, hx, hl]
    rw [if_pos (by omega), if_pos (by omega), if_pos (by omega), w64 (by omega) (by omega)]
    rfl
  · refine evIte (fun h => ?_) (fun h => ?_)
    · rw [if_pos h]
      refine Ev.step (f := fun k => if y = 0 then cmp_Or_int.l0 k 0 [x, y] 2 2 else some y) (fun k => ?_) ?_
      · simp only [cmp_Or_int.l0, hy, hl]
        rw [if_pos (by omega), if_pos (by omega), if_pos (by omega), w64 (by omega) (by omega)]
        rfl
      · refine evIte (fun h => ?_) (fun h => Ev.now _)
        refine Ev.step (f := fun _ => some y) (fun k => ?_) (Ev.now _)
        simp only [cmp_Or_int.l0]
        rw [if_neg (by omega), h]
    · rw [if_neg h]; exact Ev.now _
def cmpDots (a b c d : Int) : Int := if cmpI a c = 0 then cmpI b d else cmpI a c
theorem compareDots_ev (a b c d : Int) : Ev (fun k => impl_compareDots.f k a b c d) (cmpDots a b c d) := by
  unfold impl_compareDots.f
  exact evBind1 (Compare_is a c) (evBind1 (Compare_is b d) (Ev.bind (Or_ev _ _) (Ev.now _)))
theorem cmpDots_ge (a b c d : Int) : decide (cmpDots a b c d ≥ 0) = !dotLess a b c d := by
  unfold cmpDots cmpI dotLess
  by_cases h1 : a < c
  · simp [h1]
  · by_cases h2 : a > c
    · have : ¬ a = c := by omega
      simp [h1, h2, this]
    · have : a = c := by omega
      subst this
      by_cases h3 : b < d
      · simp [h3]
      · by_cases h4 : b > d
        · simp [h3, h4]
        · simp [h3, h4]
theorem isData_is (t : ByteArray) (g : Bool) : impl_isData.f t g = some (dataOk t g) := by
  unfold impl_isData.f dataOk
  by_cases h : (t.size : Int) ≤ 16
  · have h' : t.size ≤ 16 := by omega
    rw [if_pos h]
    cases g with
    | true =>
      by_cases e : t.toList = []
      · simp [h', e]
      · simp [h', e]
    | false => simp [h']
  · have h' : ¬ t.size ≤ 16 := by omega
    rw [if_neg h]; simp [h']
theorem impl_SetRight_l0 (v : List Mark) (hv : v.length ≤ 4611686018427387904) (l : List Sib) (hl : l.length ≤ 1048576) : ∀ (s : List Sib) (i : Nat), l.drop i = s → i ≤ l.length →
    Ev (fun k => impl_SetRight.l0 k l (l.length : Int) (i : Int) v l) (sibsFrom v (prevSib l i) s)
  | [], i, h, hi => by
    have := dropNil' h hi
    refine Ev.step (f := fun _ => some true) (fun k => ?_) (by simp only [sibsFrom]; exact Ev.now _)
    simp only [impl_SetRight.l0]
    rw [if_neg (by omega)]
  | x :: s, i, h, hi => by
    obtain ⟨h1, h2, h3⟩ := dropCons h z139
    have hr : rd_T139 l (i : Int) = x := by simpa [rd_T139] using h2
    have ih := impl_SetRight_l0 v hv l hl s (i + 1) h3 (by omega)
    rw [prevSib_succ h2] at ih
    have hj : ∀ b : Bool, Ev (fun k => impl_SetRight.j2 k l (l.length : Int) (i : Int) b v l) (!b && sibsFrom v (some x) s) := fun b => by
      cases b with
      | true => exact Ev.step (f := fun _ => some false) (fun k => by simp [impl_SetRight.j2]) (Ev.now _)
      | false => exact Ev.step (fun k => by simp only [impl_SetRight.j2]; rw [if_neg (by simp), w64 (x := (i : Int) + 1) (by omega) (by omega)]) (by simpa using ih)
    have main : ∀ (p : Bool) (g : Nat → Option Bool), Ev g (p && sibsFrom v (some x) s) → Ev (fun k => (impl_isDot.f x.f0.f0 x.f0.f1).bind fun t => if t = true then ((impl_seenHas.f k v x.f0.f0 x.f0.f1).bind fun t => if t = true then ((impl_isData.f x.f2 x.f1).bind fun t => if t = true then g k else impl_SetRight.j2 k l (l.length : Int) (i : Int) true v l) else impl_SetRight.j2 k l (l.length : Int) (i : Int) true v l) else impl_SetRight.j2 k l (l.length : Int) (i : Int) true v l) (sibOk v x && (p && sibsFrom v (some x) s)) := by
      intro p g hg
      unfold sibOk
      refine evBind1 (isDot_is _ _) ?_
      cases isDot x.f0.f0 x.f0.f1 with
      | false => exact evNeg (by simp) (by simpa using hj true)
      | true =>
        refine evPos rfl (Ev.bind (seenHas_ev v _ _ hv) ?_)
        cases seenHas v x.f0.f0 x.f0.f1 with
        | false => exact evNeg (by simp) (by simpa using hj true)
        | true =>
          refine evPos rfl (evBind1 (isData_is _ _) ?_)
          cases dataOk x.f2 x.f1 with
          | false => exact evNeg (by simp) (by simpa using hj true)
          | true => exact evPos rfl (by simpa using hg)
    by_cases hi0 : i = 0
    · have hp : prevSib l i = none := by simp [prevSib, hi0]
      rw [hp]
      have h0 : ¬ ((i : Int) > 0) := by omega
      refine Ev.step (fun k => ?_) (show Ev _ (sibsFrom v none (x :: s)) from by
        have := main true _ (by simpa using hj false)
        simpa [sibsFrom] using this)
      simp only [impl_SetRight.l0, hr, if_neg h0]
      rw [if_pos (by omega), if_pos (by omega), if_pos (by omega)]
    · have hp : prevSib l i = some (l.getD (i - 1) z139) := by simp [prevSib, hi0]
      rw [hp]
      generalize hy : l.getD (i - 1) z139 = y
      have hq : rd_T139 l ((i : Int) - 1) = y := by
        rw [← hy]; simp only [rd_T139]; congr 1; omega
      have h0 : (i : Int) > 0 := by omega
      have hw : wrap64 ((i : Int) - 1) = (i : Int) - 1 := w64 (by omega) (by omega)
      have hA : (0 : Int) ≤ (i : Int) - 1 := by omega
      have hB : (i : Int) - 1 < (l.length : Int) := by omega
      refine Ev.step (fun k => ?_) (show Ev _ (sibsFrom v (some y) (x :: s)) from by
        have := main (dotLess y.f0.f0 y.f0.f1 x.f0.f0 x.f0.f1) (fun k => (impl_compareDots.f k y.f0.f0 y.f0.f1 x.f0.f0 x.f0.f1).bind fun t => impl_SetRight.j2 k l (l.length : Int) (i : Int) (decide (t ≥ 0)) v l)
          (Ev.bind (compareDots_ev _ _ _ _) (by
            have := hj (decide (cmpDots y.f0.f0 y.f0.f1 x.f0.f0 x.f0.f1 ≥ 0))
            rw [cmpDots_ge] at this ⊢
            simpa using this))
        simpa [sibsFrom] using this)
      simp only [impl_SetRight.l0, hr, if_pos h0, hw, if_pos hA, if_pos hB, hq]
      rw [if_pos (by omega), if_pos (by omega), if_pos (by omega)]
theorem impl_SetRight_ev (v : List Mark) (l : List Sib) (hv : v.length ≤ 4611686018427387904) (hl : l.length ≤ 1048576) : Ev (fun k => impl_SetRight.f k v l) (setOk v l) := by
  unfold impl_SetRight.f setOk
  refine Ev.bind (impl_seenRight_ev v hv) ?_
  cases seenOk v with
  | false => exact evNeg (by simp) (Ev.step (f := fun _ => some false) (fun k => by simp [impl_SetRight.j0]) (Ev.now _))
  | true =>
    refine evPos rfl ?_
    by_cases h : l.length ≤ 8
    · have hd : decide ((l.length : Int) > 8) = false := by simp; omega
      rw [hd]
      refine Ev.step (fun k => by simp only [impl_SetRight.j0]; rw [if_neg (by simp)]) ?_
      simpa [h, prevSib] using impl_SetRight_l0 v hv l hl l 0 rfl (by omega)
    · have hd : decide ((l.length : Int) > 8) = true := by simp; omega
      rw [hd]
      exact Ev.step (f := fun _ => some false) (fun k => by simp [impl_SetRight.j0]) (by simp [h]; exact Ev.now _)
theorem spec_SetRight_l0 (v : List Mark) (hv : v.length ≤ 4611686018427387904) (hk : seenOk v = true) (l : List Sib) (hl : l.length ≤ 1048576) : ∀ (s : List Sib) (i : Nat), l.drop i = s → i ≤ l.length →
    Ev (fun k => spec_SetRight.l0 k (i : Int) v l) (sibsFrom v (prevSib l i) s)
  | [], i, h, hi => by
    have := dropNil' h hi
    refine Ev.step (f := fun _ => some true) (fun k => ?_) (by simp only [sibsFrom]; exact Ev.now _)
    simp only [spec_SetRight.l0]
    rw [if_neg (by omega)]
  | x :: s, i, h, hi => by
    obtain ⟨h1, h2, h3⟩ := dropCons h z139
    have hr : rd_T139 l (i : Int) = x := by simpa [rd_T139] using h2
    have ih := spec_SetRight_l0 v hv hk l hl s (i + 1) h3 (by omega)
    rw [prevSib_succ h2] at ih
    have hj : ∀ b : Bool, Ev (fun k => if b = true then spec_SetRight.l0 k ((i : Int) + 1) v l else some false) (b && sibsFrom v (some x) s) := fun b => by
      cases b with
      | false => exact evNeg (by simp) (Ev.now _)
      | true => exact evPos rfl (by simpa using ih)
    have hi1 : wrap64 ((i : Int) + 1) = (i : Int) + 1 := w64 (by omega) (by omega)
    have main : ∀ (p : Bool) (g : Nat → Option Bool), Ev g (p && sibsFrom v (some x) s) → Ev (fun k => (spec_SeenHas.f k v x.f0.f0 x.f0.f1).bind fun t => if t = true then (if (x.f2.size : Int) > 16 then some false else (if x.f1 = true then (if x.f2.toList = ([] : List UInt8) then g k else some false) else g k)) else some false) (sibOk v x && (p && sibsFrom v (some x) s)) := by
      intro p g hg
      have e : seenHasOut v x.f0.f0 x.f0.f1 = (isDot x.f0.f0 x.f0.f1 && seenHas v x.f0.f0 x.f0.f1) := by simp [seenHasOut, hk]
      unfold sibOk
      rw [← Bool.and_assoc (isDot _ _), ← e]
      refine Ev.bind (spec_SeenHas_ev v _ _ hv) ?_
      cases seenHasOut v x.f0.f0 x.f0.f1 with
      | false => exact evNeg (by simp) (Ev.now _)
      | true =>
        refine evPos rfl ?_
        unfold dataOk
        by_cases hs : (x.f2.size : Int) > 16
        · have hs' : ¬ x.f2.size ≤ 16 := by omega
          exact evPos hs (by simpa [hs'] using Ev.now false)
        · have hs' : x.f2.size ≤ 16 := by omega
          refine evNeg hs ?_
          cases hg1 : x.f1 with
          | false => exact evNeg (by simp) (by simpa [hs'] using hg)
          | true =>
            refine evPos rfl ?_
            by_cases he : x.f2.toList = []
            · exact evPos he (by simpa [hs', he] using hg)
            · exact evNeg he (by simpa [hs', he] using Ev.now false)
    by_cases hi0 : i = 0
    · have hp : prevSib l i = none := by simp [prevSib, hi0]
      rw [hp]
      have h0 : ¬ ((i : Int) > 0) := by omega
      refine Ev.step (fun k => ?_) (show Ev _ (sibsFrom v none (x :: s)) from by
        have := main true (fun k => spec_SetRight.l0 k ((i : Int) + 1) v l) (by simpa using ih)
        simpa [sibsFrom] using this)
      simp only [spec_SetRight.l0, hr, if_neg h0, hi1]
      rw [if_pos (by omega), if_pos (by omega)]
    · have hp : prevSib l i = some (l.getD (i - 1) z139) := by simp [prevSib, hi0]
      rw [hp]
      generalize hy : l.getD (i - 1) z139 = y
      have hq : rd_T139 l ((i : Int) - 1) = y := by
        rw [← hy]; simp only [rd_T139]; congr 1; omega
      have h0 : (i : Int) > 0 := by omega
      have hw : wrap64 ((i : Int) - 1) = (i : Int) - 1 := w64 (by omega) (by omega)
      have hA : (0 : Int) ≤ (i : Int) - 1 := by omega
      have hB : (i : Int) - 1 < (l.length : Int) := by omega
      refine Ev.step (fun k => ?_) (show Ev _ (sibsFrom v (some y) (x :: s)) from by
        have := main (dotLess y.f0.f0 y.f0.f1 x.f0.f0 x.f0.f1) (fun k => (spec_l03Less.f y.f0.f0 y.f0.f1 x.f0.f0 x.f0.f1).bind fun t => if t = true then spec_SetRight.l0 k ((i : Int) + 1) v l else some false)
          (evBind1 (l03Less_is _ _ _ _) (hj (dotLess y.f0.f0 y.f0.f1 x.f0.f0 x.f0.f1)))
        simpa [sibsFrom] using this)
      simp only [spec_SetRight.l0, hr, hi1, if_pos h0, hw, if_pos hA, if_pos hB, hq]
      rw [if_pos (by omega), if_pos (by omega)]
theorem spec_SetRight_ev (v : List Mark) (l : List Sib) (hv : v.length ≤ 4611686018427387904) (hl : l.length ≤ 1048576) : Ev (fun k => spec_SetRight.f k v l) (setOk v l) := by
  unfold spec_SetRight.f setOk
  refine Ev.bind (spec_SeenRight_ev v hv) ?_
  cases hk : seenOk v with
  | false => exact evNeg (by simp) (Ev.step (f := fun _ => some false) (fun k => by simp [spec_SetRight.j0]) (Ev.now _))
  | true =>
    refine evPos rfl ?_
    by_cases h : l.length ≤ 8
    · have hd : decide ((l.length : Int) > 8) = false := by simp; omega
      rw [hd]
      refine Ev.step (fun k => by simp only [spec_SetRight.j0]; rw [if_neg (by simp)]) ?_
      simpa [h, prevSib] using spec_SetRight_l0 v hv hk l hl l 0 rfl (by omega)
    · have hd : decide ((l.length : Int) > 8) = true := by simp; omega
      rw [hd]
      exact Ev.step (f := fun _ => some false) (fun k => by simp [spec_SetRight.j0]) (by simp [h]; exact Ev.now _)
end Go.Proofs.Ytdjhclgkkklajaa.Q

namespace Go.Proofs.Ytdjhclgkkklajaa.Q
open Go.RowKit Go.Proofs.Ytdjhclgkkklajaa.P Go.Proofs.YtdjhclgkkklajaaW.PrintWords Go.Proofs.YtdjhclgkkklajaaW.PrintMore

abbrev LSib := S177
def toSib (x : LSib) : Sib := ⟨toMark x.f0, x.f1, x.f2⟩
theorem szSib_is (a b : Int) (c : Bool) (t : ByteArray) (n : Int) (h0 : 0 ≤ n) (h1 : n ≤ 1048576) (ht : t.size ≤ 9223372036854775807) :
    laws_szSib.f a b c t n = some (if n < (t.size : Int) then -1 else n - (t.size : Int)) := by
  unfold laws_szSib.f
  rw [w64 (by omega) (by omega)]
  split
  · rw [if_pos (by omega)]
  · rw [if_neg (by omega)]
theorem szSibS_l0 (l : List LSib) (hl : l.length ≤ 1048576) (hx : ∀ x ∈ l, x.f2.size ≤ 9223372036854775807) : ∀ (s : List LSib) (i : Nat), l.drop i = s → i ≤ l.length → ∀ n : Int, 0 ≤ n → n ≤ 1048576 →
    ∃ r, Ev (fun k => laws_szSibS.l0 k l n (i : Int)) r ∧ r ≤ n ∧ (0 ≤ r → ∀ x ∈ s, (x.f2.size : Int) ≤ n)
  | [], i, h, hi, n, h0, h1 => by
    have := dropNil' h hi
    refine ⟨n, Ev.step (f := fun _ => some n) (fun k => ?_) (Ev.now _), by omega, by simp⟩
    simp only [laws_szSibS.l0]
    rw [if_neg (by omega)]
  | m :: s, i, h, hi, n, h0, h1 => by
    obtain ⟨g1, g2, g3⟩ := dropCons h z177
    have hr : rd_T177 l (i : Int) = m := by simpa [rd_T177] using g2
    have hm : m ∈ l := List.mem_of_mem_drop (by rw [h]; exact List.mem_cons_self)
    have e := szSib_is m.f0.f0 m.f0.f1 m.f1 m.f2 n h0 h1 (hx m hm)
    by_cases hn : n < (m.f2.size : Int)
    · rw [if_pos hn] at e
      refine ⟨-1, Ev.step (f := fun _ => some (-1)) (fun k => ?_) (Ev.now _), by omega, by omega⟩
      simp only [laws_szSibS.l0, hr, e, Option.bind_some]
      rw [if_pos (by omega), if_pos (by omega), if_pos (by omega)]
    · rw [if_neg hn] at e
      obtain ⟨r, e1, e2, e3⟩ := szSibS_l0 l hl hx s (i + 1) g3 (by omega) (n - (m.f2.size : Int)) (by omega) (by omega)
      refine ⟨r, Ev.step (fun k => ?_) e1, by omega, fun hr0 x hxm => ?_⟩
      · simp only [laws_szSibS.l0, hr, e, Option.bind_some]
        rw [if_pos (by omega), if_pos (by omega), if_neg (by omega), w64 (by omega) (by omega)]
        rfl
      · rcases List.mem_cons.1 hxm with rfl | hxm
        · omega
        · have := e3 hr0 x hxm; omega
theorem szSibS_ev (l : List LSib) (hl : l.length ≤ 9223372036854775807) (hx : ∀ x ∈ l, x.f2.size ≤ 9223372036854775807) (n : Int) (h0 : 0 ≤ n) (h1 : n ≤ 1048576) :
    ∃ r, Ev (fun k => laws_szSibS.f k l n) r ∧ r ≤ n ∧ (0 ≤ r → (l.length : Int) ≤ n ∧ ∀ x ∈ l, (x.f2.size : Int) ≤ n) := by
  unfold laws_szSibS.f
  rw [w64 (by omega) (by omega)]
  by_cases h : n - (l.length : Int) < 0
  · exact ⟨-1, evPos h (Ev.now _), by omega, by omega⟩
  · obtain ⟨r, e1, e2, e3⟩ := szSibS_l0 l (by omega) hx l 0 rfl (by omega) (n - (l.length : Int)) (by omega) (by omega)
    exact ⟨r, evNeg h e1, by omega, fun h0 => ⟨by omega, fun x hx => by have := e3 h0 x hx; omega⟩⟩
theorem szSet_ev (v : List LMark) (l : List LSib) (hv : v.length ≤ 9223372036854775807) (hl : l.length ≤ 9223372036854775807) (hx : ∀ x ∈ l, x.f2.size ≤ 9223372036854775807) (n : Int) (h0 : 0 ≤ n) (h1 : n ≤ 1048576) :
    ∃ r, Ev (fun k => laws_szSet.f k v l n) r ∧ r ≤ n ∧ (0 ≤ r → v.length ≤ 1048576 ∧ l.length ≤ 1048576 ∧ ∀ x ∈ l, x.f2.size ≤ 1048576) := by
  unfold laws_szSet.f
  rw [szMarkS_is v n h0 h1 hv]
  simp only [Option.bind_some]
  by_cases h : n < (v.length : Int)
  · rw [if_pos h]
    exact ⟨-1, evPos (by omega) (Ev.now _), by omega, by omega⟩
  · rw [if_neg h]
    obtain ⟨r, e1, e2, e3⟩ := szSibS_ev l hl hx (n - (v.length : Int)) (by omega) (by omega)
    by_cases hr : r < 0
    · exact ⟨-1, evNeg (by omega) (Ev.bind e1 (evPos hr (Ev.now _))), by omega, by omega⟩
    · refine ⟨r, evNeg (by omega) (Ev.bind e1 (evNeg hr (Ev.now _))), by omega, fun h0 => ?_⟩
      obtain ⟨g1, g2⟩ := e3 h0
      exact ⟨by omega, by omega, fun x hx => by have := g2 x hx; omega⟩
theorem toSibS_l0 (l : List LSib) (hl : l.length ≤ 1048576) : ∀ (s : List LSib) (i : Nat), l.drop i = s → i ≤ l.length → ∀ (acc : List Sib), acc.length = l.length → acc.take i = (l.take i).map toSib →
    Ev (fun k => laws_toSibS.l0 k l acc (i : Int)) (l.map toSib)
  | [], i, h, hi, acc, ha, hc => by
    have := dropNil' h hi
    refine Ev.step (f := fun _ => some (l.map toSib)) (fun k => ?_) (Ev.now _)
    simp only [laws_toSibS.l0]
    rw [if_neg (by omega)]
    rw [← this, List.take_of_length_le (by omega), List.take_length] at hc
    rw [hc]
  | m :: s, i, h, hi, acc, ha, hc => by
    obtain ⟨h1, h2, h3⟩ := dropCons h z177
    have hr : rd_T177 l (i : Int) = m := by simpa [rd_T177] using h2
    have hm : l[i]'h1 = m := by
      rw [List.getD_eq_getElem?_getD, List.getElem?_eq_getElem h1] at h2; exact h2
    refine Ev.step (fun k => ?_) (toSibS_l0 l hl s (i + 1) h3 (by omega) (acc.set i (toSib m)) (by simpa using ha) (by
      rw [List.take_succ_eq_append_getElem (by simp; omega), List.take_succ_eq_append_getElem h1, List.map_append, List.take_set_of_le (by omega), hc]
      simp [hm]))
    simp only [laws_toSibS.l0, laws_toSib.f, laws_toMark.f, hr, Option.bind_some, Int.toNat_natCast]
    rw [if_pos (by omega), if_pos (by omega), if_pos (by omega), w64 (by omega) (by omega)]
    rfl
theorem toSibS_ev (l : List LSib) (hl : l.length ≤ 1048576) : Ev (fun k => laws_toSibS.f k l) (l.map toSib) := by
  unfold laws_toSibS.f
  refine evPos (by omega) (evPos (by omega) ?_)
  exact toSibS_l0 l hl l 0 rfl (by omega) _ (by simp) (by simp)
theorem toSet_ev (v : List LMark) (l : List LSib) (hv : v.length ≤ 1048576) (hl : l.length ≤ 1048576) : Ev (fun k => laws_toSet.f k v l) (v.map toMark, l.map toSib) :=
  Ev.bind (toMarkS_ev v hv) (Ev.bind (toSibS_ev l hl) (Ev.now _))
theorem eqSib_refl (a b : Int) (c : Bool) (t : ByteArray) : laws_eqSib.f a b c t a b c t = some true := by simp [laws_eqSib.f, eqMark_refl]
theorem eqSibS_l0 (l : List Sib) (hl : l.length ≤ 4611686018427387904) : ∀ (s : List Sib) (i : Nat), l.drop i = s → i ≤ l.length →
    Ev (fun k => laws_eqSibS.l0 k l l (i : Int)) true
  | [], i, h, hi => by
    have := dropNil' h hi
    refine Ev.step (f := fun _ => some true) (fun k => ?_) (Ev.now _)
    simp only [laws_eqSibS.l0]
    rw [if_neg (by omega)]
  | m :: s, i, h, hi => by
    obtain ⟨h1, h2, h3⟩ := dropCons h z139
    refine Ev.step (fun k => ?_) (eqSibS_l0 l hl s (i + 1) h3 (by omega))
    simp only [laws_eqSibS.l0, eqSib_refl, Option.bind_some]
    rw [if_pos (by omega), if_pos (by omega), if_pos (by omega), if_pos trivial, w64 (by omega) (by omega)]
    rfl
theorem eqSibS_ev (l : List Sib) (hl : l.length ≤ 4611686018427387904) : Ev (fun k => laws_eqSibS.f k l l) true := by
  unfold laws_eqSibS.f
  exact evPos rfl (eqSibS_l0 l hl l 0 rfl (by omega))
theorem eqSet_ev (v : List Mark) (l : List Sib) (hv : v.length ≤ 4611686018427387904) (hl : l.length ≤ 4611686018427387904) : Ev (fun k => laws_eqSet.f k v l v l) true :=
  Ev.bind (eqMarkS_ev v hv) (evPos rfl (Ev.bind (eqSibS_ev l hl) (evPos rfl (Ev.now _))))
end Go.Proofs.Ytdjhclgkkklajaa.Q

namespace Go.Proofs.Ytdjhclgkkklajaa.Q
open Go.RowKit Go.Proofs.Ytdjhclgkkklajaa.P Go.Proofs.YtdjhclgkkklajaaW.PrintWords Go.Proofs.YtdjhclgkkklajaaW.PrintMore
/-- Of any set: it is too large, or it is small. -/
theorem szSet_small {x : S70} (hw : Go.Proofs.Ytdjhclgkkklajaa.RO.wfT70 x) : ∃ r, Ev (fun k => laws_szSet.f k x.f0 x.f1 1048576) r ∧ r ≤ 1048576 ∧ (¬ r < 0 → x.f0.length ≤ 1048576 ∧ x.f1.length ≤ 1048576 ∧ ∀ y ∈ x.f1, y.f2.size ≤ 1048576) := by
  obtain ⟨r, e1, e2, e3⟩ := szSet_ev x.f0 x.f1 hw.1.1 hw.2.1 (fun y hy => (hw.2.2 y hy).2.2) 1048576 (by omega) (by omega)
  exact ⟨r, e1, e2, fun h => e3 (by omega)⟩
end Go.Proofs.Ytdjhclgkkklajaa.Q

namespace Go.Proofs.Ytdjhclgkkklajaa.P
open Go.RowKit Go.Proofs.YtdjhclgkkklajaaW.PrintWords Go.Proofs.YtdjhclgkkklajaaW.PrintLast Go.Proofs.YtdjhclgkkklajaaW.PrintMore
attribute [local go_sem] max2_int min2_int max_two min_two max_three min_three max_four min_four   -- for this text's walks alone
set_option linter.unusedVariables false
set_option linter.unusedSimpArgs false

/-! ### laws_heldMarkS: function 70 -/
def laws_heldMarkS.l0 : Nat → List (S43) → Int → Int → Option (Int)
 | 0, _, _, _ => none
 | k + 1, x0, x1, x5 => if x5 < (x0.length : Int) then (if 0 ≤ x5 then (if ((rd_T43 x0 x5).f0) = x1 then (if ((rd_T43 x0 x5).f1) = (wrap64 (x1 + 1)) then (laws_heldMarkS.l0 k x0 (wrap64 ((wrap64 (x1 + 1)) + 1)) (wrap64 (x5 + 1))) else (none)) else (none)) else (none)) else (some x1)
def laws_heldMarkS.f (k : Nat) (l0 : List (S43)) (a1 : Int) : Option (Int) := laws_heldMarkS.l0 k l0 a1 0
theorem laws_heldMarkS.mono_l : ∀ k, (∀ y0 y1 y2, LeO (laws_heldMarkS.l0 k y0 y1 y2) (laws_heldMarkS.l0 (k + 1) y0 y1 y2))
 | 0 => fun _ _ _ r h => by simp [laws_heldMarkS.l0] at h
 | k + 1 => by
  have ih0 := laws_heldMarkS.mono_l k
  ·intro y0 y1 y2
   unfold laws_heldMarkS.l0
   repeat' first
   | (with_reducible exact ih0 _ _ _)
   | (with_reducible exact LeO.refl _)
   | (with_reducible exact LeO.none _)
   | (with_reducible refine LeO.ite ?_ ?_)
   | (with_reducible refine LeO.bind ?_ (fun _ => ?_))
   | exact ih0 _ _ _
   | exact LeO.none _
   | refine LeO.ite ?_ ?_
   | refine LeO.bind ?_ (fun _ => ?_)
theorem laws_heldMarkS.mono : ∀ a0 a1 k, LeO (laws_heldMarkS.f k a0 a1) (laws_heldMarkS.f (k + 1) a0 a1) := by
 intro a0 a1 k
 have ih0 := laws_heldMarkS.mono_l k
 unfold laws_heldMarkS.f
 repeat' first
   | (with_reducible exact ih0 _ _ _)
   | (with_reducible exact LeO.refl _)
   | (with_reducible exact LeO.none _)
   | (with_reducible refine LeO.ite ?_ ?_)
   | (with_reducible refine LeO.bind ?_ (fun _ => ?_))
   | exact ih0 _ _ _
   | exact LeO.none _
   | refine LeO.ite ?_ ?_
   | refine LeO.bind ?_ (fun _ => ?_)
end Go.Proofs.Ytdjhclgkkklajaa.P

namespace Go.Proofs.Ytdjhclgkkklajaa.Q
open Go.RowKit Go.Proofs.Ytdjhclgkkklajaa.P Go.Proofs.YtdjhclgkkklajaaW.PrintWords Go.Proofs.YtdjhclgkkklajaaW.PrintMore

theorem getD_mid {α : Type} (pre : List α) (m : α) (s : List α) (d : α) : (pre ++ m :: s).getD pre.length d = m := by
  rw [List.getD_eq_getElem?_getD, List.getElem?_append_right (Nat.le_refl _), Nat.sub_self]; rfl
theorem set_mid {α : Type} (pre : List α) (m x : α) (s : List α) : (pre ++ m :: s).set pre.length x = pre ++ x :: s := by
  rw [List.set_append_right _ _ (Nat.le_refl _), Nat.sub_self]; rfl
def markL : Int → List Mark → List Mark
  | _, [] => []
  | n, _ :: r => ⟨n, n + 1⟩ :: markL (n + 2) r
theorem markMarkS_l0 (N : Int) (hN : N ≤ 1152921504606846976) : ∀ (s pre : List Mark) (n : Int), 0 ≤ n → n + 2 * (s.length : Int) ≤ N → (pre.length : Int) + s.length ≤ N →
    Ev (fun k => laws_markMarkS.l0 k (pre ++ s) n (pre.length : Int)) (n + 2 * (s.length : Int), pre ++ markL n s)
  | [], pre, n, h0, h1, h2 => by
    refine Ev.step (f := fun _ => some (n, pre)) (fun k => ?_) (by simp [markL]; exact Ev.now _)
    simp only [laws_markMarkS.l0, List.append_nil]
    rw [if_neg (by omega)]
  | m :: s, pre, n, h0, h1, h2 => by
    simp only [List.length_cons] at h1 h2
    have ih := markMarkS_l0 N hN s (pre ++ [⟨n, n + 1⟩]) (n + 2) (by omega) (by omega) (by simp; omega)
    simp only [List.length_append, List.length_cons, List.length_nil, List.append_assoc, List.cons_append, List.nil_append] at ih
    refine Ev.step (fun k => ?_) (show Ev _ (n + 2 * ((m :: s).length : Int), pre ++ markL n (m :: s)) from by
      simp only [markL, List.length_cons]
      rw [show n + 2 * ((s.length + 1 : Nat) : Int) = n + 2 + 2 * (s.length : Int) from by omega]
      exact ih)
    simp only [laws_markMarkS.l0, Option.bind_some, Int.toNat_natCast, rd_T43, set_mid, getD_mid]
    rw [if_pos (by simp; omega), if_pos (by omega), w64 (x := n + 1) (by omega) (by omega), w64 (x := n + 1 + 1) (by omega) (by omega), w64 (x := (pre.length : Int) + 1) (by omega) (by omega), show n + 1 + 1 = n + 2 from by omega]
    rfl
theorem markMarkS_ev (s : List Mark) (n : Int) (h0 : 0 ≤ n) (h1 : n + 2 * (s.length : Int) ≤ 1152921504606846976) : Ev (fun k => laws_markMarkS.f k s n) (n + 2 * (s.length : Int), markL n s) :=
  markMarkS_l0 1152921504606846976 (Int.le_refl _) s [] n h0 h1 (by simp; omega)
end Go.Proofs.Ytdjhclgkkklajaa.Q

namespace Go.Proofs.Ytdjhclgkkklajaa.P
open Go.RowKit Go.Proofs.YtdjhclgkkklajaaW.PrintWords Go.Proofs.YtdjhclgkkklajaaW.PrintLast Go.Proofs.YtdjhclgkkklajaaW.PrintMore
attribute [local go_sem] max2_int min2_int max_two min_two max_three min_three max_four min_four   -- for this text's walks alone
set_option linter.unusedVariables false
set_option linter.unusedSimpArgs false

/-! ### laws_heldSibS: function 167 -/
def laws_heldSibS.l0 : Nat → List (S139) → Int → Int → Option (Int)
 | 0, _, _, _ => none
 | k + 1, x0, x1, x5 => if x5 < (x0.length : Int) then (if 0 ≤ x5 then (if ((rd_T139 x0 x5).f0.f0) = x1 then (if ((rd_T139 x0 x5).f0.f1) = (wrap64 (x1 + 1)) then (if (((rd_T139 x0 x5).f1) != ((Int.tmod (wrap64 ((wrap64 (x1 + 1)) + 1)) 3) == 0)) = true then (none) else ((laws_markText.f k (wrap64 ((wrap64 ((wrap64 (x1 + 1)) + 1)) + 1))).bind fun t543 => (if ((rd_T139 x0 x5).f2).toList = t543.toList then (laws_heldSibS.l0 k x0 (wrap64 ((wrap64 ((wrap64 ((wrap64 (x1 + 1)) + 1)) + 1)) + 1)) (wrap64 (x5 + 1))) else (none)))) else (none)) else (none)) else (none)) else (some x1)
def laws_heldSibS.f (k : Nat) (l0 : List (S139)) (a1 : Int) : Option (Int) := laws_heldSibS.l0 k l0 a1 0
theorem laws_heldSibS.mono_l : ∀ k, (∀ y0 y1 y2, LeO (laws_heldSibS.l0 k y0 y1 y2) (laws_heldSibS.l0 (k + 1) y0 y1 y2))
 | 0 => fun _ _ _ r h => by simp [laws_heldSibS.l0] at h
 | k + 1 => by
  have ih0 := laws_heldSibS.mono_l k
  ·intro y0 y1 y2
   unfold laws_heldSibS.l0
   repeat' first
   | (with_reducible exact ih0 _ _ _)
   | (with_reducible exact laws_markText.mono _ _)
   | (with_reducible exact LeO.refl _)
   | (with_reducible exact LeO.none _)
   | (with_reducible refine LeO.ite ?_ ?_)
   | (with_reducible refine LeO.bind ?_ (fun _ => ?_))
   | exact ih0 _ _ _
   | exact laws_markText.mono _ _
   | exact LeO.none _
   | refine LeO.ite ?_ ?_
   | refine LeO.bind ?_ (fun _ => ?_)
theorem laws_heldSibS.mono : ∀ a0 a1 k, LeO (laws_heldSibS.f k a0 a1) (laws_heldSibS.f (k + 1) a0 a1) := by
 intro a0 a1 k
 have ih0 := laws_heldSibS.mono_l k
 unfold laws_heldSibS.f
 repeat' first
   | (with_reducible exact ih0 _ _ _)
   | (with_reducible exact laws_markText.mono _ _)
   | (with_reducible exact LeO.refl _)
   | (with_reducible exact LeO.none _)
   | (with_reducible refine LeO.ite ?_ ?_)
   | (with_reducible refine LeO.bind ?_ (fun _ => ?_))
   | exact ih0 _ _ _
   | exact laws_markText.mono _ _
   | exact LeO.none _
   | refine LeO.ite ?_ ?_
   | refine LeO.bind ?_ (fun _ => ?_)
end Go.Proofs.Ytdjhclgkkklajaa.P

namespace Go.Proofs.Ytdjhclgkkklajaa.Q
open Go.RowKit Go.Proofs.Ytdjhclgkkklajaa.P Go.Proofs.YtdjhclgkkklajaaW.PrintWords Go.Proofs.YtdjhclgkkklajaaW.PrintMore

theorem markText_l0 : ∀ (m : Nat) (n : Int), n.toNat ≤ m → 0 ≤ n → ∀ t : ByteArray, (t.size : Int) + n + 1 ≤ 9223372036854775807 → ∃ r, Ev (fun k => laws_markText.l0 k n t) r
  | 0, n, hm, h0, t, ht => by
    refine ⟨(⟨#[109]⟩ : ByteArray) ++ t, Ev.step (f := fun _ => some ((⟨#[109]⟩ : ByteArray) ++ t)) (fun k => ?_) (Ev.now _)⟩
    simp only [laws_markText.l0]
    rw [if_neg (by omega), if_pos (by omega)]
  | m + 1, n, hm, h0, t, ht => by
    by_cases hn : n > 0
    · have hs : (strOfNums [(wrap64 (48 + (Int.tmod n 10))) % 256]).size = 1 := rfl
      have e : Int.tdiv n 10 = n / 10 := Int.tdiv_eq_ediv_of_nonneg h0
      obtain ⟨r, hr⟩ := markText_l0 m (n / 10) (by omega) (by omega) (strOfNums [(wrap64 (48 + (Int.tmod n 10))) % 256] ++ t) (by rw [ByteArray.size_append, hs]; omega)
      refine ⟨r, Ev.step (fun k => ?_) hr⟩
      simp only [laws_markText.l0, Option.bind_some]
      rw [if_pos hn, if_pos (by rw [hs]; omega), e, w64 (x := n / 10) (by omega) (by omega)]
    · refine ⟨(⟨#[109]⟩ : ByteArray) ++ t, Ev.step (f := fun _ => some ((⟨#[109]⟩ : ByteArray) ++ t)) (fun k => ?_) (Ev.now _)⟩
      simp only [laws_markText.l0]
      rw [if_neg hn, if_pos (by omega)]
theorem markText_is (n : Int) (h1 : n ≤ 1152921504606846976) : ∃ r, Ev (fun k => laws_markText.f k n) r := by
  unfold laws_markText.f
  by_cases h : n ≤ 0
  · exact ⟨_, evPos h (Ev.now _)⟩
  · obtain ⟨r, hr⟩ := markText_l0 n.toNat n (by omega) (by omega) ⟨#[]⟩ (by show (0 : Int) + n + 1 ≤ _; omega)
    exact ⟨r, evNeg h hr⟩
open Classical in
noncomputable def markT (n : Int) : ByteArray := if h : ∃ r, Ev (fun k => laws_markText.f k n) r then h.choose else ⟨#[]⟩
theorem markT_ev (n : Int) (h1 : n ≤ 1152921504606846976) : Ev (fun k => laws_markText.f k n) (markT n) := by
  have h := markText_is n h1
  unfold markT
  rw [dif_pos h]
  exact h.choose_spec
noncomputable def markSL : Int → List Sib → List Sib
  | _, [] => []
  | n, _ :: r => ⟨⟨n, n + 1⟩, (Int.tmod (n + 2) 3) == 0, markT (n + 3)⟩ :: markSL (n + 4) r
theorem markSibS_l0 (N : Int) (hN : N ≤ 1152921504606846976) : ∀ (s pre : List Sib) (n : Int), 0 ≤ n → n + 4 * (s.length : Int) ≤ N → (pre.length : Int) + s.length ≤ N →
    Ev (fun k => laws_markSibS.l0 k (pre ++ s) n (pre.length : Int)) (n + 4 * (s.length : Int), pre ++ markSL n s)
  | [], pre, n, h0, h1, h2 => by
    refine Ev.step (f := fun _ => some (n, pre)) (fun k => ?_) (by simp [markSL]; exact Ev.now _)
    simp only [laws_markSibS.l0, List.append_nil]
    rw [if_neg (by omega)]
  | x :: s, pre, n, h0, h1, h2 => by
    simp only [List.length_cons] at h1 h2
    have ih := markSibS_l0 N hN s (pre ++ [⟨⟨n, n + 1⟩, (Int.tmod (n + 2) 3) == 0, markT (n + 3)⟩]) (n + 4) (by omega) (by omega) (by simp; omega)
    simp only [List.length_append, List.length_cons, List.length_nil, List.append_assoc, List.cons_append, List.nil_append] at ih
    have w1 : wrap64 (n + 1) = n + 1 := w64 (by omega) (by omega)
    have w2 : wrap64 (n + 1 + 1) = n + 2 := by rw [w64 (by omega) (by omega)]; omega
    have w3 : wrap64 (n + 2 + 1) = n + 3 := by rw [w64 (by omega) (by omega)]; omega
    have w4 : wrap64 (n + 3 + 1) = n + 4 := by rw [w64 (by omega) (by omega)]; omega
    refine Ev.step (f := fun k => (laws_markText.f k (n + 3)).bind fun t => laws_markSibS.l0 k (pre ++ ⟨⟨n, n + 1⟩, (Int.tmod (n + 2) 3) == 0, t⟩ :: s) (n + 4) ((pre.length + (0 + 1) : Nat) : Int)) (fun k => ?_) (show Ev _ (n + 4 * ((x :: s).length : Int), pre ++ markSL n (x :: s)) from by
      simp only [markSL, List.length_cons]
      rw [show n + 4 * ((s.length + 1 : Nat) : Int) = n + 4 + 4 * (s.length : Int) from by omega]
      exact Ev.bind (markT_ev (n + 3) (by omega)) ih)
    simp only [laws_markSibS.l0, Option.bind_some, Int.toNat_natCast, rd_T139, set_mid, getD_mid, w1, w2, w3, w4]
    rw [if_pos (by simp; omega), if_pos (by omega), w64 (x := (pre.length : Int) + 1) (by omega) (by omega)]
    rfl
theorem markSibS_ev (s : List Sib) (n : Int) (h0 : 0 ≤ n) (h1 : n + 4 * (s.length : Int) ≤ 1152921504606846976) : Ev (fun k => laws_markSibS.f k s n) (n + 4 * (s.length : Int), markSL n s) :=
  markSibS_l0 1152921504606846976 (Int.le_refl _) s [] n h0 h1 (by simp; omega)
theorem markSet_ev (v : List Mark) (l : List Sib) (n : Int) (h0 : 0 ≤ n) (h1 : n + 2 * (v.length : Int) + 4 * (l.length : Int) ≤ 1152921504606846976) :
    Ev (fun k => laws_markSet.f k v l n) (n + 2 * (v.length : Int) + 4 * (l.length : Int), markL n v, markSL (n + 2 * (v.length : Int)) l) :=
  Ev.bind (markMarkS_ev v n h0 (by omega)) (Ev.bind (markSibS_ev l _ (by omega) h1) (Ev.now _))
theorem eqStringS_l0 (l : List ByteArray) (hl : l.length ≤ 4611686018427387904) : ∀ (s : List ByteArray) (i : Nat), l.drop i = s → i ≤ l.length →
    Ev (fun k => laws_eqStringS.l0 k l l (i : Int)) true
  | [], i, h, hi => by
    have := dropNil' h hi
    refine Ev.step (f := fun _ => some true) (fun k => ?_) (Ev.now _)
    simp only [laws_eqStringS.l0]
    rw [if_neg (by omega)]
  | m :: s, i, h, hi => by
    obtain ⟨h1, h2, h3⟩ := dropCons h ByteArray.empty
    refine Ev.step (fun k => ?_) (eqStringS_l0 l hl s (i + 1) h3 (by omega))
    simp only [laws_eqStringS.l0]
    rw [if_pos (by omega), if_pos (by omega), if_pos (by omega), if_pos trivial, w64 (by omega) (by omega)]
    rfl
theorem eqStringS_ev (l : List ByteArray) (hl : l.length ≤ 4611686018427387904) : Ev (fun k => laws_eqStringS.f k l l) true := by
  unfold laws_eqStringS.f
  exact evPos rfl (eqStringS_l0 l hl l 0 rfl (by omega))
noncomputable def markTL : Int → List ByteArray → List ByteArray
  | _, [] => []
  | n, _ :: r => markT n :: markTL (n + 1) r
theorem markStringS_l0 (N : Int) (hN : N ≤ 1152921504606846976) : ∀ (s pre : List ByteArray) (n : Int), 0 ≤ n → n + (s.length : Int) ≤ N → (pre.length : Int) + s.length ≤ N →
    Ev (fun k => laws_markStringS.l0 k (pre ++ s) n (pre.length : Int)) (n + (s.length : Int), pre ++ markTL n s)
  | [], pre, n, h0, h1, h2 => by
    refine Ev.step (f := fun _ => some (n, pre)) (fun k => ?_) (by simp [markTL]; exact Ev.now _)
    simp only [laws_markStringS.l0, List.append_nil]
    rw [if_neg (by omega)]
  | x :: s, pre, n, h0, h1, h2 => by
    simp only [List.length_cons] at h1 h2
    have ih := markStringS_l0 N hN s (pre ++ [markT n]) (n + 1) (by omega) (by omega) (by simp; omega)
    simp only [List.length_append, List.length_cons, List.length_nil, List.append_assoc, List.cons_append, List.nil_append] at ih
    refine Ev.step (f := fun k => (laws_markText.f k n).bind fun t => laws_markStringS.l0 k (pre ++ t :: s) (n + 1) ((pre.length + (0 + 1) : Nat) : Int)) (fun k => ?_) (show Ev _ (n + ((x :: s).length : Int), pre ++ markTL n (x :: s)) from by
      simp only [markTL, List.length_cons]
      rw [show n + ((s.length + 1 : Nat) : Int) = n + 1 + (s.length : Int) from by omega]
      exact Ev.bind (markT_ev n (by omega)) ih)
    simp only [laws_markStringS.l0, Int.toNat_natCast, set_mid]
    rw [if_pos (by simp; omega)]
    simp only [if_pos (show (0 : Int) ≤ (pre.length : Int) by omega), w64 (x := n + 1) (by omega) (by omega), w64 (x := (pre.length : Int) + 1) (by omega) (by omega)]
    rfl
theorem markStringS_ev (s : List ByteArray) (n : Int) (h0 : 0 ≤ n) (h1 : n + (s.length : Int) ≤ 1152921504606846976) : Ev (fun k => laws_markStringS.f k s n) (n + (s.length : Int), markTL n s) :=
  markStringS_l0 1152921504606846976 (Int.le_refl _) s [] n h0 h1 (by simp; omega)
theorem heldStringS_l0 (N : Int) (hN : N ≤ 1152921504606846976) : ∀ (s pre : List ByteArray) (n : Int), 0 ≤ n → n + (s.length : Int) ≤ N → (pre.length : Int) + s.length ≤ N →
    Ev (fun k => laws_heldStringS.l0 k (pre ++ markTL n s) n (pre.length : Int)) (n + (s.length : Int))
  | [], pre, n, h0, h1, h2 => by
    refine Ev.step (f := fun _ => some n) (fun k => ?_) (by simp; exact Ev.now _)
    simp only [laws_heldStringS.l0, markTL, List.append_nil]
    rw [if_neg (by omega)]
  | x :: s, pre, n, h0, h1, h2 => by
    simp only [List.length_cons] at h1 h2
    have ih := heldStringS_l0 N hN s (pre ++ [markT n]) (n + 1) (by omega) (by omega) (by simp; omega)
    simp only [List.length_append, List.length_cons, List.length_nil, List.append_assoc, List.cons_append, List.nil_append] at ih
    have hr : rdOf ByteArray.empty (pre ++ markTL n (x :: s)) (pre.length : Int) = markT n := by simp only [rdOf, Int.toNat_natCast, markTL, getD_mid]
    refine Ev.step (f := fun k => (laws_markText.f k n).bind fun t => if (markT n).toList = t.toList then laws_heldStringS.l0 k (pre ++ markTL n (x :: s)) (n + 1) ((pre.length + (0 + 1) : Nat) : Int) else none) (fun k => ?_) (show Ev _ (n + ((x :: s).length : Int)) from by
      simp only [List.length_cons]
      rw [show n + ((s.length + 1 : Nat) : Int) = n + 1 + (s.length : Int) from by omega]
      exact Ev.bind (markT_ev n (by omega)) (evPos rfl ih))
    simp only [laws_heldStringS.l0, hr]
    rw [if_pos (by simp [markTL]; omega), if_pos (by omega)]
    simp only [w64 (x := n + 1) (by omega) (by omega), w64 (x := (pre.length : Int) + 1) (by omega) (by omega)]
    rfl
theorem heldStringS_ev (s : List ByteArray) (n : Int) (h0 : 0 ≤ n) (h1 : n + (s.length : Int) ≤ 1152921504606846976) : Ev (fun k => laws_heldStringS.f k (markTL n s) n) (n + (s.length : Int)) :=
  heldStringS_l0 1152921504606846976 (Int.le_refl _) s [] n h0 h1 (by simp; omega)
end Go.Proofs.Ytdjhclgkkklajaa.Q

namespace Go.Proofs.Ytdjhclgkkklajaa.Q
open Go.RowKit Go.Proofs.Ytdjhclgkkklajaa.P Go.Proofs.YtdjhclgkkklajaaW.PrintWords Go.Proofs.YtdjhclgkkklajaaW.PrintMore

def vals : List Sib → List ByteArray
  | [] => []
  | x :: r => if x.f1 = true then vals r else x.f2 :: vals r
theorem vals_length : ∀ s : List Sib, (vals s).length ≤ s.length
  | [] => by simp [vals]
  | x :: r => by
    have := vals_length r
    simp only [vals]
    split <;> simp <;> omega
def values (v : List Mark) (l : List Sib) : List ByteArray := if setOk v l = true then vals l else []
theorem values_length (v : List Mark) (l : List Sib) : (values v l).length ≤ l.length := by
  have := vals_length l
  unfold values
  split
  · exact this
  · simp
theorem spec_Values_l0 (v : List Mark) (l : List Sib) (hl : l.length ≤ 1048576) : ∀ (s : List Sib) (i : Nat), l.drop i = s → i ≤ l.length → ∀ acc : List ByteArray, acc.length ≤ i → Ev (fun k => spec_Values.l0 k acc (i : Int) v l) (acc ++ vals s)
  | [], i, h, hi, acc, ha => by
    have := dropNil' h hi
    refine Ev.step (f := fun _ => some acc) (fun k => ?_) (by simp only [vals, List.append_nil]; exact Ev.now _)
    simp only [spec_Values.l0]
    rw [if_neg (by omega)]
  | x :: s, i, h, hi, acc, ha => by
    obtain ⟨h1, h2, h3⟩ := dropCons h z139
    have hr : rd_T139 l (i : Int) = x := by simpa [rd_T139] using h2
    refine Ev.step (f := fun k => if x.f1 = true then spec_Values.l0 k acc ((i + 1 : Nat) : Int) v l else spec_Values.l0 k (acc ++ [x.f2]) ((i + 1 : Nat) : Int) v l) (fun k => ?_) ?_
    · simp only [spec_Values.l0, hr]
      rw [if_pos (by omega), if_pos (by omega), if_pos (show acc.length < 8796093022208 by omega), w64 (by omega) (by omega)]
      rfl
    · simp only [vals]
      refine evIte (fun h => ?_) (fun h => ?_)
      · rw [if_pos h]; exact spec_Values_l0 v l hl s (i + 1) h3 (by omega) acc (by omega)
      · rw [if_neg h]
        have := spec_Values_l0 v l hl s (i + 1) h3 (by omega) (acc ++ [x.f2]) (by simp; omega)
        simpa using this
theorem spec_Values_ev (v : List Mark) (l : List Sib) (hv : v.length ≤ 4611686018427387904) (hl : l.length ≤ 1048576) : Ev (fun k => spec_Values.f k v l) (values v l) := by
  unfold spec_Values.f values
  refine evBind1 rfl (Ev.bind (spec_SetRight_ev v l hv hl) (evIte (fun h => ?_) (fun h => ?_)))
  · rw [if_pos h]; simpa using spec_Values_l0 v l hl l 0 rfl (by omega) [] (by simp)
  · rw [if_neg h]; exact Ev.now _
theorem impl_Values_l0 (l : List Sib) (hl : l.length ≤ 1048576) : ∀ (s : List Sib) (i : Nat), l.drop i = s → i ≤ l.length → ∀ acc : List ByteArray, acc.length ≤ i → Ev (fun k => impl_Values.l0 k acc l (l.length : Int) (i : Int)) (acc ++ vals s)
  | [], i, h, hi, acc, ha => by
    have := dropNil' h hi
    refine Ev.step (f := fun _ => some acc) (fun k => ?_) (by simp only [vals, List.append_nil]; exact Ev.now _)
    simp only [impl_Values.l0]
    rw [if_neg (by omega)]
  | x :: s, i, h, hi, acc, ha => by
    obtain ⟨h1, h2, h3⟩ := dropCons h z139
    have hr : rd_T139 l (i : Int) = x := by simpa [rd_T139] using h2
    refine Ev.step (f := fun k => if x.f1 = true then impl_Values.l0 k acc l (l.length : Int) ((i + 1 : Nat) : Int) else impl_Values.l0 k (acc ++ [x.f2]) l (l.length : Int) ((i + 1 : Nat) : Int)) (fun k => ?_) ?_
    · simp only [impl_Values.l0, hr]
      rw [if_pos (by omega), if_pos (by omega), if_pos (by omega), if_pos (show acc.length < 8796093022208 by omega), w64 (by omega) (by omega)]
      rfl
    · simp only [vals]
      refine evIte (fun h => ?_) (fun h => ?_)
      · rw [if_pos h]; exact impl_Values_l0 l hl s (i + 1) h3 (by omega) acc (by omega)
      · rw [if_neg h]
        have := impl_Values_l0 l hl s (i + 1) h3 (by omega) (acc ++ [x.f2]) (by simp; omega)
        simpa using this
theorem impl_Values_ev (v : List Mark) (l : List Sib) (hv : v.length ≤ 4611686018427387904) (hl : l.length ≤ 1048576) : Ev (fun k => impl_Values.f k v l) (values v l) := by
  unfold impl_Values.f values
  refine Ev.bind (impl_SetRight_ev v l hv hl) (evIte (fun h => ?_) (fun h => ?_))
  · rw [if_pos h]; simpa using impl_Values_l0 l hl l 0 rfl (by omega) [] (by simp)
  · rw [if_neg h]; exact Ev.now _
end Go.Proofs.Ytdjhclgkkklajaa.Q

namespace Go.Proofs.Ytdjhclgkkklajaa.Pure
open Go.RowKit Go.Proofs.Ytdjhclgkkklajaa.P Go.Proofs.Ytdjhclgkkklajaa.Q Go.Proofs.YtdjhclgkkklajaaW.PrintWords Go.Proofs.YtdjhclgkkklajaaW.PrintMore
theorem FnExactValues : laws_FnExactValues.Pure := by
  intro x hx
  obtain ⟨r, e, hr1, hr2⟩ := szSet_small hx
  refine Ev.rounds ?_
  unfold laws_FnExactValues.f
  refine Ev.bind e (evIte (fun _ => Ev.now _) (fun h => ?_))
  obtain ⟨g1, g2, _⟩ := hr2 h
  have hm : (x.f0.map toMark).length ≤ 1048576 := by simpa using g1
  have hs : (x.f1.map toSib).length ≤ 1048576 := by simpa using g2
  have e1 := spec_Values_ev (x.f0.map toMark) (x.f1.map toSib) (by omega) hs
  have e2 := impl_Values_ev (x.f0.map toMark) (x.f1.map toSib) (by omega) hs
  have hv := values_length (x.f0.map toMark) (x.f1.map toSib)
  generalize values (x.f0.map toMark) (x.f1.map toSib) = y at e1 e2 hv
  refine Ev.bind (toSet_ev _ _ g1 g2) (Ev.bind e1 (Ev.bind (toSet_ev _ _ g1 g2) (Ev.bind e2 (Ev.bind (eqStringS_ev y (by omega)) (evPos rfl ?_)))))
  refine Ev.bind (toSet_ev _ _ g1 g2) (Ev.bind (eqSet_ev (x.f0.map toMark) (x.f1.map toSib) (by omega) (by omega)) (evPos rfl ?_))
  refine Ev.bind (markSet_ev (x.f0.map toMark) (x.f1.map toSib) 1 (by omega) (by omega)) (evNeg (by dsimp only; omega) (Ev.bind (eqStringS_ev y (by omega)) ?_))
  refine Ev.step (fun k => by simp only [laws_FnExactValues.j0]; rw [if_neg (by simp)]) ?_
  refine Ev.bind (markStringS_ev y 1 (by omega) (by omega)) (Ev.bind (heldStringS_ev y 1 (by omega) (by omega)) (evNeg (by omega) (evPos rfl ?_)))
  refine Ev.bind (toSet_ev _ _ g1 g2) (Ev.bind e2 (Ev.bind (eqStringS_ev y (by omega)) (evPos rfl ?_)))
  exact Ev.bind (heldStringS_ev y 1 (by omega) (by omega)) (evNeg (by omega) (evPos rfl (Ev.now _)))
end Go.Proofs.Ytdjhclgkkklajaa.Pure

namespace Go.Proofs.Ytdjhclgkkklajaa.fnExactValues
open Go.ChangeShapes Go.WideShapes Go.ChangeAt Go.RowKit Go.Proofs.Ytdjhclgkkklajaa.P Go.Proofs.Ytdjhclgkkklajaa.RO Go.Proofs.Ytdjhclgkkklajaa.Open Go.Proofs.YtdjhclgkkklajaaW.PrintWords
open Go.ChangeMaps (open_string shut_string)
set_option linter.unusedVariables false
theorem own : ownKnob Try.prog.godebug = none := by kernel_rfl
theorem laidOut : laidOutB Try.prog = true := by kernel_rfl
set_option maxRecDepth 100000 in
theorem lifted (os : Os) (started : os.Started) (H : Type) (enc : TypeId × Value → H) :
    ReturnsInHanded {} Try.checked os 11 .any (Rows.fnExactValuesSpec.pre6 enc Try.prog Try.f11 Rows.fnExactValuesRow.domain false) (Rows.fnExactValuesSpec.post enc Try.prog Try.f11 false true false false) := by
  refine returnsInHanded_of_change_sized (C := Try.checked) own started (by kernel_rfl) Try.func11
    (ChangeSpec.witness6 (enc := enc) (C := Try.checked) false ⟨#[], #[.agg #[.slice none 0 0, .slice none 0 0]], []⟩ 8 (by kernel_rfl) (by kernel_rfl) (by kernel_rfl) (by kernel_rfl)) ?_
  intro W base args ds gs before hval0 hW hcnd hsz0 _
  have hsz : (DataW.weightsEach Try.prog (Try.f11.params.toList ++ Rows.fnExactValuesSpec.plain.varTypes Try.prog) (ds ++ gs)).all (· ≤ reachBytes) = true := hsz0
  have hval : ∀ (j : Nat) t v, Try.f11.params[j]? = some t → args[j]? = some v → Value.okWide Try.prog W .any base t v := hval0
  have hW' := hW
  obtain ⟨p, q, hA0, hV, rfl, hfz, hnd⟩ := hW
  have hA : DataW.TrodAll enc Try.prog W 0 (fun _ => true) true Try.f11.params.toList args.toList ds p := hA0
  rw [Try.params11] at hA hval hsz
  obtain ⟨v0, vs0, d0, ds0, p0, q0, hargs, rfl, rfl, h0, r0⟩ := trodAll_cons hA
  obtain ⟨rfl, rfl, rfl⟩ := trodAll_nil r0
  obtain rfl : args = #[v0] := by cases args; simp_all
  obtain ⟨rfl, rfl⟩ := trodVars_none hV
  have k0 := h0
  have lt0 : ∀ x ∈ p0, x.block < W.heap.size := by obtain ⟨m, hm⟩ := k0; exact DataW.trod_lt m _ _ _ hm
  obtain ⟨cs0, rfl, _⟩ := okWide_struct Try.underlying70 (hval 0 70 v0 rfl rfl)
  obtain ⟨fuel0, hf0⟩ := h0
  obtain ⟨x0, hk0, w0⟩ := op_T70 hf0
  obtain ⟨A0_0, c0_0, A0_1, c0_1, hcs0, hl0_0, hr0_0, hl0_1, hr0_1⟩ := k70_open hk0
  obtain rfl : cs0 = #[.slice A0_0 x0.f0.length c0_0, .slice A0_1 x0.f1.length c0_1] := Array.toList_inj.1 hcs0
  clear hA0 hval0 hsz0 hsz
  obtain ⟨k, hp⟩ := Pure.FnExactValues x0 w0
  refine (P.laws_FnExactValues.calls k _ _ x0.f0 _ _ x0.f1 true W hr0_0 hl0_0 hr0_1 hl0_1 hp).mono fun e W' ⟨he, bel0⟩ => ?_
  have bel : Below W.heap.size W W' := bel0
  subst he
  exact ⟨_, rfl, _, _, _, [], _, [], hW', trodAll_mk1 (shut_bool Try.underlying4 _), (trodAll_cons_mk (Below.trod laidOut (by kernel_rfl) (of_decide_eq_true (by kernel_rfl)) k0 bel lt0) trodAll_mk0), rfl, bel.frame _, fun h => by cases h⟩
theorem over : Rows.fnExactValuesRow.holds Try.pinned (OpenSpec.ofChange Rows.fnExactValuesSpec) :=
  OpenClaim.holds_of_wide 11 Try.f11 rfl rfl rfl rfl rfl rfl rfl ⟨rfl, rfl, rfl, rfl, rfl⟩ rfl rfl rfl rfl rfl (by kernel_rfl) Try.func11 (by kernel_rfl)
    (of_decide_eq_true (by kernel_rfl)) (by unfold Func.isWrapper; first | (rw [if_pos (by decide +kernel)]; kernel_rfl) | (rw [if_neg (by decide +kernel)]; exact ⟨rfl, rfl⟩))
    (fun os started H enc _ => lifted os started H enc)
theorem proved : Rows.FnExactValuesSaid := over
#print axioms proved
end Go.Proofs.Ytdjhclgkkklajaa.fnExactValues
namespace Go.Proofs.Ytdjhclgkkklajaa
/-- The row, under a short name, for the claim. -/
theorem fnExactValues_holds : Rows.FnExactValuesSaid := fnExactValues.proved
end Go.Proofs.Ytdjhclgkkklajaa
