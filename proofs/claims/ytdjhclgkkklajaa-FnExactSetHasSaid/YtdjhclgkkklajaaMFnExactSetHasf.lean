/- For every set and every dot the program's SetHas and the reference's return the same answer, and the set stays as it was. No condition. (Part 6 of 6: written by programs of this workplace and by hand, merged.) -/
import Derived.Test.YtdjhclgkkklajaaMFnExactSetHase
import Derived.Test.YtdjhclgkkklajaaMFnExactSetHasa
import Derived.Test.YtdjhclgkkklajaaMFnExactSetHasd
import Derived.Test.YtdjhclgkkklajaaMFnExactSetHasb
import Derived.Test.YtdjhclgkkklajaaMFnExactSetHasc
import Derived.Test.YtdjhclgkkklajaaRows
import Derived.WalkKit
import Derived.ProofKit
import Derived.OpenShut
import Derived.ShutString
import Derived.ChangeOld
import Derived.Below
import Derived.SizedLaws
set_option linter.unusedVariables false
set_option linter.unusedSimpArgs false

namespace Go.Proofs.Ytdjhclgkkklajaa.Q
open Go.RowKit Go.Proofs.Ytdjhclgkkklajaa.P Go.Proofs.YtdjhclgkkklajaaW.PrintWords Go.Proofs.YtdjhclgkkklajaaW.PrintMore

abbrev Mark := S43
def isWithin (n low high : Int) : Bool := decide (low ≤ n) && decide (n ≤ high)
def isNode (n : Int) : Bool := isWithin n 1 5
def isDot (a b : Int) : Bool := isNode a && isWithin b 1 1000000
theorem l02Is_is (n a b : Int) : spec_l02Is.f n a b = some (isWithin n a b) := by
  unfold spec_l02Is.f isWithin
  split
  · rename_i h; simp [show a ≤ n from h]
  · rename_i h; simp [show ¬ a ≤ n from h]
theorem l02Node_is (n : Int) : spec_l02Node.f n = some (isNode n) := by simp [spec_l02Node.f, l02Is_is, isNode]
theorem l02Dot_is (a b : Int) : spec_l02Dot.f a b = some (isDot a b) := by
  simp only [spec_l02Dot.f, l02Node_is, l02Is_is, isDot, Option.bind_some]
  cases isNode a <;> simp
theorem within_is (n a b : Int) : impl_within.f n a b = some (isWithin n a b) := by
  unfold impl_within.f isWithin
  split
  · rename_i h; simp [show a ≤ n from h]
  · rename_i h; simp [show ¬ a ≤ n from h]
theorem isNode_is (n : Int) : impl_isNode.f n = some (isNode n) := by simp [impl_isNode.f, within_is, isNode]
theorem isDot_is (a b : Int) : impl_isDot.f a b = some (isDot a b) := by
  simp only [impl_isDot.f, isNode_is, within_is, isDot, Option.bind_some]
  cases isNode a <;> simp
/-- Dots whose nodes rise from above p. -/
def okFrom : Int → List Mark → Bool
  | _, [] => true
  | p, m :: r => isDot m.f0 m.f1 && (decide (p < m.f0) && okFrom m.f0 r)
def seenOk (v : List Mark) : Bool := okFrom 0 v
theorem isDot_iff (a b : Int) : isDot a b = true ↔ (1 ≤ a ∧ a ≤ 5) ∧ 1 ≤ b ∧ b ≤ 1000000 := by simp [isDot, isNode, isWithin]
/-- The node ahead of place i. -/
def prevAt (l : List Mark) (i : Nat) : Int := if i = 0 then 0 else (l.getD (i - 1) z43).f0
theorem prevAt_succ {l : List Mark} {i : Nat} {m : Mark} (h : l.getD i z43 = m) : prevAt l (i + 1) = m.f0 := by
  simp only [prevAt, Nat.add_sub_cancel, h]
  simp
theorem impl_seenRight_l0 (l : List Mark) (hl : l.length ≤ 4611686018427387904) : ∀ (s : List Mark) (i : Nat), l.drop i = s → i ≤ l.length → 0 ≤ prevAt l i →
    Ev (fun k => impl_seenRight.l0 k l l (l.length : Int) (i : Int)) (okFrom (prevAt l i) s)
  | [], i, h, hi, hp => by
    have := dropNil' h hi
    refine Ev.step (f := fun _ => some true) (fun k => ?_) (Ev.now _)
    simp only [impl_seenRight.l0]
    rw [if_neg (by omega)]
  | m :: s, i, h, hi, hp => by
    obtain ⟨h1, h2, h3⟩ := dropCons h z43
    have hr : rd_T43 l (i : Int) = m := by simpa [rd_T43] using h2
    have ih := fun hq => impl_seenRight_l0 l hl s (i + 1) h3 (by omega) hq
    rw [prevAt_succ h2] at ih
    by_cases hd : isDot m.f0 m.f1 = true
    · have hd' := (isDot_iff _ _).1 hd
      by_cases hlt : prevAt l i < m.f0
      · have ih := ih (by omega)
        refine Ev.step (fun k => ?_) (show Ev _ (okFrom (prevAt l i) (m :: s)) from by simp only [okFrom, hd, hlt, decide_true, Bool.true_and]; exact ih)
        simp only [impl_seenRight.l0, hr, isDot_is, Option.bind_some]
        rw [if_pos (by omega), if_pos (by omega), if_pos (by omega), if_pos hd, w64 (x := (i : Int) + 1) (by omega) (by omega)]
        by_cases hi0 : i = 0
        · subst hi0
          rw [if_neg (by omega)]; rfl
        · have hq : rd_T43 l ((i : Int) - 1) = l.getD (i - 1) z43 := by
            simp only [rd_T43]; congr 1; omega
          rw [w64 (x := (i : Int) - 1) (by omega) (by omega), if_pos (by omega), if_pos (by omega), if_pos (by omega), hq, if_neg (by simp only [prevAt, if_neg hi0] at hlt; omega)]
          rfl
      · refine Ev.step (f := fun _ => some false) (fun k => ?_) (show Ev _ (okFrom (prevAt l i) (m :: s)) from by simp only [okFrom, hd, hlt, decide_false, Bool.false_and, Bool.and_false]; exact Ev.now _)
        have hi0 : i ≠ 0 := by
          intro e; subst e
          simp [prevAt] at hlt; omega
        have hq : rd_T43 l ((i : Int) - 1) = l.getD (i - 1) z43 := by
          simp only [rd_T43]; congr 1; omega
        simp only [impl_seenRight.l0, hr, isDot_is, Option.bind_some]
        rw [if_pos (by omega), if_pos (by omega), if_pos (by omega), if_pos hd, w64 (x := (i : Int) - 1) (by omega) (by omega), if_pos (by omega), if_pos (by omega), if_pos (by omega), hq,
          if_pos (by simp only [prevAt, if_neg hi0] at hlt; omega)]
    · refine Ev.step (f := fun _ => some false) (fun k => ?_) (show Ev _ (okFrom (prevAt l i) (m :: s)) from by simp only [okFrom, Bool.eq_false_iff.mpr hd, Bool.false_and]; exact Ev.now _)
      simp only [impl_seenRight.l0, hr, isDot_is, Option.bind_some]
      rw [if_pos (by omega), if_pos (by omega), if_pos (by omega), if_neg hd]
theorem impl_seenRight_ev (l : List Mark) (hl : l.length ≤ 4611686018427387904) : Ev (fun k => impl_seenRight.f k l) (seenOk l) :=
  impl_seenRight_l0 l hl l 0 rfl (by omega) (by simp [prevAt])
theorem spec_SeenRight_l0 (l : List Mark) (hl : l.length ≤ 4611686018427387904) : ∀ (s : List Mark) (i : Nat), l.drop i = s → i ≤ l.length → (i : Int) ≤ prevAt l i → prevAt l i ≤ 5 →
    Ev (fun k => spec_SeenRight.l0 k l (i : Int)) (okFrom (prevAt l i) s)
  | [], i, h, hi, hp, hp5 => by
    have := dropNil' h hi
    refine Ev.step (f := fun k => spec_SeenRight.j1 k l (i : Int) false) (fun k => ?_) (Ev.step (f := fun _ => some true) (fun k => ?_) (Ev.now _))
    · simp only [spec_SeenRight.l0]
      rw [if_neg (by omega)]
    · simp only [spec_SeenRight.j1]
      rw [if_neg (by simp)]
      congr 1
      simp; omega
  | m :: s, i, h, hi, hp, hp5 => by
    obtain ⟨h1, h2, h3⟩ := dropCons h z43
    have hr : rd_T43 l (i : Int) = m := by simpa [rd_T43] using h2
    have ih := fun hq => spec_SeenRight_l0 l hl s (i + 1) h3 (by omega) hq
    rw [prevAt_succ h2] at ih
    have hj : decide ((i : Int) ≤ 5) = true := by simp; omega
    have hl0 : ∀ k, spec_SeenRight.l0 (k + 1) l (i : Int) = spec_SeenRight.j1 k l (i : Int) true := fun k => by
      simp only [spec_SeenRight.l0]
      rw [if_pos (by omega), hj]
    by_cases hd : isDot m.f0 m.f1 = true
    · have hd' := (isDot_iff _ _).1 hd
      by_cases hlt : prevAt l i < m.f0
      · have ih := ih (by omega) (by omega)
        refine Ev.step hl0 (Ev.step (fun k => ?_) (show Ev _ (okFrom (prevAt l i) (m :: s)) from by simp only [okFrom, hd, hlt, decide_true, Bool.true_and]; exact ih))
        simp only [spec_SeenRight.j1, hr, l02Dot_is, Option.bind_some]
        rw [if_pos trivial, if_pos (by omega), if_pos (by omega), if_pos hd, w64 (x := (i : Int) + 1) (by omega) (by omega)]
        by_cases hi0 : i = 0
        · subst hi0
          rw [if_neg (by omega)]; rfl
        · have hq : rd_T43 l ((i : Int) - 1) = l.getD (i - 1) z43 := by
            simp only [rd_T43]; congr 1; omega
          rw [w64 (x := (i : Int) - 1) (by omega) (by omega), if_pos (by omega), if_pos (by omega), if_pos (by omega), hq, if_neg (by simp only [prevAt, if_neg hi0] at hlt; omega)]
          rfl
      · refine Ev.step hl0 (Ev.step (f := fun _ => some false) (fun k => ?_) (show Ev _ (okFrom (prevAt l i) (m :: s)) from by simp only [okFrom, hd, hlt, decide_false, Bool.false_and, Bool.and_false]; exact Ev.now _))
        have hi0 : i ≠ 0 := by
          intro e; subst e
          simp [prevAt] at hlt; omega
        have hq : rd_T43 l ((i : Int) - 1) = l.getD (i - 1) z43 := by
          simp only [rd_T43]; congr 1; omega
        simp only [spec_SeenRight.j1, hr, l02Dot_is, Option.bind_some]
        rw [if_pos trivial, if_pos (by omega), if_pos (by omega), if_pos hd, w64 (x := (i : Int) - 1) (by omega) (by omega), if_pos (by omega), if_pos (by omega), if_pos (by omega), hq,
          if_pos (by simp only [prevAt, if_neg hi0] at hlt; omega)]
    · refine Ev.step hl0 (Ev.step (f := fun _ => some false) (fun k => ?_) (show Ev _ (okFrom (prevAt l i) (m :: s)) from by simp only [okFrom, Bool.eq_false_iff.mpr hd, Bool.false_and]; exact Ev.now _))
      simp only [spec_SeenRight.j1, hr, l02Dot_is, Option.bind_some]
      rw [if_pos trivial, if_pos (by omega), if_pos (by omega), if_neg hd]
theorem spec_SeenRight_ev (l : List Mark) (hl : l.length ≤ 4611686018427387904) : Ev (fun k => spec_SeenRight.f k l) (seenOk l) :=
  spec_SeenRight_l0 l hl l 0 rfl (by omega) (by simp [prevAt]) (by simp [prevAt])
end Go.Proofs.Ytdjhclgkkklajaa.Q

namespace Go.Proofs.Ytdjhclgkkklajaa.Q
open Go.RowKit Go.Proofs.Ytdjhclgkkklajaa.P Go.Proofs.YtdjhclgkkklajaaW.PrintWords Go.Proofs.YtdjhclgkkklajaaW.PrintMore

abbrev LMark := S36
def toMark (m : LMark) : Mark := ⟨m.f0, m.f1⟩
theorem szMarkS_is (l : List LMark) (n : Int) (h0 : 0 ≤ n) (h1 : n ≤ 1048576) (hl : l.length ≤ 9223372036854775807) :
    laws_szMarkS.f l n = some (if n < (l.length : Int) then -1 else n - (l.length : Int)) := by
  unfold laws_szMarkS.f
  rw [w64 (by omega) (by omega)]
  split
  · rw [if_pos (by omega)]
  · rw [if_neg (by omega)]
theorem toMarkS_l0 (l : List LMark) (hl : l.length ≤ 1048576) : ∀ (s : List LMark) (i : Nat), l.drop i = s → i ≤ l.length → ∀ (acc : List Mark), acc.length = l.length → acc.take i = (l.take i).map toMark →
    Ev (fun k => laws_toMarkS.l0 k l acc (i : Int)) (l.map toMark)
  | [], i, h, hi, acc, ha, hc => by
    have := dropNil' h hi
    refine Ev.step (f := fun _ => some (l.map toMark)) (fun k => ?_) (Ev.now _)
    simp only [laws_toMarkS.l0]
    rw [if_neg (by omega)]
    rw [← this, List.take_of_length_le (by omega), List.take_length] at hc
    rw [hc]
  | m :: s, i, h, hi, acc, ha, hc => by
    obtain ⟨h1, h2, h3⟩ := dropCons h z36
    have hr : rd_T36 l (i : Int) = m := by simpa [rd_T36] using h2
    have hm : l[i]'h1 = m := by
      rw [List.getD_eq_getElem?_getD, List.getElem?_eq_getElem h1] at h2; exact h2
    refine Ev.step (fun k => ?_) (toMarkS_l0 l hl s (i + 1) h3 (by omega) (acc.set i (toMark m)) (by simpa using ha) (by
      rw [List.take_succ_eq_append_getElem (by simp; omega), List.take_succ_eq_append_getElem h1, List.map_append, List.take_set_of_le (by omega), hc]
      simp [hm]))
    simp only [laws_toMarkS.l0, laws_toMark.f, hr, Option.bind_some, Int.toNat_natCast]
    rw [if_pos (by omega), if_pos (by omega), if_pos (by omega), w64 (by omega) (by omega)]
    rfl
theorem toMarkS_ev (l : List LMark) (hl : l.length ≤ 1048576) : Ev (fun k => laws_toMarkS.f k l) (l.map toMark) := by
  unfold laws_toMarkS.f
  refine evPos (by omega) (evPos (by omega) ?_)
  exact toMarkS_l0 l hl l 0 rfl (by omega) _ (by simp) (by simp)
theorem eqMark_refl (a b : Int) : laws_eqMark.f a b a b = some true := by simp [laws_eqMark.f]
theorem eqMarkS_l0 (l : List Mark) (hl : l.length ≤ 4611686018427387904) : ∀ (s : List Mark) (i : Nat), l.drop i = s → i ≤ l.length →
    Ev (fun k => laws_eqMarkS.l0 k l l (i : Int)) true
  | [], i, h, hi => by
    have := dropNil' h hi
    refine Ev.step (f := fun _ => some true) (fun k => ?_) (Ev.now _)
    simp only [laws_eqMarkS.l0]
    rw [if_neg (by omega)]
  | m :: s, i, h, hi => by
    obtain ⟨h1, h2, h3⟩ := dropCons h z43
    refine Ev.step (fun k => ?_) (eqMarkS_l0 l hl s (i + 1) h3 (by omega))
    simp only [laws_eqMarkS.l0, eqMark_refl, Option.bind_some]
    rw [if_pos (by omega), if_pos (by omega), if_pos (by omega), if_pos trivial, w64 (by omega) (by omega)]
    rfl
theorem eqMarkS_ev (l : List Mark) (hl : l.length ≤ 4611686018427387904) : Ev (fun k => laws_eqMarkS.f k l l) true := by
  unfold laws_eqMarkS.f
  exact evPos rfl (eqMarkS_l0 l hl l 0 rfl (by omega))
end Go.Proofs.Ytdjhclgkkklajaa.Q

namespace Go.Proofs.Ytdjhclgkkklajaa.P
open Go.RowKit Go.Proofs.YtdjhclgkkklajaaW.PrintWords Go.Proofs.YtdjhclgkkklajaaW.PrintLast Go.Proofs.YtdjhclgkkklajaaW.PrintMore
attribute [local go_sem] max2_int min2_int max_two min_two max_three min_three max_four min_four   -- for this text's walks alone
set_option linter.unusedVariables false
set_option linter.unusedSimpArgs false

/-! ### spec_l01Fold: function 75 -/
def spec_l01Fold.f (a0 : Int) : Option (Int) := if a0 < 0 then (some (IntKind.u64.wrap ((IntKind.u64.wrap (2 * (IntKind.u64.wrap (wrap64 (-(wrap64 (a0 + 1))))))) + 1))) else (some (IntKind.u64.wrap (2 * (IntKind.u64.wrap (a0)))))
end Go.Proofs.Ytdjhclgkkklajaa.P

namespace Go.Proofs.Ytdjhclgkkklajaa.P
open Go.RowKit Go.Proofs.YtdjhclgkkklajaaW.PrintWords Go.Proofs.YtdjhclgkkklajaaW.PrintLast Go.Proofs.YtdjhclgkkklajaaW.PrintMore
attribute [local go_sem] max2_int min2_int max_two min_two max_three min_three max_four min_four   -- for this text's walks alone
set_option linter.unusedVariables false
set_option linter.unusedSimpArgs false

/-! ### spec_PutNum: function 17 -/
def spec_PutNum.l0 : Nat → Int → List Int → Option (ByteArray)
 | 0, _, _ => none
 | k + 1, x3, x4 => if x3 ≥ 128 then (if x4.length < 140737488355328 then (spec_PutNum.l0 k (IntKind.u64.wrap (Int.tdiv x3 128)) (x4 ++ [(IntKind.u64.wrap ((Int.tmod x3 128) + 128)) % 256])) else (none)) else (if x4.length < 140737488355328 then (some (strOfNums (x4 ++ [(x3) % 256]))) else (none))
def spec_PutNum.f (k : Nat) (a0 : Int) : Option (ByteArray) := (spec_l01Fold.f a0).bind fun t118 => (spec_PutNum.l0 k t118 (([] : List Int)))
theorem spec_PutNum.mono_l : ∀ k, (∀ y0 y1, LeO (spec_PutNum.l0 k y0 y1) (spec_PutNum.l0 (k + 1) y0 y1))
 | 0 => fun _ _ r h => by simp [spec_PutNum.l0] at h
 | k + 1 => by
  have ih0 := spec_PutNum.mono_l k
  ·intro y0 y1
   unfold spec_PutNum.l0
   repeat' first
   | (with_reducible exact ih0 _ _)
   | (with_reducible exact LeO.refl _)
   | (with_reducible exact LeO.none _)
   | (with_reducible refine LeO.ite ?_ ?_)
   | (with_reducible refine LeO.bind ?_ (fun _ => ?_))
   | exact ih0 _ _
   | exact LeO.none _
   | refine LeO.ite ?_ ?_
   | refine LeO.bind ?_ (fun _ => ?_)
theorem spec_PutNum.mono : ∀ a0 k, LeO (spec_PutNum.f k a0) (spec_PutNum.f (k + 1) a0) := by
 intro a0 k
 have ih0 := spec_PutNum.mono_l k
 unfold spec_PutNum.f
 repeat' first
   | (with_reducible exact ih0 _ _)
   | (with_reducible exact LeO.refl _)
   | (with_reducible exact LeO.none _)
   | (with_reducible refine LeO.ite ?_ ?_)
   | (with_reducible refine LeO.bind ?_ (fun _ => ?_))
   | exact ih0 _ _
   | exact LeO.none _
   | refine LeO.ite ?_ ?_
   | refine LeO.bind ?_ (fun _ => ?_)
end Go.Proofs.Ytdjhclgkkklajaa.P

namespace Go.Proofs.Ytdjhclgkkklajaa.P
open Go.RowKit Go.Proofs.YtdjhclgkkklajaaW.PrintWords Go.Proofs.YtdjhclgkkklajaaW.PrintLast Go.Proofs.YtdjhclgkkklajaaW.PrintMore
attribute [local go_sem] max2_int min2_int max_two min_two max_three min_three max_four min_four   -- for this text's walks alone
set_option linter.unusedVariables false
set_option linter.unusedSimpArgs false

/-! ### impl_PutNum: function 16 -/
def impl_PutNum.l0 : Nat → Int → List Int → Option (ByteArray)
 | 0, _, _ => none
 | k + 1, x3, x4 => if x3 ≥ 128 then (if x4.length < 140737488355328 then (impl_PutNum.l0 k (x3 / 128) (x4 ++ [Go.bits .or .u8 ((Go.bits .and .u64 x3 127) % 256) 128])) else (none)) else (if x4.length < 140737488355328 then (some (strOfNums (x4 ++ [(x3) % 256]))) else (none))
def impl_PutNum.f (k : Nat) (a0 : Int) : Option (ByteArray) := impl_PutNum.l0 k (Go.bits .xor .u64 (IntKind.u64.wrap ((IntKind.u64.wrap (a0)) * 2)) (IntKind.u64.wrap (a0 / 9223372036854775808))) ([] : List Int)
theorem impl_PutNum.mono_l : ∀ k, (∀ y0 y1, LeO (impl_PutNum.l0 k y0 y1) (impl_PutNum.l0 (k + 1) y0 y1))
 | 0 => fun _ _ r h => by simp [impl_PutNum.l0] at h
 | k + 1 => by
  have ih0 := impl_PutNum.mono_l k
  ·intro y0 y1
   unfold impl_PutNum.l0
   repeat' first
   | (with_reducible exact ih0 _ _)
   | (with_reducible exact LeO.refl _)
   | (with_reducible exact LeO.none _)
   | (with_reducible refine LeO.ite ?_ ?_)
   | (with_reducible refine LeO.bind ?_ (fun _ => ?_))
   | exact ih0 _ _
   | exact LeO.none _
   | refine LeO.ite ?_ ?_
   | refine LeO.bind ?_ (fun _ => ?_)
theorem impl_PutNum.mono : ∀ a0 k, LeO (impl_PutNum.f k a0) (impl_PutNum.f (k + 1) a0) := by
 intro a0 k
 have ih0 := impl_PutNum.mono_l k
 unfold impl_PutNum.f
 repeat' first
   | (with_reducible exact ih0 _ _)
   | (with_reducible exact LeO.refl _)
   | (with_reducible exact LeO.none _)
   | (with_reducible refine LeO.ite ?_ ?_)
   | (with_reducible refine LeO.bind ?_ (fun _ => ?_))
   | exact ih0 _ _
   | exact LeO.none _
   | refine LeO.ite ?_ ?_
   | refine LeO.bind ?_ (fun _ => ?_)
end Go.Proofs.Ytdjhclgkkklajaa.P

namespace Go.Proofs.Ytdjhclgkkklajaa.P
open Go.RowKit Go.Proofs.YtdjhclgkkklajaaW.PrintWords Go.Proofs.YtdjhclgkkklajaaW.PrintLast Go.Proofs.YtdjhclgkkklajaaW.PrintMore
attribute [local go_sem] max2_int min2_int max_two min_two max_three min_three max_four min_four   -- for this text's walks alone
set_option linter.unusedVariables false
set_option linter.unusedSimpArgs false

/-! ### impl_isLong_1: function 137 -/
def impl_isLong_1.f (a0 : ByteArray) : Option (Bool) := some (decide ((a0.size : Int) > 8000))
end Go.Proofs.Ytdjhclgkkklajaa.P

namespace Go.Proofs.Ytdjhclgkkklajaa.P
open Go.RowKit Go.Proofs.YtdjhclgkkklajaaW.PrintWords Go.Proofs.YtdjhclgkkklajaaW.PrintLast Go.Proofs.YtdjhclgkkklajaaW.PrintMore
attribute [local go_sem] max2_int min2_int max_two min_two max_three min_three max_four min_four   -- for this text's walks alone
set_option linter.unusedVariables false
set_option linter.unusedSimpArgs false

/-! ### slices_IndexFunc_string_string_impl_isLong_1: function 163 -/
def slices_IndexFunc_string_string_impl_isLong_1.l0 : Nat → List ByteArray → Int → Int → Option (Int)
 | 0, _, _, _ => none
 | k + 1, x0, x7, x8 => if x8 < x7 then (if 0 ≤ x8 then (if x8 < (x0.length : Int) then ((impl_isLong_1.f (rdOf ByteArray.empty x0 x8)).bind fun t129 => (if t129 = true then (some x8) else (slices_IndexFunc_string_string_impl_isLong_1.l0 k x0 x7 (wrap64 (x8 + 1))))) else (none)) else (none)) else (some (-1))
def slices_IndexFunc_string_string_impl_isLong_1.f (k : Nat) (l0 : List ByteArray)  : Option (Int) := slices_IndexFunc_string_string_impl_isLong_1.l0 k l0 (l0.length : Int) 0
theorem slices_IndexFunc_string_string_impl_isLong_1.mono_l : ∀ k, (∀ y0 y1 y2, LeO (slices_IndexFunc_string_string_impl_isLong_1.l0 k y0 y1 y2) (slices_IndexFunc_string_string_impl_isLong_1.l0 (k + 1) y0 y1 y2))
 | 0 => fun _ _ _ r h => by simp [slices_IndexFunc_string_string_impl_isLong_1.l0] at h
 | k + 1 => by
  have ih0 := slices_IndexFunc_string_string_impl_isLong_1.mono_l k
  ·intro y0 y1 y2
   unfold slices_IndexFunc_string_string_impl_isLong_1.l0
   repeat' first
   | (with_reducible exact ih0 _ _ _)
   | (with_reducible exact LeO.refl _)
   | (with_reducible exact LeO.none _)
   | (with_reducible refine LeO.ite ?_ ?_)
   | (with_reducible refine LeO.bind ?_ (fun _ => ?_))
   | exact ih0 _ _ _
   | exact LeO.none _
   | refine LeO.ite ?_ ?_
   | refine LeO.bind ?_ (fun _ => ?_)
theorem slices_IndexFunc_string_string_impl_isLong_1.mono : ∀ a0 k, LeO (slices_IndexFunc_string_string_impl_isLong_1.f k a0) (slices_IndexFunc_string_string_impl_isLong_1.f (k + 1) a0) := by
 intro a0 k
 have ih0 := slices_IndexFunc_string_string_impl_isLong_1.mono_l k
 unfold slices_IndexFunc_string_string_impl_isLong_1.f
 repeat' first
   | (with_reducible exact ih0 _ _ _)
   | (with_reducible exact LeO.refl _)
   | (with_reducible exact LeO.none _)
   | (with_reducible refine LeO.ite ?_ ?_)
   | (with_reducible refine LeO.bind ?_ (fun _ => ?_))
   | exact ih0 _ _ _
   | exact LeO.none _
   | refine LeO.ite ?_ ?_
   | refine LeO.bind ?_ (fun _ => ?_)
end Go.Proofs.Ytdjhclgkkklajaa.P

namespace Go.Proofs.Ytdjhclgkkklajaa.P
open Go.RowKit Go.Proofs.YtdjhclgkkklajaaW.PrintWords Go.Proofs.YtdjhclgkkklajaaW.PrintLast Go.Proofs.YtdjhclgkkklajaaW.PrintMore
attribute [local go_sem] max2_int min2_int max_two min_two max_three min_three max_four min_four   -- for this text's walks alone
set_option linter.unusedVariables false
set_option linter.unusedSimpArgs false

/-! ### slices_ContainsFunc_string_string_impl_isLong_1: function 136 -/
def slices_ContainsFunc_string_string_impl_isLong_1.f (k : Nat) (l0 : List ByteArray)  : Option (Bool) := (slices_IndexFunc_string_string_impl_isLong_1.f k l0).bind fun t130 => (some (decide (t130 ≥ 0)))
theorem slices_ContainsFunc_string_string_impl_isLong_1.mono : ∀ a0 k, LeO (slices_ContainsFunc_string_string_impl_isLong_1.f k a0) (slices_ContainsFunc_string_string_impl_isLong_1.f (k + 1) a0) := by
 intro a0 k
 unfold slices_ContainsFunc_string_string_impl_isLong_1.f
 repeat' first
   | (with_reducible exact slices_IndexFunc_string_string_impl_isLong_1.mono _ _)
   | (with_reducible exact LeO.refl _)
   | (with_reducible exact LeO.none _)
   | (with_reducible refine LeO.ite ?_ ?_)
   | (with_reducible refine LeO.bind ?_ (fun _ => ?_))
   | exact slices_IndexFunc_string_string_impl_isLong_1.mono _ _
   | exact LeO.none _
   | refine LeO.ite ?_ ?_
   | refine LeO.bind ?_ (fun _ => ?_)
end Go.Proofs.Ytdjhclgkkklajaa.P

namespace Go.Proofs.Ytdjhclgkkklajaa.P
open Go.RowKit Go.Proofs.YtdjhclgkkklajaaW.PrintWords Go.Proofs.YtdjhclgkkklajaaW.PrintLast Go.Proofs.YtdjhclgkkklajaaW.PrintMore
attribute [local go_sem] max2_int min2_int max_two min_two max_three min_three max_four min_four   -- for this text's walks alone
set_option linter.unusedVariables false
set_option linter.unusedSimpArgs false

/-! ### impl_isLong: function 76 -/
def impl_isLong.f (k : Nat) (l0 : List ByteArray) : Option (Bool) := (slices_ContainsFunc_string_string_impl_isLong_1.f k l0).bind fun t131 => (some t131)
theorem impl_isLong.mono : ∀ a0 k, LeO (impl_isLong.f k a0) (impl_isLong.f (k + 1) a0) := by
 intro a0 k
 unfold impl_isLong.f
 repeat' first
   | (with_reducible exact slices_ContainsFunc_string_string_impl_isLong_1.mono _ _)
   | (with_reducible exact LeO.refl _)
   | (with_reducible exact LeO.none _)
   | (with_reducible refine LeO.ite ?_ ?_)
   | (with_reducible refine LeO.bind ?_ (fun _ => ?_))
   | exact slices_ContainsFunc_string_string_impl_isLong_1.mono _ _
   | exact LeO.none _
   | refine LeO.ite ?_ ?_
   | refine LeO.bind ?_ (fun _ => ?_)
end Go.Proofs.Ytdjhclgkkklajaa.P

namespace Go.Proofs.Ytdjhclgkkklajaa.P
open Go.RowKit Go.Proofs.YtdjhclgkkklajaaW.PrintWords Go.Proofs.YtdjhclgkkklajaaW.PrintLast Go.Proofs.YtdjhclgkkklajaaW.PrintMore
attribute [local go_sem] max2_int min2_int max_two min_two max_three min_three max_four min_four   -- for this text's walks alone
set_option linter.unusedVariables false
set_option linter.unusedSimpArgs false

/-! ### spec_PutText: function 21 -/
def spec_PutText.f (k : Nat) (a0 : ByteArray) : Option (ByteArray) := if (a0.size : Int) > 8000 then (some (⟨#[]⟩ : ByteArray)) else ((spec_PutNum.f k (a0.size : Int)).bind fun t153 => (if t153.size + a0.size ≤ 9223372036854775807 then (some (t153 ++ a0)) else (none)))
theorem spec_PutText.mono : ∀ a0 k, LeO (spec_PutText.f k a0) (spec_PutText.f (k + 1) a0) := by
 intro a0 k
 unfold spec_PutText.f
 repeat' first
   | (with_reducible exact spec_PutNum.mono _ _)
   | (with_reducible exact LeO.refl _)
   | (with_reducible exact LeO.none _)
   | (with_reducible refine LeO.ite ?_ ?_)
   | (with_reducible refine LeO.bind ?_ (fun _ => ?_))
   | exact spec_PutNum.mono _ _
   | exact LeO.none _
   | refine LeO.ite ?_ ?_
   | refine LeO.bind ?_ (fun _ => ?_)
end Go.Proofs.Ytdjhclgkkklajaa.P

namespace Go.Proofs.Ytdjhclgkkklajaa.P
open Go.RowKit Go.Proofs.YtdjhclgkkklajaaW.PrintWords Go.Proofs.YtdjhclgkkklajaaW.PrintLast Go.Proofs.YtdjhclgkkklajaaW.PrintMore
attribute [local go_sem] max2_int min2_int max_two min_two max_three min_three max_four min_four   -- for this text's walks alone
set_option linter.unusedVariables false
set_option linter.unusedSimpArgs false

/-! ### impl_size: function 77 -/
def impl_size.f (a0 : ByteArray) : Option (Int) := some (a0.size : Int)
end Go.Proofs.Ytdjhclgkkklajaa.P

namespace Go.Proofs.Ytdjhclgkkklajaa.P
open Go.RowKit Go.Proofs.YtdjhclgkkklajaaW.PrintWords Go.Proofs.YtdjhclgkkklajaaW.PrintLast Go.Proofs.YtdjhclgkkklajaaW.PrintMore
attribute [local go_sem] max2_int min2_int max_two min_two max_three min_three max_four min_four   -- for this text's walks alone
set_option linter.unusedVariables false
set_option linter.unusedSimpArgs false

/-! ### impl_PutText: function 20 -/
def impl_PutText.f (k : Nat) (a0 : ByteArray) : Option (ByteArray) := (impl_isLong.f k (([a0] : List ByteArray))).bind fun t150 => (if t150 = true then (some (⟨#[]⟩ : ByteArray)) else ((impl_size.f a0).bind fun t151 => ((impl_PutNum.f k t151).bind fun t152 => (if t152.size + a0.size ≤ 9223372036854775807 then (some (t152 ++ a0)) else (none)))))
theorem impl_PutText.mono : ∀ a0 k, LeO (impl_PutText.f k a0) (impl_PutText.f (k + 1) a0) := by
 intro a0 k
 unfold impl_PutText.f
 repeat' first
   | (with_reducible exact impl_PutNum.mono _ _)
   | (with_reducible exact impl_isLong.mono _ _)
   | (with_reducible exact LeO.refl _)
   | (with_reducible exact LeO.none _)
   | (with_reducible refine LeO.ite ?_ ?_)
   | (with_reducible refine LeO.bind ?_ (fun _ => ?_))
   | exact impl_PutNum.mono _ _
   | exact impl_isLong.mono _ _
   | exact LeO.none _
   | refine LeO.ite ?_ ?_
   | refine LeO.bind ?_ (fun _ => ?_)
end Go.Proofs.Ytdjhclgkkklajaa.P

namespace Go.Proofs.Ytdjhclgkkklajaa.P
open Go.RowKit Go.Proofs.YtdjhclgkkklajaaW.PrintWords Go.Proofs.YtdjhclgkkklajaaW.PrintLast Go.Proofs.YtdjhclgkkklajaaW.PrintMore
attribute [local go_sem] max2_int min2_int max_two min_two max_three min_three max_four min_four   -- for this text's walks alone
set_option linter.unusedVariables false
set_option linter.unusedSimpArgs false

/-! ### spec_l01Max: function 138 -/
def spec_l01Max.f (a0 : Int) (a1 : Int) : Option (Int) := if a0 > a1 then (some a0) else (some a1)
end Go.Proofs.Ytdjhclgkkklajaa.P

namespace Go.Proofs.Ytdjhclgkkklajaa.P
open Go.RowKit Go.Proofs.YtdjhclgkkklajaaW.PrintWords Go.Proofs.YtdjhclgkkklajaaW.PrintLast Go.Proofs.YtdjhclgkkklajaaW.PrintMore
attribute [local go_sem] max2_int min2_int max_two min_two max_three min_three max_four min_four   -- for this text's walks alone
set_option linter.unusedVariables false
set_option linter.unusedSimpArgs false

/-! ### spec_l02Join: function 84 -/
def spec_l02Join.l0 : Nat → List (S43) → List (S43) → List (S43) → Int → Option ((List (S43)))
 | 0, _, _, _, _ => none
 | k + 1, x0, x1, x5, x6 => if x6 ≤ 5 then ((spec_l02Of.f k x0 x6).bind fun t174 => ((spec_l02Of.f k x1 x6).bind fun t175 => ((spec_l01Max.f t174 t175).bind fun t176 => (if t176 > 0 then (if x5.length < 8796093022208 then (spec_l02Join.l0 k x0 x1 (x5 ++ [(⟨x6, t176⟩ : S43)]) (wrap64 (x6 + 1))) else (none)) else (spec_l02Join.l0 k x0 x1 x5 (wrap64 (x6 + 1))))))) else (some x5)
def spec_l02Join.f (k : Nat) (l0 : List (S43)) (l1 : List (S43)) : Option ((List (S43))) := spec_l02Join.l0 k l0 l1 (([] : List (S43))) 1
theorem spec_l02Join.mono_l : ∀ k, (∀ y0 y1 y2 y3, LeO (spec_l02Join.l0 k y0 y1 y2 y3) (spec_l02Join.l0 (k + 1) y0 y1 y2 y3))
 | 0 => fun _ _ _ _ r h => by simp [spec_l02Join.l0] at h
 | k + 1 => by
  have ih0 := spec_l02Join.mono_l k
  ·intro y0 y1 y2 y3
   unfold spec_l02Join.l0
   repeat' first
   | (with_reducible exact ih0 _ _ _ _)
   | (with_reducible exact spec_l02Of.mono _ _ _)
   | (with_reducible exact LeO.refl _)
   | (with_reducible exact LeO.none _)
   | (with_reducible refine LeO.ite ?_ ?_)
   | (with_reducible refine LeO.bind ?_ (fun _ => ?_))
   | exact ih0 _ _ _ _
   | exact spec_l02Of.mono _ _ _
   | exact LeO.none _
   | refine LeO.ite ?_ ?_
   | refine LeO.bind ?_ (fun _ => ?_)
theorem spec_l02Join.mono : ∀ a0 a1 k, LeO (spec_l02Join.f k a0 a1) (spec_l02Join.f (k + 1) a0 a1) := by
 intro a0 a1 k
 have ih0 := spec_l02Join.mono_l k
 unfold spec_l02Join.f
 repeat' first
   | (with_reducible exact ih0 _ _ _ _)
   | (with_reducible exact spec_l02Of.mono _ _ _)
   | (with_reducible exact LeO.refl _)
   | (with_reducible exact LeO.none _)
   | (with_reducible refine LeO.ite ?_ ?_)
   | (with_reducible refine LeO.bind ?_ (fun _ => ?_))
   | exact ih0 _ _ _ _
   | exact spec_l02Of.mono _ _ _
   | exact LeO.none _
   | refine LeO.ite ?_ ?_
   | refine LeO.bind ?_ (fun _ => ?_)
end Go.Proofs.Ytdjhclgkkklajaa.P

namespace Go.Proofs.Ytdjhclgkkklajaa.P
open Go.RowKit Go.Proofs.YtdjhclgkkklajaaW.PrintWords Go.Proofs.YtdjhclgkkklajaaW.PrintLast Go.Proofs.YtdjhclgkkklajaaW.PrintMore
attribute [local go_sem] max2_int min2_int max_two min_two max_three min_three max_four min_four   -- for this text's walks alone
set_option linter.unusedVariables false
set_option linter.unusedSimpArgs false

/-! ### impl_seenJoin: function 88 -/
def impl_seenJoin.l0 : Nat → List (S43) → List (S43) → List (S43) → Int → Option ((List (S43)))
 | 0, _, _, _, _ => none
 | k + 1, x0, x1, x5, x6 => if x6 ≤ 5 then ((impl_seenOf.f k x0 x6).bind fun t210 => ((impl_seenOf.f k x1 x6).bind fun t211 => (if (mx t210 t211) > 0 then (if x5.length < 8796093022208 then (impl_seenJoin.l0 k x0 x1 (x5 ++ [(⟨x6, mx t210 t211⟩ : S43)]) (wrap64 (x6 + 1))) else (none)) else (impl_seenJoin.l0 k x0 x1 x5 (wrap64 (x6 + 1)))))) else (some x5)
def impl_seenJoin.f (k : Nat) (l0 : List (S43)) (l1 : List (S43)) : Option ((List (S43))) := impl_seenJoin.l0 k l0 l1 ([] : List (S43)) 1
theorem impl_seenJoin.mono_l : ∀ k, (∀ y0 y1 y2 y3, LeO (impl_seenJoin.l0 k y0 y1 y2 y3) (impl_seenJoin.l0 (k + 1) y0 y1 y2 y3))
 | 0 => fun _ _ _ _ r h => by simp [impl_seenJoin.l0] at h
 | k + 1 => by
  have ih0 := impl_seenJoin.mono_l k
  ·intro y0 y1 y2 y3
   unfold impl_seenJoin.l0
   repeat' first
   | (with_reducible exact ih0 _ _ _ _)
   | (with_reducible exact impl_seenOf.mono _ _ _)
   | (with_reducible exact LeO.refl _)
   | (with_reducible exact LeO.none _)
   | (with_reducible refine LeO.ite ?_ ?_)
   | (with_reducible refine LeO.bind ?_ (fun _ => ?_))
   | exact ih0 _ _ _ _
   | exact impl_seenOf.mono _ _ _
   | exact LeO.none _
   | refine LeO.ite ?_ ?_
   | refine LeO.bind ?_ (fun _ => ?_)
theorem impl_seenJoin.mono : ∀ a0 a1 k, LeO (impl_seenJoin.f k a0 a1) (impl_seenJoin.f (k + 1) a0 a1) := by
 intro a0 a1 k
 have ih0 := impl_seenJoin.mono_l k
 unfold impl_seenJoin.f
 repeat' first
   | (with_reducible exact ih0 _ _ _ _)
   | (with_reducible exact impl_seenOf.mono _ _ _)
   | (with_reducible exact LeO.refl _)
   | (with_reducible exact LeO.none _)
   | (with_reducible refine LeO.ite ?_ ?_)
   | (with_reducible refine LeO.bind ?_ (fun _ => ?_))
   | exact ih0 _ _ _ _
   | exact impl_seenOf.mono _ _ _
   | exact LeO.none _
   | refine LeO.ite ?_ ?_
   | refine LeO.bind ?_ (fun _ => ?_)
end Go.Proofs.Ytdjhclgkkklajaa.P

namespace Go.Proofs.Ytdjhclgkkklajaa.P
open Go.RowKit Go.Proofs.YtdjhclgkkklajaaW.PrintWords Go.Proofs.YtdjhclgkkklajaaW.PrintLast Go.Proofs.YtdjhclgkkklajaaW.PrintMore
attribute [local go_sem] max2_int min2_int max_two min_two max_three min_three max_four min_four   -- for this text's walks alone
set_option linter.unusedVariables false
set_option linter.unusedSimpArgs false

/-! ### spec_l02Bytes: function 157 -/
def spec_l02Bytes.l0 : Nat → List (S43) → ByteArray → Int → Option (ByteArray)
 | 0, _, _, _ => none
 | k + 1, x0, x3, x4 => if x4 < (x0.length : Int) then (if 0 ≤ x4 then ((spec_PutNum.f k ((rd_T43 x0 x4).f0)).bind fun t623 => (if x3.size + t623.size ≤ 9223372036854775807 then ((spec_PutNum.f k ((rd_T43 x0 x4).f1)).bind fun t625 => (if (x3.size + t623.size) + t625.size ≤ 9223372036854775807 then (spec_l02Bytes.l0 k x0 ((x3 ++ t623) ++ t625) (wrap64 (x4 + 1))) else (none))) else (none))) else (none)) else (some x3)
def spec_l02Bytes.f (k : Nat) (l0 : List (S43)) : Option (ByteArray) := (spec_PutNum.f k (l0.length : Int)).bind fun t621 => (spec_l02Bytes.l0 k l0 t621 0)
theorem spec_l02Bytes.mono_l : ∀ k, (∀ y0 y1 y2, LeO (spec_l02Bytes.l0 k y0 y1 y2) (spec_l02Bytes.l0 (k + 1) y0 y1 y2))
 | 0 => fun _ _ _ r h => by simp [spec_l02Bytes.l0] at h
 | k + 1 => by
  have ih0 := spec_l02Bytes.mono_l k
  ·intro y0 y1 y2
   unfold spec_l02Bytes.l0
   repeat' first
   | (with_reducible exact ih0 _ _ _)
   | (with_reducible exact spec_PutNum.mono _ _)
   | (with_reducible exact LeO.refl _)
   | (with_reducible exact LeO.none _)
   | (with_reducible refine LeO.ite ?_ ?_)
   | (with_reducible refine LeO.bind ?_ (fun _ => ?_))
   | exact ih0 _ _ _
   | exact spec_PutNum.mono _ _
   | exact LeO.none _
   | refine LeO.ite ?_ ?_
   | refine LeO.bind ?_ (fun _ => ?_)
theorem spec_l02Bytes.mono : ∀ a0 k, LeO (spec_l02Bytes.f k a0) (spec_l02Bytes.f (k + 1) a0) := by
 intro a0 k
 have ih0 := spec_l02Bytes.mono_l k
 unfold spec_l02Bytes.f
 repeat' first
   | (with_reducible exact ih0 _ _ _)
   | (with_reducible exact spec_PutNum.mono _ _)
   | (with_reducible exact LeO.refl _)
   | (with_reducible exact LeO.none _)
   | (with_reducible refine LeO.ite ?_ ?_)
   | (with_reducible refine LeO.bind ?_ (fun _ => ?_))
   | exact ih0 _ _ _
   | exact spec_PutNum.mono _ _
   | exact LeO.none _
   | refine LeO.ite ?_ ?_
   | refine LeO.bind ?_ (fun _ => ?_)
end Go.Proofs.Ytdjhclgkkklajaa.P

namespace Go.Proofs.Ytdjhclgkkklajaa.P
open Go.RowKit Go.Proofs.YtdjhclgkkklajaaW.PrintWords Go.Proofs.YtdjhclgkkklajaaW.PrintLast Go.Proofs.YtdjhclgkkklajaaW.PrintMore
attribute [local go_sem] max2_int min2_int max_two min_two max_three min_three max_four min_four   -- for this text's walks alone
set_option linter.unusedVariables false
set_option linter.unusedSimpArgs false

/-! ### impl_seenBytes: function 161 -/
def impl_seenBytes.l0 : Nat → ByteArray → List (S43) → Int → Int → Option (ByteArray)
 | 0, _, _, _, _ => none
 | k + 1, x3, x9, x10, x11 => if x11 < x10 then (if 0 ≤ x11 then (if x11 < (x9.length : Int) then ((impl_PutNum.f k ((rd_T43 x9 x11).f0)).bind fun t834 => ((impl_PutNum.f k ((rd_T43 x9 x11).f1)).bind fun t835 => (if t834.size + t835.size ≤ 9223372036854775807 then (if x3.size + (t834.size + t835.size) ≤ 9223372036854775807 then (impl_seenBytes.l0 k (x3 ++ (t834 ++ t835)) x9 x10 (wrap64 (x11 + 1))) else (none)) else (none)))) else (none)) else (none)) else (some x3)
def impl_seenBytes.f (k : Nat) (l0 : List (S43)) : Option (ByteArray) := (impl_PutNum.f k (l0.length : Int)).bind fun t831 => (impl_seenBytes.l0 k t831 l0 (l0.length : Int) 0)
theorem impl_seenBytes.mono_l : ∀ k, (∀ y0 y1 y2 y3, LeO (impl_seenBytes.l0 k y0 y1 y2 y3) (impl_seenBytes.l0 (k + 1) y0 y1 y2 y3))
 | 0 => fun _ _ _ _ r h => by simp [impl_seenBytes.l0] at h
 | k + 1 => by
  have ih0 := impl_seenBytes.mono_l k
  ·intro y0 y1 y2 y3
   unfold impl_seenBytes.l0
   repeat' first
   | (with_reducible exact ih0 _ _ _ _)
   | (with_reducible exact impl_PutNum.mono _ _)
   | (with_reducible exact LeO.refl _)
   | (with_reducible exact LeO.none _)
   | (with_reducible refine LeO.ite ?_ ?_)
   | (with_reducible refine LeO.bind ?_ (fun _ => ?_))
   | exact ih0 _ _ _ _
   | exact impl_PutNum.mono _ _
   | exact LeO.none _
   | refine LeO.ite ?_ ?_
   | refine LeO.bind ?_ (fun _ => ?_)
theorem impl_seenBytes.mono : ∀ a0 k, LeO (impl_seenBytes.f k a0) (impl_seenBytes.f (k + 1) a0) := by
 intro a0 k
 have ih0 := impl_seenBytes.mono_l k
 unfold impl_seenBytes.f
 repeat' first
   | (with_reducible exact ih0 _ _ _ _)
   | (with_reducible exact impl_PutNum.mono _ _)
   | (with_reducible exact LeO.refl _)
   | (with_reducible exact LeO.none _)
   | (with_reducible refine LeO.ite ?_ ?_)
   | (with_reducible refine LeO.bind ?_ (fun _ => ?_))
   | exact ih0 _ _ _ _
   | exact impl_PutNum.mono _ _
   | exact LeO.none _
   | refine LeO.ite ?_ ?_
   | refine LeO.bind ?_ (fun _ => ?_)
end Go.Proofs.Ytdjhclgkkklajaa.P

namespace Go.Proofs.Ytdjhclgkkklajaa.P
open Go.RowKit Go.Proofs.YtdjhclgkkklajaaW.PrintWords Go.Proofs.YtdjhclgkkklajaaW.PrintLast Go.Proofs.YtdjhclgkkklajaaW.PrintMore
attribute [local go_sem] max2_int min2_int max_two min_two max_three min_three max_four min_four   -- for this text's walks alone
set_option linter.unusedVariables false
set_option linter.unusedSimpArgs false

/-! ### spec_SeenBytes: function 123 -/
def spec_SeenBytes.f (k : Nat) (l0 : List (S43)) : Option (ByteArray) := (spec_SeenRight.f k l0).bind fun t626 => (if t626 = true then ((spec_l02Bytes.f k l0).bind fun t627 => (some t627)) else (some (⟨#[]⟩ : ByteArray)))
theorem spec_SeenBytes.mono : ∀ a0 k, LeO (spec_SeenBytes.f k a0) (spec_SeenBytes.f (k + 1) a0) := by
 intro a0 k
 unfold spec_SeenBytes.f
 repeat' first
   | (with_reducible exact spec_SeenRight.mono _ _)
   | (with_reducible exact spec_l02Bytes.mono _ _)
   | (with_reducible exact LeO.refl _)
   | (with_reducible exact LeO.none _)
   | (with_reducible refine LeO.ite ?_ ?_)
   | (with_reducible refine LeO.bind ?_ (fun _ => ?_))
   | exact spec_SeenRight.mono _ _
   | exact spec_l02Bytes.mono _ _
   | exact LeO.none _
   | refine LeO.ite ?_ ?_
   | refine LeO.bind ?_ (fun _ => ?_)
end Go.Proofs.Ytdjhclgkkklajaa.P

namespace Go.Proofs.Ytdjhclgkkklajaa.Q
open Go.RowKit Go.Proofs.Ytdjhclgkkklajaa.P Go.Proofs.YtdjhclgkkklajaaW.PrintWords Go.Proofs.YtdjhclgkkklajaaW.PrintMore

def seenOf : List Mark → Int → Int
  | [], _ => 0
  | m :: r, n => if m.f0 = n then m.f1 else seenOf r n
theorem l02Of_l0 (l : List Mark) (n : Int) (hl : l.length ≤ 4611686018427387904) : ∀ (s : List Mark) (i : Nat), l.drop i = s → i ≤ l.length → Ev (fun k => spec_l02Of.l0 k l n (i : Int)) (seenOf s n)
  | [], i, h, hi => by
    have := dropNil' h hi
    refine Ev.step (f := fun _ => some 0) (fun k => ?_) (Ev.now _)
    simp only [spec_l02Of.l0]
    rw [if_neg (by omega)]
  | m :: s, i, h, hi => by
    obtain ⟨h1, h2, h3⟩ := dropCons h z43
    have hr : rd_T43 l (i : Int) = m := by simpa [rd_T43] using h2
    refine Ev.step (f := fun k => if m.f0 = n then some m.f1 else spec_l02Of.l0 k l n ((i + 1 : Nat) : Int)) (fun k => ?_) ?_
    · simp only [spec_l02Of.l0, hr]
      rw [if_pos (by omega), if_pos (by omega), w64 (by omega) (by omega)]
      rfl
    · simp only [seenOf]
      refine evIte (fun h => ?_) (fun h => ?_)
      · rw [if_pos h]; exact Ev.now _
      · rw [if_neg h]; exact l02Of_l0 l n hl s (i + 1) h3 (by omega)
theorem l02Of_ev (l : List Mark) (n : Int) (hl : l.length ≤ 4611686018427387904) : Ev (fun k => spec_l02Of.f k l n) (seenOf l n) := l02Of_l0 l n hl l 0 rfl (by omega)
theorem seenOf_l0 (l : List Mark) (n : Int) (hl : l.length ≤ 4611686018427387904) : ∀ (s : List Mark) (i : Nat), l.drop i = s → i ≤ l.length → Ev (fun k => impl_seenOf.l0 k n l (l.length : Int) (i : Int)) (seenOf s n)
  | [], i, h, hi => by
    have := dropNil' h hi
    refine Ev.step (f := fun _ => some 0) (fun k => ?_) (Ev.now _)
    simp only [impl_seenOf.l0]
    rw [if_neg (by omega)]
  | m :: s, i, h, hi => by
    obtain ⟨h1, h2, h3⟩ := dropCons h z43
    have hr : rd_T43 l (i : Int) = m := by simpa [rd_T43] using h2
    refine Ev.step (f := fun k => if m.f0 = n then some m.f1 else impl_seenOf.l0 k n l (l.length : Int) ((i + 1 : Nat) : Int)) (fun k => ?_) ?_
    · simp only [impl_seenOf.l0, hr]
      rw [if_pos (by omega), if_pos (by omega), if_pos (by omega), w64 (by omega) (by omega)]
      rfl
    · simp only [seenOf]
      refine evIte (fun h => ?_) (fun h => ?_)
      · rw [if_pos h]; exact Ev.now _
      · rw [if_neg h]; exact seenOf_l0 l n hl s (i + 1) h3 (by omega)
theorem seenOf_ev (l : List Mark) (n : Int) (hl : l.length ≤ 4611686018427387904) : Ev (fun k => impl_seenOf.f k l n) (seenOf l n) := seenOf_l0 l n hl l 0 rfl (by omega)
def seenHas (l : List Mark) (a b : Int) : Bool := decide (b ≤ seenOf l a)
def seenHasOut (l : List Mark) (a b : Int) : Bool := seenOk l && (isDot a b && seenHas l a b)
theorem seenHas_ev (l : List Mark) (a b : Int) (hl : l.length ≤ 4611686018427387904) : Ev (fun k => impl_seenHas.f k l a b) (seenHas l a b) := Ev.bind (seenOf_ev l a hl) (Ev.now _)
theorem spec_SeenHas_ev (l : List Mark) (a b : Int) (hl : l.length ≤ 4611686018427387904) : Ev (fun k => spec_SeenHas.f k l a b) (seenHasOut l a b) := by
  unfold spec_SeenHas.f seenHasOut
  refine Ev.bind (spec_SeenRight_ev l hl) ?_
  cases seenOk l with
  | false => exact evNeg (by simp) (Ev.now _)
  | true =>
    refine evPos rfl (evBind1 (l02Dot_is a b) ?_)
    cases isDot a b with
    | false => exact evNeg (by simp) (Ev.now _)
    | true => exact evPos rfl (Ev.bind (l02Of_ev l a hl) (Ev.now _))
end Go.Proofs.Ytdjhclgkkklajaa.Q

namespace Go.Proofs.Ytdjhclgkkklajaa.Q
open Go.RowKit Go.Proofs.Ytdjhclgkkklajaa.P Go.Proofs.YtdjhclgkkklajaaW.PrintWords Go.Proofs.YtdjhclgkkklajaaW.PrintMore

abbrev Sib := S139
def dotLess (a b c d : Int) : Bool := decide (a < c) || (decide (a = c) && decide (b < d))
def dataOk (t : ByteArray) (gone : Bool) : Bool := decide (t.size ≤ 16) && (!gone || decide (t.toList = []))
def sibOk (v : List Mark) (x : Sib) : Bool := isDot x.f0.f0 x.f0.f1 && (seenHas v x.f0.f0 x.f0.f1 && dataOk x.f2 x.f1)
def sibsFrom (v : List Mark) : Option Sib → List Sib → Bool
  | _, [] => true
  | none, x :: r => sibOk v x && sibsFrom v (some x) r
  | some y, x :: r => sibOk v x && (dotLess y.f0.f0 y.f0.f1 x.f0.f0 x.f0.f1 && sibsFrom v (some x) r)
def setOk (v : List Mark) (s : List Sib) : Bool := seenOk v && (decide (s.length ≤ 8) && sibsFrom v none s)
/-- The sibling ahead of place i. -/
def prevSib (l : List Sib) (i : Nat) : Option Sib := if i = 0 then none else some (l.getD (i - 1) z139)
theorem prevSib_succ {l : List Sib} {i : Nat} {x : Sib} (h : l.getD i z139 = x) : prevSib l (i + 1) = some x := by
  simp only [prevSib, Nat.add_sub_cancel, h]
  simp
theorem l03Less_is (a b c d : Int) : spec_l03Less.f a b c d = some (dotLess a b c d) := by
  unfold spec_l03Less.f dotLess
  by_cases h : a < c
  · rw [if_pos h]; simp [h]
  · rw [if_neg h]
    by_cases h2 : a = c
    · rw [if_pos h2]; simp [h2]
    · rw [if_neg h2]; simp [h, h2]
def cmpI (a b : Int) : Int := if a < b then -1 else if a > b then 1 else 0
theorem Compare_is (a b : Int) : cmp_Compare_int64.f a b = some (cmpI a b) := by
  simp only [cmp_Compare_int64.f, cmp_isNaN_int64.f, cmpI]
  by_cases h : a < b
  · simp [h]
  · by_cases h2 : a > b
    · simp [h, h2]
    · simp [h, h2]
theorem Or_ev (x y : Int) : Ev (fun k => cmp_Or_int.f k [x, y]) (if x = 0 then y else x) := by
  unfold cmp_Or_int.f
  have hx : rd [x, y] 0 = x := rfl
  have hy : rd [x, y] 1 = y := rfl
  have hl : (([x, y] : List Int).length : Int) = 2 := rfl
  rw [hl]
  refine Ev.step (f := fun k => if x = 0 then cmp_Or_int.l0 k 0 [x, y] 2 1 else some x) (fun k => ?_) ?_
  · simp only [cmp_Or_int.l0, hx, hl]
    rw [if_pos (by omega), if_pos (by omega), if_pos (by omega), w64 (by omega) (by omega)]
    rfl
  · refine evIte (fun h => ?_) (fun h => ?_)
    · rw [if_pos h]
      refine Ev.step (f := fun k => if y = 0 then cmp_Or_int.l0 k 0 [x, y] 2 2 else some y) (fun k => ?_) ?_
      · simp only [cmp_Or_int.l0, hy, hl]
        rw [if_pos (by omega), if_pos (by omega), if_pos (by omega), w64 (by omega) (by omega)]
        rfl
      · refine evIte (fun h => ?_) (fun h => Ev.now _)
        refine Ev.step (f := fun _ => some y) (fun k => ?_) (Ev.now _)
        simp only [cmp_Or_int.l0]
        rw [if_neg (by omega), h]
    · rw [if_neg h]; exact Ev.now _
def cmpDots (a b c d : Int) : Int := if cmpI a c = 0 then cmpI b d else cmpI a c
theorem compareDots_ev (a b c d : Int) : Ev (fun k => impl_compareDots.f k a b c d) (cmpDots a b c d) := by
  unfold impl_compareDots.f
  exact evBind1 (Compare_is a c) (evBind1 (Compare_is b d) (Ev.bind (Or_ev _ _) (Ev.now _)))
theorem cmpDots_ge (a b c d : Int) : decide (cmpDots a b c d ≥ 0) = !dotLess a b c d := by
  unfold cmpDots cmpI dotLess
  by_cases h1 : a < c
  · simp [h1]
  · by_cases h2 : a > c
    · have : ¬ a = c := by omega
      simp [h1, h2, this]
    · have : a = c := by omega
      subst this
      by_cases h3 : b < d
      · simp [h3]
      · by_cases h4 : b > d
        · simp [h3, h4]
        · simp [h3, h4]
theorem isData_is (t : ByteArray) (g : Bool) : impl_isData.f t g = some (dataOk t g) := by
  unfold impl_isData.f dataOk
  by_cases h : (t.size : Int) ≤ 16
  · have h' : t.size ≤ 16 := by omega
    rw [if_pos h]
    cases g with
    | true =>
      by_cases e : t.toList = []
      · simp [h', e]
      · simp [h', e]
    | false => simp [h']
  · have h' : ¬ t.size ≤ 16 := by omega
    rw [if_neg h]; simp [h']
theorem impl_SetRight_l0 (v : List Mark) (hv : v.length ≤ 4611686018427387904) (l : List Sib) (hl : l.length ≤ 1048576) : ∀ (s : List Sib) (i : Nat), l.drop i = s → i ≤ l.length →
    Ev (fun k => impl_SetRight.l0 k l (l.length : Int) (i : Int) v l) (sibsFrom v (prevSib l i) s)
  | [], i, h, hi => by
    have := dropNil' h hi
    refine Ev.step (f := fun _ => some true) (fun k => ?_) (by simp only [sibsFrom]; exact Ev.now _)
    simp only [impl_SetRight.l0]
    rw [if_neg (by omega)]
  | x :: s, i, h, hi => by
    obtain ⟨h1, h2, h3⟩ := dropCons h z139
    have hr : rd_T139 l (i : Int) = x := by simpa [rd_T139] using h2
    have ih := impl_SetRight_l0 v hv l hl s (i + 1) h3 (by omega)
    rw [prevSib_succ h2] at ih
    have hj : ∀ b : Bool, Ev (fun k => impl_SetRight.j2 k l (l.length : Int) (i : Int) b v l) (!b && sibsFrom v (some x) s) := fun b => by
      cases b with
      | true => exact Ev.step (f := fun _ => some false) (fun k => by simp [impl_SetRight.j2]) (Ev.now _)
      | false => exact Ev.step (fun k => by simp only [impl_SetRight.j2]; rw [if_neg (by simp), w64 (x := (i : Int) + 1) (by omega) (by omega)]) (by simpa using ih)
    have main : ∀ (p : Bool) (g : Nat → Option Bool), Ev g (p && sibsFrom v (some x) s) → Ev (fun k => (impl_isDot.f x.f0.f0 x.f0.f1).bind fun t => if t = true then ((impl_seenHas.f k v x.f0.f0 x.f0.f1).bind fun t => if t = true then ((impl_isData.f x.f2 x.f1).bind fun t => if t = true then g k else impl_SetRight.j2 k l (l.length : Int) (i : Int) true v l) else impl_SetRight.j2 k l (l.length : Int) (i : Int) true v l) else impl_SetRight.j2 k l (l.length : Int) (i : Int) true v l) (sibOk v x && (p && sibsFrom v (some x) s)) := by
      intro p g hg
      unfold sibOk
      refine evBind1 (isDot_is _ _) ?_
      cases isDot x.f0.f0 x.f0.f1 with
      | false => exact evNeg (by simp) (by simpa using hj true)
      | true =>
        refine evPos rfl (Ev.bind (seenHas_ev v _ _ hv) ?_)
        cases seenHas v x.f0.f0 x.f0.f1 with
        | false => exact evNeg (by simp) (by simpa using hj true)
        | true =>
          refine evPos rfl (evBind1 (isData_is _ _) ?_)
          cases dataOk x.f2 x.f1 with
          | false => exact evNeg (by simp) (by simpa using hj true)
          | true => exact evPos rfl (by simpa using hg)
    by_cases hi0 : i = 0
    · have hp : prevSib l i = none := by simp [prevSib, hi0]
      rw [hp]
      have h0 : ¬ ((i : Int) > 0) := by omega
      refine Ev.step (fun k => ?_) (show Ev _ (sibsFrom v none (x :: s)) from by
        have := main true _ (by simpa using hj false)
        simpa [sibsFrom] using this)
      simp only [impl_SetRight.l0, hr, if_neg h0]
      rw [if_pos (by omega), if_pos (by omega), if_pos (by omega)]
    · have hp : prevSib l i = some (l.getD (i - 1) z139) := by simp [prevSib, hi0]
      rw [hp]
      generalize hy : l.getD (i - 1) z139 = y
      have hq : rd_T139 l ((i : Int) - 1) = y := by
        rw [← hy]; simp only [rd_T139]; congr 1; omega
      have h0 : (i : Int) > 0 := by omega
      have hw : wrap64 ((i : Int) - 1) = (i : Int) - 1 := w64 (by omega) (by omega)
      have hA : (0 : Int) ≤ (i : Int) - 1 := by omega
      have hB : (i : Int) - 1 < (l.length : Int) := by omega
      refine Ev.step (fun k => ?_) (show Ev _ (sibsFrom v (some y) (x :: s)) from by
        have := main (dotLess y.f0.f0 y.f0.f1 x.f0.f0 x.f0.f1) (fun k => (impl_compareDots.f k y.f0.f0 y.f0.f1 x.f0.f0 x.f0.f1).bind fun t => impl_SetRight.j2 k l (l.length : Int) (i : Int) (decide (t ≥ 0)) v l)
          (Ev.bind (compareDots_ev _ _ _ _) (by
            have := hj (decide (cmpDots y.f0.f0 y.f0.f1 x.f0.f0 x.f0.f1 ≥ 0))
            rw [cmpDots_ge] at this ⊢
            simpa using this))
        simpa [sibsFrom] using this)
      simp only [impl_SetRight.l0, hr, if_pos h0, hw, if_pos hA, if_pos hB, hq]
      rw [if_pos (by omega), if_pos (by omega), if_pos (by omega)]
theorem impl_SetRight_ev (v : List Mark) (l : List Sib) (hv : v.length ≤ 4611686018427387904) (hl : l.length ≤ 1048576) : Ev (fun k => impl_SetRight.f k v l) (setOk v l) := by
  unfold impl_SetRight.f setOk
  refine Ev.bind (impl_seenRight_ev v hv) ?_
  cases seenOk v with
  | false => exact evNeg (by simp) (Ev.step (f := fun _ => some false) (fun k => by simp [impl_SetRight.j0]) (Ev.now _))
  | true =>
    refine evPos rfl ?_
    by_cases h : l.length ≤ 8
    · have hd : decide ((l.length : Int) > 8) = false := by simp; omega
      rw [hd]
      refine Ev.step (fun k => by simp only [impl_SetRight.j0]; rw [if_neg (by simp)]) ?_
      simpa [h, prevSib] using impl_SetRight_l0 v hv l hl l 0 rfl (by omega)
    · have hd : decide ((l.length : Int) > 8) = true := by simp; omega
      rw [hd]
      exact Ev.step (f := fun _ => some false) (fun k => by simp [impl_SetRight.j0]) (by simp [h]; exact Ev.now _)
theorem spec_SetRight_l0 (v : List Mark) (hv : v.length ≤ 4611686018427387904) (hk : seenOk v = true) (l : List Sib) (hl : l.length ≤ 1048576) : ∀ (s : List Sib) (i : Nat), l.drop i = s → i ≤ l.length →
    Ev (fun k => spec_SetRight.l0 k (i : Int) v l) (sibsFrom v (prevSib l i) s)
  | [], i, h, hi => by
    have := dropNil' h hi
    refine Ev.step (f := fun _ => some true) (fun k => ?_) (by simp only [sibsFrom]; exact Ev.now _)
    simp only [spec_SetRight.l0]
    rw [if_neg (by omega)]
  | x :: s, i, h, hi => by
    obtain ⟨h1, h2, h3⟩ := dropCons h z139
    have hr : rd_T139 l (i : Int) = x := by simpa [rd_T139] using h2
    have ih := spec_SetRight_l0 v hv hk l hl s (i + 1) h3 (by omega)
    rw [prevSib_succ h2] at ih
    have hj : ∀ b : Bool, Ev (fun k => if b = true then spec_SetRight.l0 k ((i : Int) + 1) v l else some false) (b && sibsFrom v (some x) s) := fun b => by
      cases b with
      | false => exact evNeg (by simp) (Ev.now _)
      | true => exact evPos rfl (by simpa using ih)
    have hi1 : wrap64 ((i : Int) + 1) = (i : Int) + 1 := w64 (by omega) (by omega)
    have main : ∀ (p : Bool) (g : Nat → Option Bool), Ev g (p && sibsFrom v (some x) s) → Ev (fun k => (spec_SeenHas.f k v x.f0.f0 x.f0.f1).bind fun t => if t = true then (if (x.f2.size : Int) > 16 then some false else (if x.f1 = true then (if x.f2.toList = ([] : List UInt8) then g k else some false) else g k)) else some false) (sibOk v x && (p && sibsFrom v (some x) s)) := by
      intro p g hg
      have e : seenHasOut v x.f0.f0 x.f0.f1 = (isDot x.f0.f0 x.f0.f1 && seenHas v x.f0.f0 x.f0.f1) := by simp [seenHasOut, hk]
      unfold sibOk
      rw [← Bool.and_assoc (isDot _ _), ← e]
      refine Ev.bind (spec_SeenHas_ev v _ _ hv) ?_
      cases seenHasOut v x.f0.f0 x.f0.f1 with
      | false => exact evNeg (by simp) (Ev.now _)
      | true =>
        refine evPos rfl ?_
        unfold dataOk
        by_cases hs : (x.f2.size : Int) > 16
        · have hs' : ¬ x.f2.size ≤ 16 := by omega
          exact evPos hs (by simpa [hs'] using Ev.now false)
        · have hs' : x.f2.size ≤ 16 := by omega
          refine evNeg hs ?_
          cases hg1 : x.f1 with
          | false => exact evNeg (by simp) (by simpa [hs'] using hg)
          | true =>
            refine evPos rfl ?_
            by_cases he : x.f2.toList = []
            · exact evPos he (by simpa [hs', he] using hg)
            · exact evNeg he (by simpa [hs', he] using Ev.now false)
    by_cases hi0 : i = 0
    · have hp : prevSib l i = none := by simp [prevSib, hi0]
      rw [hp]
      have h0 : ¬ ((i : Int) > 0) := by omega
      refine Ev.step (fun k => ?_) (show Ev _ (sibsFrom v none (x :: s)) from by
        have := main true (fun k => spec_SetRight.l0 k ((i : Int) + 1) v l) (by simpa using ih)
        simpa [sibsFrom] using this)
      simp only [spec_SetRight.l0, hr, if_neg h0, hi1]
      rw [if_pos (by omega), if_pos (by omega)]
    · have hp : prevSib l i = some (l.getD (i - 1) z139) := by simp [prevSib, hi0]
      rw [hp]
      generalize hy : l.getD (i - 1) z139 = y
      have hq : rd_T139 l ((i : Int) - 1) = y := by
        rw [← hy]; simp only [rd_T139]; congr 1; omega
      have h0 : (i : Int) > 0 := by omega
      have hw : wrap64 ((i : Int) - 1) = (i : Int) - 1 := w64 (by omega) (by omega)
      have hA : (0 : Int) ≤ (i : Int) - 1 := by omega
      have hB : (i : Int) - 1 < (l.length : Int) := by omega
      refine Ev.step (fun k => ?_) (show Ev _ (sibsFrom v (some y) (x :: s)) from by
        have := main (dotLess y.f0.f0 y.f0.f1 x.f0.f0 x.f0.f1) (fun k => (spec_l03Less.f y.f0.f0 y.f0.f1 x.f0.f0 x.f0.f1).bind fun t => if t = true then spec_SetRight.l0 k ((i : Int) + 1) v l else some false)
          (evBind1 (l03Less_is _ _ _ _) (hj (dotLess y.f0.f0 y.f0.f1 x.f0.f0 x.f0.f1)))
        simpa [sibsFrom] using this)
      simp only [spec_SetRight.l0, hr, hi1, if_pos h0, hw, if_pos hA, if_pos hB, hq]
      rw [if_pos (by omega), if_pos (by omega)]
theorem spec_SetRight_ev (v : List Mark) (l : List Sib) (hv : v.length ≤ 4611686018427387904) (hl : l.length ≤ 1048576) : Ev (fun k => spec_SetRight.f k v l) (setOk v l) := by
  unfold spec_SetRight.f setOk
  refine Ev.bind (spec_SeenRight_ev v hv) ?_
  cases hk : seenOk v with
  | false => exact evNeg (by simp) (Ev.step (f := fun _ => some false) (fun k => by simp [spec_SetRight.j0]) (Ev.now _))
  | true =>
    refine evPos rfl ?_
    by_cases h : l.length ≤ 8
    · have hd : decide ((l.length : Int) > 8) = false := by simp; omega
      rw [hd]
      refine Ev.step (fun k => by simp only [spec_SetRight.j0]; rw [if_neg (by simp)]) ?_
      simpa [h, prevSib] using spec_SetRight_l0 v hv hk l hl l 0 rfl (by omega)
    · have hd : decide ((l.length : Int) > 8) = true := by simp; omega
      rw [hd]
      exact Ev.step (f := fun _ => some false) (fun k => by simp [spec_SetRight.j0]) (by simp [h]; exact Ev.now _)
end Go.Proofs.Ytdjhclgkkklajaa.Q

namespace Go.Proofs.Ytdjhclgkkklajaa.Q
open Go.RowKit Go.Proofs.Ytdjhclgkkklajaa.P Go.Proofs.YtdjhclgkkklajaaW.PrintWords Go.Proofs.YtdjhclgkkklajaaW.PrintMore

abbrev LSib := S177
def toSib (x : LSib) : Sib := ⟨toMark x.f0, x.f1, x.f2⟩
theorem szSib_is (a b : Int) (c : Bool) (t : ByteArray) (n : Int) (h0 : 0 ≤ n) (h1 : n ≤ 1048576) (ht : t.size ≤ 9223372036854775807) :
    laws_szSib.f a b c t n = some (if n < (t.size : Int) then -1 else n - (t.size : Int)) := by
  unfold laws_szSib.f
  rw [w64 (by omega) (by omega)]
  split
  · rw [if_pos (by omega)]
  · rw [if_neg (by omega)]
theorem szSibS_l0 (l : List LSib) (hl : l.length ≤ 1048576) (hx : ∀ x ∈ l, x.f2.size ≤ 9223372036854775807) : ∀ (s : List LSib) (i : Nat), l.drop i = s → i ≤ l.length → ∀ n : Int, 0 ≤ n → n ≤ 1048576 →
    ∃ r, Ev (fun k => laws_szSibS.l0 k l n (i : Int)) r ∧ r ≤ n ∧ (0 ≤ r → ∀ x ∈ s, (x.f2.size : Int) ≤ n)
  | [], i, h, hi, n, h0, h1 => by
    have := dropNil' h hi
    refine ⟨n, Ev.step (f := fun _ => some n) (fun k => ?_) (Ev.now _), by omega, by simp⟩
    simp only [laws_szSibS.l0]
    rw [if_neg (by omega)]
  | m :: s, i, h, hi, n, h0, h1 => by
    obtain ⟨g1, g2, g3⟩ := dropCons h z177
    have hr : rd_T177 l (i : Int) = m := by simpa [rd_T177] using g2
    have hm : m ∈ l := List.mem_of_mem_drop (by rw [h]; exact List.mem_cons_self)
    have e := szSib_is m.f0.f0 m.f0.f1 m.f1 m.f2 n h0 h1 (hx m hm)
    by_cases hn : n < (m.f2.size : Int)
    · rw [if_pos hn] at e
      refine ⟨-1, Ev.step (f := fun _ => some (-1)) (fun k => ?_) (Ev.now _), by omega, by omega⟩
      simp only [laws_szSibS.l0, hr, e, Option.bind_some]
      rw [if_pos (by omega), if_pos (by omega), if_pos (by omega)]
    · rw [if_neg hn] at e
      obtain ⟨r, e1, e2, e3⟩ := szSibS_l0 l hl hx s (i + 1) g3 (by omega) (n - (m.f2.size : Int)) (by omega) (by omega)
      refine ⟨r, Ev.step (fun k => ?_) e1, by omega, fun hr0 x hxm => ?_⟩
      · simp only [laws_szSibS.l0, hr, e, Option.bind_some]
        rw [if_pos (by omega), if_pos (by omega), if_neg (by omega), w64 (by omega) (by omega)]
        rfl
      · rcases List.mem_cons.1 hxm with rfl | hxm
        · omega
        · have := e3 hr0 x hxm; omega
theorem szSibS_ev (l : List LSib) (hl : l.length ≤ 9223372036854775807) (hx : ∀ x ∈ l, x.f2.size ≤ 9223372036854775807) (n : Int) (h0 : 0 ≤ n) (h1 : n ≤ 1048576) :
    ∃ r, Ev (fun k => laws_szSibS.f k l n) r ∧ r ≤ n ∧ (0 ≤ r → (l.length : Int) ≤ n ∧ ∀ x ∈ l, (x.f2.size : Int) ≤ n) := by
  unfold laws_szSibS.f
  rw [w64 (by omega) (by omega)]
  by_cases h : n - (l.length : Int) < 0
  · exact ⟨-1, evPos h (Ev.now _), by omega, by omega⟩
  · obtain ⟨r, e1, e2, e3⟩ := szSibS_l0 l (by omega) hx l 0 rfl (by omega) (n - (l.length : Int)) (by omega) (by omega)
    exact ⟨r, evNeg h e1, by omega, fun h0 => ⟨by omega, fun x hx => by have := e3 h0 x hx; omega⟩⟩
theorem szSet_ev (v : List LMark) (l : List LSib) (hv : v.length ≤ 9223372036854775807) (hl : l.length ≤ 9223372036854775807) (hx : ∀ x ∈ l, x.f2.size ≤ 9223372036854775807) (n : Int) (h0 : 0 ≤ n) (h1 : n ≤ 1048576) :
    ∃ r, Ev (fun k => laws_szSet.f k v l n) r ∧ r ≤ n ∧ (0 ≤ r → v.length ≤ 1048576 ∧ l.length ≤ 1048576 ∧ ∀ x ∈ l, x.f2.size ≤ 1048576) := by
  unfold laws_szSet.f
  rw [szMarkS_is v n h0 h1 hv]
  simp only [Option.bind_some]
  by_cases h : n < (v.length : Int)
  · rw [if_pos h]
    exact ⟨-1, evPos (by omega) (Ev.now _), by omega, by omega⟩
  · rw [if_neg h]
    obtain ⟨r, e1, e2, e3⟩ := szSibS_ev l hl hx (n - (v.length : Int)) (by omega) (by omega)
    by_cases hr : r < 0
    · exact ⟨-1, evNeg (by omega) (Ev.bind e1 (evPos hr (Ev.now _))), by omega, by omega⟩
    · refine ⟨r, evNeg (by omega) (Ev.bind e1 (evNeg hr (Ev.now _))), by omega, fun h0 => ?_⟩
      obtain ⟨g1, g2⟩ := e3 h0
      exact ⟨by omega, by omega, fun x hx => by have := g2 x hx; omega⟩
theorem toSibS_l0 (l : List LSib) (hl : l.length ≤ 1048576) : ∀ (s : List LSib) (i : Nat), l.drop i = s → i ≤ l.length → ∀ (acc : List Sib), acc.length = l.length → acc.take i = (l.take i).map toSib →
    Ev (fun k => laws_toSibS.l0 k l acc (i : Int)) (l.map toSib)
  | [], i, h, hi, acc, ha, hc => by
    have := dropNil' h hi
    refine Ev.step (f := fun _ => some (l.map toSib)) (fun k => ?_) (Ev.now _)
    simp only [laws_toSibS.l0]
    rw [if_neg (by omega)]
    rw [← this, List.take_of_length_le (by omega), List.take_length] at hc
    rw [hc]
  | m :: s, i, h, hi, acc, ha, hc => by
    obtain ⟨h1, h2, h3⟩ := dropCons h z177
    have hr : rd_T177 l (i : Int) = m := by simpa [rd_T177] using h2
    have hm : l[i]'h1 = m := by
      rw [List.getD_eq_getElem?_getD, List.getElem?_eq_getElem h1] at h2; exact h2
    refine Ev.step (fun k => ?_) (toSibS_l0 l hl s (i + 1) h3 (by omega) (acc.set i (toSib m)) (by simpa using ha) (by
      rw [List.take_succ_eq_append_getElem (by simp; omega), List.take_succ_eq_append_getElem h1, List.map_append, List.take_set_of_le (by omega), hc]
      simp [hm]))
    simp only [laws_toSibS.l0, laws_toSib.f, laws_toMark.f, hr, Option.bind_some, Int.toNat_natCast]
    rw [if_pos (by omega), if_pos (by omega), if_pos (by omega), w64 (by omega) (by omega)]
    rfl
theorem toSibS_ev (l : List LSib) (hl : l.length ≤ 1048576) : Ev (fun k => laws_toSibS.f k l) (l.map toSib) := by
  unfold laws_toSibS.f
  refine evPos (by omega) (evPos (by omega) ?_)
  exact toSibS_l0 l hl l 0 rfl (by omega) _ (by simp) (by simp)
theorem toSet_ev (v : List LMark) (l : List LSib) (hv : v.length ≤ 1048576) (hl : l.length ≤ 1048576) : Ev (fun k => laws_toSet.f k v l) (v.map toMark, l.map toSib) :=
  Ev.bind (toMarkS_ev v hv) (Ev.bind (toSibS_ev l hl) (Ev.now _))
theorem eqSib_refl (a b : Int) (c : Bool) (t : ByteArray) : laws_eqSib.f a b c t a b c t = some true := by simp [laws_eqSib.f, eqMark_refl]
theorem eqSibS_l0 (l : List Sib) (hl : l.length ≤ 4611686018427387904) : ∀ (s : List Sib) (i : Nat), l.drop i = s → i ≤ l.length →
    Ev (fun k => laws_eqSibS.l0 k l l (i : Int)) true
  | [], i, h, hi => by
    have := dropNil' h hi
    refine Ev.step (f := fun _ => some true) (fun k => ?_) (Ev.now _)
    simp only [laws_eqSibS.l0]
    rw [if_neg (by omega)]
  | m :: s, i, h, hi => by
    obtain ⟨h1, h2, h3⟩ := dropCons h z139
    refine Ev.step (fun k => ?_) (eqSibS_l0 l hl s (i + 1) h3 (by omega))
    simp only [laws_eqSibS.l0, eqSib_refl, Option.bind_some]
    rw [if_pos (by omega), if_pos (by omega), if_pos (by omega), if_pos trivial, w64 (by omega) (by omega)]
    rfl
theorem eqSibS_ev (l : List Sib) (hl : l.length ≤ 4611686018427387904) : Ev (fun k => laws_eqSibS.f k l l) true := by
  unfold laws_eqSibS.f
  exact evPos rfl (eqSibS_l0 l hl l 0 rfl (by omega))
theorem eqSet_ev (v : List Mark) (l : List Sib) (hv : v.length ≤ 4611686018427387904) (hl : l.length ≤ 4611686018427387904) : Ev (fun k => laws_eqSet.f k v l v l) true :=
  Ev.bind (eqMarkS_ev v hv) (evPos rfl (Ev.bind (eqSibS_ev l hl) (evPos rfl (Ev.now _))))
end Go.Proofs.Ytdjhclgkkklajaa.Q

namespace Go.Proofs.Ytdjhclgkkklajaa.Q
open Go.RowKit Go.Proofs.Ytdjhclgkkklajaa.P Go.Proofs.YtdjhclgkkklajaaW.PrintWords Go.Proofs.YtdjhclgkkklajaaW.PrintMore
/-- Of any set: it is too large, or it is small. -/
theorem szSet_small {x : S70} (hw : Go.Proofs.Ytdjhclgkkklajaa.RO.wfT70 x) : ∃ r, Ev (fun k => laws_szSet.f k x.f0 x.f1 1048576) r ∧ r ≤ 1048576 ∧ (¬ r < 0 → x.f0.length ≤ 1048576 ∧ x.f1.length ≤ 1048576 ∧ ∀ y ∈ x.f1, y.f2.size ≤ 1048576) := by
  obtain ⟨r, e1, e2, e3⟩ := szSet_ev x.f0 x.f1 hw.1.1 hw.2.1 (fun y hy => (hw.2.2 y hy).2.2) 1048576 (by omega) (by omega)
  exact ⟨r, e1, e2, fun h => e3 (by omega)⟩
end Go.Proofs.Ytdjhclgkkklajaa.Q

namespace Go.Proofs.Ytdjhclgkkklajaa.P
open Go.RowKit Go.Proofs.YtdjhclgkkklajaaW.PrintWords Go.Proofs.YtdjhclgkkklajaaW.PrintLast Go.Proofs.YtdjhclgkkklajaaW.PrintMore
attribute [local go_sem] max2_int min2_int max_two min_two max_three min_three max_four min_four   -- for this text's walks alone
set_option linter.unusedVariables false
set_option linter.unusedSimpArgs false

/-! ### spec_l03Bytes: function 133 -/
mutual
def spec_l03Bytes.l0 : Nat → ByteArray → Int → List (S43) → List (S139) → Option (ByteArray)
 | 0, _, _, _, _ => none
 | k + 1, x3, x4, x820000, x820001 => if x4 < (x820001.length : Int) then (if 0 ≤ x4 then (if (rd_T139 x820001 x4).f1 = true then (spec_l03Bytes.j1 k x3 x4 1 x820000 x820001 ((rd_T139 x820001 x4).f0.f0) ((rd_T139 x820001 x4).f0.f1) ((rd_T139 x820001 x4).f1) ((rd_T139 x820001 x4).f2)) else (spec_l03Bytes.j1 k x3 x4 0 x820000 x820001 ((rd_T139 x820001 x4).f0.f0) ((rd_T139 x820001 x4).f0.f1) ((rd_T139 x820001 x4).f1) ((rd_T139 x820001 x4).f2))) else (none)) else (some x3)
def spec_l03Bytes.j1 : Nat → ByteArray → Int → Int → List (S43) → List (S139) → Int → Int → Bool → ByteArray → Option (ByteArray)
 | 0, _, _, _, _, _, _, _, _, _ => none
 | k + 1, x3, x4, x6, x820000, x820001, x824000, x824001, x824002, x824003 => (spec_PutNum.f k x824000).bind fun t824 => (if x3.size + t824.size ≤ 9223372036854775807 then ((spec_PutNum.f k x824001).bind fun t825 => (if (x3.size + t824.size) + t825.size ≤ 9223372036854775807 then ((spec_PutNum.f k x6).bind fun t826 => (if ((x3.size + t824.size) + t825.size) + t826.size ≤ 9223372036854775807 then ((spec_PutText.f k x824003).bind fun t827 => (if (((x3.size + t824.size) + t825.size) + t826.size) + t827.size ≤ 9223372036854775807 then (spec_l03Bytes.l0 k ((((x3 ++ t824) ++ t825) ++ t826) ++ t827) (wrap64 (x4 + 1)) x820000 x820001) else (none))) else (none))) else (none))) else (none))
end
def spec_l03Bytes.f (k : Nat) (l0_0 : List (S43)) (l0_1 : List (S139)) : Option (ByteArray) := (spec_l02Bytes.f k l0_0).bind fun t820 => ((spec_PutNum.f k (l0_1.length : Int)).bind fun t821 => (if t820.size + t821.size ≤ 9223372036854775807 then (spec_l03Bytes.l0 k (t820 ++ t821) 0 l0_0 l0_1) else (none)))
theorem spec_l03Bytes.mono_l : ∀ k, (∀ y0 y1 y2 y3, LeO (spec_l03Bytes.l0 k y0 y1 y2 y3) (spec_l03Bytes.l0 (k + 1) y0 y1 y2 y3)) ∧ (∀ y0 y1 y2 y3 y4 y5 y6 y7 y8, LeO (spec_l03Bytes.j1 k y0 y1 y2 y3 y4 y5 y6 y7 y8) (spec_l03Bytes.j1 (k + 1) y0 y1 y2 y3 y4 y5 y6 y7 y8))
 | 0 => ⟨fun _ _ _ _ r h => by simp [spec_l03Bytes.l0] at h, fun _ _ _ _ _ _ _ _ _ r h => by simp [spec_l03Bytes.j1] at h⟩
 | k + 1 => by
  obtain ⟨ih0, ih1⟩ := spec_l03Bytes.mono_l k
  refine ⟨?_, ?_⟩
  ·intro y0 y1 y2 y3
   unfold spec_l03Bytes.l0
   repeat' first
   | (with_reducible exact ih0 _ _ _ _)
   | (with_reducible exact ih1 _ _ _ _ _ _ _ _ _)
   | (with_reducible exact spec_PutNum.mono _ _)
   | (with_reducible exact spec_PutText.mono _ _)
   | (with_reducible exact spec_l02Bytes.mono _ _)
   | (with_reducible exact LeO.refl _)
   | (with_reducible exact LeO.none _)
   | (with_reducible refine LeO.ite ?_ ?_)
   | (with_reducible refine LeO.bind ?_ (fun _ => ?_))
   | exact ih0 _ _ _ _
   | exact ih1 _ _ _ _ _ _ _ _ _
   | exact spec_PutNum.mono _ _
   | exact spec_PutText.mono _ _
   | exact spec_l02Bytes.mono _ _
   | exact LeO.none _
   | refine LeO.ite ?_ ?_
   | refine LeO.bind ?_ (fun _ => ?_)
  ·intro y0 y1 y2 y3 y4 y5 y6 y7 y8
   unfold spec_l03Bytes.j1
   repeat' first
   | (with_reducible exact ih0 _ _ _ _)
   | (with_reducible exact ih1 _ _ _ _ _ _ _ _ _)
   | (with_reducible exact spec_PutNum.mono _ _)
   | (with_reducible exact spec_PutText.mono _ _)
   | (with_reducible exact spec_l02Bytes.mono _ _)
   | (with_reducible exact LeO.refl _)
   | (with_reducible exact LeO.none _)
   | (with_reducible refine LeO.ite ?_ ?_)
   | (with_reducible refine LeO.bind ?_ (fun _ => ?_))
   | exact ih0 _ _ _ _
   | exact ih1 _ _ _ _ _ _ _ _ _
   | exact spec_PutNum.mono _ _
   | exact spec_PutText.mono _ _
   | exact spec_l02Bytes.mono _ _
   | exact LeO.none _
   | refine LeO.ite ?_ ?_
   | refine LeO.bind ?_ (fun _ => ?_)
theorem spec_l03Bytes.mono : ∀ a0 a1 k, LeO (spec_l03Bytes.f k a0 a1) (spec_l03Bytes.f (k + 1) a0 a1) := by
 intro a0 a1 k
 obtain ⟨ih0, ih1⟩ := spec_l03Bytes.mono_l k
 unfold spec_l03Bytes.f
 repeat' first
   | (with_reducible exact ih0 _ _ _ _)
   | (with_reducible exact ih1 _ _ _ _ _ _ _ _ _)
   | (with_reducible exact spec_PutNum.mono _ _)
   | (with_reducible exact spec_PutText.mono _ _)
   | (with_reducible exact spec_l02Bytes.mono _ _)
   | (with_reducible exact LeO.refl _)
   | (with_reducible exact LeO.none _)
   | (with_reducible refine LeO.ite ?_ ?_)
   | (with_reducible refine LeO.bind ?_ (fun _ => ?_))
   | exact ih0 _ _ _ _
   | exact ih1 _ _ _ _ _ _ _ _ _
   | exact spec_PutNum.mono _ _
   | exact spec_PutText.mono _ _
   | exact spec_l02Bytes.mono _ _
   | exact LeO.none _
   | refine LeO.ite ?_ ?_
   | refine LeO.bind ?_ (fun _ => ?_)
end Go.Proofs.Ytdjhclgkkklajaa.P

namespace Go.Proofs.Ytdjhclgkkklajaa.P
open Go.RowKit Go.Proofs.YtdjhclgkkklajaaW.PrintWords Go.Proofs.YtdjhclgkkklajaaW.PrintLast Go.Proofs.YtdjhclgkkklajaaW.PrintMore
attribute [local go_sem] max2_int min2_int max_two min_two max_three min_three max_four min_four   -- for this text's walks alone
set_option linter.unusedVariables false
set_option linter.unusedSimpArgs false

/-! ### spec_SetBytes: function 71 -/
def spec_SetBytes.f (k : Nat) (l0_0 : List (S43)) (l0_1 : List (S139)) : Option (ByteArray) := (spec_SetRight.f k l0_0 l0_1).bind fun t829 => (if t829 = true then ((spec_l03Bytes.f k l0_0 l0_1).bind fun t830 => (some t830)) else (some (⟨#[]⟩ : ByteArray)))
theorem spec_SetBytes.mono : ∀ a0 a1 k, LeO (spec_SetBytes.f k a0 a1) (spec_SetBytes.f (k + 1) a0 a1) := by
 intro a0 a1 k
 unfold spec_SetBytes.f
 repeat' first
   | (with_reducible exact spec_SetRight.mono _ _ _)
   | (with_reducible exact spec_l03Bytes.mono _ _ _)
   | (with_reducible exact LeO.refl _)
   | (with_reducible exact LeO.none _)
   | (with_reducible refine LeO.ite ?_ ?_)
   | (with_reducible refine LeO.bind ?_ (fun _ => ?_))
   | exact spec_SetRight.mono _ _ _
   | exact spec_l03Bytes.mono _ _ _
   | exact LeO.none _
   | refine LeO.ite ?_ ?_
   | refine LeO.bind ?_ (fun _ => ?_)
end Go.Proofs.Ytdjhclgkkklajaa.P

namespace Go.Proofs.Ytdjhclgkkklajaa.P
open Go.RowKit Go.Proofs.YtdjhclgkkklajaaW.PrintWords Go.Proofs.YtdjhclgkkklajaaW.PrintLast Go.Proofs.YtdjhclgkkklajaaW.PrintMore
attribute [local go_sem] max2_int min2_int max_two min_two max_three min_three max_four min_four   -- for this text's walks alone
set_option linter.unusedVariables false
set_option linter.unusedSimpArgs false

/-! ### impl_truth: function 162 -/
def impl_truth.f (a0 : Bool) : Option (Int) := if a0 = true then (some 1) else (some 0)
end Go.Proofs.Ytdjhclgkkklajaa.P

namespace Go.Proofs.Ytdjhclgkkklajaa.P
open Go.RowKit Go.Proofs.YtdjhclgkkklajaaW.PrintWords Go.Proofs.YtdjhclgkkklajaaW.PrintLast Go.Proofs.YtdjhclgkkklajaaW.PrintMore
attribute [local go_sem] max2_int min2_int max_two min_two max_three min_three max_four min_four   -- for this text's walks alone
set_option linter.unusedVariables false
set_option linter.unusedSimpArgs false

/-! ### impl_Set_bytes: function 134 -/
def impl_Set_bytes.l0 : Nat → ByteArray → List (S139) → Int → Int → Option (ByteArray)
 | 0, _, _, _, _ => none
 | k + 1, x3, x15, x16, x17 => if x17 < x16 then (if 0 ≤ x17 then (if x17 < (x15.length : Int) then ((impl_PutNum.f k ((rd_T139 x15 x17).f0.f0)).bind fun t841 => ((impl_PutNum.f k ((rd_T139 x15 x17).f0.f1)).bind fun t842 => (if t841.size + t842.size ≤ 9223372036854775807 then ((impl_truth.f ((rd_T139 x15 x17).f1)).bind fun t843 => ((impl_PutNum.f k t843).bind fun t844 => (if (t841.size + t842.size) + t844.size ≤ 9223372036854775807 then ((impl_PutText.f k ((rd_T139 x15 x17).f2)).bind fun t845 => (if ((t841.size + t842.size) + t844.size) + t845.size ≤ 9223372036854775807 then (if x3.size + (((t841.size + t842.size) + t844.size) + t845.size) ≤ 9223372036854775807 then (impl_Set_bytes.l0 k (x3 ++ (((t841 ++ t842) ++ t844) ++ t845)) x15 x16 (wrap64 (x17 + 1))) else (none)) else (none))) else (none)))) else (none)))) else (none)) else (none)) else (some x3)
def impl_Set_bytes.f (k : Nat) (l0_0 : List (S43)) (l0_1 : List (S139)) : Option (ByteArray) := (impl_seenBytes.f k l0_0).bind fun t837 => ((impl_PutNum.f k (l0_1.length : Int)).bind fun t838 => (if t837.size + t838.size ≤ 9223372036854775807 then (impl_Set_bytes.l0 k (t837 ++ t838) l0_1 (l0_1.length : Int) 0) else (none)))
theorem impl_Set_bytes.mono_l : ∀ k, (∀ y0 y1 y2 y3, LeO (impl_Set_bytes.l0 k y0 y1 y2 y3) (impl_Set_bytes.l0 (k + 1) y0 y1 y2 y3))
 | 0 => fun _ _ _ _ r h => by simp [impl_Set_bytes.l0] at h
 | k + 1 => by
  have ih0 := impl_Set_bytes.mono_l k
  ·intro y0 y1 y2 y3
   unfold impl_Set_bytes.l0
   repeat' first
   | (with_reducible exact ih0 _ _ _ _)
   | (with_reducible exact impl_PutNum.mono _ _)
   | (with_reducible exact impl_PutText.mono _ _)
   | (with_reducible exact impl_seenBytes.mono _ _)
   | (with_reducible exact LeO.refl _)
   | (with_reducible exact LeO.none _)
   | (with_reducible refine LeO.ite ?_ ?_)
   | (with_reducible refine LeO.bind ?_ (fun _ => ?_))
   | exact ih0 _ _ _ _
   | exact impl_PutNum.mono _ _
   | exact impl_PutText.mono _ _
   | exact impl_seenBytes.mono _ _
   | exact LeO.none _
   | refine LeO.ite ?_ ?_
   | refine LeO.bind ?_ (fun _ => ?_)
theorem impl_Set_bytes.mono : ∀ a0 a1 k, LeO (impl_Set_bytes.f k a0 a1) (impl_Set_bytes.f (k + 1) a0 a1) := by
 intro a0 a1 k
 have ih0 := impl_Set_bytes.mono_l k
 unfold impl_Set_bytes.f
 repeat' first
   | (with_reducible exact ih0 _ _ _ _)
   | (with_reducible exact impl_PutNum.mono _ _)
   | (with_reducible exact impl_PutText.mono _ _)
   | (with_reducible exact impl_seenBytes.mono _ _)
   | (with_reducible exact LeO.refl _)
   | (with_reducible exact LeO.none _)
   | (with_reducible refine LeO.ite ?_ ?_)
   | (with_reducible refine LeO.bind ?_ (fun _ => ?_))
   | exact ih0 _ _ _ _
   | exact impl_PutNum.mono _ _
   | exact impl_PutText.mono _ _
   | exact impl_seenBytes.mono _ _
   | exact LeO.none _
   | refine LeO.ite ?_ ?_
   | refine LeO.bind ?_ (fun _ => ?_)
end Go.Proofs.Ytdjhclgkkklajaa.P

namespace Go.Proofs.Ytdjhclgkkklajaa.P
open Go.RowKit Go.Proofs.YtdjhclgkkklajaaW.PrintWords Go.Proofs.YtdjhclgkkklajaaW.PrintLast Go.Proofs.YtdjhclgkkklajaaW.PrintMore
attribute [local go_sem] max2_int min2_int max_two min_two max_three min_three max_four min_four   -- for this text's walks alone
set_option linter.unusedVariables false
set_option linter.unusedSimpArgs false

/-! ### impl_SetBytes: function 72 -/
def impl_SetBytes.f (k : Nat) (l0_0 : List (S43)) (l0_1 : List (S139)) : Option (ByteArray) := (impl_SetRight.f k l0_0 l0_1).bind fun t847 => (if t847 = true then ((impl_Set_bytes.f k l0_0 l0_1).bind fun t848 => (some t848)) else (some (⟨#[]⟩ : ByteArray)))
theorem impl_SetBytes.mono : ∀ a0 a1 k, LeO (impl_SetBytes.f k a0 a1) (impl_SetBytes.f (k + 1) a0 a1) := by
 intro a0 a1 k
 unfold impl_SetBytes.f
 repeat' first
   | (with_reducible exact impl_SetRight.mono _ _ _)
   | (with_reducible exact impl_Set_bytes.mono _ _ _)
   | (with_reducible exact LeO.refl _)
   | (with_reducible exact LeO.none _)
   | (with_reducible refine LeO.ite ?_ ?_)
   | (with_reducible refine LeO.bind ?_ (fun _ => ?_))
   | exact impl_SetRight.mono _ _ _
   | exact impl_Set_bytes.mono _ _ _
   | exact LeO.none _
   | refine LeO.ite ?_ ?_
   | refine LeO.bind ?_ (fun _ => ?_)
end Go.Proofs.Ytdjhclgkkklajaa.P

namespace Go.Proofs.Ytdjhclgkkklajaa.Q
open Go.RowKit Go.Proofs.Ytdjhclgkkklajaa.P Go.Proofs.YtdjhclgkkklajaaW.PrintWords Go.Proofs.YtdjhclgkkklajaaW.PrintMore

def isAt (x : Sib) (a b : Int) : Bool := x.f0.f0 == a && x.f0.f1 == b
/-- The place of a dot, from place i on; -1 if it's nowhere. -/
def sibAt (a b : Int) : Int → List Sib → Int
  | _, [] => -1
  | i, x :: r => if isAt x a b = true then i else sibAt a b (i + 1) r
theorem l03At_l0 (l : List Sib) (a b : Int) (hl : l.length ≤ 4611686018427387904) : ∀ (s : List Sib) (i : Nat), l.drop i = s → i ≤ l.length → Ev (fun k => spec_l03At.l0 k l (i : Int) a b) (sibAt a b (i : Int) s)
  | [], i, h, hi => by
    have := dropNil' h hi
    refine Ev.step (f := fun _ => some (-1)) (fun k => ?_) (Ev.now _)
    simp only [spec_l03At.l0]
    rw [if_neg (by omega)]
  | x :: s, i, h, hi => by
    obtain ⟨h1, h2, h3⟩ := dropCons h z139
    have hr : rd_T139 l (i : Int) = x := by simpa [rd_T139] using h2
    refine Ev.step (f := fun k => if isAt x a b = true then some (i : Int) else spec_l03At.l0 k l ((i + 1 : Nat) : Int) a b) (fun k => ?_) ?_
    · simp only [spec_l03At.l0, hr, isAt]
      rw [if_pos (by omega), if_pos (by omega), w64 (by omega) (by omega)]
      rfl
    · simp only [sibAt]
      refine evIte (fun h => ?_) (fun h => ?_)
      · rw [if_pos h]; exact Ev.now _
      · rw [if_neg h]; exact l03At_l0 l a b hl s (i + 1) h3 (by omega)
theorem l03At_ev (l : List Sib) (a b : Int) (hl : l.length ≤ 4611686018427387904) : Ev (fun k => spec_l03At.f k l a b) (sibAt a b 0 l) := l03At_l0 l a b hl l 0 rfl (by omega)
def setHas (v : List Mark) (l : List Sib) (a b : Int) : Bool := setOk v l && decide (sibAt a b 0 l ≥ 0)
theorem spec_SetHas_ev (v : List Mark) (l : List Sib) (a b : Int) (hv : v.length ≤ 4611686018427387904) (hl : l.length ≤ 1048576) : Ev (fun k => spec_SetHas.f k v l a b) (setHas v l a b) := by
  unfold spec_SetHas.f setHas
  refine Ev.bind (spec_SetRight_ev v l hv hl) ?_
  cases setOk v l with
  | false => exact evNeg (by simp) (Ev.now _)
  | true => exact evPos rfl (Ev.bind (l03At_ev l a b (by omega)) (Ev.now _))
theorem indexSib_l0 (l : List Sib) (a b : Int) (hl : l.length ≤ 4611686018427387904) : ∀ (s : List Sib) (i : Nat), l.drop i = s → i ≤ l.length → Ev (fun k => slices_IndexFunc_impl_Sib_impl_Sib_impl_Set_sib_1.l0 k l (l.length : Int) (i : Int) a b) (sibAt a b (i : Int) s)
  | [], i, h, hi => by
    have := dropNil' h hi
    refine Ev.step (f := fun _ => some (-1)) (fun k => ?_) (Ev.now _)
    simp only [slices_IndexFunc_impl_Sib_impl_Sib_impl_Set_sib_1.l0]
    rw [if_neg (by omega)]
  | x :: s, i, h, hi => by
    obtain ⟨h1, h2, h3⟩ := dropCons h z139
    have hr : rd_T139 l (i : Int) = x := by simpa [rd_T139] using h2
    refine Ev.step (f := fun k => if isAt x a b = true then some (i : Int) else slices_IndexFunc_impl_Sib_impl_Sib_impl_Set_sib_1.l0 k l (l.length : Int) ((i + 1 : Nat) : Int) a b) (fun k => ?_) ?_
    · simp only [slices_IndexFunc_impl_Sib_impl_Sib_impl_Set_sib_1.l0, hr, impl_Set_sib_1_cap.f, Option.bind_some, isAt]
      rw [if_pos (by omega), if_pos (by omega), if_pos (by omega), w64 (by omega) (by omega)]
      rfl
    · simp only [sibAt]
      refine evIte (fun h => ?_) (fun h => ?_)
      · rw [if_pos h]; exact Ev.now _
      · rw [if_neg h]; exact indexSib_l0 l a b hl s (i + 1) h3 (by omega)
theorem Set_sib_ev (v : List Mark) (l : List Sib) (a b : Int) (hl : l.length ≤ 4611686018427387904) : Ev (fun k => impl_Set_sib.f k v l a b) (sibAt a b 0 l) :=
  Ev.bind (indexSib_l0 l a b hl l 0 rfl (by omega)) (Ev.now _)
theorem impl_SetHas_ev (v : List Mark) (l : List Sib) (a b : Int) (hv : v.length ≤ 4611686018427387904) (hl : l.length ≤ 1048576) : Ev (fun k => impl_SetHas.f k v l a b) (setHas v l a b) := by
  unfold impl_SetHas.f setHas
  refine Ev.bind (impl_SetRight_ev v l hv hl) ?_
  cases setOk v l with
  | false => exact evNeg (by simp) (Ev.now _)
  | true => exact evPos rfl (Ev.bind (Set_sib_ev v l a b (by omega)) (Ev.now _))
end Go.Proofs.Ytdjhclgkkklajaa.Q

namespace Go.Proofs.Ytdjhclgkkklajaa.Pure
open Go.RowKit Go.Proofs.Ytdjhclgkkklajaa.P Go.Proofs.Ytdjhclgkkklajaa.Q Go.Proofs.YtdjhclgkkklajaaW.PrintWords Go.Proofs.YtdjhclgkkklajaaW.PrintMore
theorem FnExactSetHas : laws_FnExactSetHas.Pure := by
  intro x m hx hm0
  obtain ⟨r, e, hr1, hr2⟩ := szSet_small hx
  refine Ev.rounds ?_
  unfold laws_FnExactSetHas.f
  refine Ev.bind e (evIte (fun _ => Ev.now _) (fun h => ?_))
  obtain ⟨g1, g2, _⟩ := hr2 h
  have hm : (x.f0.map toMark).length ≤ 1048576 := by simpa using g1
  have hs : (x.f1.map toSib).length ≤ 1048576 := by simpa using g2
  refine Ev.bind (toSet_ev _ _ g1 g2) (evBind1 rfl (Ev.bind (spec_SetHas_ev (x.f0.map toMark) (x.f1.map toSib) _ _ (by omega) hs) (Ev.bind (toSet_ev _ _ g1 g2) (evBind1 rfl (Ev.bind (impl_SetHas_ev (x.f0.map toMark) (x.f1.map toSib) _ _ (by omega) hs) (evNeg (by simp) ?_))))))
  exact Ev.bind (toSet_ev _ _ g1 g2) (Ev.bind (eqSet_ev (x.f0.map toMark) (x.f1.map toSib) (by omega) (by omega)) (evPos rfl (Ev.now _)))
end Go.Proofs.Ytdjhclgkkklajaa.Pure

namespace Go.Proofs.Ytdjhclgkkklajaa.fnExactSetHas
open Go.ChangeShapes Go.WideShapes Go.ChangeAt Go.RowKit Go.Proofs.Ytdjhclgkkklajaa.P Go.Proofs.Ytdjhclgkkklajaa.RO Go.Proofs.Ytdjhclgkkklajaa.Open Go.Proofs.YtdjhclgkkklajaaW.PrintWords
open Go.ChangeMaps (open_string shut_string)
set_option linter.unusedVariables false
theorem own : ownKnob Try.prog.godebug = none := by kernel_rfl
theorem laidOut : laidOutB Try.prog = true := by kernel_rfl
set_option maxRecDepth 100000 in
theorem lifted (os : Os) (started : os.Started) (H : Type) (enc : TypeId × Value → H) :
    ReturnsInHanded {} Try.checked os 9 .any (Rows.fnExactSetHasSpec.pre6 enc Try.prog Try.f9 Rows.fnExactSetHasRow.domain false) (Rows.fnExactSetHasSpec.post enc Try.prog Try.f9 false true false false) := by
  refine returnsInHanded_of_change_sized (C := Try.checked) own started (by kernel_rfl) Try.func9
    (ChangeSpec.witness6 (enc := enc) (C := Try.checked) false ⟨#[], #[.agg #[.slice none 0 0, .slice none 0 0], .agg #[.int .i64 0, .int .i64 0]], []⟩ 8 (by kernel_rfl) (by kernel_rfl) (by kernel_rfl) (by kernel_rfl)) ?_
  intro W base args ds gs before hval0 hW hcnd hsz0 _
  have hsz : (DataW.weightsEach Try.prog (Try.f9.params.toList ++ Rows.fnExactSetHasSpec.plain.varTypes Try.prog) (ds ++ gs)).all (· ≤ reachBytes) = true := hsz0
  have hval : ∀ (j : Nat) t v, Try.f9.params[j]? = some t → args[j]? = some v → Value.okWide Try.prog W .any base t v := hval0
  have hW' := hW
  obtain ⟨p, q, hA0, hV, rfl, hfz, hnd⟩ := hW
  have hA : DataW.TrodAll enc Try.prog W 0 (fun _ => true) true Try.f9.params.toList args.toList ds p := hA0
  rw [Try.params9] at hA hval hsz
  obtain ⟨v0, vs0, d0, ds0, p0, q0, hargs, rfl, rfl, h0, r0⟩ := trodAll_cons hA
  obtain ⟨v1, vs1, d1, ds1, p1, q1, rfl, rfl, rfl, h1, r1⟩ := trodAll_cons r0
  obtain ⟨rfl, rfl, rfl⟩ := trodAll_nil r1
  obtain rfl : args = #[v0, v1] := by cases args; simp_all
  obtain ⟨rfl, rfl⟩ := trodVars_none hV
  have k0 := h0
  have lt0 : ∀ x ∈ p0, x.block < W.heap.size := by obtain ⟨m, hm⟩ := k0; exact DataW.trod_lt m _ _ _ hm
  obtain ⟨cs0, rfl, _⟩ := okWide_struct Try.underlying70 (hval 0 70 v0 rfl rfl)
  obtain ⟨fuel0, hf0⟩ := h0
  obtain ⟨x0, hk0, w0⟩ := op_T70 hf0
  obtain ⟨A0_0, c0_0, A0_1, c0_1, hcs0, hl0_0, hr0_0, hl0_1, hr0_1⟩ := k70_open hk0
  obtain rfl : cs0 = #[.slice A0_0 x0.f0.length c0_0, .slice A0_1 x0.f1.length c0_1] := Array.toList_inj.1 hcs0
  have k1 := h1
  have lt1 : ∀ x ∈ p1, x.block < W.heap.size := by obtain ⟨m, hm⟩ := k1; exact DataW.trod_lt m _ _ _ hm
  obtain ⟨cs1, rfl, _⟩ := okWide_struct Try.underlying36 (hval 1 36 v1 rfl rfl)
  obtain ⟨fuel1, hf1⟩ := h1
  obtain ⟨x1, hk1, w1⟩ := op_T36 hf1
  have hcs1 := k36_open hk1
  obtain rfl : cs1 = #[.int .i64 x1.f0, .int .i64 x1.f1] := Array.toList_inj.1 hcs1
  clear hA0 hval0 hsz0 hsz
  obtain ⟨k, hp⟩ := Pure.FnExactSetHas x0 x1 w0 w1
  refine (P.laws_FnExactSetHas.calls k _ _ x0.f0 _ _ x0.f1 x1.f0 x1.f1 true W hr0_0 hl0_0 hr0_1 hl0_1  hp).mono fun e W' ⟨he, bel0⟩ => ?_
  have bel : Below W.heap.size W W' := bel0
  subst he
  exact ⟨_, rfl, _, _, _, [], _, [], hW', trodAll_mk1 (shut_bool Try.underlying4 _), (trodAll_cons_mk (Below.trod laidOut (by kernel_rfl) (of_decide_eq_true (by kernel_rfl)) k0 bel lt0) (trodAll_cons_mk (Below.trod laidOut (by kernel_rfl) (of_decide_eq_true (by kernel_rfl)) k1 bel lt1) trodAll_mk0)), rfl, bel.frame _, fun h => by cases h⟩
theorem over : Rows.fnExactSetHasRow.holds Try.pinned (OpenSpec.ofChange Rows.fnExactSetHasSpec) :=
  OpenClaim.holds_of_wide 9 Try.f9 rfl rfl rfl rfl rfl rfl rfl ⟨rfl, rfl, rfl, rfl, rfl⟩ rfl rfl rfl rfl rfl (by kernel_rfl) Try.func9 (by kernel_rfl)
    (of_decide_eq_true (by kernel_rfl)) (by unfold Func.isWrapper; first | (rw [if_pos (by decide +kernel)]; kernel_rfl) | (rw [if_neg (by decide +kernel)]; exact ⟨rfl, rfl⟩))
    (fun os started H enc _ => lifted os started H enc)
theorem proved : Rows.FnExactSetHasSaid := over
#print axioms proved
end Go.Proofs.Ytdjhclgkkklajaa.fnExactSetHas
namespace Go.Proofs.Ytdjhclgkkklajaa
/-- The row, under a short name, for the claim. -/
theorem fnExactSetHas_holds : Rows.FnExactSetHasSaid := fnExactSetHas.proved
end Go.Proofs.Ytdjhclgkkklajaa
