/- For every text the program's NameRight and the reference's return the same answer. No condition. (Part 2 of 2: written by programs of this workplace and by hand, merged.) -/
import Derived.Test.YtdimhflpjjiegaaMFnExactNameRighta
import Derived.Test.YtdimhflpjjiegaaRows
import Derived.WalkKit
import Derived.ProofKit
import Derived.OpenShut
import Derived.ShutString
import Derived.ChangeOld
import Derived.Below
import Derived.SizedLaws
set_option linter.unusedVariables false
set_option linter.unusedSimpArgs false

namespace Go.Proofs.Ytdimhflpjjiegaa.Q
open Go.RowKit Go.Proofs.Ytdimhflpjjiegaa.P Go.Proofs.YtdimhflpjjiegaaW.PrintWords Go.Proofs.YtdimhflpjjiegaaW.PrintMore

def lowCh (c : Int) : Bool := decide (97 ≤ c) && decide (c ≤ 122)
def nameCh (c : Int) : Bool := lowCh c || (decide (48 ≤ c) && decide (c ≤ 57)) || decide (c = 95)
def nameList : List Int → Bool
  | [] => false
  | c :: r => lowCh c && r.all nameCh
def nameOk (s : ByteArray) : Bool := decide (s.size ≤ 20) && nameList (bytesOf s)
theorem bt_of {s : ByteArray} {i : Nat} {c : Int} (h : (bytesOf s).getD i 0 = c) : bt s (i : Int) = c := by
  rw [← rd_bytesOf]; simpa [rd] using h
theorem spec_name_round (s : ByteArray) (k i : Nat) (hi : i < s.size) (h1 : 1 ≤ i) (hs : s.size ≤ 1048576) :
    spec_NameRight.l0 (k + 1) s (i : Int) = if nameCh (bt s i) then spec_NameRight.l0 k s ((i + 1 : Nat) : Int) else some false := by
  simp only [spec_NameRight.l0]
  rw [if_pos (by omega), if_pos (by omega), w64 (by omega) (by omega)]
  have h0 : ¬ ((i : Int) = 0) := by omega
  simp only [if_neg h0, nameCh, lowCh]
  generalize bt s i = c
  by_cases h1 : 97 ≤ c <;> by_cases h2 : c ≤ 122 <;> by_cases h3 : 48 ≤ c <;> by_cases h4 : c ≤ 57 <;> by_cases h5 : c = 95 <;> first | (exfalso; omega) | simp [ge_iff_le, h1, h2, h3, h4, h5]
theorem spec_name_first (s : ByteArray) (k : Nat) (hi : 0 < s.size) (hs : s.size ≤ 1048576) :
    spec_NameRight.l0 (k + 1) s 0 = if lowCh (bt s 0) then spec_NameRight.l0 k s 1 else some false := by
  simp only [spec_NameRight.l0]
  rw [if_pos (by omega), if_pos (by omega), w64 (by omega) (by omega)]
  simp only [if_true, lowCh, Int.zero_add]
  generalize bt s 0 = c
  by_cases h1 : 97 ≤ c <;> by_cases h2 : c ≤ 122 <;> first | (exfalso; omega) | simp [ge_iff_le, h1, h2]
theorem spec_name_l0 (s : ByteArray) (hs : s.size ≤ 1048576) : ∀ (r : List Int) (i : Nat), (bytesOf s).drop i = r → i ≤ s.size → 1 ≤ i → Ev (fun k => spec_NameRight.l0 k s (i : Int)) (r.all nameCh)
  | [], i, h, hi, h1 => by
    have := dropNil h
    rw [bytesOf_length] at this
    refine Ev.step (f := fun _ => some true) (fun k => ?_) (Ev.now _)
    simp only [spec_NameRight.l0]
    rw [if_neg (by omega)]
  | c :: r, i, h, hi, h1 => by
    obtain ⟨g1, g2, g3⟩ := dropCons h 0
    rw [bytesOf_length] at g1
    have hb := bt_of g2
    refine Ev.step (fun k => spec_name_round s k i g1 h1 hs) ?_
    rw [hb]
    refine evIte (fun hc => ?_) (fun hc => ?_)
    · simp only [List.all_cons, hc, Bool.true_and]; exact spec_name_l0 s hs r (i + 1) g3 (by omega) (by omega)
    · simp only [List.all_cons, Bool.eq_false_iff.mpr hc, Bool.false_and]; exact Ev.now _
theorem spec_NameRight_ev (s : ByteArray) (hs : s.size ≤ 1048576) : Ev (fun k => spec_NameRight.f k s) (nameOk s) := by
  have hl := bytesOf_length s
  unfold spec_NameRight.f nameOk
  refine evIte (fun h => ?_) (fun h => ?_)
  · refine Ev.step (f := fun _ => some false) (fun k => by simp only [spec_NameRight.j0]; rw [if_pos trivial]) ?_
    have : bytesOf s = [] := by rw [← List.length_eq_zero_iff, hl]; omega
    simp only [this, nameList, Bool.and_false]
    exact Ev.now _
  · by_cases h20 : (s.size : Int) > 20
    · refine Ev.step (f := fun _ => some false) (fun k => by simp only [spec_NameRight.j0]; rw [if_pos (by simpa using h20)]) ?_
      have : ¬ s.size ≤ 20 := by omega
      simp only [this, decide_false, Bool.false_and]
      exact Ev.now _
    · refine Ev.step (fun k => by simp only [spec_NameRight.j0]; rw [if_neg (by simpa using h20)]) ?_
      have h20' : s.size ≤ 20 := by omega
      simp only [h20', decide_true, Bool.true_and]
      cases hb : bytesOf s with
      | nil => rw [hb] at hl; simp at hl; omega
      | cons c r =>
        have hc : bt s ((0 : Nat) : Int) = c := bt_of (by rw [hb]; rfl)
        refine Ev.step (fun k => spec_name_first s k (by omega) hs) ?_
        rw [show (0 : Int) = ((0 : Nat) : Int) from rfl, hc]
        refine evIte (fun h1 => ?_) (fun h1 => ?_)
        · simp only [nameList, h1, Bool.true_and]
          exact spec_name_l0 s hs r 1 (by rw [hb]; rfl) (by omega) (by omega)
        · simp only [nameList, Bool.eq_false_iff.mpr h1, Bool.false_and]; exact Ev.now _
theorem impl_name_round (s : ByteArray) (k i : Nat) (hi : i < s.size) (hs : s.size ≤ 140737488351232) :
    impl_NameRight.l0 (k + 1) s (s.size : Int) (i : Int) = if nameCh (bt s i) then impl_NameRight.l0 k s (s.size : Int) ((i + 1 : Nat) : Int) else some false := by
  simp only [impl_NameRight.l0]
  rw [if_pos (by omega), if_pos (by omega), if_pos (by omega), w64 (by omega) (by omega)]
  simp only [nameCh, lowCh]
  generalize bt s i = c
  by_cases h1 : 97 ≤ c <;> by_cases h2 : c ≤ 122 <;> by_cases h3 : 48 ≤ c <;> by_cases h4 : c ≤ 57 <;> by_cases h5 : c = 95 <;> first | (exfalso; omega) | simp [ge_iff_le, h1, h2, h3, h4, h5]
theorem impl_name_l0 (s : ByteArray) (hs : s.size ≤ 140737488351232) : ∀ (r : List Int) (i : Nat), (bytesOf s).drop i = r → i ≤ s.size → Ev (fun k => impl_NameRight.l0 k s (s.size : Int) (i : Int)) (r.all nameCh)
  | [], i, h, hi => by
    have := dropNil h
    rw [bytesOf_length] at this
    refine Ev.step (f := fun _ => some true) (fun k => ?_) (Ev.now _)
    simp only [impl_NameRight.l0]
    rw [if_neg (by omega)]
  | c :: r, i, h, hi => by
    obtain ⟨g1, g2, g3⟩ := dropCons h 0
    rw [bytesOf_length] at g1
    have hb := bt_of g2
    refine Ev.step (fun k => impl_name_round s k i g1 hs) ?_
    rw [hb]
    refine evIte (fun hc => ?_) (fun hc => ?_)
    · simp only [List.all_cons, hc, Bool.true_and]; exact impl_name_l0 s hs r (i + 1) g3 (by omega)
    · simp only [List.all_cons, Bool.eq_false_iff.mpr hc, Bool.false_and]; exact Ev.now _
theorem low_name {c : Int} (h : lowCh c = true) : nameCh c = true := by simp [nameCh, h]
theorem impl_NameRight_ev (s : ByteArray) (hs : s.size ≤ 140737488351232) : Ev (fun k => impl_NameRight.f k s) (nameOk s) := by
  have hl := bytesOf_length s
  unfold impl_NameRight.f nameOk impl_size.f
  refine evBind1 rfl (evBind1 (within_is _ _ _) ?_)
  refine evIte (fun h => ?_) (fun h => ?_)
  · have hw : 1 ≤ (s.size : Int) ∧ (s.size : Int) ≤ 20 := by simpa [isWithin] using h
    refine evPos (by omega) ?_
    have h20' : s.size ≤ 20 := by omega
    simp only [h20', decide_true, Bool.true_and]
    cases hb : bytesOf s with
    | nil => rw [hb] at hl; simp at hl; omega
    | cons c r =>
      have hc : bt s ((0 : Nat) : Int) = c := bt_of (by rw [hb]; rfl)
      have hc' : bt s 0 = c := hc
      rw [hc']
      refine evIte (fun h1 => ?_) (fun h1 => ?_)
      · refine Ev.step (f := fun _ => some false) (fun k => by simp only [impl_NameRight.j0]; rw [if_pos trivial]) ?_
        have : lowCh c = false := by simp [lowCh]; omega
        simp only [nameList, this, Bool.false_and]; exact Ev.now _
      · by_cases h2 : c > 122
        · refine Ev.step (f := fun _ => some false) (fun k => by simp only [impl_NameRight.j0]; rw [if_pos (by simpa using h2)]) ?_
          have : lowCh c = false := by simp [lowCh]; omega
          simp only [nameList, this, Bool.false_and]; exact Ev.now _
        · refine Ev.step (fun k => by simp only [impl_NameRight.j0]; rw [if_neg (by simpa using h2)]) ?_
          have hlow : lowCh c = true := by simp [lowCh]; omega
          simp only [nameList, hlow, Bool.true_and]
          have := impl_name_l0 s hs (c :: r) 0 (by rw [hb]; rfl) (by omega)
          simpa [low_name hlow] using this
  · refine Ev.step (f := fun _ => some false) (fun k => by simp only [impl_NameRight.j0]; rw [if_pos trivial]) ?_
    have hw : isWithin (s.size : Int) 1 20 = false := by simpa using h
    have : (decide (s.size ≤ 20) && nameList (bytesOf s)) = false := by
      by_cases h20 : s.size ≤ 20
      · have : bytesOf s = [] := by
          rw [← List.length_eq_zero_iff, hl]
          simp [isWithin] at hw; omega
        simp [this, nameList]
      · simp [h20]
    rw [this]
    exact Ev.now _
end Go.Proofs.Ytdimhflpjjiegaa.Q

namespace Go.Proofs.Ytdimhflpjjiegaa.Pure
open Go.RowKit Go.Proofs.Ytdimhflpjjiegaa.P Go.Proofs.Ytdimhflpjjiegaa.Q Go.Proofs.YtdimhflpjjiegaaW.PrintWords Go.Proofs.YtdimhflpjjiegaaW.PrintMore
theorem FnExactNameRight : laws_FnExactNameRight.Pure := by
  intro s hs
  refine Ev.rounds ?_
  unfold laws_FnExactNameRight.f
  refine evIte (fun _ => Ev.now _) (fun h => Ev.bind (spec_NameRight_ev s (by omega)) (Ev.bind (impl_NameRight_ev s (by omega)) (evNeg (by simp) (Ev.now _))))
end Go.Proofs.Ytdimhflpjjiegaa.Pure

namespace Go.Proofs.Ytdimhflpjjiegaa.fnExactNameRight
open Go.ChangeShapes Go.WideShapes Go.ChangeAt Go.RowKit
open Go.ChangeMaps (open_string shut_string)
set_option linter.unusedVariables false
theorem own : ownKnob Try.prog.godebug = none := by kernel_rfl
set_option maxRecDepth 100000 in
theorem lifted (os : Os) (started : os.Started) (H : Type) (enc : TypeId × Value → H) :
    ReturnsInHanded {} Try.checked os 5 .any (Rows.fnExactNameRightSpec.pre6 enc Try.prog Try.f5 Rows.fnExactNameRightRow.domain false) (Rows.fnExactNameRightSpec.post enc Try.prog Try.f5 false true false false) := by
  refine returnsInHanded_of_change_sized (C := Try.checked) own started (by kernel_rfl) Try.func5
    (ChangeSpec.witness6 (enc := enc) (C := Try.checked) false ⟨#[], #[.string ByteArray.empty], []⟩ 8 (by kernel_rfl) (by kernel_rfl) (by kernel_rfl) (by kernel_rfl)) ?_
  intro W base args ds gs before hval0 hW hcnd hsz0 _
  have hsz : (DataW.weightsEach Try.prog (Try.f5.params.toList ++ Rows.fnExactNameRightSpec.plain.varTypes Try.prog) (ds ++ gs)).all (· ≤ reachBytes) = true := hsz0
  have hval : ∀ (j : Nat) t v, Try.f5.params[j]? = some t → args[j]? = some v → Value.okWide Try.prog W .any base t v := hval0
  have hW' := hW
  obtain ⟨p, q, hA0, hV, rfl, hfz, hnd⟩ := hW
  have hA : DataW.TrodAll enc Try.prog W 0 (fun _ => true) true Try.f5.params.toList args.toList ds p := hA0
  rw [Try.params5] at hA hval hsz
  obtain ⟨v0, vs0, d0, ds0, p0, q0, hargs, rfl, rfl, h0, r0⟩ := trodAll_cons hA
  obtain ⟨rfl, rfl, rfl⟩ := trodAll_nil r0
  obtain rfl : args = #[v0] := by cases args; simp_all
  obtain ⟨rfl, rfl⟩ := trodVars_none hV
  obtain ⟨a0, rfl, rfl, rfl, y0⟩ := open_string Try.underlying9 (hval 0 9 v0 rfl rfl) h0
  have w0 : a0.size ≤ 140737488351232 := by
    have z := sized_string hsz (j := 0) (t := 9) rfl rfl
    rw [Array.length_toList] at z
    exact z
  clear hA0 hval0 hsz0 hsz
  refine (P.laws_FnExactNameRight.walk Pure.FnExactNameRight a0 W w0).mono fun e W' ⟨he, bel⟩ => ?_
  subst he
  exact ⟨_, rfl, _, _, _, [], _, [], hW', trodAll_mk1 (shut_bool Try.underlying4 _), (trodAll_cons_mk (shut_string Try.underlying9 y0) trodAll_mk0), rfl, bel.frame _, fun h => by cases h⟩
theorem over : Rows.fnExactNameRightRow.holds Try.pinned (OpenSpec.ofChange Rows.fnExactNameRightSpec) :=
  OpenClaim.holds_of_wide 5 Try.f5 rfl rfl rfl rfl rfl rfl rfl ⟨rfl, rfl, rfl, rfl, rfl⟩ rfl rfl rfl rfl rfl (by kernel_rfl) Try.func5 (by kernel_rfl)
    (of_decide_eq_true (by kernel_rfl)) (by unfold Func.isWrapper; first | (rw [if_pos (by decide +kernel)]; kernel_rfl) | (rw [if_neg (by decide +kernel)]; exact ⟨rfl, rfl⟩))
    (fun os started H enc _ => lifted os started H enc)
theorem proved : Rows.FnExactNameRightSaid := over
#print axioms proved
end Go.Proofs.Ytdimhflpjjiegaa.fnExactNameRight
namespace Go.Proofs.Ytdimhflpjjiegaa
/-- The row, under a short name, for the claim. -/
theorem fnExactNameRight_holds : Rows.FnExactNameRightSaid := fnExactNameRight.proved
end Go.Proofs.Ytdimhflpjjiegaa
