/- For every set the program's SetBytes and the reference's return the same text, and the set stays as it was. No condition. (Part 6 of 6: written by programs of this workplace and by hand, merged.) -/
import Derived.Test.YtdjhclgkkklajaaMFnExactSetBytesa
import Derived.Test.YtdjhclgkkklajaaMFnExactSetBytese
import Derived.Test.YtdjhclgkkklajaaMFnExactSetBytesd
import Derived.Test.YtdjhclgkkklajaaMFnExactSetBytesWWords
import Derived.Test.YtdjhclgkkklajaaMFnExactSetBytesWMore
import Derived.Laws.BitsLemmas
import Derived.Test.YtdjhclgkkklajaaMFnExactSetBytesb
import Derived.Test.YtdjhclgkkklajaaMFnExactSetBytesc
import Derived.Test.YtdjhclgkkklajaaRows
import Derived.WalkKit
import Derived.ProofKit
import Derived.OpenShut
import Derived.ShutString
import Derived.ChangeOld
import Derived.Below
import Derived.SizedLaws
set_option linter.unusedVariables false
set_option linter.unusedSimpArgs false

namespace Go.Proofs.Ytdjhclgkkklajaa.P
open Go.RowKit Go.Proofs.YtdjhclgkkklajaaW.PrintWords Go.Proofs.YtdjhclgkkklajaaW.PrintLast Go.Proofs.YtdjhclgkkklajaaW.PrintMore
attribute [local go_sem] max2_int min2_int max_two min_two max_three min_three max_four min_four   -- for this text's walks alone
set_option linter.unusedVariables false
set_option linter.unusedSimpArgs false

/-! ### impl_SetBytes: function 72 -/
def impl_SetBytes.f (k : Nat) (l0_0 : List (S43)) (l0_1 : List (S139)) : Option (ByteArray) := (impl_SetRight.f k l0_0 l0_1).bind fun t847 => (if t847 = true then ((impl_Set_bytes.f k l0_0 l0_1).bind fun t848 => (some t848)) else (some (⟨#[]⟩ : ByteArray)))
theorem impl_SetBytes.mono : ∀ a0 a1 k, LeO (impl_SetBytes.f k a0 a1) (impl_SetBytes.f (k + 1) a0 a1) := by
 intro a0 a1 k
 unfold impl_SetBytes.f
 repeat' first
   | (with_reducible exact impl_SetRight.mono _ _ _)
   | (with_reducible exact impl_Set_bytes.mono _ _ _)
   | (with_reducible exact LeO.refl _)
   | (with_reducible exact LeO.none _)
   | (with_reducible refine LeO.ite ?_ ?_)
   | (with_reducible refine LeO.bind ?_ (fun _ => ?_))
   | exact impl_SetRight.mono _ _ _
   | exact impl_Set_bytes.mono _ _ _
   | exact LeO.none _
   | refine LeO.ite ?_ ?_
   | refine LeO.bind ?_ (fun _ => ?_)
set_option maxHeartbeats 8000000 in
set_option maxRecDepth 100000 in
theorem impl_SetBytes.calls (k : Nat) (A0_0 : Option Addr) (c0_0 : Nat) (l0_0 : List (S43)) (A0_1 : Option Addr) (c0_1 : Nat) (l0_1 : List (S139)) (r : ByteArray) (w : World) (hr0_0 : Kd.C k43 w A0_0 l0_0.length l0_0) (hc0_0 : l0_0.length ≤ c0_0) (hr0_1 : Kd.C k139 w A0_1 l0_1.length l0_1) (hc0_1 : l0_1.length ≤ c0_1) (h : impl_SetBytes.f k l0_0 l0_1 = some r) :
  Calls Try.prog 72 #[.agg #[.slice A0_0 l0_0.length c0_0, .slice A0_1 l0_1.length c0_1]] w fun e w' => e = .returned (.string r) ∧ Below w.heap.size w w' := by
 have hu75 := Try.underlying75
 have HR0_0 := Aside0.mk hr0_0
 have HC0_0 := Aside0.mk hc0_0
 clear hr0_0 hc0_0
 have HR0_1 := Aside0.mk hr0_1
 have HC0_1 := Aside0.mk hc0_1
 clear hr0_1 hc0_1
 have HB := Aside0.mk (Below.refl w.heap.size w)
 have H : ((impl_SetRight.f k l0_0 l0_1).bind fun t847 => (if t847 = true then ((impl_Set_bytes.f k l0_0 l0_1).bind fun t848 => (some t848)) else (some (⟨#[]⟩ : ByteArray)))) = some r := h
 clear h
 replace H := Option.bind_eq_some_iff.mp H
 obtain ⟨t847, A20, H⟩ := H
 replace H : (if t847 = true then ((impl_Set_bytes.f k l0_0 l0_1).bind fun t848 => (some t848)) else (some (⟨#[]⟩ : ByteArray))) = some r := H
 have A2 := Aside0.mk A20
 clear A20
 by_cases c3 : t847 = true
 ·subst c3
  have H1 : ((impl_Set_bytes.f k l0_0 l0_1).bind fun t848 => (some t848)) = some r := by rw [if_pos rfl] at H; exact H
  clear H
  have H := H1
  clear H1
  replace H := Option.bind_eq_some_iff.mp H
  obtain ⟨t848, A40, H⟩ := H
  replace H : (some t848) = some r := H
  have A4 := Aside0.mk A40
  clear A40
  obtain rfl := Option.some.inj H
  go_enter Try.func72, Try.ntmps72
  go_wp2_with (first | ((with_reducible refine gate_dst (N := 1) rfl ?_); refine box_event ?hg (N := 1) ?hd (cs := #[.slice A0_0 l0_0.length c0_0, .slice A0_1 l0_1.length c0_1]) (t := 75) ?hr ?_; (case hd => rfl); (case hg => rfl); (case hr => first | (go_simp; done) | (go_simp; rfl)); intro gb846 hg w5 hbox hb; have n0_ := Aside0.mk (below_step (by repeat (first | (with_reducible first | exact HB.out | apply below_alloc | apply pw_below_drewN | apply below_drew1) | exact HB.out)) hb); have n1_ := Aside0.mk (hbox); have n2_ := Aside0.mk ((by rw [hg]; exact (below_size (by repeat (first | (with_reducible first | exact HB.out | apply below_alloc | apply pw_below_drewN | apply below_drew1) | exact HB.out))) : w.heap.size ≤ gb846)); have n3_ := Aside0.mk ((by rw [hg]; exact (below_size (by repeat (first | (with_reducible first | exact HB.out | apply below_alloc | apply pw_below_drewN | apply below_drew1) | exact HB.out))) : w.heap.size ≤ gb846)); clear HB; have HB := n0_; have BK846 := n1_; have GW846 := n2_; have GE846 := n3_; clear n0_ n1_ n2_ n3_; clear hb hbox hg; have hcz6_0 : w5.cell? ⟨gb846, 0, none⟩ = some (.slice A0_0 l0_0.length c0_0) := (blk_cell BK846.out 0).trans rfl; have hcz6_1 : w5.cell? ⟨gb846, 1, none⟩ = some (.slice A0_1 l0_1.length c0_1) := (blk_cell BK846.out 1).trans rfl; have hfz6_0 := blk_frozen BK846.out 0; have hfz6_1 := blk_frozen BK846.out 1) | ((with_reducible refine gate_callee (f := 45) rfl ?_); refine goesL_ (some 4) rfl rfl Try.func45 (by kernel_rfl) rfl #[.agg #[.slice A0_0 l0_0.length c0_0, .slice A0_1 l0_1.length c0_1]] rfl (by (try simp only [List.map_toArray, List.map_cons, List.map_nil]); first | done | rfl | (simp only [List.length_drop, List.length_take]; rfl)) ?_; (with_reducible refine (impl_SetRight.calls k _ _ l0_0 _ _ l0_1 true _ ?side1 ?side2 ?side3 ?side4 A2.out).mono ?_); (case side1 => repeat (first | exact (Kd.C_below HR0_0.out HB.out) | (with_reducible refine Kd.C_alloc ?_ _) | (with_reducible refine Kd.C_drewN ?_ _) | (with_reducible refine Kd.C_drew ?_))); (case side2 => exact HC0_0.out); (case side3 => repeat (first | exact (Kd.C_below HR0_1.out HB.out) | (with_reducible refine Kd.C_alloc ?_ _) | (with_reducible refine Kd.C_drewN ?_ _) | (with_reducible refine Kd.C_drew ?_))); (case side4 => exact HC0_1.out); rintro e w7 ⟨rfl, hb⟩; refine ⟨_, rfl, ?_⟩; have n0_ := Aside0.mk (blk_below (g := gb846) (o := .cells #[.slice A0_0 l0_0.length c0_0, .slice A0_1 l0_1.length c0_1] 75 (0, 0)) (by (with_reducible repeat (first | refine blk_drewN ?_ _ | refine blk_drew ?_ | refine blk_alloc ?_ _)); exact BK846.out) hb); have n1_ := Aside0.mk (below_step (by repeat (first | (with_reducible first | exact HB.out | apply below_alloc | apply pw_below_drewN | apply below_drew1 | refine below_set ?_ GE846.out) | exact HB.out)) hb); clear BK846; clear HB; have BK846 := n0_; have HB := n1_; clear n0_ n1_; (try clear hb); (try clear hb2); (try clear hk); (try clear hi); have hcz8_0 : w7.cell? ⟨gb846, 0, none⟩ = some (.slice A0_0 l0_0.length c0_0) := (blk_cell BK846.out 0).trans rfl; have hcz8_1 : w7.cell? ⟨gb846, 1, none⟩ = some (.slice A0_1 l0_1.length c0_1) := (blk_cell BK846.out 1).trans rfl; have hfz8_0 := blk_frozen BK846.out 0; have hfz8_1 := blk_frozen BK846.out 1) | ((with_reducible refine gate_callee (f := 134) rfl ?_); refine goesL_ (some 7) rfl rfl Try.func134 (by kernel_rfl) rfl #[.agg #[.slice A0_0 l0_0.length c0_0, .slice A0_1 l0_1.length c0_1]] rfl (by (try simp only [List.map_toArray, List.map_cons, List.map_nil]); first | done | rfl | (simp only [List.length_drop, List.length_take]; rfl)) ?_; (with_reducible refine (impl_Set_bytes.calls k _ _ l0_0 _ _ l0_1 t848 _ ?side1 ?side2 ?side3 ?side4 A4.out).mono ?_); (case side1 => repeat (first | exact (Kd.C_below HR0_0.out HB.out) | (with_reducible refine Kd.C_alloc ?_ _) | (with_reducible refine Kd.C_drewN ?_ _) | (with_reducible refine Kd.C_drew ?_))); (case side2 => exact HC0_0.out); (case side3 => repeat (first | exact (Kd.C_below HR0_1.out HB.out) | (with_reducible refine Kd.C_alloc ?_ _) | (with_reducible refine Kd.C_drewN ?_ _) | (with_reducible refine Kd.C_drew ?_))); (case side4 => exact HC0_1.out); rintro e w9 ⟨rfl, hb⟩; refine ⟨_, rfl, ?_⟩; have n0_ := Aside0.mk (blk_below (g := gb846) (o := .cells #[.slice A0_0 l0_0.length c0_0, .slice A0_1 l0_1.length c0_1] 75 (0, 0)) (by (with_reducible repeat (first | refine blk_drewN ?_ _ | refine blk_drew ?_ | refine blk_alloc ?_ _)); exact BK846.out) hb); have n1_ := Aside0.mk (below_step (by repeat (first | (with_reducible first | exact HB.out | apply below_alloc | apply pw_below_drewN | apply below_drew1 | refine below_set ?_ GE846.out) | exact HB.out)) hb); clear BK846; clear HB; have BK846 := n0_; have HB := n1_; clear n0_ n1_; (try clear hb); (try clear hb2); (try clear hk); (try clear hi)))
  go_ret
  exact ⟨by first | rfl | (simp [errW_none, errW_some] <;> rfl) | (simp [*, errW_none, errW_some] <;> rfl), by repeat (first | (with_reducible first | exact HB.out | apply below_alloc | apply pw_below_drewN | apply below_drew1 | refine below_set ?_ GE846.out) | exact HB.out)⟩
 ·replace c3 := Bool.eq_false_iff.mpr c3
  subst c3
  have H1 : (some (⟨#[]⟩ : ByteArray)) = some r := by rw [if_neg (show ¬ (false = true) by decide)] at H; exact H
  clear H
  have H := H1
  clear H1
  obtain rfl := Option.some.inj H
  go_enter Try.func72, Try.ntmps72
  go_wp2_with (first | ((with_reducible refine gate_dst (N := 1) rfl ?_); refine box_event ?hg (N := 1) ?hd (cs := #[.slice A0_0 l0_0.length c0_0, .slice A0_1 l0_1.length c0_1]) (t := 75) ?hr ?_; (case hd => rfl); (case hg => rfl); (case hr => first | (go_simp; done) | (go_simp; rfl)); intro gb846 hg w10 hbox hb; have n0_ := Aside0.mk (below_step (by repeat (first | (with_reducible first | exact HB.out | apply below_alloc | apply pw_below_drewN | apply below_drew1) | exact HB.out)) hb); have n1_ := Aside0.mk (hbox); have n2_ := Aside0.mk ((by rw [hg]; exact (below_size (by repeat (first | (with_reducible first | exact HB.out | apply below_alloc | apply pw_below_drewN | apply below_drew1) | exact HB.out))) : w.heap.size ≤ gb846)); have n3_ := Aside0.mk ((by rw [hg]; exact (below_size (by repeat (first | (with_reducible first | exact HB.out | apply below_alloc | apply pw_below_drewN | apply below_drew1) | exact HB.out))) : w.heap.size ≤ gb846)); clear HB; have HB := n0_; have BK846 := n1_; have GW846 := n2_; have GE846 := n3_; clear n0_ n1_ n2_ n3_; clear hb hbox hg; have hcz11_0 : w10.cell? ⟨gb846, 0, none⟩ = some (.slice A0_0 l0_0.length c0_0) := (blk_cell BK846.out 0).trans rfl; have hcz11_1 : w10.cell? ⟨gb846, 1, none⟩ = some (.slice A0_1 l0_1.length c0_1) := (blk_cell BK846.out 1).trans rfl; have hfz11_0 := blk_frozen BK846.out 0; have hfz11_1 := blk_frozen BK846.out 1) | ((with_reducible refine gate_callee (f := 45) rfl ?_); refine goesL_ (some 4) rfl rfl Try.func45 (by kernel_rfl) rfl #[.agg #[.slice A0_0 l0_0.length c0_0, .slice A0_1 l0_1.length c0_1]] rfl (by (try simp only [List.map_toArray, List.map_cons, List.map_nil]); first | done | rfl | (simp only [List.length_drop, List.length_take]; rfl)) ?_; (with_reducible refine (impl_SetRight.calls k _ _ l0_0 _ _ l0_1 false _ ?side1 ?side2 ?side3 ?side4 A2.out).mono ?_); (case side1 => repeat (first | exact (Kd.C_below HR0_0.out HB.out) | (with_reducible refine Kd.C_alloc ?_ _) | (with_reducible refine Kd.C_drewN ?_ _) | (with_reducible refine Kd.C_drew ?_))); (case side2 => exact HC0_0.out); (case side3 => repeat (first | exact (Kd.C_below HR0_1.out HB.out) | (with_reducible refine Kd.C_alloc ?_ _) | (with_reducible refine Kd.C_drewN ?_ _) | (with_reducible refine Kd.C_drew ?_))); (case side4 => exact HC0_1.out); rintro e w12 ⟨rfl, hb⟩; refine ⟨_, rfl, ?_⟩; have n0_ := Aside0.mk (blk_below (g := gb846) (o := .cells #[.slice A0_0 l0_0.length c0_0, .slice A0_1 l0_1.length c0_1] 75 (0, 0)) (by (with_reducible repeat (first | refine blk_drewN ?_ _ | refine blk_drew ?_ | refine blk_alloc ?_ _)); exact BK846.out) hb); have n1_ := Aside0.mk (below_step (by repeat (first | (with_reducible first | exact HB.out | apply below_alloc | apply pw_below_drewN | apply below_drew1 | refine below_set ?_ GE846.out) | exact HB.out)) hb); clear BK846; clear HB; have BK846 := n0_; have HB := n1_; clear n0_ n1_; (try clear hb); (try clear hb2); (try clear hk); (try clear hi)))
  go_ret
  exact ⟨by first | rfl | (simp [errW_none, errW_some] <;> rfl) | (simp [*, errW_none, errW_some] <;> rfl), by repeat (first | (with_reducible first | exact HB.out | apply below_alloc | apply pw_below_drewN | apply below_drew1 | refine below_set ?_ GE846.out) | exact HB.out)⟩

end Go.Proofs.Ytdjhclgkkklajaa.P

namespace Go.Proofs.Ytdjhclgkkklajaa.P
open Go.RowKit Go.Proofs.YtdjhclgkkklajaaW.PrintWords Go.Proofs.YtdjhclgkkklajaaW.PrintLast Go.Proofs.YtdjhclgkkklajaaW.PrintMore
attribute [local go_sem] max2_int min2_int max_two min_two max_three min_three max_four min_four   -- for this text's walks alone
set_option linter.unusedVariables false
set_option linter.unusedSimpArgs false

/-! ### laws_FnExactSetBytes: function 14 -/
def laws_FnExactSetBytes.f (k : Nat) (l0_0 : List (S36)) (l0_1 : List (S177)) : Option (Bool) := (laws_szSet.f k l0_0 l0_1 1048576).bind fun t850 => (if t850 < 0 then (some true) else ((laws_toSet.f k l0_0 l0_1).bind fun bt851 => ((spec_SetBytes.f k bt851.1 bt851.2).bind fun t857 => ((laws_toSet.f k l0_0 l0_1).bind fun bt858 => ((impl_SetBytes.f k bt858.1 bt858.2).bind fun t865 => (if t865.toList = t857.toList then ((laws_toSet.f k l0_0 l0_1).bind fun bt866 => ((laws_eqSet.f k bt858.1 bt858.2 bt866.1 bt866.2).bind fun t872 => (if t872 = true then (some true) else (none)))) else (none)))))))
theorem laws_FnExactSetBytes.mono : ∀ a0 a1 k, LeO (laws_FnExactSetBytes.f k a0 a1) (laws_FnExactSetBytes.f (k + 1) a0 a1) := by
 intro a0 a1 k
 unfold laws_FnExactSetBytes.f
 repeat' first
   | (with_reducible exact impl_SetBytes.mono _ _ _)
   | (with_reducible exact laws_eqSet.mono _ _ _ _ _)
   | (with_reducible exact laws_szSet.mono _ _ _ _)
   | (with_reducible exact laws_toSet.mono _ _ _)
   | (with_reducible exact spec_SetBytes.mono _ _ _)
   | (with_reducible exact LeO.refl _)
   | (with_reducible exact LeO.none _)
   | (with_reducible refine LeO.ite ?_ ?_)
   | (with_reducible refine LeO.bind ?_ (fun _ => ?_))
   | exact impl_SetBytes.mono _ _ _
   | exact laws_eqSet.mono _ _ _ _ _
   | exact laws_szSet.mono _ _ _ _
   | exact laws_toSet.mono _ _ _
   | exact spec_SetBytes.mono _ _ _
   | exact LeO.none _
   | refine LeO.ite ?_ ?_
   | refine LeO.bind ?_ (fun _ => ?_)
set_option maxHeartbeats 8000000 in
set_option maxRecDepth 100000 in
theorem laws_FnExactSetBytes.calls (k : Nat) (A0_0 : Option Addr) (c0_0 : Nat) (l0_0 : List (S36)) (A0_1 : Option Addr) (c0_1 : Nat) (l0_1 : List (S177)) (r : Bool) (w : World) (hr0_0 : Kd.C k36 w A0_0 l0_0.length l0_0) (hc0_0 : l0_0.length ≤ c0_0) (hr0_1 : Kd.C k177 w A0_1 l0_1.length l0_1) (hc0_1 : l0_1.length ≤ c0_1) (h : laws_FnExactSetBytes.f k l0_0 l0_1 = some r) :
  Calls Try.prog 14 #[.agg #[.slice A0_0 l0_0.length c0_0, .slice A0_1 l0_1.length c0_1]] w fun e w' => e = .returned (.bool r) ∧ Below w.heap.size w w' := by
 have hu70 := Try.underlying70
 have hu75 := Try.underlying75
 have HR0_0 := Aside0.mk hr0_0
 have HC0_0 := Aside0.mk hc0_0
 clear hr0_0 hc0_0
 have HR0_1 := Aside0.mk hr0_1
 have HC0_1 := Aside0.mk hc0_1
 clear hr0_1 hc0_1
 have HB := Aside0.mk (Below.refl w.heap.size w)
 have H : ((laws_szSet.f k l0_0 l0_1 1048576).bind fun t850 => (if t850 < 0 then (some true) else ((laws_toSet.f k l0_0 l0_1).bind fun bt851 => ((spec_SetBytes.f k bt851.1 bt851.2).bind fun t857 => ((laws_toSet.f k l0_0 l0_1).bind fun bt858 => ((impl_SetBytes.f k bt858.1 bt858.2).bind fun t865 => (if t865.toList = t857.toList then ((laws_toSet.f k l0_0 l0_1).bind fun bt866 => ((laws_eqSet.f k bt858.1 bt858.2 bt866.1 bt866.2).bind fun t872 => (if t872 = true then (some true) else (none)))) else (none)))))))) = some r := h
 clear h
 replace H := Option.bind_eq_some_iff.mp H
 obtain ⟨t850, A20, H⟩ := H
 replace H : (if t850 < 0 then (some true) else ((laws_toSet.f k l0_0 l0_1).bind fun bt851 => ((spec_SetBytes.f k bt851.1 bt851.2).bind fun t857 => ((laws_toSet.f k l0_0 l0_1).bind fun bt858 => ((impl_SetBytes.f k bt858.1 bt858.2).bind fun t865 => (if t865.toList = t857.toList then ((laws_toSet.f k l0_0 l0_1).bind fun bt866 => ((laws_eqSet.f k bt858.1 bt858.2 bt866.1 bt866.2).bind fun t872 => (if t872 = true then (some true) else (none)))) else (none))))))) = some r := H
 have A2 := Aside0.mk A20
 clear A20
 by_cases c3 : t850 < 0
 ·rw [if_pos c3] at H
  have c3b0 : decide (t850 < 0) = true := decide_eq_true c3
  clear c3
  obtain rfl := Option.some.inj H
  go_enter Try.func14, Try.ntmps14
  go_wp2_with (first | ((with_reducible refine gate_dst (N := 1) rfl ?_); refine box_event ?hg (N := 1) ?hd (cs := #[.slice A0_0 l0_0.length c0_0, .slice A0_1 l0_1.length c0_1]) (t := 70) ?hr ?_; (case hd => rfl); (case hg => rfl); (case hr => first | (go_simp; done) | (go_simp; rfl)); intro gb849 hg w4 hbox hb; have n0_ := Aside0.mk (below_step (by repeat (first | (with_reducible first | exact HB.out | apply below_alloc | apply pw_below_drewN | apply below_drew1) | exact HB.out)) hb); have n1_ := Aside0.mk (hbox); have n2_ := Aside0.mk ((by rw [hg]; exact (below_size (by repeat (first | (with_reducible first | exact HB.out | apply below_alloc | apply pw_below_drewN | apply below_drew1) | exact HB.out))) : w.heap.size ≤ gb849)); have n3_ := Aside0.mk ((by rw [hg]; exact (below_size (by repeat (first | (with_reducible first | exact HB.out | apply below_alloc | apply pw_below_drewN | apply below_drew1) | exact HB.out))) : w.heap.size ≤ gb849)); clear HB; have HB := n0_; have BK849 := n1_; have GW849 := n2_; have GE849 := n3_; clear n0_ n1_ n2_ n3_; clear hb hbox hg; have hcz5_0 : w4.cell? ⟨gb849, 0, none⟩ = some (.slice A0_0 l0_0.length c0_0) := (blk_cell BK849.out 0).trans rfl; have hcz5_1 : w4.cell? ⟨gb849, 1, none⟩ = some (.slice A0_1 l0_1.length c0_1) := (blk_cell BK849.out 1).trans rfl; have hfz5_0 := blk_frozen BK849.out 0; have hfz5_1 := blk_frozen BK849.out 1) | ((with_reducible refine gate_callee (f := 42) rfl ?_); refine goesL_ (some 9) rfl rfl Try.func42 (by kernel_rfl) rfl #[.agg #[.slice A0_0 l0_0.length c0_0, .slice A0_1 l0_1.length c0_1], .int .i64 1048576] rfl (by (try simp only [List.map_toArray, List.map_cons, List.map_nil]); first | done | rfl | (simp only [List.length_drop, List.length_take]; rfl)) ?_; (with_reducible refine (laws_szSet.calls k _ _ l0_0 _ _ l0_1 1048576 t850 _ ?side1 ?side2 ?side3 ?side4 A2.out).mono ?_); (case side1 => repeat (first | exact (Kd.C_below HR0_0.out HB.out) | (with_reducible refine Kd.C_alloc ?_ _) | (with_reducible refine Kd.C_drewN ?_ _) | (with_reducible refine Kd.C_drew ?_))); (case side2 => exact HC0_0.out); (case side3 => repeat (first | exact (Kd.C_below HR0_1.out HB.out) | (with_reducible refine Kd.C_alloc ?_ _) | (with_reducible refine Kd.C_drewN ?_ _) | (with_reducible refine Kd.C_drew ?_))); (case side4 => exact HC0_1.out); rintro e w6 ⟨rfl, hb⟩; refine ⟨_, rfl, ?_⟩; have n0_ := Aside0.mk (blk_below (g := gb849) (o := .cells #[.slice A0_0 l0_0.length c0_0, .slice A0_1 l0_1.length c0_1] 70 (0, 0)) (by (with_reducible repeat (first | refine blk_drewN ?_ _ | refine blk_drew ?_ | refine blk_alloc ?_ _)); exact BK849.out) hb); have n1_ := Aside0.mk (below_step (by repeat (first | (with_reducible first | exact HB.out | apply below_alloc | apply pw_below_drewN | apply below_drew1 | refine below_set ?_ GE849.out) | exact HB.out)) hb); clear BK849; clear HB; have BK849 := n0_; have HB := n1_; clear n0_ n1_; (try clear hb); (try clear hb2); (try clear hk); (try clear hi)))
  go_ret
  exact ⟨by first | rfl | (simp [errW_none, errW_some] <;> rfl) | (simp [*, errW_none, errW_some] <;> rfl), by repeat (first | (with_reducible first | exact HB.out | apply below_alloc | apply pw_below_drewN | apply below_drew1 | refine below_set ?_ GE849.out) | exact HB.out)⟩
 ·rw [if_neg c3] at H
  have c3b0 : decide (t850 < 0) = false := decide_eq_false c3
  clear c3
  replace H := Option.bind_eq_some_iff.mp H
  obtain ⟨⟨t851, t854⟩, A70, H⟩ := H
  replace H : ((spec_SetBytes.f k t851 t854).bind fun t857 => ((laws_toSet.f k l0_0 l0_1).bind fun bt858 => ((impl_SetBytes.f k bt858.1 bt858.2).bind fun t865 => (if t865.toList = t857.toList then ((laws_toSet.f k l0_0 l0_1).bind fun bt866 => ((laws_eqSet.f k bt858.1 bt858.2 bt866.1 bt866.2).bind fun t872 => (if t872 = true then (some true) else (none)))) else (none))))) = some r := H
  have A7 := Aside0.mk A70
  clear A70
  replace H := Option.bind_eq_some_iff.mp H
  obtain ⟨t857, A80, H⟩ := H
  replace H : ((laws_toSet.f k l0_0 l0_1).bind fun bt858 => ((impl_SetBytes.f k bt858.1 bt858.2).bind fun t865 => (if t865.toList = t857.toList then ((laws_toSet.f k l0_0 l0_1).bind fun bt866 => ((laws_eqSet.f k bt858.1 bt858.2 bt866.1 bt866.2).bind fun t872 => (if t872 = true then (some true) else (none)))) else (none)))) = some r := H
  have A8 := Aside0.mk A80
  clear A80
  replace H := Option.bind_eq_some_iff.mp H
  obtain ⟨⟨t858, t861⟩, A90, H⟩ := H
  replace H : ((impl_SetBytes.f k t858 t861).bind fun t865 => (if t865.toList = t857.toList then ((laws_toSet.f k l0_0 l0_1).bind fun bt866 => ((laws_eqSet.f k t858 t861 bt866.1 bt866.2).bind fun t872 => (if t872 = true then (some true) else (none)))) else (none))) = some r := H
  have A9 := Aside0.mk A90
  clear A90
  replace H := Option.bind_eq_some_iff.mp H
  obtain ⟨t865, A100, H⟩ := H
  replace H : (if t865.toList = t857.toList then ((laws_toSet.f k l0_0 l0_1).bind fun bt866 => ((laws_eqSet.f k t858 t861 bt866.1 bt866.2).bind fun t872 => (if t872 = true then (some true) else (none)))) else (none)) = some r := H
  have A10 := Aside0.mk A100
  clear A100
  by_cases c11 : t865.toList = t857.toList
  ·rw [if_pos c11] at H
   have c11b0 : (t865.toList == t857.toList) = true := beq_iff_eq.mpr c11
   have c11b1 : (t865.toList != t857.toList) = false := bne_eq_false_iff_eq.mpr c11
   clear c11
   replace H := Option.bind_eq_some_iff.mp H
   obtain ⟨⟨t866, t869⟩, A120, H⟩ := H
   replace H : ((laws_eqSet.f k t858 t861 t866 t869).bind fun t872 => (if t872 = true then (some true) else (none))) = some r := H
   have A12 := Aside0.mk A120
   clear A120
   replace H := Option.bind_eq_some_iff.mp H
   obtain ⟨t872, A130, H⟩ := H
   replace H : (if t872 = true then (some true) else (none)) = some r := H
   have A13 := Aside0.mk A130
   clear A130
   by_cases c14 : t872 = true
   ·subst c14
    have H1 : (some true) = some r := by rw [if_pos rfl] at H; exact H
    clear H
    have H := H1
    clear H1
    obtain rfl := Option.some.inj H
    go_enter Try.func14, Try.ntmps14
    try go_wp2_with (first | ((with_reducible refine gate_dst (N := 1) rfl ?_); refine box_event ?hg (N := 1) ?hd (cs := #[.slice A0_0 l0_0.length c0_0, .slice A0_1 l0_1.length c0_1]) (t := 70) ?hr ?_; (case hd => rfl); (case hg => rfl); (case hr => first | (go_simp; done) | (go_simp; rfl)); intro gb849 hg w15 hbox hb; have n0_ := Aside0.mk (below_step (by repeat (first | (with_reducible first | exact HB.out | apply below_alloc | apply pw_below_drewN | apply below_drew1) | exact HB.out)) hb); have n1_ := Aside0.mk (hbox); have n2_ := Aside0.mk ((by rw [hg]; exact (below_size (by repeat (first | (with_reducible first | exact HB.out | apply below_alloc | apply pw_below_drewN | apply below_drew1) | exact HB.out))) : w.heap.size ≤ gb849)); have n3_ := Aside0.mk ((by rw [hg]; exact (below_size (by repeat (first | (with_reducible first | exact HB.out | apply below_alloc | apply pw_below_drewN | apply below_drew1) | exact HB.out))) : w.heap.size ≤ gb849)); clear HB; have HB := n0_; have BK849 := n1_; have GW849 := n2_; have GE849 := n3_; clear n0_ n1_ n2_ n3_; clear hb hbox hg; have hcz16_0 : w15.cell? ⟨gb849, 0, none⟩ = some (.slice A0_0 l0_0.length c0_0) := (blk_cell BK849.out 0).trans rfl; have hcz16_1 : w15.cell? ⟨gb849, 1, none⟩ = some (.slice A0_1 l0_1.length c0_1) := (blk_cell BK849.out 1).trans rfl; have hfz16_0 := blk_frozen BK849.out 0; have hfz16_1 := blk_frozen BK849.out 1) | ((with_reducible refine gate_callee (f := 42) rfl ?_); refine goesL_ (some 9) rfl rfl Try.func42 (by kernel_rfl) rfl #[.agg #[.slice A0_0 l0_0.length c0_0, .slice A0_1 l0_1.length c0_1], .int .i64 1048576] rfl (by (try simp only [List.map_toArray, List.map_cons, List.map_nil]); first | done | rfl | (simp only [List.length_drop, List.length_take]; rfl)) ?_; (with_reducible refine (laws_szSet.calls k _ _ l0_0 _ _ l0_1 1048576 t850 _ ?side1 ?side2 ?side3 ?side4 A2.out).mono ?_); (case side1 => repeat (first | exact (Kd.C_below HR0_0.out HB.out) | (with_reducible refine Kd.C_alloc ?_ _) | (with_reducible refine Kd.C_drewN ?_ _) | (with_reducible refine Kd.C_drew ?_))); (case side2 => exact HC0_0.out); (case side3 => repeat (first | exact (Kd.C_below HR0_1.out HB.out) | (with_reducible refine Kd.C_alloc ?_ _) | (with_reducible refine Kd.C_drewN ?_ _) | (with_reducible refine Kd.C_drew ?_))); (case side4 => exact HC0_1.out); rintro e w17 ⟨rfl, hb⟩; refine ⟨_, rfl, ?_⟩; have n0_ := Aside0.mk (blk_below (g := gb849) (o := .cells #[.slice A0_0 l0_0.length c0_0, .slice A0_1 l0_1.length c0_1] 70 (0, 0)) (by (with_reducible repeat (first | refine blk_drewN ?_ _ | refine blk_drew ?_ | refine blk_alloc ?_ _)); exact BK849.out) hb); have n1_ := Aside0.mk (below_step (by repeat (first | (with_reducible first | exact HB.out | apply below_alloc | apply pw_below_drewN | apply below_drew1 | refine below_set ?_ GE849.out) | exact HB.out)) hb); clear BK849; clear HB; have BK849 := n0_; have HB := n1_; clear n0_ n1_; (try clear hb); (try clear hb2); (try clear hk); (try clear hi); have hcz18_0 : w17.cell? ⟨gb849, 0, none⟩ = some (.slice A0_0 l0_0.length c0_0) := (blk_cell BK849.out 0).trans rfl; have hcz18_1 : w17.cell? ⟨gb849, 1, none⟩ = some (.slice A0_1 l0_1.length c0_1) := (blk_cell BK849.out 1).trans rfl; have hfz18_0 := blk_frozen BK849.out 0; have hfz18_1 := blk_frozen BK849.out 1) | ((with_reducible refine gate_callee (f := 44) rfl ?_); refine goesL_ (some 13) rfl rfl Try.func44 (by kernel_rfl) rfl #[.agg #[.slice A0_0 l0_0.length c0_0, .slice A0_1 l0_1.length c0_1]] rfl (by (try simp only [List.map_toArray, List.map_cons, List.map_nil]); first | done | rfl | (simp only [List.length_drop, List.length_take]; rfl)) ?_; (with_reducible refine (laws_toSet.calls k _ _ l0_0 _ _ l0_1 t851 t854 _ ?side1 ?side2 ?side3 ?side4 A7.out).mono ?_); (case side1 => repeat (first | exact (Kd.C_below HR0_0.out HB.out) | (with_reducible refine Kd.C_alloc ?_ _) | (with_reducible refine Kd.C_drewN ?_ _) | (with_reducible refine Kd.C_drew ?_))); (case side2 => exact HC0_0.out); (case side3 => repeat (first | exact (Kd.C_below HR0_1.out HB.out) | (with_reducible refine Kd.C_alloc ?_ _) | (with_reducible refine Kd.C_drewN ?_ _) | (with_reducible refine Kd.C_drew ?_))); (case side4 => exact HC0_1.out); rintro e w19 ⟨v852, v855, rfl, ho0, ho1, hb⟩; refine ⟨_, rfl, ?_⟩; have n0_ := Aside0.mk (Kd.R_lower ho0 (below_size (by repeat (first | (with_reducible first | exact HB.out | apply below_alloc | apply pw_below_drewN | apply below_drew1 | refine below_set ?_ GE849.out) | exact HB.out)))); have n1_ := Aside0.mk (Kd.R_lower ho1 (below_size (by repeat (first | (with_reducible first | exact HB.out | apply below_alloc | apply pw_below_drewN | apply below_drew1 | refine below_set ?_ GE849.out) | exact HB.out)))); have n2_ := Aside0.mk (blk_below (g := gb849) (o := .cells #[.slice A0_0 l0_0.length c0_0, .slice A0_1 l0_1.length c0_1] 70 (0, 0)) (by (with_reducible repeat (first | refine blk_drewN ?_ _ | refine blk_drew ?_ | refine blk_alloc ?_ _)); exact BK849.out) hb); have n3_ := Aside0.mk (below_step (by repeat (first | (with_reducible first | exact HB.out | apply below_alloc | apply pw_below_drewN | apply below_drew1 | refine below_set ?_ GE849.out) | exact HB.out)) hb); clear BK849; clear HB; have HO853 := n0_; have HO856 := n1_; have BK849 := n2_; have HB := n3_; clear n0_ n1_ n2_ n3_; (try clear hb); (try clear hb2); (try clear hk); (try clear hi); (try clear ho0); (try clear ho1); obtain ⟨Ao20, co20, eo20⟩ := Kd.R_slice HO853.out; subst eo20; obtain ⟨Ao21, co21, eo21⟩ := Kd.R_slice HO856.out; subst eo21) | ((with_reducible refine gate_callee (f := 71) rfl ?_); refine goesL_ (some 14) rfl rfl Try.func71 (by kernel_rfl) rfl #[.agg #[.slice Ao20 t851.length co20, .slice Ao21 t854.length co21]] rfl (by (try simp only [List.map_toArray, List.map_cons, List.map_nil]); first | done | rfl | (simp only [List.length_drop, List.length_take]; rfl)) ?_; (with_reducible refine (spec_SetBytes.calls k _ _ t851 _ _ t854 t857 _ ?side1 ?side2 ?side3 ?side4 A8.out).mono ?_); (case side1 => repeat (first | exact (Kd.R_reads' HO853.out).2.2 | (with_reducible refine Kd.C_alloc ?_ _) | (with_reducible refine Kd.C_drewN ?_ _) | (with_reducible refine Kd.C_drew ?_))); (case side2 => exact (Kd.R_reads' HO853.out).2.1); (case side3 => repeat (first | exact (Kd.R_reads' HO856.out).2.2 | (with_reducible refine Kd.C_alloc ?_ _) | (with_reducible refine Kd.C_drewN ?_ _) | (with_reducible refine Kd.C_drew ?_))); (case side4 => exact (Kd.R_reads' HO856.out).2.1); rintro e w22 ⟨rfl, hb⟩; refine ⟨_, rfl, ?_⟩; have n0_ := Aside0.mk (Kd.R_below (by (with_reducible repeat (first | apply Kd.R_alloc | apply Kd.R_drewN | apply Kd.R_drew)); exact HO853.out) hb); have n1_ := Aside0.mk (Kd.R_below (by (with_reducible repeat (first | apply Kd.R_alloc | apply Kd.R_drewN | apply Kd.R_drew)); exact HO856.out) hb); have n2_ := Aside0.mk (blk_below (g := gb849) (o := .cells #[.slice A0_0 l0_0.length c0_0, .slice A0_1 l0_1.length c0_1] 70 (0, 0)) (by (with_reducible repeat (first | refine blk_drewN ?_ _ | refine blk_drew ?_ | refine blk_alloc ?_ _)); exact BK849.out) hb); have n3_ := Aside0.mk (below_step (by repeat (first | (with_reducible first | exact HB.out | apply below_alloc | apply pw_below_drewN | apply below_drew1 | refine below_set ?_ GE849.out) | exact HB.out)) hb); clear HO853; clear HO856; clear BK849; clear HB; have HO853 := n0_; have HO856 := n1_; have BK849 := n2_; have HB := n3_; clear n0_ n1_ n2_ n3_; (try clear hb); (try clear hb2); (try clear hk); (try clear hi); have hcz23_0 : w22.cell? ⟨gb849, 0, none⟩ = some (.slice A0_0 l0_0.length c0_0) := (blk_cell BK849.out 0).trans rfl; have hcz23_1 : w22.cell? ⟨gb849, 1, none⟩ = some (.slice A0_1 l0_1.length c0_1) := (blk_cell BK849.out 1).trans rfl; have hfz23_0 := blk_frozen BK849.out 0; have hfz23_1 := blk_frozen BK849.out 1) | ((with_reducible refine gate_callee (f := 44) rfl ?_); refine goesL_ (some 16) rfl rfl Try.func44 (by kernel_rfl) rfl #[.agg #[.slice A0_0 l0_0.length c0_0, .slice A0_1 l0_1.length c0_1]] rfl (by (try simp only [List.map_toArray, List.map_cons, List.map_nil]); first | done | rfl | (simp only [List.length_drop, List.length_take]; rfl)) ?_; (with_reducible refine (laws_toSet.calls k _ _ l0_0 _ _ l0_1 t858 t861 _ ?side1 ?side2 ?side3 ?side4 A9.out).mono ?_); (case side1 => repeat (first | exact (Kd.C_below HR0_0.out HB.out) | (with_reducible refine Kd.C_alloc ?_ _) | (with_reducible refine Kd.C_drewN ?_ _) | (with_reducible refine Kd.C_drew ?_))); (case side2 => exact HC0_0.out); (case side3 => repeat (first | exact (Kd.C_below HR0_1.out HB.out) | (with_reducible refine Kd.C_alloc ?_ _) | (with_reducible refine Kd.C_drewN ?_ _) | (with_reducible refine Kd.C_drew ?_))); (case side4 => exact HC0_1.out); rintro e w24 ⟨v859, v862, rfl, ho0, ho1, hb⟩; refine ⟨_, rfl, ?_⟩; have n0_ := Aside0.mk (Kd.R_elder' (by (with_reducible repeat (first | apply Kd.R_alloc | apply Kd.R_drewN | apply Kd.R_drew)); exact HO853.out) (Kd.R_base ho0) hb); have n1_ := Aside0.mk (Kd.R_elder' (by (with_reducible repeat (first | apply Kd.R_alloc | apply Kd.R_drewN | apply Kd.R_drew)); exact HO856.out) (Kd.R_base ho1) hb); have n2_ := Aside0.mk (Kd.R_lower (Kd.R_new' ho0 (Kd.R_lt (by (with_reducible repeat (first | apply Kd.R_alloc | apply Kd.R_drewN | apply Kd.R_drew)); exact HO853.out))) (below_size (by repeat (first | (with_reducible first | exact HB.out | apply below_alloc | apply pw_below_drewN | apply below_drew1 | refine below_set ?_ GE849.out) | exact HB.out)))); have n3_ := Aside0.mk (Kd.R_lower (Kd.R_new' ho1 (Kd.R_lt (by (with_reducible repeat (first | apply Kd.R_alloc | apply Kd.R_drewN | apply Kd.R_drew)); exact HO856.out))) (below_size (by repeat (first | (with_reducible first | exact HB.out | apply below_alloc | apply pw_below_drewN | apply below_drew1 | refine below_set ?_ GE849.out) | exact HB.out)))); have n4_ := Aside0.mk (blk_below (g := gb849) (o := .cells #[.slice A0_0 l0_0.length c0_0, .slice A0_1 l0_1.length c0_1] 70 (0, 0)) (by (with_reducible repeat (first | refine blk_drewN ?_ _ | refine blk_drew ?_ | refine blk_alloc ?_ _)); exact BK849.out) hb); have n5_ := Aside0.mk (below_step (by repeat (first | (with_reducible first | exact HB.out | apply below_alloc | apply pw_below_drewN | apply below_drew1 | refine below_set ?_ GE849.out) | exact HB.out)) hb); clear HO853; clear HO856; clear BK849; clear HB; have HO853 := n0_; have HO856 := n1_; have HO860 := n2_; have HO863 := n3_; have BK849 := n4_; have HB := n5_; clear n0_ n1_ n2_ n3_ n4_ n5_; (try clear hb); (try clear hb2); (try clear hk); (try clear hi); (try clear ho0); (try clear ho1)) | ((with_reducible refine gate_dst (N := 5) rfl ?_); refine box_event ?hg (N := 5) ?hd (cs := #[.slice none 0 0, .slice none 0 0]) (t := 75) ?hr ?_; (case hd => rfl); (case hg => rfl); (case hr => first | (go_simp; done) | (go_simp; rfl)); intro gb864 hg w25 hbox hb; have n0_ := Aside0.mk (Kd.R_below (by (with_reducible repeat (first | apply Kd.R_alloc | apply Kd.R_drewN | apply Kd.R_drew)); exact HO853.out) hb); have n1_ := Aside0.mk (Kd.R_below (by (with_reducible repeat (first | apply Kd.R_alloc | apply Kd.R_drewN | apply Kd.R_drew)); exact HO856.out) hb); have n2_ := Aside0.mk (Kd.R_below (by (with_reducible repeat (first | apply Kd.R_alloc | apply Kd.R_drewN | apply Kd.R_drew)); exact HO860.out) hb); have n3_ := Aside0.mk (Kd.R_below (by (with_reducible repeat (first | apply Kd.R_alloc | apply Kd.R_drewN | apply Kd.R_drew)); exact HO863.out) hb); have n4_ := Aside0.mk (blk_below (g := gb849) (o := .cells #[.slice A0_0 l0_0.length c0_0, .slice A0_1 l0_1.length c0_1] 70 (0, 0)) (by (with_reducible repeat (first | refine blk_drewN ?_ _ | refine blk_drew ?_ | refine blk_alloc ?_ _)); exact BK849.out) hb); have n5_ := Aside0.mk (below_step (by repeat (first | (with_reducible first | exact HB.out | apply below_alloc | apply pw_below_drewN | apply below_drew1 | refine below_set ?_ GE849.out) | exact HB.out)) hb); have n6_ := Aside0.mk (hbox); have n7_ := Aside0.mk ((by rw [hg]; exact (below_size (by repeat (first | (with_reducible first | exact HB.out | apply below_alloc | apply pw_below_drewN | apply below_drew1 | refine below_set ?_ GE849.out) | exact HB.out))) : w.heap.size ≤ gb864)); have n8_ := Aside0.mk ((by rw [hg]; exact (below_size (by repeat (first | (with_reducible first | exact HB.out | apply below_alloc | apply pw_below_drewN | apply below_drew1 | refine below_set ?_ GE849.out) | exact HB.out))) : w.heap.size ≤ gb864)); have n9_ := Aside0.mk ((by rw [hg]; exact Nat.ne_of_lt (blk_lt (g := gb849) (o := .cells #[.slice A0_0 l0_0.length c0_0, .slice A0_1 l0_1.length c0_1] 70 (0, 0)) (by (with_reducible repeat (first | refine blk_drewN ?_ _ | refine blk_drew ?_ | refine blk_alloc ?_ _)); exact BK849.out)) : gb849 ≠ gb864)); have n10_ := Aside0.mk ((by rw [hg]; exact Nat.ne_of_gt (blk_lt (g := gb849) (o := .cells #[.slice A0_0 l0_0.length c0_0, .slice A0_1 l0_1.length c0_1] 70 (0, 0)) (by (with_reducible repeat (first | refine blk_drewN ?_ _ | refine blk_drew ?_ | refine blk_alloc ?_ _)); exact BK849.out)) : gb864 ≠ gb849)); clear HO853; clear HO856; clear HO860; clear HO863; clear BK849; clear HB; have HO853 := n0_; have HO856 := n1_; have HO860 := n2_; have HO863 := n3_; have BK849 := n4_; have HB := n5_; have BK864 := n6_; have GW864 := n7_; have GE864 := n8_; have NB849_864 := n9_; have NB864_849 := n10_; clear n0_ n1_ n2_ n3_ n4_ n5_ n6_ n7_ n8_ n9_ n10_; clear hb hbox hg; obtain ⟨Ao26, co26, eo26⟩ := Kd.R_slice HO860.out; subst eo26; have hnb27 := NB864_849.out; have hnc27 := NB849_864.out; have hcz28_0 : w25.cell? ⟨gb864, 0, none⟩ = some (.slice none 0 0) := (blk_cell BK864.out 0).trans rfl; have hcz28_1 : w25.cell? ⟨gb864, 1, none⟩ = some (.slice none 0 0) := (blk_cell BK864.out 1).trans rfl; have hfz28_0 := blk_frozen BK864.out 0; have hfz28_1 := blk_frozen BK864.out 1; obtain ⟨Ao29, co29, eo29⟩ := Kd.R_slice HO863.out; subst eo29) | ((with_reducible refine gate_callee (f := 72) rfl ?_); refine goesL_ (some 18) rfl rfl Try.func72 (by kernel_rfl) rfl #[.agg #[.slice Ao26 t858.length co26, .slice Ao29 t861.length co29]] rfl (by (try simp only [List.map_toArray, List.map_cons, List.map_nil]); first | done | rfl | (simp only [List.length_drop, List.length_take]; rfl)) ?_; (with_reducible refine (impl_SetBytes.calls k _ _ t858 _ _ t861 t865 _ ?side1 ?side2 ?side3 ?side4 A10.out).mono ?_); (case side1 => refine (Kd.R_reads' (e := 43) (base := w.heap.size) (ok := fun k_ => (True ∧ some k_ ≠ (.slice Ao20 t851.length co20 : Value).ownBlock)) (n := t858.length) (c := co26) ?_).2.2; exact (by (with_reducible repeat (first | apply Kd.R_alloc | apply Kd.R_drewN | apply Kd.R_drew)); exact (Kd.R_mono (Kd.R_far (p := ⟨gb864, 1, none⟩) (Kd.R_far (p := ⟨gb864, 0, none⟩) (Kd.R_types HO860.out BK864.out (by decide)) (fun _ hk => hk.2) (.slice Ao26 t858.length co26)) (fun _ hk => hk.2) (.slice Ao29 t861.length co29)) (fun _ h_ => h_.1)))); (case side2 => exact (Kd.R_reads' HO860.out).2.1); (case side3 => refine (Kd.R_reads' (e := 139) (base := w.heap.size) (ok := fun k_ => (True ∧ some k_ ≠ (.slice Ao21 t854.length co21 : Value).ownBlock)) (n := t861.length) (c := co29) ?_).2.2; exact (by (with_reducible repeat (first | apply Kd.R_alloc | apply Kd.R_drewN | apply Kd.R_drew)); exact (Kd.R_mono (Kd.R_far (p := ⟨gb864, 1, none⟩) (Kd.R_far (p := ⟨gb864, 0, none⟩) (Kd.R_types HO863.out BK864.out (by decide)) (fun _ hk => hk.2) (.slice Ao26 t858.length co26)) (fun _ hk => hk.2) (.slice Ao29 t861.length co29)) (fun _ h_ => h_.1)))); (case side4 => exact (Kd.R_reads' HO863.out).2.1); rintro e w30 ⟨rfl, hb⟩; refine ⟨_, rfl, ?_⟩; have n0_ := Aside0.mk (Kd.R_below (by (with_reducible repeat (first | apply Kd.R_alloc | apply Kd.R_drewN | apply Kd.R_drew)); exact (Kd.R_mono (Kd.R_far (p := ⟨gb864, 1, none⟩) (Kd.R_far (p := ⟨gb864, 0, none⟩) (Kd.R_types HO853.out BK864.out (by decide)) (fun _ hk => hk.2) (.slice Ao26 t858.length co26)) (fun _ hk => hk.2) (.slice Ao29 t861.length co29)) (fun _ h_ => h_.1))) hb); have n1_ := Aside0.mk (Kd.R_below (by (with_reducible repeat (first | apply Kd.R_alloc | apply Kd.R_drewN | apply Kd.R_drew)); exact (Kd.R_mono (Kd.R_far (p := ⟨gb864, 1, none⟩) (Kd.R_far (p := ⟨gb864, 0, none⟩) (Kd.R_types HO856.out BK864.out (by decide)) (fun _ hk => hk.2) (.slice Ao26 t858.length co26)) (fun _ hk => hk.2) (.slice Ao29 t861.length co29)) (fun _ h_ => h_.1))) hb); have n2_ := Aside0.mk (Kd.R_below (by (with_reducible repeat (first | apply Kd.R_alloc | apply Kd.R_drewN | apply Kd.R_drew)); exact (Kd.R_mono (Kd.R_far (p := ⟨gb864, 1, none⟩) (Kd.R_far (p := ⟨gb864, 0, none⟩) (Kd.R_types HO860.out BK864.out (by decide)) (fun _ hk => hk.2) (.slice Ao26 t858.length co26)) (fun _ hk => hk.2) (.slice Ao29 t861.length co29)) (fun _ h_ => h_.1))) hb); have n3_ := Aside0.mk (Kd.R_below (by (with_reducible repeat (first | apply Kd.R_alloc | apply Kd.R_drewN | apply Kd.R_drew)); exact (Kd.R_mono (Kd.R_far (p := ⟨gb864, 1, none⟩) (Kd.R_far (p := ⟨gb864, 0, none⟩) (Kd.R_types HO863.out BK864.out (by decide)) (fun _ hk => hk.2) (.slice Ao26 t858.length co26)) (fun _ hk => hk.2) (.slice Ao29 t861.length co29)) (fun _ h_ => h_.1))) hb); have n4_ := Aside0.mk (blk_below (g := gb849) (o := .cells #[.slice A0_0 l0_0.length c0_0, .slice A0_1 l0_1.length c0_1] 70 (0, 0)) (by (with_reducible repeat (first | refine blk_drewN ?_ _ | refine blk_drew ?_ | refine blk_alloc ?_ _)); refine blk_far ?_ NB849_864.out _; (with_reducible repeat (first | refine blk_drewN ?_ _ | refine blk_drew ?_ | refine blk_alloc ?_ _)); refine blk_far ?_ NB849_864.out _; (with_reducible repeat (first | refine blk_drewN ?_ _ | refine blk_drew ?_ | refine blk_alloc ?_ _)); exact BK849.out) hb); have n5_ := Aside0.mk (blk_below (g := gb864) (o := .cells #[.slice Ao26 t858.length co26, .slice Ao29 t861.length co29] 75 (0, 0)) (by (with_reducible repeat (first | refine blk_drewN ?_ _ | refine blk_drew ?_ | refine blk_alloc ?_ _)); refine blk_put (cs := #[.slice Ao26 t858.length co26, .slice none 0 0]) ?_ 1 _ rfl; (with_reducible repeat (first | refine blk_drewN ?_ _ | refine blk_drew ?_ | refine blk_alloc ?_ _)); refine blk_put (cs := #[.slice none 0 0, .slice none 0 0]) ?_ 0 _ rfl; (with_reducible repeat (first | refine blk_drewN ?_ _ | refine blk_drew ?_ | refine blk_alloc ?_ _)); exact BK864.out) hb); have n6_ := Aside0.mk (below_step (by repeat (first | (with_reducible first | exact HB.out | apply below_alloc | apply pw_below_drewN | apply below_drew1 | refine below_set ?_ GE849.out | refine below_set ?_ GE864.out) | exact HB.out)) hb); clear HO853; clear HO856; clear HO860; clear HO863; clear BK849; clear BK864; clear HB; have HO853 := n0_; have HO856 := n1_; have HO860 := n2_; have HO863 := n3_; have BK849 := n4_; have BK864 := n5_; have HB := n6_; clear n0_ n1_ n2_ n3_ n4_ n5_ n6_; (try clear hb); (try clear hb2); (try clear hk); (try clear hi)))
    have n0_ := Aside0.mk (Kd.R_drew HO853.out)
    have n1_ := Aside0.mk (Kd.R_drew HO856.out)
    have n2_ := Aside0.mk (Kd.R_drew HO860.out)
    have n3_ := Aside0.mk (Kd.R_drew HO863.out)
    have n4_ := Aside0.mk (blk_drew BK849.out)
    have n5_ := Aside0.mk (blk_drew BK864.out)
    have n6_ := Aside0.mk (below_drew1 HB.out)
    clear HO853
    clear HO856
    clear HO860
    clear HO863
    clear BK849
    clear BK864
    clear HB
    have HO853 := n0_
    have HO856 := n1_
    have HO860 := n2_
    have HO863 := n3_
    have BK849 := n4_
    have BK864 := n5_
    have HB := n6_
    clear n0_ n1_ n2_ n3_ n4_ n5_ n6_
    refine start_ (n := 5) (S := fun w' => w'.cell? ⟨gb864, 0, none⟩ = some (.slice Ao26 t858.length co26) ∧ w'.cell? ⟨gb864, 1, none⟩ = some (.slice Ao29 t861.length co29) ∧ w'.cell? ⟨gb849, 0, none⟩ = some (.slice A0_0 l0_0.length c0_0) ∧ w'.cell? ⟨gb849, 1, none⟩ = some (.slice A0_1 l0_1.length c0_1)) (ds := []) #[false, false, false, false, false] (by kernel_rfl) rfl rfl ⟨(blk_cell BK864.out 0).trans rfl, (blk_cell BK864.out 1).trans rfl, (blk_cell BK849.out 0).trans rfl, (blk_cell BK849.out 1).trans rfl⟩ (fun hHeld => ?_)
    generalize w30.drew = w31 at HO853 HO856 HO860 HO863 BK849 BK864 HB hHeld ⊢
    refine take_ (i := 0) (N := some 22) (v := ?_) (a' := ?_) #[true, false, false, false, false] rfl rfl (by kernel_rfl) (fun _ _ _ h => h) (Or.inl ⟨by rfl, ?_⟩) hHeld ?_ ?_
    rotate_left
    ·rintro w' ⟨s0, s1, s2, s3⟩
     go_simp
     with_reducible rfl
    rotate_left
    ·simp only [Act.put, sa_, s0_, ss_, i64_w, i32_w]
     rfl
    refine take_ (i := 1) (N := some 23) (v := ?_) (a' := ?_) #[true, true, false, false, false] rfl rfl (by kernel_rfl) (fun _ _ _ h => h) (Or.inl ⟨by rfl, ?_⟩) hHeld ?_ ?_
    rotate_left
    ·rintro w' ⟨s0, s1, s2, s3⟩
     go_simp
     with_reducible rfl
    rotate_left
    ·simp only [Act.put, sa_, s0_, ss_, i64_w, i32_w]
     rfl
    refine one_ (i := 2) (N := some 24) #[true, true, true, false, false] rfl rfl (by kernel_rfl) (by decide) (fun K hK => ?_)
    refine goes_ Try.func44 (by kernel_rfl) rfl #[.agg #[.slice A0_0 l0_0.length c0_0, .slice A0_1 l0_1.length c0_1]] (by rfl) rfl rfl (by (try simp only [List.map_toArray, List.map_cons, List.map_nil]); first | done | rfl | (simp only [List.length_drop, List.length_take]; rfl)) ?_
    with_reducible refine (laws_toSet.calls k _ _ l0_0 _ _ l0_1 t866 t869 _ ?side1 ?side2 ?side3 ?side4 A12.out).mono ?_
    (case side1 => repeat (first | exact (Kd.C_below HR0_0.out HB.out) | (with_reducible refine Kd.C_alloc ?_ _) | (with_reducible refine Kd.C_drewN ?_ _) | (with_reducible refine Kd.C_drew ?_)))
    (case side2 => exact HC0_0.out)
    (case side3 => repeat (first | exact (Kd.C_below HR0_1.out HB.out) | (with_reducible refine Kd.C_alloc ?_ _) | (with_reducible refine Kd.C_drewN ?_ _) | (with_reducible refine Kd.C_drew ?_)))
    (case side4 => exact HC0_1.out)
    rintro e w32 ⟨v867, v870, rfl, ho0, ho1, hb⟩
    refine ⟨_, rfl, ?_⟩
    have n0_ := Aside0.mk (Kd.R_elder' (by (with_reducible repeat (first | apply Kd.R_alloc | apply Kd.R_drewN | apply Kd.R_drew)); exact HO853.out) (Kd.R_base ho0) hb)
    have n1_ := Aside0.mk (Kd.R_elder' (by (with_reducible repeat (first | apply Kd.R_alloc | apply Kd.R_drewN | apply Kd.R_drew)); exact HO856.out) (Kd.R_base ho1) hb)
    have n2_ := Aside0.mk (Kd.R_elder' (by (with_reducible repeat (first | apply Kd.R_alloc | apply Kd.R_drewN | apply Kd.R_drew)); exact HO860.out) (Kd.R_base ho0) hb)
    have n3_ := Aside0.mk (Kd.R_elder' (by (with_reducible repeat (first | apply Kd.R_alloc | apply Kd.R_drewN | apply Kd.R_drew)); exact HO863.out) (Kd.R_base ho1) hb)
    have n4_ := Aside0.mk (Kd.R_lower (Kd.R_new' (Kd.R_new' ho0 (Kd.R_lt (by (with_reducible repeat (first | apply Kd.R_alloc | apply Kd.R_drewN | apply Kd.R_drew)); exact HO853.out))) (Kd.R_lt (by (with_reducible repeat (first | apply Kd.R_alloc | apply Kd.R_drewN | apply Kd.R_drew)); exact HO860.out))) (below_size (by repeat (first | (with_reducible first | exact HB.out | apply below_alloc | apply pw_below_drewN | apply below_drew1 | refine below_set ?_ GE849.out | refine below_set ?_ GE864.out) | exact HB.out))))
    have n5_ := Aside0.mk (Kd.R_lower (Kd.R_new' (Kd.R_new' ho1 (Kd.R_lt (by (with_reducible repeat (first | apply Kd.R_alloc | apply Kd.R_drewN | apply Kd.R_drew)); exact HO856.out))) (Kd.R_lt (by (with_reducible repeat (first | apply Kd.R_alloc | apply Kd.R_drewN | apply Kd.R_drew)); exact HO863.out))) (below_size (by repeat (first | (with_reducible first | exact HB.out | apply below_alloc | apply pw_below_drewN | apply below_drew1 | refine below_set ?_ GE849.out | refine below_set ?_ GE864.out) | exact HB.out))))
    have n6_ := Aside0.mk (blk_below (g := gb849) (o := .cells #[.slice A0_0 l0_0.length c0_0, .slice A0_1 l0_1.length c0_1] 70 (0, 0)) (by (with_reducible repeat (first | refine blk_drewN ?_ _ | refine blk_drew ?_ | refine blk_alloc ?_ _)); exact BK849.out) hb)
    have n7_ := Aside0.mk (blk_below (g := gb864) (o := .cells #[.slice Ao26 t858.length co26, .slice Ao29 t861.length co29] 75 (0, 0)) (by (with_reducible repeat (first | refine blk_drewN ?_ _ | refine blk_drew ?_ | refine blk_alloc ?_ _)); exact BK864.out) hb)
    have n8_ := Aside0.mk (below_step (by repeat (first | (with_reducible first | exact HB.out | apply below_alloc | apply pw_below_drewN | apply below_drew1 | refine below_set ?_ GE849.out | refine below_set ?_ GE864.out) | exact HB.out)) hb)
    clear HO853
    clear HO856
    clear HO860
    clear HO863
    clear BK849
    clear BK864
    clear HB
    have HO853 := n0_
    have HO856 := n1_
    have HO860 := n2_
    have HO863 := n3_
    have HO868 := n4_
    have HO871 := n5_
    have BK849 := n6_
    have BK864 := n7_
    have HB := n8_
    clear n0_ n1_ n2_ n3_ n4_ n5_ n6_ n7_ n8_
    (try clear hb)
    (try clear hb2)
    (try clear hk)
    (try clear hi)
    (try clear ho0)
    (try clear ho1)
    obtain ⟨Ao33, co33, eo33⟩ := Kd.R_slice HO868.out
    (first | subst eo33 | (injection eo33 with f1_ f2_ f3_; have f4_ := f1_.symm; have f5_ := f3_.symm; clear f1_ f2_ f3_; subst f4_; subst f5_))
    obtain ⟨Ao34, co34, eo34⟩ := Kd.R_slice HO871.out
    (first | subst eo34 | (injection eo34 with f1_ f2_ f3_; have f4_ := f1_.symm; have f5_ := f3_.symm; clear f1_ f2_ f3_; subst f4_; subst f5_))
    refine hK.out _ _ ⟨(blk_cell BK864.out 0).trans rfl, (blk_cell BK864.out 1).trans rfl, (blk_cell BK849.out 0).trans rfl, (blk_cell BK849.out 1).trans rfl⟩ (fun hHeld => ?_)
    clear hK K
    refine norm_ (a' := ?_) ?_ ?_
    rotate_left
    ·show Act.put _ (some 24) _ = _
     simp only [Act.put, sa_, s0_, ss_, i64_w, i32_w]
     rfl
    refine one_ (i := 3) (N := some 25) #[true, true, true, true, false] rfl rfl (by kernel_rfl) (by decide) (fun K hK => ?_)
    refine goes_ Try.func46 (by kernel_rfl) rfl #[.agg #[.slice Ao26 t858.length co26, .slice Ao29 t861.length co29], .agg #[.slice Ao33 t866.length co33, .slice Ao34 t869.length co34]] (by rfl) rfl rfl (by (try simp only [List.map_toArray, List.map_cons, List.map_nil]); first | done | rfl | (simp only [List.length_drop, List.length_take]; rfl)) ?_
    with_reducible refine (laws_eqSet.calls k _ _ t858 _ _ t861 _ _ t866 _ _ t869 true _ ?side1 ?side2 ?side3 ?side4 ?side5 ?side6 ?side7 ?side8 A13.out).mono ?_
    (case side1 => repeat (first | exact (Kd.R_reads' HO860.out).2.2 | (with_reducible refine Kd.C_alloc ?_ _) | (with_reducible refine Kd.C_drewN ?_ _) | (with_reducible refine Kd.C_drew ?_)))
    (case side2 => exact (Kd.R_reads' HO860.out).2.1)
    (case side3 => repeat (first | exact (Kd.R_reads' HO863.out).2.2 | (with_reducible refine Kd.C_alloc ?_ _) | (with_reducible refine Kd.C_drewN ?_ _) | (with_reducible refine Kd.C_drew ?_)))
    (case side4 => exact (Kd.R_reads' HO863.out).2.1)
    (case side5 => repeat (first | exact (Kd.R_reads' HO868.out).2.2 | (with_reducible refine Kd.C_alloc ?_ _) | (with_reducible refine Kd.C_drewN ?_ _) | (with_reducible refine Kd.C_drew ?_)))
    (case side6 => exact (Kd.R_reads' HO868.out).2.1)
    (case side7 => repeat (first | exact (Kd.R_reads' HO871.out).2.2 | (with_reducible refine Kd.C_alloc ?_ _) | (with_reducible refine Kd.C_drewN ?_ _) | (with_reducible refine Kd.C_drew ?_)))
    (case side8 => exact (Kd.R_reads' HO871.out).2.1)
    rintro e w35 ⟨rfl, hb⟩
    refine ⟨_, rfl, ?_⟩
    have n0_ := Aside0.mk (Kd.R_below (by (with_reducible repeat (first | apply Kd.R_alloc | apply Kd.R_drewN | apply Kd.R_drew)); exact HO853.out) hb)
    have n1_ := Aside0.mk (Kd.R_below (by (with_reducible repeat (first | apply Kd.R_alloc | apply Kd.R_drewN | apply Kd.R_drew)); exact HO856.out) hb)
    have n2_ := Aside0.mk (Kd.R_below (by (with_reducible repeat (first | apply Kd.R_alloc | apply Kd.R_drewN | apply Kd.R_drew)); exact HO860.out) hb)
    have n3_ := Aside0.mk (Kd.R_below (by (with_reducible repeat (first | apply Kd.R_alloc | apply Kd.R_drewN | apply Kd.R_drew)); exact HO863.out) hb)
    have n4_ := Aside0.mk (Kd.R_below (by (with_reducible repeat (first | apply Kd.R_alloc | apply Kd.R_drewN | apply Kd.R_drew)); exact HO868.out) hb)
    have n5_ := Aside0.mk (Kd.R_below (by (with_reducible repeat (first | apply Kd.R_alloc | apply Kd.R_drewN | apply Kd.R_drew)); exact HO871.out) hb)
    have n6_ := Aside0.mk (blk_below (g := gb849) (o := .cells #[.slice A0_0 l0_0.length c0_0, .slice A0_1 l0_1.length c0_1] 70 (0, 0)) (by (with_reducible repeat (first | refine blk_drewN ?_ _ | refine blk_drew ?_ | refine blk_alloc ?_ _)); exact BK849.out) hb)
    have n7_ := Aside0.mk (blk_below (g := gb864) (o := .cells #[.slice Ao26 t858.length co26, .slice Ao29 t861.length co29] 75 (0, 0)) (by (with_reducible repeat (first | refine blk_drewN ?_ _ | refine blk_drew ?_ | refine blk_alloc ?_ _)); exact BK864.out) hb)
    have n8_ := Aside0.mk (below_step (by repeat (first | (with_reducible first | exact HB.out | apply below_alloc | apply pw_below_drewN | apply below_drew1 | refine below_set ?_ GE849.out | refine below_set ?_ GE864.out) | exact HB.out)) hb)
    clear HO853
    clear HO856
    clear HO860
    clear HO863
    clear HO868
    clear HO871
    clear BK849
    clear BK864
    clear HB
    have HO853 := n0_
    have HO856 := n1_
    have HO860 := n2_
    have HO863 := n3_
    have HO868 := n4_
    have HO871 := n5_
    have BK849 := n6_
    have BK864 := n7_
    have HB := n8_
    clear n0_ n1_ n2_ n3_ n4_ n5_ n6_ n7_ n8_
    (try clear hb)
    (try clear hb2)
    (try clear hk)
    (try clear hi)
    refine hK.out _ _ ⟨(blk_cell BK864.out 0).trans rfl, (blk_cell BK864.out 1).trans rfl, (blk_cell BK849.out 0).trans rfl, (blk_cell BK849.out 1).trans rfl⟩ (fun hHeld => ?_)
    clear hK K
    refine norm_ (a' := ?_) ?_ ?_
    rotate_left
    ·show Act.put _ (some 25) _ = _
     simp only [Act.put, sa_, s0_, ss_, i64_w, i32_w]
     rfl
    refine pure_ (i := 4) (N := some 26) (v := ?_) (a' := ?_) #[true, true, true, true, true] rfl rfl (by kernel_rfl) (fun _ _ _ h => h) (Or.inl ⟨by rfl, ?_⟩) ?_ ?_
    rotate_left
    ·intro w'
     go_simp
     with_reducible rfl
    rotate_left
    ·simp only [Act.put, sa_, s0_, ss_, i64_w, i32_w]
     rfl
    refine done_ (by kernel_rfl) ?_
    try go_wp2
    go_ret
    exact ⟨by first | rfl | (simp [errW_none, errW_some] <;> rfl) | (simp [*, errW_none, errW_some] <;> rfl), by repeat (first | (with_reducible first | exact HB.out | apply below_alloc | apply pw_below_drewN | apply below_drew1 | refine below_set ?_ GE849.out | refine below_set ?_ GE864.out) | exact HB.out)⟩
   ·replace c14 := Bool.eq_false_iff.mpr c14
    subst c14
    have H1 : (none) = some r := by rw [if_neg (show ¬ (false = true) by decide)] at H; exact H
    clear H
    have H := H1
    clear H1
    exact absurd H (by simp)
  ·rw [if_neg c11] at H
   exact absurd H (by simp)

end Go.Proofs.Ytdjhclgkkklajaa.P

namespace Go.Proofs.Ytdjhclgkkklajaa.P
open Go.RowKit Go.Proofs.Ytdjhclgkkklajaa.RO
def laws_FnExactSetBytes.Pure : Prop := ∀ (x0 : S70), wfT70 x0 → ∃ k, laws_FnExactSetBytes.f k x0.f0 x0.f1 = some true
end Go.Proofs.Ytdjhclgkkklajaa.P

namespace Go.Proofs.Ytdjhclgkkklajaa.Q
open Go.RowKit Go.Proofs.YtdjhclgkkklajaaW.PrintWords Go.Proofs.YtdjhclgkkklajaaW.PrintMore

theorem w64 {x : Int} (h0 : -9223372036854775808 ≤ x) (h1 : x ≤ 9223372036854775807) : wrap64 x = x := by unfold wrap64; omega
theorem u64w (n : Int) : IntKind.u64.wrap n = n % 18446744073709551616 := by simp [IntKind.wrap, IntKind.bits, IntKind.signed]
theorem evIte {α : Type} {c : Prop} [Decidable c] {f g : Nat → Option α} {r : α} (h : c → Ev f r) (h' : ¬ c → Ev g r) : Ev (fun k => if c then f k else g k) r := by
  by_cases hc : c
  · simp only [if_pos hc]; exact h hc
  · simp only [if_neg hc]; exact h' hc
theorem evPos {α : Type} {c : Prop} [Decidable c] {f g : Nat → Option α} {r : α} (hc : c) (h : Ev f r) : Ev (fun k => if c then f k else g k) r := by
  simp only [if_pos hc]; exact h
theorem evNeg {α : Type} {c : Prop} [Decidable c] {f g : Nat → Option α} {r : α} (hc : ¬ c) (h : Ev g r) : Ev (fun k => if c then f k else g k) r := by
  simp only [if_neg hc]; exact h
theorem evBind1 {α β : Type} {g : Option α} {f : Nat → α → Option β} {a : α} {r : β} (h : g = some a) (k : Ev (fun n => f n a) r) : Ev (fun n => g.bind (f n)) r := by
  subst h; exact k
theorem dropCons {α : Type} {l : List α} {i : Nat} {a : α} {s : List α} (h : l.drop i = a :: s) (d : α) : i < l.length ∧ l.getD i d = a ∧ l.drop (i + 1) = s := by
  have hl : i < l.length := by
    have := congrArg List.length h
    simp at this; omega
  rw [List.drop_eq_getElem_cons hl] at h
  injection h with h1 h2
  exact ⟨hl, by rw [List.getD_eq_getElem?_getD, List.getElem?_eq_getElem hl]; exact h1, h2⟩
theorem dropNil {α : Type} {l : List α} {i : Nat} (h : l.drop i = []) : l.length ≤ i := by
  have := congrArg List.length h
  simp at this; omega
theorem dropNil' {α : Type} {l : List α} {i : Nat} (h : l.drop i = []) (hi : i ≤ l.length) : l.length = i := by
  have := dropNil h; omega
theorem bits_xor_zero {x : Int} (h0 : 0 ≤ x) (h1 : x < 18446744073709551616) : Go.bits .xor .u64 x 0 = x := by
  obtain ⟨a, rfl⟩ := Int.eq_ofNat_of_zero_le h0
  have ha : a < 2 ^ 64 := by omega
  have e : (0 : Int) = ((0 : Nat) : Int) := rfl
  have hw : IntKind.bits .u64 = 64 := rfl
  simp only [bits]
  rw [e, BitVec.ofInt_natCast, BitVec.ofInt_natCast, BitVec.xor_zero, BitVec.toNat_ofNat, hw, Nat.mod_eq_of_lt ha, u64w]
  omega
theorem bits_xor_ones {x : Int} (h0 : 0 ≤ x) (h1 : x < 18446744073709551616) : Go.bits .xor .u64 x 18446744073709551615 = 18446744073709551615 - x := by
  obtain ⟨a, rfl⟩ := Int.eq_ofNat_of_zero_le h0
  have ha : a < 2 ^ 64 := by omega
  have e : (18446744073709551615 : Int) = ((18446744073709551615 : Nat) : Int) := rfl
  have hw : IntKind.bits .u64 = 64 := rfl
  simp only [bits]
  rw [e, BitVec.ofInt_natCast, BitVec.ofInt_natCast]
  have h2 : (BitVec.ofNat (IntKind.bits .u64) 18446744073709551615) = BitVec.allOnes _ := by decide
  rw [h2, BitVec.xor_allOnes, BitVec.toNat_not, BitVec.toNat_ofNat, hw, Nat.mod_eq_of_lt ha, u64w]
  omega
theorem wraps_u64 (n : Int) (h₀ : 0 ≤ n) (h₁ : n < 2 ^ 64) : IntKind.u64.wrap n = n := by rw [u64w]; omega
theorem u64_and127 {x : Int} (h₀ : 0 ≤ x) (h₁ : x < 18446744073709551616) : Go.bits .and .u64 x 127 = x % 128 := bits_mask .u64 64 (by decide) wraps_u64 7 (by decide) x h₀ h₁
theorem u8_or128' {x : Int} (h₀ : 0 ≤ x) (h₁ : x < 128) : Go.bits .or .u8 x 128 = x + 128 := by
  obtain ⟨a, rfl⟩ := Int.eq_ofNat_of_zero_le h₀
  have ha : a < 2 ^ 8 := by omega
  have e1 := (bits_nat .u8 8 (by decide) wraps_u8 a 128 ha (by decide)).2
  have e2 := (bits_nat .u8 8 (by decide) wraps_u8 128 a (by decide) ha).2
  have e3 : Go.bits .or .u8 128 a = 128 + a := bits_join .u8 8 (by decide) wraps_u8 7 128 a (by decide) (by decide) (by decide) (by omega) (by omega) (by omega)
  have e4 : ((128 : Nat) : Int) = 128 := rfl
  rw [e4] at e1 e2
  rw [e1, Nat.or_comm, ← e2, e3]; omega
end Go.Proofs.Ytdjhclgkkklajaa.Q

namespace Go.Proofs.Ytdjhclgkkklajaa.P
open Go.RowKit Go.Proofs.YtdjhclgkkklajaaW.PrintWords Go.Proofs.YtdjhclgkkklajaaW.PrintLast Go.Proofs.YtdjhclgkkklajaaW.PrintMore
attribute [local go_sem] max2_int min2_int max_two min_two max_three min_three max_four min_four   -- for this text's walks alone
set_option linter.unusedVariables false
set_option linter.unusedSimpArgs false

/-! ### impl_isMany_impl_Mark: function 85 -/
def impl_isMany_impl_Mark.f (l0 : List (S43)) : Option (Bool) := some (decide ((l0.length : Int) > 400))
end Go.Proofs.Ytdjhclgkkklajaa.P

namespace Go.Proofs.Ytdjhclgkkklajaa.Q
open Go.RowKit Go.Proofs.Ytdjhclgkkklajaa.P Go.Proofs.YtdjhclgkkklajaaW.PrintWords Go.Proofs.YtdjhclgkkklajaaW.PrintMore

abbrev Mark := S43
def isWithin (n low high : Int) : Bool := decide (low ≤ n) && decide (n ≤ high)
def isNode (n : Int) : Bool := isWithin n 1 5
def isDot (a b : Int) : Bool := isNode a && isWithin b 1 1000000
theorem l02Is_is (n a b : Int) : spec_l02Is.f n a b = some (isWithin n a b) := by
  unfold spec_l02Is.f isWithin
  split
  · rename_i h; simp [show a ≤ n from h]
  · rename_i h; simp [show ¬ a ≤ n from h]
theorem l02Node_is (n : Int) : spec_l02Node.f n = some (isNode n) := by simp [spec_l02Node.f, l02Is_is, isNode]
theorem l02Dot_is (a b : Int) : spec_l02Dot.f a b = some (isDot a b) := by
  simp only [spec_l02Dot.f, l02Node_is, l02Is_is, isDot, Option.bind_some]
  cases isNode a <;> simp
theorem within_is (n a b : Int) : impl_within.f n a b = some (isWithin n a b) := by
  unfold impl_within.f isWithin
  split
  · rename_i h; simp [show a ≤ n from h]
  · rename_i h; simp [show ¬ a ≤ n from h]
theorem isNode_is (n : Int) : impl_isNode.f n = some (isNode n) := by simp [impl_isNode.f, within_is, isNode]
theorem isDot_is (a b : Int) : impl_isDot.f a b = some (isDot a b) := by
  simp only [impl_isDot.f, isNode_is, within_is, isDot, Option.bind_some]
  cases isNode a <;> simp
/-- Dots whose nodes rise from above p. -/
def okFrom : Int → List Mark → Bool
  | _, [] => true
  | p, m :: r => isDot m.f0 m.f1 && (decide (p < m.f0) && okFrom m.f0 r)
def seenOk (v : List Mark) : Bool := okFrom 0 v
theorem isDot_iff (a b : Int) : isDot a b = true ↔ (1 ≤ a ∧ a ≤ 5) ∧ 1 ≤ b ∧ b ≤ 1000000 := by simp [isDot, isNode, isWithin]
/-- The node ahead of place i. -/
def prevAt (l : List Mark) (i : Nat) : Int := if i = 0 then 0 else (l.getD (i - 1) z43).f0
theorem prevAt_succ {l : List Mark} {i : Nat} {m : Mark} (h : l.getD i z43 = m) : prevAt l (i + 1) = m.f0 := by
  simp only [prevAt, Nat.add_sub_cancel, h]
  simp
theorem impl_seenRight_l0 (l : List Mark) (hl : l.length ≤ 4611686018427387904) : ∀ (s : List Mark) (i : Nat), l.drop i = s → i ≤ l.length → 0 ≤ prevAt l i →
    Ev (fun k => impl_seenRight.l0 k l l (l.length : Int) (i : Int)) (okFrom (prevAt l i) s)
  | [], i, h, hi, hp => by
    have := dropNil' h hi
    refine Ev.step (f := fun _ => some true) (fun k => ?_) (Ev.now _)
    simp only [impl_seenRight.l0]
    rw [if_neg (by omega)]
  | m :: s, i, h, hi, hp => by
    obtain ⟨h1, h2, h3⟩ := dropCons h z43
    have hr : rd_T43 l (i : Int) = m := by simpa [rd_T43] using h2
    have ih := fun hq => impl_seenRight_l0 l hl s (i + 1) h3 (by omega) hq
    rw [prevAt_succ h2] at ih
    by_cases hd : isDot m.f0 m.f1 = true
    · have hd' := (isDot_iff _ _).1 hd
      by_cases hlt : prevAt l i < m.f0
      · have ih := ih (by omega)
        refine Ev.step (fun k => ?_) (show Ev _ (okFrom (prevAt l i) (m :: s)) from by simp only [okFrom, hd, hlt, decide_true, Bool.true_and]; exact ih)
        simp only [impl_seenRight.l0, hr, isDot_is, Option.bind_some]
        rw [if_pos (by omega), if_pos (by omega), if_pos (by omega), if_pos hd, w64 (x := (i : Int) + 1) (by omega) (by omega)]
        by_cases hi0 : i = 0
        · subst hi0
          rw [if_neg (by omega)]; rfl
        · have hq : rd_T43 l ((i : Int) - 1) = l.getD (i - 1) z43 := by
            simp only [rd_T43]; congr 1; omega
          rw [w64 (x := (i : Int) - 1) (by omega) (by omega), if_pos (by omega), if_pos (by omega), if_pos (by omega), hq, if_neg (by simp only [prevAt, if_neg hi0] at hlt; omega)]
          rfl
      · refine Ev.step (f := fun _ => some false) (fun k => ?_) (show Ev _ (okFrom (prevAt l i) (m :: s)) from by simp only [okFrom, hd, hlt, decide_false, Bool.false_and, Bool.and_false]; exact Ev.now _)
        have hi0 : i ≠ 0 := by
          intro e; subst e
          simp [prevAt] at hlt; omega
        have hq : rd_T43 l ((i : Int) - 1) = l.getD (i - 1) z43 := by
          simp only [rd_T43]; congr 1; omega
        simp only [impl_seenRight.l0, hr, isDot_is, Option.bind_some]
        rw [if_pos (by omega), if_pos (by omega), if_pos (by omega), if_pos hd, w64 (x := (i : Int) - 1) (by omega) (by omega), if_pos (by omega), if_pos (by omega), if_pos (by omega), hq,
          if_pos (by simp only [prevAt, if_neg hi0] at hlt; omega)]
    · refine Ev.step (f := fun _ => some false) (fun k => ?_) (show Ev _ (okFrom (prevAt l i) (m :: s)) from by simp only [okFrom, Bool.eq_false_iff.mpr hd, Bool.false_and]; exact Ev.now _)
      simp only [impl_seenRight.l0, hr, isDot_is, Option.bind_some]
      rw [if_pos (by omega), if_pos (by omega), if_pos (by omega), if_neg hd]
theorem impl_seenRight_ev (l : List Mark) (hl : l.length ≤ 4611686018427387904) : Ev (fun k => impl_seenRight.f k l) (seenOk l) :=
  impl_seenRight_l0 l hl l 0 rfl (by omega) (by simp [prevAt])
theorem spec_SeenRight_l0 (l : List Mark) (hl : l.length ≤ 4611686018427387904) : ∀ (s : List Mark) (i : Nat), l.drop i = s → i ≤ l.length → (i : Int) ≤ prevAt l i → prevAt l i ≤ 5 →
    Ev (fun k => spec_SeenRight.l0 k l (i : Int)) (okFrom (prevAt l i) s)
  | [], i, h, hi, hp, hp5 => by
    have := dropNil' h hi
    refine Ev.step (f := fun k => spec_SeenRight.j1 k l (i : Int) false) (fun k => ?_) (Ev.step (f := fun _ => some true) (fun k => ?_) (Ev.now _))
    · simp only [spec_SeenRight.l0]
      rw [if_neg (by omega)]
    · simp only [spec_SeenRight.j1]
      rw [if_neg (by simp)]
      congr 1
      simp; omega
  | m :: s, i, h, hi, hp, hp5 => by
    obtain ⟨h1, h2, h3⟩ := dropCons h z43
    have hr : rd_T43 l (i : Int) = m := by simpa [rd_T43] using h2
    have ih := fun hq => spec_SeenRight_l0 l hl s (i + 1) h3 (by omega) hq
    rw [prevAt_succ h2] at ih
    have hj : decide ((i : Int) ≤ 5) = true := by simp; omega
    have hl0 : ∀ k, spec_SeenRight.l0 (k + 1) l (i : Int) = spec_SeenRight.j1 k l (i : Int) true := fun k => by
      simp only [spec_SeenRight.l0]
      rw [if_pos (by omega), hj]
    by_cases hd : isDot m.f0 m.f1 = true
    · have hd' := (isDot_iff _ _).1 hd
      by_cases hlt : prevAt l i < m.f0
      · have ih := ih (by omega) (by omega)
        refine Ev.step hl0 (Ev.step (fun k => ?_) (show Ev _ (okFrom (prevAt l i) (m :: s)) from by simp only [okFrom, hd, hlt, decide_true, Bool.true_and]; exact ih))
        simp only [spec_SeenRight.j1, hr, l02Dot_is, Option.bind_some]
        rw [if_pos trivial, if_pos (by omega), if_pos (by omega), if_pos hd, w64 (x := (i : Int) + 1) (by omega) (by omega)]
        by_cases hi0 : i = 0
        · subst hi0
          rw [if_neg (by omega)]; rfl
        · have hq : rd_T43 l ((i : Int) - 1) = l.getD (i - 1) z43 := by
            simp only [rd_T43]; congr 1; omega
          rw [w64 (x := (i : Int) - 1) (by omega) (by omega), if_pos (by omega), if_pos (by omega), if_pos (by omega), hq, if_neg (by simp only [prevAt, if_neg hi0] at hlt; omega)]
          rfl
      · refine Ev.step hl0 (Ev.step (f := fun _ => some false) (fun k => ?_) (show Ev _ (okFrom (prevAt l i) (m :: s)) from by simp only [okFrom, hd, hlt, decide_false, Bool.false_and, Bool.and_false]; exact Ev.now _))
        have hi0 : i ≠ 0 := by
          intro e; subst e
          simp [prevAt] at hlt; omega
        have hq : rd_T43 l ((i : Int) - 1) = l.getD (i - 1) z43 := by
          simp only [rd_T43]; congr 1; omega
        simp only [spec_SeenRight.j1, hr, l02Dot_is, Option.bind_some]
        rw [if_pos trivial, if_pos (by omega), if_pos (by omega), if_pos hd, w64 (x := (i : Int) - 1) (by omega) (by omega), if_pos (by omega), if_pos (by omega), if_pos (by omega), hq,
          if_pos (by simp only [prevAt, if_neg hi0] at hlt; omega)]
    · refine Ev.step hl0 (Ev.step (f := fun _ => some false) (fun k => ?_) (show Ev _ (okFrom (prevAt l i) (m :: s)) from by simp only [okFrom, Bool.eq_false_iff.mpr hd, Bool.false_and]; exact Ev.now _))
      simp only [spec_SeenRight.j1, hr, l02Dot_is, Option.bind_some]
      rw [if_pos trivial, if_pos (by omega), if_pos (by omega), if_neg hd]
theorem spec_SeenRight_ev (l : List Mark) (hl : l.length ≤ 4611686018427387904) : Ev (fun k => spec_SeenRight.f k l) (seenOk l) :=
  spec_SeenRight_l0 l hl l 0 rfl (by omega) (by simp [prevAt]) (by simp [prevAt])
end Go.Proofs.Ytdjhclgkkklajaa.Q

namespace Go.Proofs.Ytdjhclgkkklajaa.Q
open Go.RowKit Go.Proofs.Ytdjhclgkkklajaa.P Go.Proofs.YtdjhclgkkklajaaW.PrintWords Go.Proofs.YtdjhclgkkklajaaW.PrintMore

abbrev LMark := S36
def toMark (m : LMark) : Mark := ⟨m.f0, m.f1⟩
theorem szMarkS_is (l : List LMark) (n : Int) (h0 : 0 ≤ n) (h1 : n ≤ 1048576) (hl : l.length ≤ 9223372036854775807) :
    laws_szMarkS.f l n = some (if n < (l.length : Int) then -1 else n - (l.length : Int)) := by
  unfold laws_szMarkS.f
  rw [w64 (by omega) (by omega)]
  split
  · rw [if_pos (by omega)]
  · rw [if_neg (by omega)]
theorem toMarkS_l0 (l : List LMark) (hl : l.length ≤ 1048576) : ∀ (s : List LMark) (i : Nat), l.drop i = s → i ≤ l.length → ∀ (acc : List Mark), acc.length = l.length → acc.take i = (l.take i).map toMark →
    Ev (fun k => laws_toMarkS.l0 k l acc (i : Int)) (l.map toMark)
  | [], i, h, hi, acc, ha, hc => by
    have := dropNil' h hi
    refine Ev.step (f := fun _ => some (l.map toMark)) (fun k => ?_) (Ev.now _)
    simp only [laws_toMarkS.l0]
    rw [if_neg (by omega)]
    rw [← this, List.take_of_length_le (by omega), List.take_length] at hc
    rw [hc]
  | m :: s, i, h, hi, acc, ha, hc => by
    obtain ⟨h1, h2, h3⟩ := dropCons h z36
    have hr : rd_T36 l (i : Int) = m := by simpa [rd_T36] using h2
    have hm : l[i]'h1 = m := by
      rw [List.getD_eq_getElem?_getD, List.getElem?_eq_getElem h1] at h2; exact h2
    refine Ev.step (fun k => ?_) (toMarkS_l0 l hl s (i + 1) h3 (by omega) (acc.set i (toMark m)) (by simpa using ha) (by
      rw [List.take_succ_eq_append_getElem (by simp; omega), List.take_succ_eq_append_getElem h1, List.map_append, List.take_set_of_le (by omega), hc]
      simp [hm]))
    simp only [laws_toMarkS.l0, laws_toMark.f, hr, Option.bind_some, Int.toNat_natCast]
    rw [if_pos (by omega), if_pos (by omega), if_pos (by omega), w64 (by omega) (by omega)]
    rfl
theorem toMarkS_ev (l : List LMark) (hl : l.length ≤ 1048576) : Ev (fun k => laws_toMarkS.f k l) (l.map toMark) := by
  unfold laws_toMarkS.f
  refine evPos (by omega) (evPos (by omega) ?_)
  exact toMarkS_l0 l hl l 0 rfl (by omega) _ (by simp) (by simp)
theorem eqMark_refl (a b : Int) : laws_eqMark.f a b a b = some true := by simp [laws_eqMark.f]
theorem eqMarkS_l0 (l : List Mark) (hl : l.length ≤ 4611686018427387904) : ∀ (s : List Mark) (i : Nat), l.drop i = s → i ≤ l.length →
    Ev (fun k => laws_eqMarkS.l0 k l l (i : Int)) true
  | [], i, h, hi => by
    have := dropNil' h hi
    refine Ev.step (f := fun _ => some true) (fun k => ?_) (Ev.now _)
    simp only [laws_eqMarkS.l0]
    rw [if_neg (by omega)]
  | m :: s, i, h, hi => by
    obtain ⟨h1, h2, h3⟩ := dropCons h z43
    refine Ev.step (fun k => ?_) (eqMarkS_l0 l hl s (i + 1) h3 (by omega))
    simp only [laws_eqMarkS.l0, eqMark_refl, Option.bind_some]
    rw [if_pos (by omega), if_pos (by omega), if_pos (by omega), if_pos trivial, w64 (by omega) (by omega)]
    rfl
theorem eqMarkS_ev (l : List Mark) (hl : l.length ≤ 4611686018427387904) : Ev (fun k => laws_eqMarkS.f k l l) true := by
  unfold laws_eqMarkS.f
  exact evPos rfl (eqMarkS_l0 l hl l 0 rfl (by omega))
end Go.Proofs.Ytdjhclgkkklajaa.Q

namespace Go.Proofs.Ytdjhclgkkklajaa.Q
open Go.RowKit Go.Proofs.Ytdjhclgkkklajaa.P Go.Proofs.YtdjhclgkkklajaaW.PrintWords Go.Proofs.YtdjhclgkkklajaaW.PrintMore

/-- The number that stands for n: an even one for n ≥ 0. -/
def zig (n : Int) : Int := if n < 0 then -2 * n - 1 else 2 * n
theorem zig_range {n : Int} (h0 : -9223372036854775808 ≤ n) (h1 : n ≤ 9223372036854775807) : 0 ≤ zig n ∧ zig n < 18446744073709551616 := by
  unfold zig; split <;> omega
/-- Seven bits a byte, the lowest first; f + 1 bytes at the most. -/
def vbytes : Nat → Int → List Int
  | 0, u => [u % 256]
  | f + 1, u => if u ≥ 128 then (u % 128 + 128) :: vbytes f (u / 128) else [u % 256]
def putNum (n : Int) : ByteArray := strOfNums (vbytes 9 (zig n))
theorem fold_is {n : Int} (h0 : -9223372036854775808 ≤ n) (h1 : n ≤ 9223372036854775807) : spec_l01Fold.f n = some (zig n) := by
  unfold spec_l01Fold.f zig
  split
  · rw [w64 (x := n + 1) (by omega) (by omega), w64 (by omega) (by omega)]
    simp only [u64w]
    congr 1
    omega
  · simp only [u64w]
    congr 1
    omega
theorem xor_is {n : Int} (h0 : -9223372036854775808 ≤ n) (h1 : n ≤ 9223372036854775807) :
    Go.bits .xor .u64 (IntKind.u64.wrap ((IntKind.u64.wrap n) * 2)) (IntKind.u64.wrap (n / 9223372036854775808)) = zig n := by
  unfold zig
  simp only [u64w]
  split
  · have e : n / 9223372036854775808 = -1 := by omega
    rw [e, show ((-1 : Int) % 18446744073709551616) = 18446744073709551615 from by decide, bits_xor_ones (by omega) (by omega)]
    omega
  · have e : n / 9223372036854775808 = 0 := by omega
    rw [e, show ((0 : Int) % 18446744073709551616) = 0 from by decide, bits_xor_zero (by omega) (by omega)]
    omega
theorem vbytes_length : ∀ f u, (vbytes f u).length ≤ f + 1
  | 0, u => by simp [vbytes]
  | f + 1, u => by
    unfold vbytes
    split
    · have := vbytes_length f (u / 128)
      simp; omega
    · simp
theorem spec_PutNum_l0 : ∀ (f : Nat) (u : Int) (acc : List Int), 0 ≤ u → u < 128 ^ (f + 1) → u < 18446744073709551616 → acc.length + f + 1 < 140737488355328 →
    Ev (fun k => spec_PutNum.l0 k u acc) (strOfNums (acc ++ vbytes f u))
  | 0, u, acc, h0, h1, h2, h3 => by
    refine Ev.step (f := fun _ => some (strOfNums (acc ++ vbytes 0 u))) (fun k => ?_) (Ev.now _)
    simp only [spec_PutNum.l0]
    rw [if_neg (by omega), if_pos (by omega)]
    rfl
  | f + 1, u, acc, h0, h1, h2, h3 => by
    by_cases h : u ≥ 128
    · have ih := spec_PutNum_l0 f (u / 128) (acc ++ [u % 128 + 128]) (by omega) (by rw [Int.pow_succ] at h1; omega) (by omega) (by simp; omega)
      have hv : vbytes (f + 1) u = [u % 128 + 128] ++ vbytes f (u / 128) := by simp [vbytes, h]
      rw [hv, ← List.append_assoc]
      refine Ev.step (fun k => ?_) ih
      simp only [spec_PutNum.l0]
      rw [if_pos h, if_pos (by omega), Int.tdiv_eq_ediv_of_nonneg h0, Int.tmod_eq_emod_of_nonneg h0, u64w, u64w, show (u / 128) % 18446744073709551616 = u / 128 from by omega,
        show (u % 128 + 128) % 18446744073709551616 % 256 = u % 128 + 128 from by omega]
    · refine Ev.step (f := fun _ => some (strOfNums (acc ++ vbytes (f + 1) u))) (fun k => ?_) (Ev.now _)
      simp only [spec_PutNum.l0]
      rw [if_neg h, if_pos (by omega)]
      simp [vbytes, h]
theorem impl_PutNum_l0 : ∀ (f : Nat) (u : Int) (acc : List Int), 0 ≤ u → u < 128 ^ (f + 1) → u < 18446744073709551616 → acc.length + f + 1 < 140737488355328 →
    Ev (fun k => impl_PutNum.l0 k u acc) (strOfNums (acc ++ vbytes f u))
  | 0, u, acc, h0, h1, h2, h3 => by
    refine Ev.step (f := fun _ => some (strOfNums (acc ++ vbytes 0 u))) (fun k => ?_) (Ev.now _)
    simp only [impl_PutNum.l0]
    rw [if_neg (by omega), if_pos (by omega)]
    rfl
  | f + 1, u, acc, h0, h1, h2, h3 => by
    by_cases h : u ≥ 128
    · have ih := impl_PutNum_l0 f (u / 128) (acc ++ [u % 128 + 128]) (by omega) (by rw [Int.pow_succ] at h1; omega) (by omega) (by simp; omega)
      have hv : vbytes (f + 1) u = [u % 128 + 128] ++ vbytes f (u / 128) := by simp [vbytes, h]
      rw [hv, ← List.append_assoc]
      refine Ev.step (fun k => ?_) ih
      simp only [impl_PutNum.l0]
      rw [if_pos h, if_pos (by omega), u64_and127 h0 h2, show (u % 128) % 256 = u % 128 from by omega, u8_or128' (by omega) (by omega)]
    · refine Ev.step (f := fun _ => some (strOfNums (acc ++ vbytes (f + 1) u))) (fun k => ?_) (Ev.now _)
      simp only [impl_PutNum.l0]
      rw [if_neg h, if_pos (by omega)]
      simp [vbytes, h]
theorem spec_PutNum_ev {n : Int} (h0 : -9223372036854775808 ≤ n) (h1 : n ≤ 9223372036854775807) : Ev (fun k => spec_PutNum.f k n) (putNum n) := by
  have hz := zig_range h0 h1
  unfold spec_PutNum.f
  rw [fold_is h0 h1]
  simp only [Option.bind_some]
  have := spec_PutNum_l0 9 (zig n) [] hz.1 (by omega) hz.2 (by simp)
  simpa [putNum] using this
theorem impl_PutNum_ev {n : Int} (h0 : -9223372036854775808 ≤ n) (h1 : n ≤ 9223372036854775807) : Ev (fun k => impl_PutNum.f k n) (putNum n) := by
  have hz := zig_range h0 h1
  unfold impl_PutNum.f
  rw [xor_is h0 h1]
  have := impl_PutNum_l0 9 (zig n) [] hz.1 (by omega) hz.2 (by simp)
  simpa [putNum] using this
end Go.Proofs.Ytdjhclgkkklajaa.Q

namespace Go.Proofs.Ytdjhclgkkklajaa.Q
open Go.RowKit Go.Proofs.Ytdjhclgkkklajaa.P Go.Proofs.YtdjhclgkkklajaaW.PrintWords Go.Proofs.YtdjhclgkkklajaaW.PrintMore

def firstLong : List ByteArray → Int → Int
  | [], _ => -1
  | a :: s, i => if 8000 < a.size then i else firstLong s (i + 1)
theorem firstLong_any : ∀ (s : List ByteArray) (i : Int), 0 ≤ i → decide (firstLong s i ≥ 0) = s.any fun a => decide (8000 < a.size)
  | [], i, h => by simp [firstLong]
  | a :: s, i, h => by
    have ih := firstLong_any s (i + 1) (by omega)
    by_cases ha : 8000 < a.size
    · simp [firstLong, ha, h]
    · rw [firstLong, if_neg ha, ih, List.any_cons]
      simp [ha]
theorem isLong_l0 (l : List ByteArray) (hl : l.length ≤ 4611686018427387904) : ∀ (s : List ByteArray) (i : Nat), l.drop i = s → i ≤ l.length →
    Ev (fun k => slices_IndexFunc_string_string_impl_isLong_1.l0 k l (l.length : Int) (i : Int)) (firstLong s i)
  | [], i, h, hi => by
    have := dropNil' h hi
    refine Ev.step (f := fun _ => some (-1)) (fun k => ?_) (Ev.now _)
    simp only [slices_IndexFunc_string_string_impl_isLong_1.l0]
    rw [if_neg (by omega)]
  | a :: s, i, h, hi => by
    obtain ⟨h1, h2, h3⟩ := dropCons h ByteArray.empty
    have ih := isLong_l0 l hl s (i + 1) h3 (by omega)
    by_cases ha : 8000 < a.size
    · refine Ev.step (f := fun _ => some (firstLong (a :: s) i)) (fun k => ?_) (Ev.now _)
      simp only [slices_IndexFunc_string_string_impl_isLong_1.l0, impl_isLong_1.f, rdOf, Int.toNat_natCast, h2]
      rw [if_pos (by omega), if_pos (by omega), if_pos (by omega)]
      simp [firstLong, ha]
      omega
    · refine Ev.step (fun k => ?_) (show Ev _ (firstLong (a :: s) i) from by simp only [firstLong, if_neg ha]; exact ih)
      simp only [slices_IndexFunc_string_string_impl_isLong_1.l0, impl_isLong_1.f, rdOf, Int.toNat_natCast, h2]
      rw [if_pos (by omega), if_pos (by omega), if_pos (by omega), w64 (by omega) (by omega)]
      have : ¬ ((a.size : Int) > 8000) := by omega
      simp [this]
theorem isLong_ev (l : List ByteArray) (hl : l.length ≤ 4611686018427387904) : Ev (fun k => impl_isLong.f k l) (l.any fun a => decide (8000 < a.size)) := by
  unfold impl_isLong.f slices_ContainsFunc_string_string_impl_isLong_1.f slices_IndexFunc_string_string_impl_isLong_1.f
  have h := isLong_l0 l hl l 0 rfl (by omega)
  refine Ev.bind (Ev.bind h (Ev.now _)) ?_
  have e := firstLong_any l 0 (by omega)
  rw [show ((0 : Nat) : Int) = 0 from rfl, e]
  exact Ev.now _
theorem isLong1_ev (a : ByteArray) : Ev (fun k => impl_isLong.f k ([a] : List ByteArray)) (decide (8000 < a.size)) := by
  have := isLong_ev [a] (by simp)
  simpa using this
theorem putNum_size (n : Int) : (putNum n).size ≤ 10 := by
  have h := vbytes_length 9 (zig n)
  unfold putNum
  rw [← data_length]
  simp only [strOfNums]
  simpa using h
def putText (t : ByteArray) : ByteArray := if 8000 < t.size then ⟨#[]⟩ else putNum (t.size : Int) ++ t
theorem spec_PutText_ev (t : ByteArray) : Ev (fun k => spec_PutText.f k t) (putText t) := by
  unfold spec_PutText.f putText
  by_cases h : 8000 < t.size
  · rw [if_pos h]; exact evPos (by omega) (Ev.now _)
  · rw [if_neg h]
    refine evNeg (by omega) (Ev.bind (spec_PutNum_ev (by omega) (by omega)) ?_)
    have := putNum_size (t.size : Int)
    exact evPos (by omega) (Ev.now _)
theorem impl_PutText_ev (t : ByteArray) : Ev (fun k => impl_PutText.f k t) (putText t) := by
  unfold impl_PutText.f putText
  refine Ev.bind (isLong1_ev t) ?_
  by_cases h : 8000 < t.size
  · rw [if_pos h]; exact evPos (by simpa using h) (Ev.now _)
  · rw [if_neg h]
    refine evNeg (by simpa using h) (evBind1 rfl (Ev.bind (impl_PutNum_ev (by omega) (by omega)) ?_))
    have := putNum_size (t.size : Int)
    exact evPos (by omega) (Ev.now _)
end Go.Proofs.Ytdjhclgkkklajaa.Q

namespace Go.Proofs.Ytdjhclgkkklajaa.P
open Go.RowKit Go.Proofs.YtdjhclgkkklajaaW.PrintWords Go.Proofs.YtdjhclgkkklajaaW.PrintLast Go.Proofs.YtdjhclgkkklajaaW.PrintMore
attribute [local go_sem] max2_int min2_int max_two min_two max_three min_three max_four min_four   -- for this text's walks alone
set_option linter.unusedVariables false
set_option linter.unusedSimpArgs false

/-! ### spec_l01Max: function 138 -/
def spec_l01Max.f (a0 : Int) (a1 : Int) : Option (Int) := if a0 > a1 then (some a0) else (some a1)
end Go.Proofs.Ytdjhclgkkklajaa.P

namespace Go.Proofs.Ytdjhclgkkklajaa.P
open Go.RowKit Go.Proofs.YtdjhclgkkklajaaW.PrintWords Go.Proofs.YtdjhclgkkklajaaW.PrintLast Go.Proofs.YtdjhclgkkklajaaW.PrintMore
attribute [local go_sem] max2_int min2_int max_two min_two max_three min_three max_four min_four   -- for this text's walks alone
set_option linter.unusedVariables false
set_option linter.unusedSimpArgs false

/-! ### spec_l02Join: function 84 -/
def spec_l02Join.l0 : Nat → List (S43) → List (S43) → List (S43) → Int → Option ((List (S43)))
 | 0, _, _, _, _ => none
 | k + 1, x0, x1, x5, x6 => if x6 ≤ 5 then ((spec_l02Of.f k x0 x6).bind fun t174 => ((spec_l02Of.f k x1 x6).bind fun t175 => ((spec_l01Max.f t174 t175).bind fun t176 => (if t176 > 0 then (if x5.length < 8796093022208 then (spec_l02Join.l0 k x0 x1 (x5 ++ [(⟨x6, t176⟩ : S43)]) (wrap64 (x6 + 1))) else (none)) else (spec_l02Join.l0 k x0 x1 x5 (wrap64 (x6 + 1))))))) else (some x5)
def spec_l02Join.f (k : Nat) (l0 : List (S43)) (l1 : List (S43)) : Option ((List (S43))) := spec_l02Join.l0 k l0 l1 (([] : List (S43))) 1
theorem spec_l02Join.mono_l : ∀ k, (∀ y0 y1 y2 y3, LeO (spec_l02Join.l0 k y0 y1 y2 y3) (spec_l02Join.l0 (k + 1) y0 y1 y2 y3))
 | 0 => fun _ _ _ _ r h => by simp [spec_l02Join.l0] at h
 | k + 1 => by
  have ih0 := spec_l02Join.mono_l k
  ·intro y0 y1 y2 y3
   unfold spec_l02Join.l0
   repeat' first
   | (with_reducible exact ih0 _ _ _ _)
   | (with_reducible exact spec_l02Of.mono _ _ _)
   | (with_reducible exact LeO.refl _)
   | (with_reducible exact LeO.none _)
   | (with_reducible refine LeO.ite ?_ ?_)
   | (with_reducible refine LeO.bind ?_ (fun _ => ?_))
   | exact ih0 _ _ _ _
   | exact spec_l02Of.mono _ _ _
   | exact LeO.none _
   | refine LeO.ite ?_ ?_
   | refine LeO.bind ?_ (fun _ => ?_)
theorem spec_l02Join.mono : ∀ a0 a1 k, LeO (spec_l02Join.f k a0 a1) (spec_l02Join.f (k + 1) a0 a1) := by
 intro a0 a1 k
 have ih0 := spec_l02Join.mono_l k
 unfold spec_l02Join.f
 repeat' first
   | (with_reducible exact ih0 _ _ _ _)
   | (with_reducible exact spec_l02Of.mono _ _ _)
   | (with_reducible exact LeO.refl _)
   | (with_reducible exact LeO.none _)
   | (with_reducible refine LeO.ite ?_ ?_)
   | (with_reducible refine LeO.bind ?_ (fun _ => ?_))
   | exact ih0 _ _ _ _
   | exact spec_l02Of.mono _ _ _
   | exact LeO.none _
   | refine LeO.ite ?_ ?_
   | refine LeO.bind ?_ (fun _ => ?_)
end Go.Proofs.Ytdjhclgkkklajaa.P

namespace Go.Proofs.Ytdjhclgkkklajaa.P
open Go.RowKit Go.Proofs.YtdjhclgkkklajaaW.PrintWords Go.Proofs.YtdjhclgkkklajaaW.PrintLast Go.Proofs.YtdjhclgkkklajaaW.PrintMore
attribute [local go_sem] max2_int min2_int max_two min_two max_three min_three max_four min_four   -- for this text's walks alone
set_option linter.unusedVariables false
set_option linter.unusedSimpArgs false

/-! ### impl_seenJoin: function 88 -/
def impl_seenJoin.l0 : Nat → List (S43) → List (S43) → List (S43) → Int → Option ((List (S43)))
 | 0, _, _, _, _ => none
 | k + 1, x0, x1, x5, x6 => if x6 ≤ 5 then ((impl_seenOf.f k x0 x6).bind fun t210 => ((impl_seenOf.f k x1 x6).bind fun t211 => (if (mx t210 t211) > 0 then (if x5.length < 8796093022208 then (impl_seenJoin.l0 k x0 x1 (x5 ++ [(⟨x6, mx t210 t211⟩ : S43)]) (wrap64 (x6 + 1))) else (none)) else (impl_seenJoin.l0 k x0 x1 x5 (wrap64 (x6 + 1)))))) else (some x5)
def impl_seenJoin.f (k : Nat) (l0 : List (S43)) (l1 : List (S43)) : Option ((List (S43))) := impl_seenJoin.l0 k l0 l1 ([] : List (S43)) 1
theorem impl_seenJoin.mono_l : ∀ k, (∀ y0 y1 y2 y3, LeO (impl_seenJoin.l0 k y0 y1 y2 y3) (impl_seenJoin.l0 (k + 1) y0 y1 y2 y3))
 | 0 => fun _ _ _ _ r h => by simp [impl_seenJoin.l0] at h
 | k + 1 => by
  have ih0 := impl_seenJoin.mono_l k
  ·intro y0 y1 y2 y3
   unfold impl_seenJoin.l0
   repeat' first
   | (with_reducible exact ih0 _ _ _ _)
   | (with_reducible exact impl_seenOf.mono _ _ _)
   | (with_reducible exact LeO.refl _)
   | (with_reducible exact LeO.none _)
   | (with_reducible refine LeO.ite ?_ ?_)
   | (with_reducible refine LeO.bind ?_ (fun _ => ?_))
   | exact ih0 _ _ _ _
   | exact impl_seenOf.mono _ _ _
   | exact LeO.none _
   | refine LeO.ite ?_ ?_
   | refine LeO.bind ?_ (fun _ => ?_)
theorem impl_seenJoin.mono : ∀ a0 a1 k, LeO (impl_seenJoin.f k a0 a1) (impl_seenJoin.f (k + 1) a0 a1) := by
 intro a0 a1 k
 have ih0 := impl_seenJoin.mono_l k
 unfold impl_seenJoin.f
 repeat' first
   | (with_reducible exact ih0 _ _ _ _)
   | (with_reducible exact impl_seenOf.mono _ _ _)
   | (with_reducible exact LeO.refl _)
   | (with_reducible exact LeO.none _)
   | (with_reducible refine LeO.ite ?_ ?_)
   | (with_reducible refine LeO.bind ?_ (fun _ => ?_))
   | exact ih0 _ _ _ _
   | exact impl_seenOf.mono _ _ _
   | exact LeO.none _
   | refine LeO.ite ?_ ?_
   | refine LeO.bind ?_ (fun _ => ?_)
end Go.Proofs.Ytdjhclgkkklajaa.P

namespace Go.Proofs.Ytdjhclgkkklajaa.P
open Go.RowKit Go.Proofs.YtdjhclgkkklajaaW.PrintWords Go.Proofs.YtdjhclgkkklajaaW.PrintLast Go.Proofs.YtdjhclgkkklajaaW.PrintMore
attribute [local go_sem] max2_int min2_int max_two min_two max_three min_three max_four min_four   -- for this text's walks alone
set_option linter.unusedVariables false
set_option linter.unusedSimpArgs false

/-! ### spec_SeenBytes: function 123 -/
def spec_SeenBytes.f (k : Nat) (l0 : List (S43)) : Option (ByteArray) := (spec_SeenRight.f k l0).bind fun t626 => (if t626 = true then ((spec_l02Bytes.f k l0).bind fun t627 => (some t627)) else (some (⟨#[]⟩ : ByteArray)))
theorem spec_SeenBytes.mono : ∀ a0 k, LeO (spec_SeenBytes.f k a0) (spec_SeenBytes.f (k + 1) a0) := by
 intro a0 k
 unfold spec_SeenBytes.f
 repeat' first
   | (with_reducible exact spec_SeenRight.mono _ _)
   | (with_reducible exact spec_l02Bytes.mono _ _)
   | (with_reducible exact LeO.refl _)
   | (with_reducible exact LeO.none _)
   | (with_reducible refine LeO.ite ?_ ?_)
   | (with_reducible refine LeO.bind ?_ (fun _ => ?_))
   | exact spec_SeenRight.mono _ _
   | exact spec_l02Bytes.mono _ _
   | exact LeO.none _
   | refine LeO.ite ?_ ?_
   | refine LeO.bind ?_ (fun _ => ?_)
end Go.Proofs.Ytdjhclgkkklajaa.P

namespace Go.Proofs.Ytdjhclgkkklajaa.Q
open Go.RowKit Go.Proofs.Ytdjhclgkkklajaa.P Go.Proofs.YtdjhclgkkklajaaW.PrintWords Go.Proofs.YtdjhclgkkklajaaW.PrintMore

def seenOf : List Mark → Int → Int
  | [], _ => 0
  | m :: r, n => if m.f0 = n then m.f1 else seenOf r n
theorem l02Of_l0 (l : List Mark) (n : Int) (hl : l.length ≤ 4611686018427387904) : ∀ (s : List Mark) (i : Nat), l.drop i = s → i ≤ l.length → Ev (fun k => spec_l02Of.l0 k l n (i : Int)) (seenOf s n)
  | [], i, h, hi => by
    have := dropNil' h hi
    refine Ev.step (f := fun _ => some 0) (fun k => ?_) (Ev.now _)
    simp only [spec_l02Of.l0]
    rw [if_neg (by omega)]
  | m :: s, i, h, hi => by
    obtain ⟨h1, h2, h3⟩ := dropCons h z43
    have hr : rd_T43 l (i : Int) = m := by simpa [rd_T43] using h2
    refine Ev.step (f := fun k => if m.f0 = n then some m.f1 else spec_l02Of.l0 k l n ((i + 1 : Nat) : Int)) (fun k => ?_) ?_
    · simp only [spec_l02Of.l0, hr]
      rw [if_pos (by omega), if_pos (by omega), w64 (by omega) (by omega)]
      rfl
    · simp only [seenOf]
      refine evIte (fun h => ?_) (fun h => ?_)
      · rw [if_pos h]; exact Ev.now _
      · rw [if_neg h]; exact l02Of_l0 l n hl s (i + 1) h3 (by omega)
theorem l02Of_ev (l : List Mark) (n : Int) (hl : l.length ≤ 4611686018427387904) : Ev (fun k => spec_l02Of.f k l n) (seenOf l n) := l02Of_l0 l n hl l 0 rfl (by omega)
theorem seenOf_l0 (l : List Mark) (n : Int) (hl : l.length ≤ 4611686018427387904) : ∀ (s : List Mark) (i : Nat), l.drop i = s → i ≤ l.length → Ev (fun k => impl_seenOf.l0 k n l (l.length : Int) (i : Int)) (seenOf s n)
  | [], i, h, hi => by
    have := dropNil' h hi
    refine Ev.step (f := fun _ => some 0) (fun k => ?_) (Ev.now _)
    simp only [impl_seenOf.l0]
    rw [if_neg (by omega)]
  | m :: s, i, h, hi => by
    obtain ⟨h1, h2, h3⟩ := dropCons h z43
    have hr : rd_T43 l (i : Int) = m := by simpa [rd_T43] using h2
    refine Ev.step (f := fun k => if m.f0 = n then some m.f1 else impl_seenOf.l0 k n l (l.length : Int) ((i + 1 : Nat) : Int)) (fun k => ?_) ?_
    · simp only [impl_seenOf.l0, hr]
      rw [if_pos (by omega), if_pos (by omega), if_pos (by omega), w64 (by omega) (by omega)]
      rfl
    · simp only [seenOf]
      refine evIte (fun h => ?_) (fun h => ?_)
      · rw [if_pos h]; exact Ev.now _
      · rw [if_neg h]; exact seenOf_l0 l n hl s (i + 1) h3 (by omega)
theorem seenOf_ev (l : List Mark) (n : Int) (hl : l.length ≤ 4611686018427387904) : Ev (fun k => impl_seenOf.f k l n) (seenOf l n) := seenOf_l0 l n hl l 0 rfl (by omega)
def seenHas (l : List Mark) (a b : Int) : Bool := decide (b ≤ seenOf l a)
def seenHasOut (l : List Mark) (a b : Int) : Bool := seenOk l && (isDot a b && seenHas l a b)
theorem seenHas_ev (l : List Mark) (a b : Int) (hl : l.length ≤ 4611686018427387904) : Ev (fun k => impl_seenHas.f k l a b) (seenHas l a b) := Ev.bind (seenOf_ev l a hl) (Ev.now _)
theorem spec_SeenHas_ev (l : List Mark) (a b : Int) (hl : l.length ≤ 4611686018427387904) : Ev (fun k => spec_SeenHas.f k l a b) (seenHasOut l a b) := by
  unfold spec_SeenHas.f seenHasOut
  refine Ev.bind (spec_SeenRight_ev l hl) ?_
  cases seenOk l with
  | false => exact evNeg (by simp) (Ev.now _)
  | true =>
    refine evPos rfl (evBind1 (l02Dot_is a b) ?_)
    cases isDot a b with
    | false => exact evNeg (by simp) (Ev.now _)
    | true => exact evPos rfl (Ev.bind (l02Of_ev l a hl) (Ev.now _))
theorem okFrom_mem : ∀ (s : List Mark) (p : Int), okFrom p s = true → ∀ m ∈ s, isDot m.f0 m.f1 = true ∧ p < m.f0
  | [], _, _, m, hm => by simp at hm
  | x :: r, p, h, m, hm => by
    simp only [okFrom, Bool.and_eq_true, decide_eq_true_eq] at h
    rcases List.mem_cons.1 hm with rfl | hm
    · exact ⟨h.1, h.2.1⟩
    · have := okFrom_mem r x.f0 h.2.2 m hm
      exact ⟨this.1, by omega⟩
/-- Marks whose numbers are small. -/
def Small (v : List Mark) : Prop := ∀ m ∈ v, (0 ≤ m.f0 ∧ m.f0 ≤ 4294967295) ∧ 0 ≤ m.f1 ∧ m.f1 ≤ 4294967295
theorem seenOk_small {v : List Mark} (h : seenOk v = true) : Small v := fun m hm => by
  have := (isDot_iff _ _).1 (okFrom_mem v 0 h m hm).1
  omega
def markBytes (m : Mark) : ByteArray := putNum m.f0 ++ putNum m.f1
def seenBytes (v : List Mark) : ByteArray := v.foldl (fun t m => t ++ markBytes m) (putNum (v.length : Int))
theorem l02Bytes_l0 (l : List Mark) (hl : l.length ≤ 1048576) (hsm : Small l) : ∀ (s : List Mark) (i : Nat), l.drop i = s → i ≤ l.length → ∀ t : ByteArray, t.size ≤ 10 + 20 * i → Ev (fun k => spec_l02Bytes.l0 k l t (i : Int)) (s.foldl (fun t m => t ++ markBytes m) t)
  | [], i, h, hi, t, ht => by
    have := dropNil' h hi
    refine Ev.step (f := fun _ => some t) (fun k => ?_) (Ev.now _)
    simp only [spec_l02Bytes.l0]
    rw [if_neg (by omega)]
  | m :: s, i, h, hi, t, ht => by
    obtain ⟨h1, h2, h3⟩ := dropCons h z43
    have hr : rd_T43 l (i : Int) = m := by simpa [rd_T43] using h2
    have hm : m ∈ l := List.mem_of_mem_drop (by rw [h]; exact List.mem_cons_self)
    have hb := hsm m hm
    have p0 := putNum_size m.f0
    have p1 := putNum_size m.f1
    refine Ev.step (fun k => by simp only [spec_l02Bytes.l0, hr]; rw [if_pos (show (i : Int) < l.length by omega), if_pos (show (0 : Int) ≤ i by omega), w64 (x := (i : Int) + 1) (by omega) (by omega)]) ?_
    refine Ev.bind (spec_PutNum_ev (by omega) (by omega)) (evPos (by omega) (Ev.bind (spec_PutNum_ev (by omega) (by omega)) (evPos (by omega) ?_)))
    rw [ByteArray.append_assoc]
    exact l02Bytes_l0 l hl hsm s (i + 1) h3 (by omega) _ (by simp only [ByteArray.size_append]; omega)
theorem l02Bytes_ev (l : List Mark) (hl : l.length ≤ 1048576) (hsm : Small l) : Ev (fun k => spec_l02Bytes.f k l) (seenBytes l) := by
  unfold spec_l02Bytes.f
  exact Ev.bind (spec_PutNum_ev (by omega) (by omega)) (l02Bytes_l0 l hl hsm l 0 rfl (by omega) _ (by have := putNum_size (l.length : Int); omega))
theorem seenBytes_l0 (l : List Mark) (hl : l.length ≤ 1048576) (hsm : Small l) : ∀ (s : List Mark) (i : Nat), l.drop i = s → i ≤ l.length → ∀ t : ByteArray, t.size ≤ 10 + 20 * i → Ev (fun k => impl_seenBytes.l0 k t l (l.length : Int) (i : Int)) (s.foldl (fun t m => t ++ markBytes m) t)
  | [], i, h, hi, t, ht => by
    have := dropNil' h hi
    refine Ev.step (f := fun _ => some t) (fun k => ?_) (Ev.now _)
    simp only [impl_seenBytes.l0]
    rw [if_neg (by omega)]
  | m :: s, i, h, hi, t, ht => by
    obtain ⟨h1, h2, h3⟩ := dropCons h z43
    have hr : rd_T43 l (i : Int) = m := by simpa [rd_T43] using h2
    have hm : m ∈ l := List.mem_of_mem_drop (by rw [h]; exact List.mem_cons_self)
    have hb := hsm m hm
    have p0 := putNum_size m.f0
    have p1 := putNum_size m.f1
    refine Ev.step (fun k => by simp only [impl_seenBytes.l0, hr]; rw [if_pos (show (i : Int) < l.length by omega), if_pos (show (0 : Int) ≤ i by omega), if_pos (show (i : Int) < l.length by omega), w64 (x := (i : Int) + 1) (by omega) (by omega)]) ?_
    refine Ev.bind (impl_PutNum_ev (by omega) (by omega)) (Ev.bind (impl_PutNum_ev (by omega) (by omega)) (evPos (by omega) (evPos (by omega) ?_)))
    exact seenBytes_l0 l hl hsm s (i + 1) h3 (by omega) _ (by simp only [ByteArray.size_append]; omega)
theorem seenBytes_ev (l : List Mark) (hl : l.length ≤ 1048576) (hsm : Small l) : Ev (fun k => impl_seenBytes.f k l) (seenBytes l) := by
  unfold impl_seenBytes.f
  exact Ev.bind (impl_PutNum_ev (by omega) (by omega)) (seenBytes_l0 l hl hsm l 0 rfl (by omega) _ (by have := putNum_size (l.length : Int); omega))
end Go.Proofs.Ytdjhclgkkklajaa.Q

namespace Go.Proofs.Ytdjhclgkkklajaa.Q
open Go.RowKit Go.Proofs.Ytdjhclgkkklajaa.P Go.Proofs.YtdjhclgkkklajaaW.PrintWords Go.Proofs.YtdjhclgkkklajaaW.PrintMore

abbrev Sib := S139
def dotLess (a b c d : Int) : Bool := decide (a < c) || (decide (a = c) && decide (b < d))
def dataOk (t : ByteArray) (gone : Bool) : Bool := decide (t.size ≤ 16) && (!gone || decide (t.toList = []))
def sibOk (v : List Mark) (x : Sib) : Bool := isDot x.f0.f0 x.f0.f1 && (seenHas v x.f0.f0 x.f0.f1 && dataOk x.f2 x.f1)
def sibsFrom (v : List Mark) : Option Sib → List Sib → Bool
  | _, [] => true
  | none, x :: r => sibOk v x && sibsFrom v (some x) r
  | some y, x :: r => sibOk v x && (dotLess y.f0.f0 y.f0.f1 x.f0.f0 x.f0.f1 && sibsFrom v (some x) r)
def setOk (v : List Mark) (s : List Sib) : Bool := seenOk v && (decide (s.length ≤ 8) && sibsFrom v none s)
/-- The sibling ahead of place i. -/
def prevSib (l : List Sib) (i : Nat) : Option Sib := if i = 0 then none else some (l.getD (i - 1) z139)
theorem prevSib_succ {l : List Sib} {i : Nat} {x : Sib} (h : l.getD i z139 = x) : prevSib l (i + 1) = some x := by
  simp only [prevSib, Nat.add_sub_cancel, h]
  simp
theorem l03Less_is (a b c d : Int) : spec_l03Less.f a b c d = some (dotLess a b c d) := by
  unfold spec_l03Less.f dotLess
  by_cases h : a < c
  · rw [if_pos h]; simp [h]
  · rw [if_neg h]
    by_cases h2 : a = c
    · rw [if_pos h2]; simp [h2]
    · rw [if_neg h2]; simp [h, h2]
def cmpI (a b : Int) : Int := if a < b then -1 else if a > b then 1 else 0
theorem Compare_is (a b : Int) : cmp_Compare_int64.f a b = some (cmpI a b) := by
  simp only [cmp_Compare_int64.f, cmp_isNaN_int64.f, cmpI]
  by_cases h : a < b
  · simp [h]
  · by_cases h2 : a > b
    · simp [h, h2]
    · simp [h, h2]
theorem Or_ev (x y : Int) : Ev (fun k => cmp_Or_int.f k [x, y]) (if x = 0 then y else x) := by
  unfold cmp_Or_int.f
  have hx : rd [x, y] 0 = x := rfl
  have hy : rd [x, y] 1 = y := rfl
  have hl : (([x, y] : List Int).length : Int) = 2 := rfl
  rw [hl]
  refine Ev.step (f := fun k => if x = 0 then cmp_Or_int.l0 k 0 [x, y] 2 1 else some x) (fun k => ?_) ?_
  · simp only [cmp_Or_int.l0, hx, hl]
    rw [if_pos (by omega), if_pos (by omega), if_pos (by omega), w64 (by omega) (by omega)]
    rfl
  · refine evIte (fun h => ?_) (fun h => ?_)
    · rw [if_pos h]
      refine Ev.step (f := fun k => if y = 0 then cmp_Or_int.l0 k 0 [x, y] 2 2 else some y) (fun k => ?_) ?_
      · simp only [cmp_Or_int.l0, hy, hl]
        rw [if_pos (by omega), if_pos (by omega), if_pos (by omega), w64 (by omega) (by omega)]
        rfl
      · refine evIte (fun h => ?_) (fun h => Ev.now _)
        refine Ev.step (f := fun _ => some y) (fun k => ?_) (Ev.now _)
        simp only [cmp_Or_int.l0]
        rw [if_neg (by omega), h]
    · rw [if_neg h]; exact Ev.now _
def cmpDots (a b c d : Int) : Int := if cmpI a c = 0 then cmpI b d else cmpI a c
theorem compareDots_ev (a b c d : Int) : Ev (fun k => impl_compareDots.f k a b c d) (cmpDots a b c d) := by
  unfold impl_compareDots.f
  exact evBind1 (Compare_is a c) (evBind1 (Compare_is b d) (Ev.bind (Or_ev _ _) (Ev.now _)))
theorem cmpDots_ge (a b c d : Int) : decide (cmpDots a b c d ≥ 0) = !dotLess a b c d := by
  unfold cmpDots cmpI dotLess
  by_cases h1 : a < c
  · simp [h1]
  · by_cases h2 : a > c
    · have : ¬ a = c := by omega
      simp [h1, h2, this]
    · have : a = c := by omega
      subst this
      by_cases h3 : b < d
      · simp [h3]
      · by_cases h4 : b > d
        · simp [h3, h4]
        · simp [h3, h4]
theorem isData_is (t : ByteArray) (g : Bool) : impl_isData.f t g = some (dataOk t g) := by
  unfold impl_isData.f dataOk
  by_cases h : (t.size : Int) ≤ 16
  · have h' : t.size ≤ 16 := by omega
    rw [if_pos h]
    cases g with
    | true =>
      by_cases e : t.toList = []
      · simp [h', e]
      · simp [h', e]
    | false => simp [h']
  · have h' : ¬ t.size ≤ 16 := by omega
    rw [if_neg h]; simp [h']
theorem impl_SetRight_l0 (v : List Mark) (hv : v.length ≤ 4611686018427387904) (l : List Sib) (hl : l.length ≤ 1048576) : ∀ (s : List Sib) (i : Nat), l.drop i = s → i ≤ l.length →
    Ev (fun k => impl_SetRight.l0 k l (l.length : Int) (i : Int) v l) (sibsFrom v (prevSib l i) s)
  | [], i, h, hi => by
    have := dropNil' h hi
    refine Ev.step (f := fun _ => some true) (fun k => ?_) (by simp only [sibsFrom]; exact Ev.now _)
    simp only [impl_SetRight.l0]
    rw [if_neg (by omega)]
  | x :: s, i, h, hi => by
    obtain ⟨h1, h2, h3⟩ := dropCons h z139
    have hr : rd_T139 l (i : Int) = x := by simpa [rd_T139] using h2
    have ih := impl_SetRight_l0 v hv l hl s (i + 1) h3 (by omega)
    rw [prevSib_succ h2] at ih
    have hj : ∀ b : Bool, Ev (fun k => impl_SetRight.j2 k l (l.length : Int) (i : Int) b v l) (!b && sibsFrom v (some x) s) := fun b => by
      cases b with
      | true => exact Ev.step (f := fun _ => some false) (fun k => by simp [impl_SetRight.j2]) (Ev.now _)
      | false => exact Ev.step (fun k => by simp only [impl_SetRight.j2]; rw [if_neg (by simp), w64 (x := (i : Int) + 1) (by omega) (by omega)]) (by simpa using ih)
    have main : ∀ (p : Bool) (g : Nat → Option Bool), Ev g (p && sibsFrom v (some x) s) → Ev (fun k => (impl_isDot.f x.f0.f0 x.f0.f1).bind fun t => if t = true then ((impl_seenHas.f k v x.f0.f0 x.f0.f1).bind fun t => if t = true then ((impl_isData.f x.f2 x.f1).bind fun t => if t = true then g k else impl_SetRight.j2 k l (l.length : Int) (i : Int) true v l) else impl_SetRight.j2 k l (l.length : Int) (i : Int) true v l) else impl_SetRight.j2 k l (l.length : Int) (i : Int) true v l) (sibOk v x && (p && sibsFrom v (some x) s)) := by
      intro p g hg
      unfold sibOk
      refine evBind1 (isDot_is _ _) ?_
      cases isDot x.f0.f0 x.f0.f1 with
      | false => exact evNeg (by simp) (by simpa using hj true)
      | true =>
        refine evPos rfl (Ev.bind (seenHas_ev v _ _ hv) ?_)
        cases seenHas v x.f0.f0 x.f0.f1 with
        | false => exact evNeg (by simp) (by simpa using hj true)
        | true =>
          refine evPos rfl (evBind1 (isData_is _ _) ?_)
          cases dataOk x.f2 x.f1 with
          | false => exact evNeg (by simp) (by simpa using hj true)
          | true => exact evPos rfl (by simpa using hg)
    by_cases hi0 : i = 0
    · have hp : prevSib l i = none := by simp [prevSib, hi0]
      rw [hp]
      have h0 : ¬ ((i : Int) > 0) := by omega
      refine Ev.step (fun k => ?_) (show Ev _ (sibsFrom v none (x :: s)) from by
        have := main true _ (by simpa using hj false)
        simpa [sibsFrom] using this)
      simp only [impl_SetRight.l0, hr, if_neg h0]
      rw [if_pos (by omega), if_pos (by omega), if_pos (by omega)]
    · have hp : prevSib l i = some (l.getD (i - 1) z139) := by simp [prevSib, hi0]
      rw [hp]
      generalize hy : l.getD (i - 1) z139 = y
      have hq : rd_T139 l ((i : Int) - 1) = y := by
        rw [← hy]; simp only [rd_T139]; congr 1; omega
      have h0 : (i : Int) > 0 := by omega
      have hw : wrap64 ((i : Int) - 1) = (i : Int) - 1 := w64 (by omega) (by omega)
      have hA : (0 : Int) ≤ (i : Int) - 1 := by omega
      have hB : (i : Int) - 1 < (l.length : Int) := by omega
      refine Ev.step (fun k => ?_) (show Ev _ (sibsFrom v (some y) (x :: s)) from by
        have := main (dotLess y.f0.f0 y.f0.f1 x.f0.f0 x.f0.f1) (fun k => (impl_compareDots.f k y.f0.f0 y.f0.f1 x.f0.f0 x.f0.f1).bind fun t => impl_SetRight.j2 k l (l.length : Int) (i : Int) (decide (t ≥ 0)) v l)
          (Ev.bind (compareDots_ev _ _ _ _) (by
            have := hj (decide (cmpDots y.f0.f0 y.f0.f1 x.f0.f0 x.f0.f1 ≥ 0))
            rw [cmpDots_ge] at this ⊢
            simpa using this))
        simpa [sibsFrom] using this)
      simp only [impl_SetRight.l0, hr, if_pos h0, hw, if_pos hA, if_pos hB, hq]
      rw [if_pos (by omega), if_pos (by omega), if_pos (by omega)]
theorem impl_SetRight_ev (v : List Mark) (l : List Sib) (hv : v.length ≤ 4611686018427387904) (hl : l.length ≤ 1048576) : Ev (fun k => impl_SetRight.f k v l) (setOk v l) := by
  unfold impl_SetRight.f setOk
  refine Ev.bind (impl_seenRight_ev v hv) ?_
  cases seenOk v with
  | false => exact evNeg (by simp) (Ev.step (f := fun _ => some false) (fun k => by simp [impl_SetRight.j0]) (Ev.now _))
  | true =>
    refine evPos rfl ?_
    by_cases h : l.length ≤ 8
    · have hd : decide ((l.length : Int) > 8) = false := by simp; omega
      rw [hd]
      refine Ev.step (fun k => by simp only [impl_SetRight.j0]; rw [if_neg (by simp)]) ?_
      simpa [h, prevSib] using impl_SetRight_l0 v hv l hl l 0 rfl (by omega)
    · have hd : decide ((l.length : Int) > 8) = true := by simp; omega
      rw [hd]
      exact Ev.step (f := fun _ => some false) (fun k => by simp [impl_SetRight.j0]) (by simp [h]; exact Ev.now _)
theorem spec_SetRight_l0 (v : List Mark) (hv : v.length ≤ 4611686018427387904) (hk : seenOk v = true) (l : List Sib) (hl : l.length ≤ 1048576) : ∀ (s : List Sib) (i : Nat), l.drop i = s → i ≤ l.length →
    Ev (fun k => spec_SetRight.l0 k (i : Int) v l) (sibsFrom v (prevSib l i) s)
  | [], i, h, hi => by
    have := dropNil' h hi
    refine Ev.step (f := fun _ => some true) (fun k => ?_) (by simp only [sibsFrom]; exact Ev.now _)
    simp only [spec_SetRight.l0]
    rw [if_neg (by omega)]
  | x :: s, i, h, hi => by
    obtain ⟨h1, h2, h3⟩ := dropCons h z139
    have hr : rd_T139 l (i : Int) = x := by simpa [rd_T139] using h2
    have ih := spec_SetRight_l0 v hv hk l hl s (i + 1) h3 (by omega)
    rw [prevSib_succ h2] at ih
    have hj : ∀ b : Bool, Ev (fun k => if b = true then spec_SetRight.l0 k ((i : Int) + 1) v l else some false) (b && sibsFrom v (some x) s) := fun b => by
      cases b with
      | false => exact evNeg (by simp) (Ev.now _)
      | true => exact evPos rfl (by simpa using ih)
    have hi1 : wrap64 ((i : Int) + 1) = (i : Int) + 1 := w64 (by omega) (by omega)
    have main : ∀ (p : Bool) (g : Nat → Option Bool), Ev g (p && sibsFrom v (some x) s) → Ev (fun k => (spec_SeenHas.f k v x.f0.f0 x.f0.f1).bind fun t => if t = true then (if (x.f2.size : Int) > 16 then some false else (if x.f1 = true then (if x.f2.toList = ([] : List UInt8) then g k else some false) else g k)) else some false) (sibOk v x && (p && sibsFrom v (some x) s)) := by
      intro p g hg
      have e : seenHasOut v x.f0.f0 x.f0.f1 = (isDot x.f0.f0 x.f0.f1 && seenHas v x.f0.f0 x.f0.f1) := by simp [seenHasOut, hk]
      unfold sibOk
      rw [← Bool.and_assoc (isDot _ _), ← e]
      refine Ev.bind (spec_SeenHas_ev v _ _ hv) ?_
      cases seenHasOut v x.f0.f0 x.f0.f1 with
      | false => exact evNeg (by simp) (Ev.now _)
      | true =>
        refine evPos rfl ?_
        unfold dataOk
        by_cases hs : (x.f2.size : Int) > 16
        · have hs' : ¬ x.f2.size ≤ 16 := by omega
          exact evPos hs (by simpa [hs'] using Ev.now false)
        · have hs' : x.f2.size ≤ 16 := by omega
          refine evNeg hs ?_
          cases hg1 : x.f1 with
          | false => exact evNeg (by simp) (by simpa [hs'] using hg)
          | true =>
            refine evPos rfl ?_
            by_cases he : x.f2.toList = []
            · exact evPos he (by simpa [hs', he] using hg)
            · exact evNeg he (by simpa [hs', he] using Ev.now false)
    by_cases hi0 : i = 0
    · have hp : prevSib l i = none := by simp [prevSib, hi0]
      rw [hp]
      have h0 : ¬ ((i : Int) > 0) := by omega
      refine Ev.step (fun k => ?_) (show Ev _ (sibsFrom v none (x :: s)) from by
        have := main true (fun k => spec_SetRight.l0 k ((i : Int) + 1) v l) (by simpa using ih)
        simpa [sibsFrom] using this)
      simp only [spec_SetRight.l0, hr, if_neg h0, hi1]
      rw [if_pos (by omega), if_pos (by omega)]
    · have hp : prevSib l i = some (l.getD (i - 1) z139) := by simp [prevSib, hi0]
      rw [hp]
      generalize hy : l.getD (i - 1) z139 = y
      have hq : rd_T139 l ((i : Int) - 1) = y := by
        rw [← hy]; simp only [rd_T139]; congr 1; omega
      have h0 : (i : Int) > 0 := by omega
      have hw : wrap64 ((i : Int) - 1) = (i : Int) - 1 := w64 (by omega) (by omega)
      have hA : (0 : Int) ≤ (i : Int) - 1 := by omega
      have hB : (i : Int) - 1 < (l.length : Int) := by omega
      refine Ev.step (fun k => ?_) (show Ev _ (sibsFrom v (some y) (x :: s)) from by
        have := main (dotLess y.f0.f0 y.f0.f1 x.f0.f0 x.f0.f1) (fun k => (spec_l03Less.f y.f0.f0 y.f0.f1 x.f0.f0 x.f0.f1).bind fun t => if t = true then spec_SetRight.l0 k ((i : Int) + 1) v l else some false)
          (evBind1 (l03Less_is _ _ _ _) (hj (dotLess y.f0.f0 y.f0.f1 x.f0.f0 x.f0.f1)))
        simpa [sibsFrom] using this)
      simp only [spec_SetRight.l0, hr, hi1, if_pos h0, hw, if_pos hA, if_pos hB, hq]
      rw [if_pos (by omega), if_pos (by omega)]
theorem spec_SetRight_ev (v : List Mark) (l : List Sib) (hv : v.length ≤ 4611686018427387904) (hl : l.length ≤ 1048576) : Ev (fun k => spec_SetRight.f k v l) (setOk v l) := by
  unfold spec_SetRight.f setOk
  refine Ev.bind (spec_SeenRight_ev v hv) ?_
  cases hk : seenOk v with
  | false => exact evNeg (by simp) (Ev.step (f := fun _ => some false) (fun k => by simp [spec_SetRight.j0]) (Ev.now _))
  | true =>
    refine evPos rfl ?_
    by_cases h : l.length ≤ 8
    · have hd : decide ((l.length : Int) > 8) = false := by simp; omega
      rw [hd]
      refine Ev.step (fun k => by simp only [spec_SetRight.j0]; rw [if_neg (by simp)]) ?_
      simpa [h, prevSib] using spec_SetRight_l0 v hv hk l hl l 0 rfl (by omega)
    · have hd : decide ((l.length : Int) > 8) = true := by simp; omega
      rw [hd]
      exact Ev.step (f := fun _ => some false) (fun k => by simp [spec_SetRight.j0]) (by simp [h]; exact Ev.now _)
end Go.Proofs.Ytdjhclgkkklajaa.Q

namespace Go.Proofs.Ytdjhclgkkklajaa.Q
open Go.RowKit Go.Proofs.Ytdjhclgkkklajaa.P Go.Proofs.YtdjhclgkkklajaaW.PrintWords Go.Proofs.YtdjhclgkkklajaaW.PrintMore

abbrev LSib := S177
def toSib (x : LSib) : Sib := ⟨toMark x.f0, x.f1, x.f2⟩
theorem szSib_is (a b : Int) (c : Bool) (t : ByteArray) (n : Int) (h0 : 0 ≤ n) (h1 : n ≤ 1048576) (ht : t.size ≤ 9223372036854775807) :
    laws_szSib.f a b c t n = some (if n < (t.size : Int) then -1 else n - (t.size : Int)) := by
  unfold laws_szSib.f
  rw [w64 (by omega) (by omega)]
  split
  · rw [if_pos (by omega)]
  · rw [if_neg (by omega)]
theorem szSibS_l0 (l : List LSib) (hl : l.length ≤ 1048576) (hx : ∀ x ∈ l, x.f2.size ≤ 9223372036854775807) : ∀ (s : List LSib) (i : Nat), l.drop i = s → i ≤ l.length → ∀ n : Int, 0 ≤ n → n ≤ 1048576 →
    ∃ r, Ev (fun k => laws_szSibS.l0 k l n (i : Int)) r ∧ r ≤ n ∧ (0 ≤ r → ∀ x ∈ s, (x.f2.size : Int) ≤ n)
  | [], i, h, hi, n, h0, h1 => by
    have := dropNil' h hi
    refine ⟨n, Ev.step (f := fun _ => some n) (fun k => ?_) (Ev.now _), by omega, by simp⟩
    simp only [laws_szSibS.l0]
    rw [if_neg (by omega)]
  | m :: s, i, h, hi, n, h0, h1 => by
    obtain ⟨g1, g2, g3⟩ := dropCons h z177
    have hr : rd_T177 l (i : Int) = m := by simpa [rd_T177] using g2
    have hm : m ∈ l := List.mem_of_mem_drop (by rw [h]; exact List.mem_cons_self)
    have e := szSib_is m.f0.f0 m.f0.f1 m.f1 m.f2 n h0 h1 (hx m hm)
    by_cases hn : n < (m.f2.size : Int)
    · rw [if_pos hn] at e
      refine ⟨-1, Ev.step (f := fun _ => some (-1)) (fun k => ?_) (Ev.now _), by omega, by omega⟩
      simp only [laws_szSibS.l0, hr, e, Option.bind_some]
      rw [if_pos (by omega), if_pos (by omega), if_pos (by omega)]
    · rw [if_neg hn] at e
      obtain ⟨r, e1, e2, e3⟩ := szSibS_l0 l hl hx s (i + 1) g3 (by omega) (n - (m.f2.size : Int)) (by omega) (by omega)
      refine ⟨r, Ev.step (fun k => ?_) e1, by omega, fun hr0 x hxm => ?_⟩
      · simp only [laws_szSibS.l0, hr, e, Option.bind_some]
        rw [if_pos (by omega), if_pos (by omega), if_neg (by omega), w64 (by omega) (by omega)]
        rfl
      · rcases List.mem_cons.1 hxm with rfl | hxm
        · omega
        · have := e3 hr0 x hxm; omega
theorem szSibS_ev (l : List LSib) (hl : l.length ≤ 9223372036854775807) (hx : ∀ x ∈ l, x.f2.size ≤ 9223372036854775807) (n : Int) (h0 : 0 ≤ n) (h1 : n ≤ 1048576) :
    ∃ r, Ev (fun k => laws_szSibS.f k l n) r ∧ r ≤ n ∧ (0 ≤ r → (l.length : Int) ≤ n ∧ ∀ x ∈ l, (x.f2.size : Int) ≤ n) := by
  unfold laws_szSibS.f
  rw [w64 (by omega) (by omega)]
  by_cases h : n - (l.length : Int) < 0
  · exact ⟨-1, evPos h (Ev.now _), by omega, by omega⟩
  · obtain ⟨r, e1, e2, e3⟩ := szSibS_l0 l (by omega) hx l 0 rfl (by omega) (n - (l.length : Int)) (by omega) (by omega)
    exact ⟨r, evNeg h e1, by omega, fun h0 => ⟨by omega, fun x hx => by have := e3 h0 x hx; omega⟩⟩
theorem szSet_ev (v : List LMark) (l : List LSib) (hv : v.length ≤ 9223372036854775807) (hl : l.length ≤ 9223372036854775807) (hx : ∀ x ∈ l, x.f2.size ≤ 9223372036854775807) (n : Int) (h0 : 0 ≤ n) (h1 : n ≤ 1048576) :
    ∃ r, Ev (fun k => laws_szSet.f k v l n) r ∧ r ≤ n ∧ (0 ≤ r → v.length ≤ 1048576 ∧ l.length ≤ 1048576 ∧ ∀ x ∈ l, x.f2.size ≤ 1048576) := by
  unfold laws_szSet.f
  rw [szMarkS_is v n h0 h1 hv]
  simp only [Option.bind_some]
  by_cases h : n < (v.length : Int)
  · rw [if_pos h]
    exact ⟨-1, evPos (by omega) (Ev.now _), by omega, by omega⟩
  · rw [if_neg h]
    obtain ⟨r, e1, e2, e3⟩ := szSibS_ev l hl hx (n - (v.length : Int)) (by omega) (by omega)
    by_cases hr : r < 0
    · exact ⟨-1, evNeg (by omega) (Ev.bind e1 (evPos hr (Ev.now _))), by omega, by omega⟩
    · refine ⟨r, evNeg (by omega) (Ev.bind e1 (evNeg hr (Ev.now _))), by omega, fun h0 => ?_⟩
      obtain ⟨g1, g2⟩ := e3 h0
      exact ⟨by omega, by omega, fun x hx => by have := g2 x hx; omega⟩
theorem toSibS_l0 (l : List LSib) (hl : l.length ≤ 1048576) : ∀ (s : List LSib) (i : Nat), l.drop i = s → i ≤ l.length → ∀ (acc : List Sib), acc.length = l.length → acc.take i = (l.take i).map toSib →
    Ev (fun k => laws_toSibS.l0 k l acc (i : Int)) (l.map toSib)
  | [], i, h, hi, acc, ha, hc => by
    have := dropNil' h hi
    refine Ev.step (f := fun _ => some (l.map toSib)) (fun k => ?_) (Ev.now _)
    simp only [laws_toSibS.l0]
    rw [if_neg (by omega)]
    rw [← this, List.take_of_length_le (by omega), List.take_length] at hc
    rw [hc]
  | m :: s, i, h, hi, acc, ha, hc => by
    obtain ⟨h1, h2, h3⟩ := dropCons h z177
    have hr : rd_T177 l (i : Int) = m := by simpa [rd_T177] using h2
    have hm : l[i]'h1 = m := by
      rw [List.getD_eq_getElem?_getD, List.getElem?_eq_getElem h1] at h2; exact h2
    refine Ev.step (fun k => ?_) (toSibS_l0 l hl s (i + 1) h3 (by omega) (acc.set i (toSib m)) (by simpa using ha) (by
      rw [List.take_succ_eq_append_getElem (by simp; omega), List.take_succ_eq_append_getElem h1, List.map_append, List.take_set_of_le (by omega), hc]
      simp [hm]))
    simp only [laws_toSibS.l0, laws_toSib.f, laws_toMark.f, hr, Option.bind_some, Int.toNat_natCast]
    rw [if_pos (by omega), if_pos (by omega), if_pos (by omega), w64 (by omega) (by omega)]
    rfl
theorem toSibS_ev (l : List LSib) (hl : l.length ≤ 1048576) : Ev (fun k => laws_toSibS.f k l) (l.map toSib) := by
  unfold laws_toSibS.f
  refine evPos (by omega) (evPos (by omega) ?_)
  exact toSibS_l0 l hl l 0 rfl (by omega) _ (by simp) (by simp)
theorem toSet_ev (v : List LMark) (l : List LSib) (hv : v.length ≤ 1048576) (hl : l.length ≤ 1048576) : Ev (fun k => laws_toSet.f k v l) (v.map toMark, l.map toSib) :=
  Ev.bind (toMarkS_ev v hv) (Ev.bind (toSibS_ev l hl) (Ev.now _))
theorem eqSib_refl (a b : Int) (c : Bool) (t : ByteArray) : laws_eqSib.f a b c t a b c t = some true := by simp [laws_eqSib.f, eqMark_refl]
theorem eqSibS_l0 (l : List Sib) (hl : l.length ≤ 4611686018427387904) : ∀ (s : List Sib) (i : Nat), l.drop i = s → i ≤ l.length →
    Ev (fun k => laws_eqSibS.l0 k l l (i : Int)) true
  | [], i, h, hi => by
    have := dropNil' h hi
    refine Ev.step (f := fun _ => some true) (fun k => ?_) (Ev.now _)
    simp only [laws_eqSibS.l0]
    rw [if_neg (by omega)]
  | m :: s, i, h, hi => by
    obtain ⟨h1, h2, h3⟩ := dropCons h z139
    refine Ev.step (fun k => ?_) (eqSibS_l0 l hl s (i + 1) h3 (by omega))
    simp only [laws_eqSibS.l0, eqSib_refl, Option.bind_some]
    rw [if_pos (by omega), if_pos (by omega), if_pos (by omega), if_pos trivial, w64 (by omega) (by omega)]
    rfl
theorem eqSibS_ev (l : List Sib) (hl : l.length ≤ 4611686018427387904) : Ev (fun k => laws_eqSibS.f k l l) true := by
  unfold laws_eqSibS.f
  exact evPos rfl (eqSibS_l0 l hl l 0 rfl (by omega))
theorem eqSet_ev (v : List Mark) (l : List Sib) (hv : v.length ≤ 4611686018427387904) (hl : l.length ≤ 4611686018427387904) : Ev (fun k => laws_eqSet.f k v l v l) true :=
  Ev.bind (eqMarkS_ev v hv) (evPos rfl (Ev.bind (eqSibS_ev l hl) (evPos rfl (Ev.now _))))
end Go.Proofs.Ytdjhclgkkklajaa.Q

namespace Go.Proofs.Ytdjhclgkkklajaa.Q
open Go.RowKit Go.Proofs.Ytdjhclgkkklajaa.P Go.Proofs.YtdjhclgkkklajaaW.PrintWords Go.Proofs.YtdjhclgkkklajaaW.PrintMore
/-- Of any set: it is too large, or it is small. -/
theorem szSet_small {x : S70} (hw : Go.Proofs.Ytdjhclgkkklajaa.RO.wfT70 x) : ∃ r, Ev (fun k => laws_szSet.f k x.f0 x.f1 1048576) r ∧ r ≤ 1048576 ∧ (¬ r < 0 → x.f0.length ≤ 1048576 ∧ x.f1.length ≤ 1048576 ∧ ∀ y ∈ x.f1, y.f2.size ≤ 1048576) := by
  obtain ⟨r, e1, e2, e3⟩ := szSet_ev x.f0 x.f1 hw.1.1 hw.2.1 (fun y hy => (hw.2.2 y hy).2.2) 1048576 (by omega) (by omega)
  exact ⟨r, e1, e2, fun h => e3 (by omega)⟩
end Go.Proofs.Ytdjhclgkkklajaa.Q

namespace Go.Proofs.Ytdjhclgkkklajaa.P
open Go.RowKit Go.Proofs.YtdjhclgkkklajaaW.PrintWords Go.Proofs.YtdjhclgkkklajaaW.PrintLast Go.Proofs.YtdjhclgkkklajaaW.PrintMore
attribute [local go_sem] max2_int min2_int max_two min_two max_three min_three max_four min_four   -- for this text's walks alone
set_option linter.unusedVariables false
set_option linter.unusedSimpArgs false

theorem eqA43 (d : Nat) (w : World) (x0 y0 : Int) (x1 y1 : Int) :
  (Op.equalIn (d + 2) 43 (.agg #[.int .i64 x0, .int .i64 x1]) (.agg #[.int .i64 y0, .int .i64 y1])).run Try.prog w = .ok (x0 == y0 && (x1 == y1)) w := by
 refine eqA_of Try.underlying43 (by kernel_rfl) ?_
 refine eqf_cons (by rfl) (by go_simp; rfl) (by go_simp; rfl) (by go_simp) ?_
 exact eqf_last (by rfl) (by go_simp; rfl) (by go_simp; rfl) (by go_simp)
end Go.Proofs.Ytdjhclgkkklajaa.P

namespace Go.Proofs.Ytdjhclgkkklajaa.P
open Go.RowKit Go.Proofs.YtdjhclgkkklajaaW.PrintWords Go.Proofs.YtdjhclgkkklajaaW.PrintLast Go.Proofs.YtdjhclgkkklajaaW.PrintMore
attribute [local go_sem] max2_int min2_int max_two min_two max_three min_three max_four min_four   -- for this text's walks alone
set_option linter.unusedVariables false
set_option linter.unusedSimpArgs false

attribute [local go_sem high] eqA43
/-! ### spec_l03At: function 120 -/
def spec_l03At.l0 : Nat → List (S139) → Int → Int → Int → Option (Int)
 | 0, _, _, _, _ => none
 | k + 1, x0, x5, x569000, x569001 => if x5 < (x0.length : Int) then (if 0 ≤ x5 then (if (((rd_T139 x0 x5).f0.f0) == x569000 && (((rd_T139 x0 x5).f0.f1) == x569001)) = true then (some x5) else (spec_l03At.l0 k x0 (wrap64 (x5 + 1)) x569000 x569001)) else (none)) else (some (-1))
def spec_l03At.f (k : Nat) (l0 : List (S139)) (a1_0 : Int) (a1_1 : Int) : Option (Int) := spec_l03At.l0 k l0 0 a1_0 a1_1
theorem spec_l03At.mono_l : ∀ k, (∀ y0 y1 y2 y3, LeO (spec_l03At.l0 k y0 y1 y2 y3) (spec_l03At.l0 (k + 1) y0 y1 y2 y3))
 | 0 => fun _ _ _ _ r h => by simp [spec_l03At.l0] at h
 | k + 1 => by
  have ih0 := spec_l03At.mono_l k
  ·intro y0 y1 y2 y3
   unfold spec_l03At.l0
   repeat' first
   | (with_reducible exact ih0 _ _ _ _)
   | (with_reducible exact LeO.refl _)
   | (with_reducible exact LeO.none _)
   | (with_reducible refine LeO.ite ?_ ?_)
   | (with_reducible refine LeO.bind ?_ (fun _ => ?_))
   | exact ih0 _ _ _ _
   | exact LeO.none _
   | refine LeO.ite ?_ ?_
   | refine LeO.bind ?_ (fun _ => ?_)
theorem spec_l03At.mono : ∀ a0 a1 a2 k, LeO (spec_l03At.f k a0 a1 a2) (spec_l03At.f (k + 1) a0 a1 a2) := by
 intro a0 a1 a2 k
 have ih0 := spec_l03At.mono_l k
 unfold spec_l03At.f
 repeat' first
   | (with_reducible exact ih0 _ _ _ _)
   | (with_reducible exact LeO.refl _)
   | (with_reducible exact LeO.none _)
   | (with_reducible refine LeO.ite ?_ ?_)
   | (with_reducible refine LeO.bind ?_ (fun _ => ?_))
   | exact ih0 _ _ _ _
   | exact LeO.none _
   | refine LeO.ite ?_ ?_
   | refine LeO.bind ?_ (fun _ => ?_)
end Go.Proofs.Ytdjhclgkkklajaa.P

namespace Go.Proofs.Ytdjhclgkkklajaa.P
open Go.RowKit Go.Proofs.YtdjhclgkkklajaaW.PrintWords Go.Proofs.YtdjhclgkkklajaaW.PrintLast Go.Proofs.YtdjhclgkkklajaaW.PrintMore
attribute [local go_sem] max2_int min2_int max_two min_two max_three min_three max_four min_four   -- for this text's walks alone
set_option linter.unusedVariables false
set_option linter.unusedSimpArgs false

/-! ### spec_SetHas: function 52 -/
def spec_SetHas.f (k : Nat) (l0_0 : List (S43)) (l0_1 : List (S139)) (a1_0 : Int) (a1_1 : Int) : Option (Bool) := (spec_SetRight.f k l0_0 l0_1).bind fun t572 => (if t572 = true then ((spec_l03At.f k l0_1 a1_0 a1_1).bind fun t573 => (some (decide (t573 ≥ 0)))) else (some false))
theorem spec_SetHas.mono : ∀ a0 a1 a2 a3 k, LeO (spec_SetHas.f k a0 a1 a2 a3) (spec_SetHas.f (k + 1) a0 a1 a2 a3) := by
 intro a0 a1 a2 a3 k
 unfold spec_SetHas.f
 repeat' first
   | (with_reducible exact spec_SetRight.mono _ _ _)
   | (with_reducible exact spec_l03At.mono _ _ _ _)
   | (with_reducible exact LeO.refl _)
   | (with_reducible exact LeO.none _)
   | (with_reducible refine LeO.ite ?_ ?_)
   | (with_reducible refine LeO.bind ?_ (fun _ => ?_))
   | exact spec_SetRight.mono _ _ _
   | exact spec_l03At.mono _ _ _ _
   | exact LeO.none _
   | refine LeO.ite ?_ ?_
   | refine LeO.bind ?_ (fun _ => ?_)
end Go.Proofs.Ytdjhclgkkklajaa.P

namespace Go.Proofs.Ytdjhclgkkklajaa.P
open Go.RowKit Go.Proofs.YtdjhclgkkklajaaW.PrintWords Go.Proofs.YtdjhclgkkklajaaW.PrintLast Go.Proofs.YtdjhclgkkklajaaW.PrintMore
attribute [local go_sem] max2_int min2_int max_two min_two max_three min_three max_four min_four   -- for this text's walks alone
set_option linter.unusedVariables false
set_option linter.unusedSimpArgs false

attribute [local go_sem high] eqA43
/-! ### impl_Set_sib_1_cap: function 154 -/
def impl_Set_sib_1_cap.f (a0_0 : Int) (a0_1 : Int) (a0_2 : Bool) (a0_3 : ByteArray) (a1_0 : Int) (a1_1 : Int) : Option (Bool) := some (a0_0 == a1_0 && (a0_1 == a1_1))
end Go.Proofs.Ytdjhclgkkklajaa.P

namespace Go.Proofs.Ytdjhclgkkklajaa.P
open Go.RowKit Go.Proofs.YtdjhclgkkklajaaW.PrintWords Go.Proofs.YtdjhclgkkklajaaW.PrintLast Go.Proofs.YtdjhclgkkklajaaW.PrintMore
attribute [local go_sem] max2_int min2_int max_two min_two max_three min_three max_four min_four   -- for this text's walks alone
set_option linter.unusedVariables false
set_option linter.unusedSimpArgs false

/-! ### slices_IndexFunc_impl_Sib_impl_Sib_impl_Set_sib_1: function 153 -/
def slices_IndexFunc_impl_Sib_impl_Sib_impl_Set_sib_1.l0 : Nat → List (S139) → Int → Int → Int → Int → Option (Int)
 | 0, _, _, _, _, _ => none
 | k + 1, x0, x7, x8, x62000, x62001 => if x8 < x7 then (if 0 ≤ x8 then (if x8 < (x0.length : Int) then ((impl_Set_sib_1_cap.f ((rd_T139 x0 x8).f0.f0) ((rd_T139 x0 x8).f0.f1) ((rd_T139 x0 x8).f1) ((rd_T139 x0 x8).f2) x62000 x62001).bind fun t576 => (if t576 = true then (some x8) else (slices_IndexFunc_impl_Sib_impl_Sib_impl_Set_sib_1.l0 k x0 x7 (wrap64 (x8 + 1)) x62000 x62001))) else (none)) else (none)) else (some (-1))
def slices_IndexFunc_impl_Sib_impl_Sib_impl_Set_sib_1.f (k : Nat) (l0 : List (S139)) (a1_0 : Int) (a1_1 : Int) : Option (Int) := slices_IndexFunc_impl_Sib_impl_Sib_impl_Set_sib_1.l0 k l0 (l0.length : Int) 0 a1_0 a1_1
theorem slices_IndexFunc_impl_Sib_impl_Sib_impl_Set_sib_1.mono_l : ∀ k, (∀ y0 y1 y2 y3 y4, LeO (slices_IndexFunc_impl_Sib_impl_Sib_impl_Set_sib_1.l0 k y0 y1 y2 y3 y4) (slices_IndexFunc_impl_Sib_impl_Sib_impl_Set_sib_1.l0 (k + 1) y0 y1 y2 y3 y4))
 | 0 => fun _ _ _ _ _ r h => by simp [slices_IndexFunc_impl_Sib_impl_Sib_impl_Set_sib_1.l0] at h
 | k + 1 => by
  have ih0 := slices_IndexFunc_impl_Sib_impl_Sib_impl_Set_sib_1.mono_l k
  ·intro y0 y1 y2 y3 y4
   unfold slices_IndexFunc_impl_Sib_impl_Sib_impl_Set_sib_1.l0
   repeat' first
   | (with_reducible exact ih0 _ _ _ _ _)
   | (with_reducible exact LeO.refl _)
   | (with_reducible exact LeO.none _)
   | (with_reducible refine LeO.ite ?_ ?_)
   | (with_reducible refine LeO.bind ?_ (fun _ => ?_))
   | exact ih0 _ _ _ _ _
   | exact LeO.none _
   | refine LeO.ite ?_ ?_
   | refine LeO.bind ?_ (fun _ => ?_)
theorem slices_IndexFunc_impl_Sib_impl_Sib_impl_Set_sib_1.mono : ∀ a0 a1 a2 k, LeO (slices_IndexFunc_impl_Sib_impl_Sib_impl_Set_sib_1.f k a0 a1 a2) (slices_IndexFunc_impl_Sib_impl_Sib_impl_Set_sib_1.f (k + 1) a0 a1 a2) := by
 intro a0 a1 a2 k
 have ih0 := slices_IndexFunc_impl_Sib_impl_Sib_impl_Set_sib_1.mono_l k
 unfold slices_IndexFunc_impl_Sib_impl_Sib_impl_Set_sib_1.f
 repeat' first
   | (with_reducible exact ih0 _ _ _ _ _)
   | (with_reducible exact LeO.refl _)
   | (with_reducible exact LeO.none _)
   | (with_reducible refine LeO.ite ?_ ?_)
   | (with_reducible refine LeO.bind ?_ (fun _ => ?_))
   | exact ih0 _ _ _ _ _
   | exact LeO.none _
   | refine LeO.ite ?_ ?_
   | refine LeO.bind ?_ (fun _ => ?_)
end Go.Proofs.Ytdjhclgkkklajaa.P

namespace Go.Proofs.Ytdjhclgkkklajaa.P
open Go.RowKit Go.Proofs.YtdjhclgkkklajaaW.PrintWords Go.Proofs.YtdjhclgkkklajaaW.PrintLast Go.Proofs.YtdjhclgkkklajaaW.PrintMore
attribute [local go_sem] max2_int min2_int max_two min_two max_three min_three max_four min_four   -- for this text's walks alone
set_option linter.unusedVariables false
set_option linter.unusedSimpArgs false

/-! ### impl_Set_sib: function 121 -/
def impl_Set_sib.f (k : Nat) (l0_0 : List (S43)) (l0_1 : List (S139)) (a1_0 : Int) (a1_1 : Int) : Option (Int) := (slices_IndexFunc_impl_Sib_impl_Sib_impl_Set_sib_1.f k l0_1 a1_0 a1_1).bind fun t579 => (some t579)
theorem impl_Set_sib.mono : ∀ a0 a1 a2 a3 k, LeO (impl_Set_sib.f k a0 a1 a2 a3) (impl_Set_sib.f (k + 1) a0 a1 a2 a3) := by
 intro a0 a1 a2 a3 k
 unfold impl_Set_sib.f
 repeat' first
   | (with_reducible exact slices_IndexFunc_impl_Sib_impl_Sib_impl_Set_sib_1.mono _ _ _ _)
   | (with_reducible exact LeO.refl _)
   | (with_reducible exact LeO.none _)
   | (with_reducible refine LeO.ite ?_ ?_)
   | (with_reducible refine LeO.bind ?_ (fun _ => ?_))
   | exact slices_IndexFunc_impl_Sib_impl_Sib_impl_Set_sib_1.mono _ _ _ _
   | exact LeO.none _
   | refine LeO.ite ?_ ?_
   | refine LeO.bind ?_ (fun _ => ?_)
end Go.Proofs.Ytdjhclgkkklajaa.P

namespace Go.Proofs.Ytdjhclgkkklajaa.P
open Go.RowKit Go.Proofs.YtdjhclgkkklajaaW.PrintWords Go.Proofs.YtdjhclgkkklajaaW.PrintLast Go.Proofs.YtdjhclgkkklajaaW.PrintMore
attribute [local go_sem] max2_int min2_int max_two min_two max_three min_three max_four min_four   -- for this text's walks alone
set_option linter.unusedVariables false
set_option linter.unusedSimpArgs false

/-! ### impl_SetHas: function 53 -/
def impl_SetHas.f (k : Nat) (l0_0 : List (S43)) (l0_1 : List (S139)) (a1_0 : Int) (a1_1 : Int) : Option (Bool) := (impl_SetRight.f k l0_0 l0_1).bind fun t582 => (if t582 = true then ((impl_Set_sib.f k l0_0 l0_1 a1_0 a1_1).bind fun t583 => (some (decide (t583 ≥ 0)))) else (some false))
theorem impl_SetHas.mono : ∀ a0 a1 a2 a3 k, LeO (impl_SetHas.f k a0 a1 a2 a3) (impl_SetHas.f (k + 1) a0 a1 a2 a3) := by
 intro a0 a1 a2 a3 k
 unfold impl_SetHas.f
 repeat' first
   | (with_reducible exact impl_SetRight.mono _ _ _)
   | (with_reducible exact impl_Set_sib.mono _ _ _ _ _)
   | (with_reducible exact LeO.refl _)
   | (with_reducible exact LeO.none _)
   | (with_reducible refine LeO.ite ?_ ?_)
   | (with_reducible refine LeO.bind ?_ (fun _ => ?_))
   | exact impl_SetRight.mono _ _ _
   | exact impl_Set_sib.mono _ _ _ _ _
   | exact LeO.none _
   | refine LeO.ite ?_ ?_
   | refine LeO.bind ?_ (fun _ => ?_)
end Go.Proofs.Ytdjhclgkkklajaa.P

namespace Go.Proofs.Ytdjhclgkkklajaa.Q
open Go.RowKit Go.Proofs.Ytdjhclgkkklajaa.P Go.Proofs.YtdjhclgkkklajaaW.PrintWords Go.Proofs.YtdjhclgkkklajaaW.PrintMore

/-- A sibling's bytes. -/
def sibBytes (x : Sib) : ByteArray := putNum x.f0.f0 ++ putNum x.f0.f1 ++ putNum (if x.f1 = true then 1 else 0) ++ putText x.f2
theorem truth_is (b : Bool) : impl_truth.f b = some (if b = true then 1 else 0) := by
  unfold impl_truth.f
  cases b <;> rfl
theorem sibsFrom_mem (v : List Mark) : ∀ (s : List Sib) (p : Option Sib), sibsFrom v p s = true → ∀ x ∈ s, sibOk v x = true
  | [], _, _, x, hx => by simp at hx
  | y :: r, p, h, x, hx => by
    have h2 : sibOk v y = true ∧ sibsFrom v (some y) r = true := by
      cases p with
      | none => simpa [sibsFrom] using h
      | some z =>
        simp only [sibsFrom, Bool.and_eq_true] at h
        exact ⟨h.1, h.2.2⟩
    rcases List.mem_cons.1 hx with rfl | hx
    · exact h2.1
    · exact sibsFrom_mem v r _ h2.2 x hx
def SmallSibs (l : List Sib) : Prop := ∀ x ∈ l, ((0 ≤ x.f0.f0 ∧ x.f0.f0 ≤ 4294967295) ∧ 0 ≤ x.f0.f1 ∧ x.f0.f1 ≤ 4294967295) ∧ x.f2.size ≤ 16
theorem setOk_iff (v : List Mark) (l : List Sib) : setOk v l = true ↔ seenOk v = true ∧ l.length ≤ 8 ∧ sibsFrom v none l = true := by
  simp [setOk]
theorem setOk_small {v : List Mark} {l : List Sib} (h : setOk v l = true) : SmallSibs l := fun x hx => by
  have h1 := sibsFrom_mem v l none ((setOk_iff v l).1 h).2.2 x hx
  simp only [sibOk, Bool.and_eq_true, dataOk, decide_eq_true_eq] at h1
  have h2 := (isDot_iff _ _).1 h1.1
  omega
theorem putText_size (t : ByteArray) : (putText t).size ≤ 10 + t.size := by
  have := putNum_size (t.size : Int)
  unfold putText
  split
  · show 0 ≤ _; omega
  · simp only [ByteArray.size_append]; omega
theorem sibBytes_size (x : Sib) : (sibBytes x).size ≤ 40 + x.f2.size := by
  have p0 := putNum_size x.f0.f0
  have p1 := putNum_size x.f0.f1
  have p2 := putNum_size (if x.f1 = true then 1 else 0)
  have p3 := putText_size x.f2
  simp only [sibBytes, ByteArray.size_append]; omega
theorem seenBytes_size (v : List Mark) : (seenBytes v).size ≤ 10 + 20 * v.length := by
  have key : ∀ (s : List Mark) (t : ByteArray), (s.foldl (fun t m => t ++ markBytes m) t).size ≤ t.size + 20 * s.length := by
    intro s
    induction s with
    | nil => intro t; simp
    | cons m r ih =>
      intro t
      have := ih (t ++ markBytes m)
      have p0 := putNum_size m.f0
      have p1 := putNum_size m.f1
      simp only [List.foldl_cons, List.length_cons]
      simp only [markBytes, ByteArray.size_append] at this ⊢
      omega
  have := key v (putNum (v.length : Int))
  have := putNum_size (v.length : Int)
  unfold seenBytes
  omega
def setBytes (v : List Mark) (l : List Sib) : ByteArray := l.foldl (fun t x => t ++ sibBytes x) (seenBytes v ++ putNum (l.length : Int))
theorem Set_bytes_l0 (l : List Sib) (hl : l.length ≤ 1048576) (hsm : SmallSibs l) : ∀ (s : List Sib) (i : Nat), l.drop i = s → i ≤ l.length → ∀ t : ByteArray, t.size ≤ 1099511627776 + 56 * i → Ev (fun k => impl_Set_bytes.l0 k t l (l.length : Int) (i : Int)) (s.foldl (fun t x => t ++ sibBytes x) t)
  | [], i, h, hi, t, ht => by
    have := dropNil' h hi
    refine Ev.step (f := fun _ => some t) (fun k => ?_) (Ev.now _)
    simp only [impl_Set_bytes.l0]
    rw [if_neg (by omega)]
  | x :: s, i, h, hi, t, ht => by
    obtain ⟨h1, h2, h3⟩ := dropCons h z139
    have hr : rd_T139 l (i : Int) = x := by simpa [rd_T139] using h2
    have hm : x ∈ l := List.mem_of_mem_drop (by rw [h]; exact List.mem_cons_self)
    have hb := hsm x hm
    have p0 := putNum_size x.f0.f0
    have p1 := putNum_size x.f0.f1
    have p2 := putNum_size (if x.f1 = true then 1 else 0)
    have p3 := putText_size x.f2
    have p4 := sibBytes_size x
    refine Ev.step (fun k => by simp only [impl_Set_bytes.l0, hr]; rw [if_pos (show (i : Int) < l.length by omega), if_pos (show (0 : Int) ≤ i by omega), if_pos (show (i : Int) < l.length by omega), w64 (x := (i : Int) + 1) (by omega) (by omega)]) ?_
    refine Ev.bind (impl_PutNum_ev (by omega) (by omega)) (Ev.bind (impl_PutNum_ev (by omega) (by omega)) (evPos (by omega) (evBind1 (truth_is _) (Ev.bind (impl_PutNum_ev (by split <;> omega) (by split <;> omega)) (evPos (by omega) (Ev.bind (impl_PutText_ev _) (evPos (by omega) (evPos (by omega) ?_))))))))
    exact Set_bytes_l0 l hl hsm s (i + 1) h3 (by omega) (t ++ sibBytes x) (by simp only [ByteArray.size_append]; omega)
theorem Set_bytes_ev (v : List Mark) (l : List Sib) (hv : v.length ≤ 1048576) (hvs : Small v) (hl : l.length ≤ 1048576) (hsm : SmallSibs l) : Ev (fun k => impl_Set_bytes.f k v l) (setBytes v l) := by
  unfold impl_Set_bytes.f
  have q0 := seenBytes_size v
  have q1 := putNum_size (l.length : Int)
  exact Ev.bind (seenBytes_ev v hv hvs) (Ev.bind (impl_PutNum_ev (by omega) (by omega)) (evPos (by omega) (Set_bytes_l0 l hl hsm l 0 rfl (by omega) _ (by simp only [ByteArray.size_append]; omega))))
theorem l03Bytes_l0 (v : List Mark) (l : List Sib) (hl : l.length ≤ 1048576) (hsm : SmallSibs l) : ∀ (s : List Sib) (i : Nat), l.drop i = s → i ≤ l.length → ∀ t : ByteArray, t.size ≤ 1099511627776 + 56 * i → Ev (fun k => spec_l03Bytes.l0 k t (i : Int) v l) (s.foldl (fun t x => t ++ sibBytes x) t)
  | [], i, h, hi, t, ht => by
    have := dropNil' h hi
    refine Ev.step (f := fun _ => some t) (fun k => ?_) (Ev.now _)
    simp only [spec_l03Bytes.l0]
    rw [if_neg (by omega)]
  | x :: s, i, h, hi, t, ht => by
    obtain ⟨h1, h2, h3⟩ := dropCons h z139
    have hr : rd_T139 l (i : Int) = x := by simpa [rd_T139] using h2
    have hm : x ∈ l := List.mem_of_mem_drop (by rw [h]; exact List.mem_cons_self)
    have hb := hsm x hm
    have p0 := putNum_size x.f0.f0
    have p1 := putNum_size x.f0.f1
    have p2 := putNum_size (if x.f1 = true then 1 else 0)
    have p3 := putText_size x.f2
    have p4 := sibBytes_size x
    refine Ev.step (f := fun k => spec_l03Bytes.j1 k t (i : Int) (if x.f1 = true then 1 else 0) v l x.f0.f0 x.f0.f1 x.f1 x.f2) (fun k => ?_) ?_
    · simp only [spec_l03Bytes.l0, hr]
      rw [if_pos (show (i : Int) < l.length by omega), if_pos (show (0 : Int) ≤ i by omega)]
      cases x.f1 <;> rfl
    · refine Ev.step (fun k => by simp only [spec_l03Bytes.j1]; rw [w64 (x := (i : Int) + 1) (by omega) (by omega)]) ?_
      refine Ev.bind (spec_PutNum_ev (by omega) (by omega)) (evPos (by omega) (Ev.bind (spec_PutNum_ev (by omega) (by omega)) (evPos (by omega) (Ev.bind (spec_PutNum_ev (by split <;> omega) (by split <;> omega)) (evPos (by omega) (Ev.bind (spec_PutText_ev _) (evPos (by omega) ?_)))))))
      have ih := l03Bytes_l0 v l hl hsm s (i + 1) h3 (by omega) (t ++ sibBytes x) (by simp only [ByteArray.size_append]; omega)
      simp only [sibBytes, ← ByteArray.append_assoc] at ih
      simpa [sibBytes, ← ByteArray.append_assoc] using ih
theorem l03Bytes_ev (v : List Mark) (l : List Sib) (hv : v.length ≤ 1048576) (hvs : Small v) (hl : l.length ≤ 1048576) (hsm : SmallSibs l) : Ev (fun k => spec_l03Bytes.f k v l) (setBytes v l) := by
  unfold spec_l03Bytes.f
  have q0 := seenBytes_size v
  have q1 := putNum_size (l.length : Int)
  exact Ev.bind (l02Bytes_ev v hv hvs) (Ev.bind (spec_PutNum_ev (by omega) (by omega)) (evPos (by omega) (l03Bytes_l0 v l hl hsm l 0 rfl (by omega) _ (by simp only [ByteArray.size_append]; omega))))
def setBytesOut (v : List Mark) (l : List Sib) : ByteArray := if setOk v l = true then setBytes v l else ⟨#[]⟩
theorem spec_SetBytes_ev (v : List Mark) (l : List Sib) (hv : v.length ≤ 1048576) (hl : l.length ≤ 1048576) : Ev (fun k => spec_SetBytes.f k v l) (setBytesOut v l) := by
  unfold spec_SetBytes.f setBytesOut
  refine Ev.bind (spec_SetRight_ev v l (by omega) hl) (evIte (fun h => ?_) (fun h => ?_))
  · rw [if_pos h]; exact Ev.bind (l03Bytes_ev v l hv (seenOk_small ((setOk_iff v l).1 h).1) hl (setOk_small h)) (Ev.now _)
  · rw [if_neg h]; exact Ev.now _
theorem impl_SetBytes_ev (v : List Mark) (l : List Sib) (hv : v.length ≤ 1048576) (hl : l.length ≤ 1048576) : Ev (fun k => impl_SetBytes.f k v l) (setBytesOut v l) := by
  unfold impl_SetBytes.f setBytesOut
  refine Ev.bind (impl_SetRight_ev v l (by omega) hl) (evIte (fun h => ?_) (fun h => ?_))
  · rw [if_pos h]; exact Ev.bind (Set_bytes_ev v l hv (seenOk_small ((setOk_iff v l).1 h).1) hl (setOk_small h)) (Ev.now _)
  · rw [if_neg h]; exact Ev.now _
end Go.Proofs.Ytdjhclgkkklajaa.Q

namespace Go.Proofs.Ytdjhclgkkklajaa.Pure
open Go.RowKit Go.Proofs.Ytdjhclgkkklajaa.P Go.Proofs.Ytdjhclgkkklajaa.Q Go.Proofs.YtdjhclgkkklajaaW.PrintWords Go.Proofs.YtdjhclgkkklajaaW.PrintMore
theorem FnExactSetBytes : laws_FnExactSetBytes.Pure := by
  intro x hx
  obtain ⟨r, e, hr1, hr2⟩ := szSet_small hx
  refine Ev.rounds ?_
  unfold laws_FnExactSetBytes.f
  refine Ev.bind e (evIte (fun _ => Ev.now _) (fun h => ?_))
  obtain ⟨g1, g2, _⟩ := hr2 h
  have hm : (x.f0.map toMark).length ≤ 1048576 := by simpa using g1
  have hs : (x.f1.map toSib).length ≤ 1048576 := by simpa using g2
  refine Ev.bind (toSet_ev _ _ g1 g2) (Ev.bind (spec_SetBytes_ev (x.f0.map toMark) (x.f1.map toSib) hm hs) (Ev.bind (toSet_ev _ _ g1 g2) (Ev.bind (impl_SetBytes_ev (x.f0.map toMark) (x.f1.map toSib) hm hs) (evPos rfl ?_))))
  exact Ev.bind (toSet_ev _ _ g1 g2) (Ev.bind (eqSet_ev (x.f0.map toMark) (x.f1.map toSib) (by omega) (by omega)) (evPos rfl (Ev.now _)))
end Go.Proofs.Ytdjhclgkkklajaa.Pure

namespace Go.Proofs.Ytdjhclgkkklajaa.fnExactSetBytes
open Go.ChangeShapes Go.WideShapes Go.ChangeAt Go.RowKit Go.Proofs.Ytdjhclgkkklajaa.P Go.Proofs.Ytdjhclgkkklajaa.RO Go.Proofs.Ytdjhclgkkklajaa.Open Go.Proofs.YtdjhclgkkklajaaW.PrintWords
open Go.ChangeMaps (open_string shut_string)
set_option linter.unusedVariables false
theorem own : ownKnob Try.prog.godebug = none := by kernel_rfl
theorem laidOut : laidOutB Try.prog = true := by kernel_rfl
set_option maxRecDepth 100000 in
theorem lifted (os : Os) (started : os.Started) (H : Type) (enc : TypeId × Value → H) :
    ReturnsInHanded {} Try.checked os 14 .any (Rows.fnExactSetBytesSpec.pre6 enc Try.prog Try.f14 Rows.fnExactSetBytesRow.domain false) (Rows.fnExactSetBytesSpec.post enc Try.prog Try.f14 false true false false) := by
  refine returnsInHanded_of_change_sized (C := Try.checked) own started (by kernel_rfl) Try.func14
    (ChangeSpec.witness6 (enc := enc) (C := Try.checked) false ⟨#[], #[.agg #[.slice none 0 0, .slice none 0 0]], []⟩ 8 (by kernel_rfl) (by kernel_rfl) (by kernel_rfl) (by kernel_rfl)) ?_
  intro W base args ds gs before hval0 hW hcnd hsz0 _
  have hsz : (DataW.weightsEach Try.prog (Try.f14.params.toList ++ Rows.fnExactSetBytesSpec.plain.varTypes Try.prog) (ds ++ gs)).all (· ≤ reachBytes) = true := hsz0
  have hval : ∀ (j : Nat) t v, Try.f14.params[j]? = some t → args[j]? = some v → Value.okWide Try.prog W .any base t v := hval0
  have hW' := hW
  obtain ⟨p, q, hA0, hV, rfl, hfz, hnd⟩ := hW
  have hA : DataW.TrodAll enc Try.prog W 0 (fun _ => true) true Try.f14.params.toList args.toList ds p := hA0
  rw [Try.params14] at hA hval hsz
  obtain ⟨v0, vs0, d0, ds0, p0, q0, hargs, rfl, rfl, h0, r0⟩ := trodAll_cons hA
  obtain ⟨rfl, rfl, rfl⟩ := trodAll_nil r0
  obtain rfl : args = #[v0] := by cases args; simp_all
  obtain ⟨rfl, rfl⟩ := trodVars_none hV
  have k0 := h0
  have lt0 : ∀ x ∈ p0, x.block < W.heap.size := by obtain ⟨m, hm⟩ := k0; exact DataW.trod_lt m _ _ _ hm
  obtain ⟨cs0, rfl, _⟩ := okWide_struct Try.underlying70 (hval 0 70 v0 rfl rfl)
  obtain ⟨fuel0, hf0⟩ := h0
  obtain ⟨x0, hk0, w0⟩ := op_T70 hf0
  obtain ⟨A0_0, c0_0, A0_1, c0_1, hcs0, hl0_0, hr0_0, hl0_1, hr0_1⟩ := k70_open hk0
  obtain rfl : cs0 = #[.slice A0_0 x0.f0.length c0_0, .slice A0_1 x0.f1.length c0_1] := Array.toList_inj.1 hcs0
  clear hA0 hval0 hsz0 hsz
  obtain ⟨k, hp⟩ := Pure.FnExactSetBytes x0 w0
  refine (P.laws_FnExactSetBytes.calls k _ _ x0.f0 _ _ x0.f1 true W hr0_0 hl0_0 hr0_1 hl0_1 hp).mono fun e W' ⟨he, bel0⟩ => ?_
  have bel : Below W.heap.size W W' := bel0
  subst he
  exact ⟨_, rfl, _, _, _, [], _, [], hW', trodAll_mk1 (shut_bool Try.underlying4 _), (trodAll_cons_mk (Below.trod laidOut (by kernel_rfl) (of_decide_eq_true (by kernel_rfl)) k0 bel lt0) trodAll_mk0), rfl, bel.frame _, fun h => by cases h⟩
theorem over : Rows.fnExactSetBytesRow.holds Try.pinned (OpenSpec.ofChange Rows.fnExactSetBytesSpec) :=
  OpenClaim.holds_of_wide 14 Try.f14 rfl rfl rfl rfl rfl rfl rfl ⟨rfl, rfl, rfl, rfl, rfl⟩ rfl rfl rfl rfl rfl (by kernel_rfl) Try.func14 (by kernel_rfl)
    (of_decide_eq_true (by kernel_rfl)) (by unfold Func.isWrapper; first | (rw [if_pos (by decide +kernel)]; kernel_rfl) | (rw [if_neg (by decide +kernel)]; exact ⟨rfl, rfl⟩))
    (fun os started H enc _ => lifted os started H enc)
theorem proved : Rows.FnExactSetBytesSaid := over
#print axioms proved
end Go.Proofs.Ytdjhclgkkklajaa.fnExactSetBytes
namespace Go.Proofs.Ytdjhclgkkklajaa
/-- The row, under a short name, for the claim. -/
theorem fnExactSetBytes_holds : Rows.FnExactSetBytesSaid := fnExactSetBytes.proved
end Go.Proofs.Ytdjhclgkkklajaa
