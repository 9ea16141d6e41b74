/- For all texts the program's SetRead and the reference's return the same, of its own memory. No condition. (Part 4 of 5: written by programs of this workplace and by hand, merged.) -/
import Derived.Test.YtconpopbpphpgaaMFnExactSetReada
import Derived.Test.YtconpopbpphpgaaMFnExactSetReadc
import Derived.Test.YtconpopbpphpgaaMFnExactSetReadb
set_option linter.unusedVariables false
set_option linter.unusedSimpArgs false

namespace Go.Proofs.Ytconpopbpphpgaa.P
open Go.RowKit Go.Proofs.YtconpopbpphpgaaW.PrintWords Go.Proofs.YtconpopbpphpgaaW.PrintLast Go.Proofs.YtconpopbpphpgaaW.PrintMore
attribute [local go_sem] max2_int min2_int max_two min_two max_three min_three max_four min_four   -- for this text's walks alone
set_option linter.unusedVariables false
set_option linter.unusedSimpArgs false

/-! ### impl_GetText: function 211 -/
def impl_GetText.f (k : Nat) (a0 : ByteArray) (a1 : Int) : Option (ByteArray × Int × Int) := (impl_GetNum.f k a0 a1).bind fun bt1068 => (if bt1068.2.2 = 0 then ((impl_within.f bt1068.1 0 8000).bind fun t1072 => (if t1072 = true then ((impl_size.f a0).bind fun t1073 => (if bt1068.1 > (wrap64 (t1073 - bt1068.2.1)) then (some ((⟨#[]⟩ : ByteArray), 0, 4)) else (if 0 ≤ bt1068.2.1 then (if bt1068.2.1 ≤ (wrap64 (bt1068.2.1 + bt1068.1)) then (if (wrap64 (bt1068.2.1 + bt1068.1)) ≤ (a0.size : Int) then (some (a0.extract (bt1068.2.1 : Int).toNat ((wrap64 (bt1068.2.1 + bt1068.1)) : Int).toNat, wrap64 (bt1068.2.1 + bt1068.1), 0)) else (none)) else (none)) else (none)))) else (some ((⟨#[]⟩ : ByteArray), 0, 3)))) else (some ((⟨#[]⟩ : ByteArray), 0, bt1068.2.2)))
theorem impl_GetText.mono : ∀ a0 a1 k, LeO (impl_GetText.f k a0 a1) (impl_GetText.f (k + 1) a0 a1) := by
 intro a0 a1 k
 unfold impl_GetText.f
 repeat' first
   | (with_reducible exact impl_GetNum.mono _ _ _)
   | (with_reducible exact LeO.refl _)
   | (with_reducible exact LeO.none _)
   | (with_reducible refine LeO.ite ?_ ?_)
   | (with_reducible refine LeO.bind ?_ (fun _ => ?_))
   | exact impl_GetNum.mono _ _ _
   | exact LeO.none _
   | refine LeO.ite ?_ ?_
   | refine LeO.bind ?_ (fun _ => ?_)
def impl_GetText.T6 : Bool × List (List Nat × List Nat) := (true, [([], []), ([0], [0]), ([], []), ([2], [2]), ([], []), ([4], [4]), ([3, 5], [3, 5]), ([1, 6], [1, 6]), ([7, 3], [7])])
def impl_GetText.B6 : List Nat := [0, 1, 0, 4, 0, 16, 60, 127, 255]
theorem impl_GetText.tab6 : rtab .any (opsOf Try.f211 6) = impl_GetText.T6 := by kernel_rfl
theorem impl_GetText.bits6 : waitsOk impl_GetText.T6.2 impl_GetText.B6 = true := by kernel_rfl
def impl_GetText.T8 : Bool × List (List Nat × List Nat) := (true, [([], []), ([], []), ([1], [1]), ([], []), ([3], [3]), ([], []), ([5], [5]), ([4, 6], [4, 6]), ([0, 2, 7], [0, 2, 7]), ([], []), ([9], [9]), ([], []), ([11], [11]), ([10, 12], [10, 12]), ([8, 13], [8, 13]), ([14, 0, 1, 2, 3, 4, 5, 6, 7, 8, 9, 10, 11, 12, 13, 14], [14])])
def impl_GetText.B8 : List Nat := [0, 0, 2, 0, 8, 0, 32, 120, 255, 0, 512, 0, 2048, 7680, 16383, 32767]
theorem impl_GetText.tab8 : rtab .any (opsOf Try.f211 8) = impl_GetText.T8 := by kernel_rfl
theorem impl_GetText.bits8 : waitsOk impl_GetText.T8.2 impl_GetText.B8 = true := by kernel_rfl
set_option maxHeartbeats 8000000 in
set_option maxRecDepth 100000 in
theorem impl_GetText.calls (k : Nat) (a0 : ByteArray) (a1 : Int) (r1 : ByteArray) (r2 : Int) (r3 : Int) (w : World) (h : impl_GetText.f k a0 a1 = some (r1, r2, r3)) :
  Calls Try.prog 211 #[.string a0, .int .i64 a1] w fun e w' => e = .returned (.agg #[.string r1, .int .i64 r2, .int .i64 r3]) ∧ Below w.heap.size w w' := by
 have hu202 := Try.underlying202
 have hu199 := Try.underlying199
 have HB := Aside0.mk (Below.refl w.heap.size w)
 have H : ((impl_GetNum.f k a0 a1).bind fun bt1068 => (if bt1068.2.2 = 0 then ((impl_within.f bt1068.1 0 8000).bind fun t1072 => (if t1072 = true then ((impl_size.f a0).bind fun t1073 => (if bt1068.1 > (wrap64 (t1073 - bt1068.2.1)) then (some ((⟨#[]⟩ : ByteArray), 0, 4)) else (if 0 ≤ bt1068.2.1 then (if bt1068.2.1 ≤ (wrap64 (bt1068.2.1 + bt1068.1)) then (if (wrap64 (bt1068.2.1 + bt1068.1)) ≤ (a0.size : Int) then (some (a0.extract (bt1068.2.1 : Int).toNat ((wrap64 (bt1068.2.1 + bt1068.1)) : Int).toNat, wrap64 (bt1068.2.1 + bt1068.1), 0)) else (none)) else (none)) else (none)))) else (some ((⟨#[]⟩ : ByteArray), 0, 3)))) else (some ((⟨#[]⟩ : ByteArray), 0, bt1068.2.2)))) = some (r1, r2, r3) := h
 clear h
 replace H := Option.bind_eq_some_iff.mp H
 obtain ⟨⟨t1068, t1069, t1070⟩, A30, H⟩ := H
 replace H : (if t1070 = 0 then ((impl_within.f t1068 0 8000).bind fun t1072 => (if t1072 = true then ((impl_size.f a0).bind fun t1073 => (if t1068 > (wrap64 (t1073 - t1069)) then (some ((⟨#[]⟩ : ByteArray), 0, 4)) else (if 0 ≤ t1069 then (if t1069 ≤ (wrap64 (t1069 + t1068)) then (if (wrap64 (t1069 + t1068)) ≤ (a0.size : Int) then (some (a0.extract (t1069 : Int).toNat ((wrap64 (t1069 + t1068)) : Int).toNat, wrap64 (t1069 + t1068), 0)) else (none)) else (none)) else (none)))) else (some ((⟨#[]⟩ : ByteArray), 0, 3)))) else (some ((⟨#[]⟩ : ByteArray), 0, t1070))) = some (r1, r2, r3) := H
 have A3 := Aside0.mk A30
 clear A30
 by_cases c4 : t1070 = 0
 ·rw [if_pos c4] at H
  have c4b0 : (t1070 == 0) = true := beq_iff_eq.mpr c4
  have c4b1 : (t1070 != 0) = false := bne_eq_false_iff_eq.mpr c4
  clear c4
  replace H := Option.bind_eq_some_iff.mp H
  obtain ⟨t1072, A50, H⟩ := H
  replace H : (if t1072 = true then ((impl_size.f a0).bind fun t1073 => (if t1068 > (wrap64 (t1073 - t1069)) then (some ((⟨#[]⟩ : ByteArray), 0, 4)) else (if 0 ≤ t1069 then (if t1069 ≤ (wrap64 (t1069 + t1068)) then (if (wrap64 (t1069 + t1068)) ≤ (a0.size : Int) then (some (a0.extract (t1069 : Int).toNat ((wrap64 (t1069 + t1068)) : Int).toNat, wrap64 (t1069 + t1068), 0)) else (none)) else (none)) else (none)))) else (some ((⟨#[]⟩ : ByteArray), 0, 3))) = some (r1, r2, r3) := H
  have A5 := Aside0.mk A50
  clear A50
  by_cases c6 : t1072 = true
  ·subst c6
   have H1 : ((impl_size.f a0).bind fun t1073 => (if t1068 > (wrap64 (t1073 - t1069)) then (some ((⟨#[]⟩ : ByteArray), 0, 4)) else (if 0 ≤ t1069 then (if t1069 ≤ (wrap64 (t1069 + t1068)) then (if (wrap64 (t1069 + t1068)) ≤ (a0.size : Int) then (some (a0.extract (t1069 : Int).toNat ((wrap64 (t1069 + t1068)) : Int).toNat, wrap64 (t1069 + t1068), 0)) else (none)) else (none)) else (none)))) = some (r1, r2, r3) := by rw [if_pos rfl] at H; exact H
   clear H
   have H := H1
   clear H1
   replace H := Option.bind_eq_some_iff.mp H
   obtain ⟨t1073, A70, H⟩ := H
   replace H : (if t1068 > (wrap64 (t1073 - t1069)) then (some ((⟨#[]⟩ : ByteArray), 0, 4)) else (if 0 ≤ t1069 then (if t1069 ≤ (wrap64 (t1069 + t1068)) then (if (wrap64 (t1069 + t1068)) ≤ (a0.size : Int) then (some (a0.extract (t1069 : Int).toNat ((wrap64 (t1069 + t1068)) : Int).toNat, wrap64 (t1069 + t1068), 0)) else (none)) else (none)) else (none))) = some (r1, r2, r3) := H
   have A7 := Aside0.mk A70
   clear A70
   by_cases c8 : t1068 > (wrap64 (t1073 - t1069))
   ·rw [if_pos c8] at H
    have c8b0 : decide ((wrap64 (t1073 - t1069)) < t1068) = true := decide_eq_true c8
    clear c8
    simp only [Option.some.injEq, Prod.mk.injEq] at H
    obtain ⟨rfl, rfl, rfl⟩ := H
    go_enter Try.func211, Try.ntmps211
    try go_wp2_with (first | ((with_reducible refine gate_dst (N := 4) rfl ?_); refine box_event ?hg (N := 4) ?hd (cs := #[.string (⟨#[]⟩ : ByteArray), .int .i64 0, .int .i64 0]) (t := 202) ?hr ?_; (case hd => rfl); (case hg => rfl); (case hr => first | (go_simp; done) | (go_simp; rfl)); intro gb1067 hg w9 hbox hb; have n_ := as4_ (below_step (z5_ HB.out) hb) (hbox) ((z7_ HB.out : w.heap.size ≤ gb1067)) ((z7_ HB.out : w.heap.size ≤ gb1067)); clear HB; have ⟨HB, BK1067, GW1067, GE1067⟩ := n_; clear n_; clear hb hbox hg) | ((with_reducible refine gate_callee (f := 203) rfl ?_); refine goesL_ (some 8) rfl rfl Try.func203 (by kernel_rfl) rfl #[.string a0, .int .i64 a1] rfl (z0_) ?_; (with_reducible refine (impl_GetNum.calls k a0 a1 t1068 t1069 t1070 _ A3.out).mono ?_); rintro e w10 ⟨rfl, hb⟩; refine ⟨_, rfl, ?_⟩; have n_ := as2_ (blkB_ BK1067.out hb) (below_step (z1_ HB.out GE1067.out) hb); clear BK1067 HB; have ⟨BK1067, HB⟩ := n_; clear n_; (try clear hb); (try clear hb2); (try clear hk); (try clear hi)) | ((with_reducible refine gate_dst (N := 5) rfl ?_); refine box_event ?hg (N := 5) ?hd (cs := #[.int .i64 0, .int .i64 0, .int .i64 0]) (t := 199) ?hr ?_; (case hd => rfl); (case hg => rfl); (case hr => first | (go_simp; done) | (go_simp; rfl)); intro gb1071 hg w11 hbox hb; have n_ := as7_ (blkB_ BK1067.out hb) (below_step (z1_ HB.out GE1067.out) hb) (hbox) ((z10_ HB.out GE1067.out : w.heap.size ≤ gb1071)) ((z10_ HB.out GE1067.out : w.heap.size ≤ gb1071)) (neL_ BK1067.out hg) (neG_ BK1067.out hg); clear BK1067 HB; have ⟨BK1067, HB, BK1071, GW1071, GE1071, NB1067_1071, NB1071_1067⟩ := n_; clear n_; clear hb hbox hg; have hnb12 := NB1071_1067.out; have hnc12 := NB1067_1071.out; have hcz13_0 : w11.cell? ⟨gb1071, 0, none⟩ = some (.int .i64 0) := (blk_cell BK1071.out 0).trans rfl; have hcz13_1 : w11.cell? ⟨gb1071, 1, none⟩ = some (.int .i64 0) := (blk_cell BK1071.out 1).trans rfl; have hcz13_2 : w11.cell? ⟨gb1071, 2, none⟩ = some (.int .i64 0) := (blk_cell BK1071.out 2).trans rfl; have hfz13_0 := blk_frozen BK1071.out 0; have hfz13_1 := blk_frozen BK1071.out 1; have hfz13_2 := blk_frozen BK1071.out 2) | ((with_reducible refine gate_callee (f := 156) rfl ?_); refine goesL_ (some 19) rfl rfl Try.func156 (by kernel_rfl) rfl #[.int .i64 t1068, .int .i64 0, .int .i64 8000] rfl (z0_) ?_; (with_reducible refine (impl_within.calls t1068 0 8000 true _ A5.out).mono ?_); rintro e w' ⟨rfl, ⟨nd, rfl⟩⟩; refine ⟨_, rfl, ?_⟩))
    have n0_ : Aside0 ((((w11.setCell ⟨gb1071, 0, none⟩ (.int .i64 t1068)).setCell ⟨gb1071, 1, none⟩ (.int .i64 t1069)).setCell ⟨gb1071, 2, none⟩ (.int .i64 t1070)).heap[gb1067]? = some (.cells #[.string (⟨#[]⟩ : ByteArray), .int .i64 0, .int .i64 0] 202 (0, 0))) := ⟨z55_ NB1067_1071.out BK1067.out⟩
    have n1_ : Aside0 ((((w11.setCell ⟨gb1071, 0, none⟩ (.int .i64 t1068)).setCell ⟨gb1071, 1, none⟩ (.int .i64 t1069)).setCell ⟨gb1071, 2, none⟩ (.int .i64 t1070)).heap[gb1071]? = some (.cells #[.int .i64 t1068, .int .i64 t1069, .int .i64 t1070] 199 (0, 0))) := ⟨z14_ BK1071.out⟩
    have n2_ : Aside0 (Below w.heap.size w (((w11.setCell ⟨gb1071, 0, none⟩ (.int .i64 t1068)).setCell ⟨gb1071, 1, none⟩ (.int .i64 t1069)).setCell ⟨gb1071, 2, none⟩ (.int .i64 t1070))) := ⟨z6_ HB.out GE1067.out GE1071.out⟩
    (try clear BK1067)
    (try clear BK1071)
    (try clear HB)
    generalize (((w11.setCell ⟨gb1071, 0, none⟩ (.int .i64 t1068)).setCell ⟨gb1071, 1, none⟩ (.int .i64 t1069)).setCell ⟨gb1071, 2, none⟩ (.int .i64 t1070)) = w14 at n0_ n1_ n2_ ⊢
    have BK1067 := n0_
    have BK1071 := n1_
    have HB := n2_
    clear n0_ n1_ n2_
    (try (rw [drewN_self w14]; generalize hq_ : World.drewN w14 _ = w14; have n0_ : Aside0 (w14.heap[gb1067]? = some (.cells #[.string (⟨#[]⟩ : ByteArray), .int .i64 0, .int .i64 0] 202 (0, 0))) := ⟨z36_ BK1067.out⟩; have n1_ : Aside0 (w14.heap[gb1071]? = some (.cells #[.int .i64 t1068, .int .i64 t1069, .int .i64 t1070] 199 (0, 0))) := ⟨z36_ BK1071.out⟩; have n2_ : Aside0 (Below w.heap.size w w14) := ⟨z68_ HB.out GE1067.out GE1071.out⟩; clear BK1067 BK1071 HB hq_; have BK1067 := n0_; have BK1071 := n1_; have HB := n2_; clear n0_ n1_ n2_))
    have n_ := as3_ (blk_drew BK1067.out) (blk_drew BK1071.out) (below_drew1 HB.out)
    clear BK1067 BK1071 HB
    have ⟨BK1067, BK1071, HB⟩ := n_
    clear n_
    refine start_ (n := 9) (S := fun w' => w'.cell? ⟨gb1071, 0, none⟩ = some (.int .i64 t1068) ∧ w'.cell? ⟨gb1071, 1, none⟩ = some (.int .i64 t1069) ∧ w'.cell? ⟨gb1071, 2, none⟩ = some (.int .i64 t1070)) (ds := []) #[false, false, false, false, false, false, false, false, false] (by kernel_rfl) rfl rfl ⟨(blk_cell BK1071.out 0).trans rfl, (blk_cell BK1071.out 1).trans rfl, (blk_cell BK1071.out 2).trans rfl⟩ (fun hHeld => ?_); refine with_tabW impl_GetText.tab6 impl_GetText.bits6 (fun HT_ HW_ => ?_)
    generalize w14.drew = w15 at BK1067 BK1071 HB hHeld ⊢
    refine pu_ 0 23 #[true, false, false, false, false, false, false, false, false] HT_.out ?_
    refine pu_ 2 25 #[true, false, true, false, false, false, false, false, false] HT_.out ?_
    refine pu_ 4 27 #[true, false, true, false, true, false, false, false, false] HT_.out ?_
    refine tk3_ 1 24 #[true, true, true, false, true, false, false, false, false] HT_.out HW_.out hHeld ?_
    refine tk3_ 5 28 #[true, true, true, false, true, true, false, false, false] HT_.out HW_.out hHeld ?_
    refine one_ (i := 3) (N := some 26) #[true, true, true, true, true, true, false, false, false] rfl rfl (one_of HT_.out (by kernel_rfl)) (by decide) (fun K hK => ?_)
    refine goes_ Try.func162 (by kernel_rfl) rfl #[.string a0] (by rfl) rfl rfl (z0_) ?_
    with_reducible refine (impl_size.calls a0 t1073 _ A7.out).mono ?_
    rintro e w' ⟨rfl, ⟨nd, rfl⟩⟩
    refine ⟨_, rfl, ?_⟩
    refine hK.out _ _ ⟨(blk_cell BK1071.out 0).trans rfl, (blk_cell BK1071.out 1).trans rfl, (blk_cell BK1071.out 2).trans rfl⟩ (fun hHeld => ?_)
    clear hK K
    refine norm_ (a' := ?_) ?_ ?_
    rotate_left
    ·show Act.put _ (some 26) _ = _
     simp only [Act.put, sa_, s0_, ss_, i64_w, i32_w]
     rfl
    refine pu_ 6 29 #[true, true, true, true, true, true, true, false, false] HT_.out ?_
    refine pu_ 7 30 #[true, true, true, true, true, true, true, true, false] HT_.out ?_
    refine pu_ 8 22 #[true, true, true, true, true, true, true, true, true] HT_.out ?_
    refine done_ (done_of HT_.out (by kernel_rfl)) ?_
    have ⟨hcz16_0, hcz16_1, hcz16_2, hfz16_0, hfz16_1, hfz16_2⟩ := cz3_ BK1067.out
    try go_wp2
    refine bodyPost_ret (results_cell_row rfl _ _ gb1067 202 #[.string (⟨#[]⟩ : ByteArray), .int .i64 0, .int .i64 4] (0, 0) _ rfl (z14_ BK1067.out) Try.underlying202 rfl (by kernel_rfl)) rfl ?_
    exact ⟨z8_, z6_ HB.out GE1067.out GE1071.out⟩
   ·rw [if_neg c8] at H
    have c8b0 : decide ((wrap64 (t1073 - t1069)) < t1068) = false := decide_eq_false c8
    clear c8
    by_cases c17 : 0 ≤ t1069
    ·rw [if_pos c17] at H
     have c17b0 := eq_true c17
     have c17b1 : decide (0 ≤ t1069) = true := decide_eq_true c17
     clear c17
     by_cases c18 : t1069 ≤ (wrap64 (t1069 + t1068))
     ·rw [if_pos c18] at H
      have c18b0 := eq_true c18
      have c18b1 : decide (t1069 ≤ (wrap64 (t1069 + t1068))) = true := decide_eq_true c18
      by_cases c19 : (wrap64 (t1069 + t1068)) ≤ (a0.size : Int)
      ·rw [if_pos c19] at H
       have c19b0 := eq_true c19
       have c19b1 : decide ((wrap64 (t1069 + t1068)) ≤ (a0.size : Int)) = true := decide_eq_true c19
       simp only [Option.some.injEq, Prod.mk.injEq] at H
       obtain ⟨rfl, rfl, rfl⟩ := H
       go_enter Try.func211, Try.ntmps211
       try go_wp2_with (first | ((with_reducible refine gate_dst (N := 4) rfl ?_); refine box_event ?hg (N := 4) ?hd (cs := #[.string (⟨#[]⟩ : ByteArray), .int .i64 0, .int .i64 0]) (t := 202) ?hr ?_; (case hd => rfl); (case hg => rfl); (case hr => first | (go_simp; done) | (go_simp; rfl)); intro gb1067 hg w20 hbox hb; have n_ := as4_ (below_step (z5_ HB.out) hb) (hbox) ((z7_ HB.out : w.heap.size ≤ gb1067)) ((z7_ HB.out : w.heap.size ≤ gb1067)); clear HB; have ⟨HB, BK1067, GW1067, GE1067⟩ := n_; clear n_; clear hb hbox hg) | ((with_reducible refine gate_callee (f := 203) rfl ?_); refine goesL_ (some 8) rfl rfl Try.func203 (by kernel_rfl) rfl #[.string a0, .int .i64 a1] rfl (z0_) ?_; (with_reducible refine (impl_GetNum.calls k a0 a1 t1068 t1069 t1070 _ A3.out).mono ?_); rintro e w21 ⟨rfl, hb⟩; refine ⟨_, rfl, ?_⟩; have n_ := as2_ (blkB_ BK1067.out hb) (below_step (z1_ HB.out GE1067.out) hb); clear BK1067 HB; have ⟨BK1067, HB⟩ := n_; clear n_; (try clear hb); (try clear hb2); (try clear hk); (try clear hi)) | ((with_reducible refine gate_dst (N := 5) rfl ?_); refine box_event ?hg (N := 5) ?hd (cs := #[.int .i64 0, .int .i64 0, .int .i64 0]) (t := 199) ?hr ?_; (case hd => rfl); (case hg => rfl); (case hr => first | (go_simp; done) | (go_simp; rfl)); intro gb1071 hg w22 hbox hb; have n_ := as7_ (blkB_ BK1067.out hb) (below_step (z1_ HB.out GE1067.out) hb) (hbox) ((z10_ HB.out GE1067.out : w.heap.size ≤ gb1071)) ((z10_ HB.out GE1067.out : w.heap.size ≤ gb1071)) (neL_ BK1067.out hg) (neG_ BK1067.out hg); clear BK1067 HB; have ⟨BK1067, HB, BK1071, GW1071, GE1071, NB1067_1071, NB1071_1067⟩ := n_; clear n_; clear hb hbox hg; have hnb23 := NB1071_1067.out; have hnc23 := NB1067_1071.out; have hcz24_0 : w22.cell? ⟨gb1071, 0, none⟩ = some (.int .i64 0) := (blk_cell BK1071.out 0).trans rfl; have hcz24_1 : w22.cell? ⟨gb1071, 1, none⟩ = some (.int .i64 0) := (blk_cell BK1071.out 1).trans rfl; have hcz24_2 : w22.cell? ⟨gb1071, 2, none⟩ = some (.int .i64 0) := (blk_cell BK1071.out 2).trans rfl; have hfz24_0 := blk_frozen BK1071.out 0; have hfz24_1 := blk_frozen BK1071.out 1; have hfz24_2 := blk_frozen BK1071.out 2) | ((with_reducible refine gate_callee (f := 156) rfl ?_); refine goesL_ (some 19) rfl rfl Try.func156 (by kernel_rfl) rfl #[.int .i64 t1068, .int .i64 0, .int .i64 8000] rfl (z0_) ?_; (with_reducible refine (impl_within.calls t1068 0 8000 true _ A5.out).mono ?_); rintro e w' ⟨rfl, ⟨nd, rfl⟩⟩; refine ⟨_, rfl, ?_⟩))
       have n0_ : Aside0 ((((w22.setCell ⟨gb1071, 0, none⟩ (.int .i64 t1068)).setCell ⟨gb1071, 1, none⟩ (.int .i64 t1069)).setCell ⟨gb1071, 2, none⟩ (.int .i64 t1070)).heap[gb1067]? = some (.cells #[.string (⟨#[]⟩ : ByteArray), .int .i64 0, .int .i64 0] 202 (0, 0))) := ⟨z55_ NB1067_1071.out BK1067.out⟩
       have n1_ : Aside0 ((((w22.setCell ⟨gb1071, 0, none⟩ (.int .i64 t1068)).setCell ⟨gb1071, 1, none⟩ (.int .i64 t1069)).setCell ⟨gb1071, 2, none⟩ (.int .i64 t1070)).heap[gb1071]? = some (.cells #[.int .i64 t1068, .int .i64 t1069, .int .i64 t1070] 199 (0, 0))) := ⟨z14_ BK1071.out⟩
       have n2_ : Aside0 (Below w.heap.size w (((w22.setCell ⟨gb1071, 0, none⟩ (.int .i64 t1068)).setCell ⟨gb1071, 1, none⟩ (.int .i64 t1069)).setCell ⟨gb1071, 2, none⟩ (.int .i64 t1070))) := ⟨z6_ HB.out GE1067.out GE1071.out⟩
       (try clear BK1067)
       (try clear BK1071)
       (try clear HB)
       generalize (((w22.setCell ⟨gb1071, 0, none⟩ (.int .i64 t1068)).setCell ⟨gb1071, 1, none⟩ (.int .i64 t1069)).setCell ⟨gb1071, 2, none⟩ (.int .i64 t1070)) = w25 at n0_ n1_ n2_ ⊢
       have BK1067 := n0_
       have BK1071 := n1_
       have HB := n2_
       clear n0_ n1_ n2_
       (try (rw [drewN_self w25]; generalize hq_ : World.drewN w25 _ = w25; have n0_ : Aside0 (w25.heap[gb1067]? = some (.cells #[.string (⟨#[]⟩ : ByteArray), .int .i64 0, .int .i64 0] 202 (0, 0))) := ⟨z36_ BK1067.out⟩; have n1_ : Aside0 (w25.heap[gb1071]? = some (.cells #[.int .i64 t1068, .int .i64 t1069, .int .i64 t1070] 199 (0, 0))) := ⟨z36_ BK1071.out⟩; have n2_ : Aside0 (Below w.heap.size w w25) := ⟨z68_ HB.out GE1067.out GE1071.out⟩; clear BK1067 BK1071 HB hq_; have BK1067 := n0_; have BK1071 := n1_; have HB := n2_; clear n0_ n1_ n2_))
       have n_ := as3_ (blk_drew BK1067.out) (blk_drew BK1071.out) (below_drew1 HB.out)
       clear BK1067 BK1071 HB
       have ⟨BK1067, BK1071, HB⟩ := n_
       clear n_
       refine start_ (n := 9) (S := fun w' => w'.cell? ⟨gb1071, 0, none⟩ = some (.int .i64 t1068) ∧ w'.cell? ⟨gb1071, 1, none⟩ = some (.int .i64 t1069) ∧ w'.cell? ⟨gb1071, 2, none⟩ = some (.int .i64 t1070)) (ds := []) #[false, false, false, false, false, false, false, false, false] (by kernel_rfl) rfl rfl ⟨(blk_cell BK1071.out 0).trans rfl, (blk_cell BK1071.out 1).trans rfl, (blk_cell BK1071.out 2).trans rfl⟩ (fun hHeld => ?_); refine with_tabW impl_GetText.tab6 impl_GetText.bits6 (fun HT_ HW_ => ?_)
       generalize w25.drew = w26 at BK1067 BK1071 HB hHeld ⊢
       refine pu_ 0 23 #[true, false, false, false, false, false, false, false, false] HT_.out ?_
       refine pu_ 2 25 #[true, false, true, false, false, false, false, false, false] HT_.out ?_
       refine pu_ 4 27 #[true, false, true, false, true, false, false, false, false] HT_.out ?_
       refine tk3_ 1 24 #[true, true, true, false, true, false, false, false, false] HT_.out HW_.out hHeld ?_
       refine tk3_ 5 28 #[true, true, true, false, true, true, false, false, false] HT_.out HW_.out hHeld ?_
       refine one_ (i := 3) (N := some 26) #[true, true, true, true, true, true, false, false, false] rfl rfl (one_of HT_.out (by kernel_rfl)) (by decide) (fun K hK => ?_)
       refine goes_ Try.func162 (by kernel_rfl) rfl #[.string a0] (by rfl) rfl rfl (z0_) ?_
       with_reducible refine (impl_size.calls a0 t1073 _ A7.out).mono ?_
       rintro e w' ⟨rfl, ⟨nd, rfl⟩⟩
       refine ⟨_, rfl, ?_⟩
       refine hK.out _ _ ⟨(blk_cell BK1071.out 0).trans rfl, (blk_cell BK1071.out 1).trans rfl, (blk_cell BK1071.out 2).trans rfl⟩ (fun hHeld => ?_)
       clear hK K
       refine norm_ (a' := ?_) ?_ ?_
       rotate_left
       ·show Act.put _ (some 26) _ = _
        simp only [Act.put, sa_, s0_, ss_, i64_w, i32_w]
        rfl
       refine pu_ 6 29 #[true, true, true, true, true, true, true, false, false] HT_.out ?_
       refine pu_ 7 30 #[true, true, true, true, true, true, true, true, false] HT_.out ?_
       refine pu_ 8 22 #[true, true, true, true, true, true, true, true, true] HT_.out ?_
       refine done_ (done_of HT_.out (by kernel_rfl)) ?_
       try go_wp2
       (try (rw [drewN_self w26]; generalize hq_ : World.drewN w26 _ = w26; have n0_ : Aside0 (w26.heap[gb1067]? = some (.cells #[.string (⟨#[]⟩ : ByteArray), .int .i64 0, .int .i64 0] 202 (0, 0))) := ⟨z36_ BK1067.out⟩; have n1_ : Aside0 (w26.heap[gb1071]? = some (.cells #[.int .i64 t1068, .int .i64 t1069, .int .i64 t1070] 199 (0, 0))) := ⟨z36_ BK1071.out⟩; have n2_ : Aside0 (Below w.heap.size w w26) := ⟨z68_ HB.out GE1067.out GE1071.out⟩; clear BK1067 BK1071 HB hq_; have BK1067 := n0_; have BK1071 := n1_; have HB := n2_; clear n0_ n1_ n2_))
       have n_ := as3_ (blk_drew BK1067.out) (blk_drew BK1071.out) (below_drew1 HB.out)
       clear BK1067 BK1071 HB
       have ⟨BK1067, BK1071, HB⟩ := n_
       clear n_
       refine start_ (n := 16) (S := fun w' => w'.cell? ⟨gb1071, 0, none⟩ = some (.int .i64 t1068) ∧ w'.cell? ⟨gb1071, 1, none⟩ = some (.int .i64 t1069) ∧ w'.cell? ⟨gb1071, 2, none⟩ = some (.int .i64 t1070)) (ds := []) #[false, false, false, false, false, false, false, false, false, false, false, false, false, false, false, false] (by kernel_rfl) rfl rfl ⟨(blk_cell BK1071.out 0).trans rfl, (blk_cell BK1071.out 1).trans rfl, (blk_cell BK1071.out 2).trans rfl⟩ (fun hHeld => ?_); refine with_tabW impl_GetText.tab8 impl_GetText.bits8 (fun HT_ HW_ => ?_)
       generalize w26.drew = w27 at BK1067 BK1071 HB hHeld ⊢
       refine pu_ 0 32 #[true, false, false, false, false, false, false, false, false, false, false, false, false, false, false, false] HT_.out ?_
       refine pu_ 1 33 #[true, true, false, false, false, false, false, false, false, false, false, false, false, false, false, false] HT_.out ?_
       refine pu_ 3 35 #[true, true, false, true, false, false, false, false, false, false, false, false, false, false, false, false] HT_.out ?_
       refine pu_ 5 37 #[true, true, false, true, false, true, false, false, false, false, false, false, false, false, false, false] HT_.out ?_
       refine pu_ 9 41 #[true, true, false, true, false, true, false, false, false, true, false, false, false, false, false, false] HT_.out ?_
       refine pu_ 11 43 #[true, true, false, true, false, true, false, false, false, true, false, true, false, false, false, false] HT_.out ?_
       refine tk3_ 2 34 #[true, true, true, true, false, true, false, false, false, true, false, true, false, false, false, false] HT_.out HW_.out hHeld ?_
       refine tk3_ 4 36 #[true, true, true, true, true, true, false, false, false, true, false, true, false, false, false, false] HT_.out HW_.out hHeld ?_
       refine tk3_ 6 38 #[true, true, true, true, true, true, true, false, false, true, false, true, false, false, false, false] HT_.out HW_.out hHeld ?_
       refine pu_ 7 39 #[true, true, true, true, true, true, true, true, false, true, false, true, false, false, false, false] HT_.out ?_
       refine pu_ 8 40 #[true, true, true, true, true, true, true, true, true, true, false, true, false, false, false, false] HT_.out ?_
       refine tk3_ 10 42 #[true, true, true, true, true, true, true, true, true, true, true, true, false, false, false, false] HT_.out HW_.out hHeld ?_
       refine tk3_ 12 44 #[true, true, true, true, true, true, true, true, true, true, true, true, true, false, false, false] HT_.out HW_.out hHeld ?_
       refine pu_ 13 45 #[true, true, true, true, true, true, true, true, true, true, true, true, true, true, false, false] HT_.out ?_
       refine pu_ 14 46 #[true, true, true, true, true, true, true, true, true, true, true, true, true, true, true, false] HT_.out ?_
       refine one_ (i := 15) (N := none) #[true, true, true, true, true, true, true, true, true, true, true, true, true, true, true, true] rfl rfl (one_of HT_.out (by kernel_rfl)) (by decide) (fun K hK => ?_)
       have hs28 : w27.cell? ⟨gb1067, 0, none⟩ = some (.string (⟨#[]⟩ : ByteArray)) := (blk_cell BK1067.out 0).trans rfl
       have hfs28 := blk_frozen BK1067.out 0
       have hns28_1 := NB1071_1067.out
       have hms28_1 := NB1067_1071.out
       have hs29 : w27.cell? ⟨gb1067, 1, none⟩ = some (.int .i64 0) := (blk_cell BK1067.out 1).trans rfl
       have hfs29 := blk_frozen BK1067.out 1
       have hns29_1 := NB1071_1067.out
       have hms29_1 := NB1067_1071.out
       have hs30 : w27.cell? ⟨gb1067, 2, none⟩ = some (.int .i64 0) := (blk_cell BK1067.out 2).trans rfl
       have hfs30 := blk_frozen BK1067.out 2
       have hns30_1 := NB1071_1067.out
       have hms30_1 := NB1067_1071.out
       refine skip_ (w1 := ?_) (by rfl) rfl ?_ ?_
       rotate_left
       ·go_simp
        rfl
       refine hK.out _ _ ⟨((cell_far (p := ⟨gb1067, _, none⟩) NB1071_1067.out _).trans (((cell_far (p := ⟨gb1067, _, none⟩) NB1071_1067.out _).trans (((cell_far (p := ⟨gb1067, _, none⟩) NB1071_1067.out _).trans (hHeld.1)))))), ((cell_far (p := ⟨gb1067, _, none⟩) NB1071_1067.out _).trans (((cell_far (p := ⟨gb1067, _, none⟩) NB1071_1067.out _).trans (((cell_far (p := ⟨gb1067, _, none⟩) NB1071_1067.out _).trans (hHeld.2.1)))))), ((cell_far (p := ⟨gb1067, _, none⟩) NB1071_1067.out _).trans (((cell_far (p := ⟨gb1067, _, none⟩) NB1071_1067.out _).trans (((cell_far (p := ⟨gb1067, _, none⟩) NB1071_1067.out _).trans (hHeld.2.2))))))⟩ (fun hHeld => ?_)
       clear hK K
       refine done_ (done_of HT_.out (by kernel_rfl)) ?_
       try go_wp2
       refine bodyPost_ret (results_cell_row rfl _ _ gb1067 202 #[.string (a0.extract (t1069 : Int).toNat ((wrap64 (t1069 + t1068)) : Int).toNat), .int .i64 (wrap64 (t1069 + t1068)), .int .i64 0] (0, 0) _ rfl (z14_ BK1067.out) Try.underlying202 rfl (by kernel_rfl)) rfl ?_
       exact ⟨z8_, z6_ HB.out GE1067.out GE1071.out⟩
      ·rw [if_neg c19] at H
       exact absurd H (by simp)
     ·rw [if_neg c18] at H
      exact absurd H (by simp)
    ·rw [if_neg c17] at H
     exact absurd H (by simp)
  ·replace c6 := Bool.eq_false_iff.mpr c6
   subst c6
   have H1 : (some ((⟨#[]⟩ : ByteArray), 0, 3)) = some (r1, r2, r3) := by rw [if_neg (show ¬ (false = true) by decide)] at H; exact H
   clear H
   have H := H1
   clear H1
   simp only [Option.some.injEq, Prod.mk.injEq] at H
   obtain ⟨rfl, rfl, rfl⟩ := H
   go_enter Try.func211, Try.ntmps211
   go_wp2_with (first | ((with_reducible refine gate_dst (N := 4) rfl ?_); refine box_event ?hg (N := 4) ?hd (cs := #[.string (⟨#[]⟩ : ByteArray), .int .i64 0, .int .i64 0]) (t := 202) ?hr ?_; (case hd => rfl); (case hg => rfl); (case hr => first | (go_simp; done) | (go_simp; rfl)); intro gb1067 hg w31 hbox hb; have n_ := as4_ (below_step (z5_ HB.out) hb) (hbox) ((z7_ HB.out : w.heap.size ≤ gb1067)) ((z7_ HB.out : w.heap.size ≤ gb1067)); clear HB; have ⟨HB, BK1067, GW1067, GE1067⟩ := n_; clear n_; clear hb hbox hg) | ((with_reducible refine gate_callee (f := 203) rfl ?_); refine goesL_ (some 8) rfl rfl Try.func203 (by kernel_rfl) rfl #[.string a0, .int .i64 a1] rfl (z0_) ?_; (with_reducible refine (impl_GetNum.calls k a0 a1 t1068 t1069 t1070 _ A3.out).mono ?_); rintro e w32 ⟨rfl, hb⟩; refine ⟨_, rfl, ?_⟩; have n_ := as2_ (blkB_ BK1067.out hb) (below_step (z1_ HB.out GE1067.out) hb); clear BK1067 HB; have ⟨BK1067, HB⟩ := n_; clear n_; (try clear hb); (try clear hb2); (try clear hk); (try clear hi)) | ((with_reducible refine gate_dst (N := 5) rfl ?_); refine box_event ?hg (N := 5) ?hd (cs := #[.int .i64 0, .int .i64 0, .int .i64 0]) (t := 199) ?hr ?_; (case hd => rfl); (case hg => rfl); (case hr => first | (go_simp; done) | (go_simp; rfl)); intro gb1071 hg w33 hbox hb; have n_ := as7_ (blkB_ BK1067.out hb) (below_step (z1_ HB.out GE1067.out) hb) (hbox) ((z10_ HB.out GE1067.out : w.heap.size ≤ gb1071)) ((z10_ HB.out GE1067.out : w.heap.size ≤ gb1071)) (neL_ BK1067.out hg) (neG_ BK1067.out hg); clear BK1067 HB; have ⟨BK1067, HB, BK1071, GW1071, GE1071, NB1067_1071, NB1071_1067⟩ := n_; clear n_; clear hb hbox hg; have hnb34 := NB1071_1067.out; have hnc34 := NB1067_1071.out; have hcz35_0 : w33.cell? ⟨gb1071, 0, none⟩ = some (.int .i64 0) := (blk_cell BK1071.out 0).trans rfl; have hcz35_1 : w33.cell? ⟨gb1071, 1, none⟩ = some (.int .i64 0) := (blk_cell BK1071.out 1).trans rfl; have hcz35_2 : w33.cell? ⟨gb1071, 2, none⟩ = some (.int .i64 0) := (blk_cell BK1071.out 2).trans rfl; have hfz35_0 := blk_frozen BK1071.out 0; have hfz35_1 := blk_frozen BK1071.out 1; have hfz35_2 := blk_frozen BK1071.out 2) | ((with_reducible refine gate_callee (f := 156) rfl ?_); refine goesL_ (some 19) rfl rfl Try.func156 (by kernel_rfl) rfl #[.int .i64 t1068, .int .i64 0, .int .i64 8000] rfl (z0_) ?_; (with_reducible refine (impl_within.calls t1068 0 8000 false _ A5.out).mono ?_); rintro e w' ⟨rfl, ⟨nd, rfl⟩⟩; refine ⟨_, rfl, ?_⟩; have hcz36_0 : w33.cell? ⟨gb1067, 0, none⟩ = some (.string (⟨#[]⟩ : ByteArray)) := (blk_cell BK1067.out 0).trans rfl; have hcz36_1 : w33.cell? ⟨gb1067, 1, none⟩ = some (.int .i64 0) := (blk_cell BK1067.out 1).trans rfl; have hcz36_2 : w33.cell? ⟨gb1067, 2, none⟩ = some (.int .i64 0) := (blk_cell BK1067.out 2).trans rfl; have hfz36_0 := blk_frozen BK1067.out 0; have hfz36_1 := blk_frozen BK1067.out 1; have hfz36_2 := blk_frozen BK1067.out 2))
   refine bodyPost_ret (results_cell_row rfl _ _ gb1067 202 #[.string (⟨#[]⟩ : ByteArray), .int .i64 0, .int .i64 3] (0, 0) _ rfl (z65_ NB1067_1071.out BK1067.out) Try.underlying202 rfl (by kernel_rfl)) rfl ?_
   exact ⟨z8_, z6_ HB.out GE1067.out GE1071.out⟩
 ·rw [if_neg c4] at H
  have c4b0 : (t1070 == 0) = false := beq_eq_false_iff_ne.mpr c4
  have c4b1 : (t1070 != 0) = true := bne_iff_ne.mpr c4
  simp only [Option.some.injEq, Prod.mk.injEq] at H
  obtain ⟨rfl, rfl, rfl⟩ := H
  go_enter Try.func211, Try.ntmps211
  go_wp2_with (first | ((with_reducible refine gate_dst (N := 4) rfl ?_); refine box_event ?hg (N := 4) ?hd (cs := #[.string (⟨#[]⟩ : ByteArray), .int .i64 0, .int .i64 0]) (t := 202) ?hr ?_; (case hd => rfl); (case hg => rfl); (case hr => first | (go_simp; done) | (go_simp; rfl)); intro gb1067 hg w37 hbox hb; have n_ := as4_ (below_step (z5_ HB.out) hb) (hbox) ((z7_ HB.out : w.heap.size ≤ gb1067)) ((z7_ HB.out : w.heap.size ≤ gb1067)); clear HB; have ⟨HB, BK1067, GW1067, GE1067⟩ := n_; clear n_; clear hb hbox hg) | ((with_reducible refine gate_callee (f := 203) rfl ?_); refine goesL_ (some 8) rfl rfl Try.func203 (by kernel_rfl) rfl #[.string a0, .int .i64 a1] rfl (z0_) ?_; (with_reducible refine (impl_GetNum.calls k a0 a1 t1068 t1069 t1070 _ A3.out).mono ?_); rintro e w38 ⟨rfl, hb⟩; refine ⟨_, rfl, ?_⟩; have n_ := as2_ (blkB_ BK1067.out hb) (below_step (z1_ HB.out GE1067.out) hb); clear BK1067 HB; have ⟨BK1067, HB⟩ := n_; clear n_; (try clear hb); (try clear hb2); (try clear hk); (try clear hi)) | ((with_reducible refine gate_dst (N := 5) rfl ?_); refine box_event ?hg (N := 5) ?hd (cs := #[.int .i64 0, .int .i64 0, .int .i64 0]) (t := 199) ?hr ?_; (case hd => rfl); (case hg => rfl); (case hr => first | (go_simp; done) | (go_simp; rfl)); intro gb1071 hg w39 hbox hb; have n_ := as7_ (blkB_ BK1067.out hb) (below_step (z1_ HB.out GE1067.out) hb) (hbox) ((z10_ HB.out GE1067.out : w.heap.size ≤ gb1071)) ((z10_ HB.out GE1067.out : w.heap.size ≤ gb1071)) (neL_ BK1067.out hg) (neG_ BK1067.out hg); clear BK1067 HB; have ⟨BK1067, HB, BK1071, GW1071, GE1071, NB1067_1071, NB1071_1067⟩ := n_; clear n_; clear hb hbox hg; have hnb40 := NB1071_1067.out; have hnc40 := NB1067_1071.out; have ⟨hcz41_0, hcz41_1, hcz41_2, hfz41_0, hfz41_1, hfz41_2⟩ := cz3_ BK1071.out; have hcz42_0 : w39.cell? ⟨gb1067, 0, none⟩ = some (.string (⟨#[]⟩ : ByteArray)) := (blk_cell BK1067.out 0).trans rfl; have hcz42_1 : w39.cell? ⟨gb1067, 1, none⟩ = some (.int .i64 0) := (blk_cell BK1067.out 1).trans rfl; have hcz42_2 : w39.cell? ⟨gb1067, 2, none⟩ = some (.int .i64 0) := (blk_cell BK1067.out 2).trans rfl; have hfz42_0 := blk_frozen BK1067.out 0; have hfz42_1 := blk_frozen BK1067.out 1; have hfz42_2 := blk_frozen BK1067.out 2))
  refine bodyPost_ret (results_cell_row rfl _ _ gb1067 202 #[.string (⟨#[]⟩ : ByteArray), .int .i64 0, .int .i64 t1070] (0, 0) _ rfl (z65_ NB1067_1071.out BK1067.out) Try.underlying202 rfl (by kernel_rfl)) rfl ?_
  exact ⟨z8_, z6_ HB.out GE1067.out GE1071.out⟩


/-! ### impl_taker_str: function 183 -/
def impl_taker_str.f (k : Nat) (s0_0 : ByteArray) (s0_1 : Int) (s0_2 : Bool) : Option (ByteArray × ByteArray × Int × Bool) := if s0_2 = true then (some ((⟨#[]⟩ : ByteArray), s0_0, s0_1, s0_2)) else ((impl_GetText.f k s0_0 s0_1).bind fun bt1074 => (some (bt1074.1, s0_0, bt1074.2.1, (bt1074.2.2 != 0))))
theorem impl_taker_str.mono : ∀ a0 a1 a2 k, LeO (impl_taker_str.f k a0 a1 a2) (impl_taker_str.f (k + 1) a0 a1 a2) := by
 intro a0 a1 a2 k
 unfold impl_taker_str.f
 repeat' first
   | (with_reducible exact impl_GetText.mono _ _ _)
   | (with_reducible exact LeO.refl _)
   | (with_reducible exact LeO.none _)
   | (with_reducible refine LeO.ite ?_ ?_)
   | (with_reducible refine LeO.bind ?_ (fun _ => ?_))
   | exact impl_GetText.mono _ _ _
   | exact LeO.none _
   | refine LeO.ite ?_ ?_
   | refine LeO.bind ?_ (fun _ => ?_)
def impl_taker_str.T3 : Bool × List (List Nat × List Nat) := (true, [([], []), ([0], [0]), ([1], [1]), ([2], [2]), ([], []), ([4], [4]), ([5], [5]), ([6], [6]), ([3, 7], [3, 7]), ([], []), ([9, 8, 8, 0, 1, 2, 3, 4, 5, 6, 7, 8, 9], [8, 9])])
def impl_taker_str.B3 : List Nat := [0, 1, 3, 7, 0, 16, 48, 112, 255, 0, 1023]
theorem impl_taker_str.tab3 : rtab .any (opsOf Try.f183 3) = impl_taker_str.T3 := by kernel_rfl
theorem impl_taker_str.bits3 : waitsOk impl_taker_str.T3.2 impl_taker_str.B3 = true := by kernel_rfl
def impl_taker_str.T4 : Bool × List (List Nat × List Nat) := (true, [([], []), ([], []), ([], []), ([2], [2]), ([], []), ([4], [4]), ([5], [5]), ([0, 0, 2, 3], [0]), ([7, 0, 2, 3], [7]), ([8, 3, 0, 2, 3], [3, 8]), ([1, 0, 1, 2, 3, 4, 5, 6, 7, 8, 9], [1]), ([10, 0, 1, 2, 3, 4, 5, 6, 7, 8, 9], [10]), ([11, 6, 9, 0, 1, 2, 3, 4, 5, 6, 7, 8, 9], [6, 11])])
def impl_taker_str.B4 : List Nat := [0, 0, 0, 4, 0, 16, 48, 13, 141, 397, 1023, 2047, 4095]
theorem impl_taker_str.tab4 : rtab .any (opsOf Try.f183 4) = impl_taker_str.T4 := by kernel_rfl
theorem impl_taker_str.bits4 : waitsOk impl_taker_str.T4.2 impl_taker_str.B4 = true := by kernel_rfl
set_option maxHeartbeats 8000000 in
set_option maxRecDepth 100000 in
theorem impl_taker_str.calls (k : Nat) (g : Nat) (s0_0 : ByteArray) (s0_1 : Int) (s0_2 : Bool) (r1 : ByteArray) (r2 : ByteArray) (r3 : Int) (r4 : Bool) (w0 w : World) (hI : IsS127 w0 w g s0_0 s0_1 s0_2) (hB : Below w0.heap.size w0 w) (h : impl_taker_str.f k s0_0 s0_1 s0_2 = some (r1, r2, r3, r4)) :
  Calls Try.prog 183 #[.pointer (some ⟨g, 0, none⟩)] w fun e w' => e = .returned (.string r1) ∧ IsS127 w0 w' g r2 r3 r4 ∧ Below w0.heap.size w0 w' ∧ KeepBut w w' g none := by
 have hu202 := Try.underlying202
 have HI0 := Aside0.mk hI
 have HK := Aside0.mk (KeepBut.refl w g none)
 have HL := Aside0.mk hB.size
 clear hI
 have HW0 := Aside0.mk hB.size
 have HB := Aside0.mk hB
 clear hB
 have H : (if s0_2 = true then (some ((⟨#[]⟩ : ByteArray), s0_0, s0_1, s0_2)) else ((impl_GetText.f k s0_0 s0_1).bind fun bt1074 => (some (bt1074.1, s0_0, bt1074.2.1, (bt1074.2.2 != 0))))) = some (r1, r2, r3, r4) := h
 clear h
 by_cases c2 : s0_2 = true
 ·subst c2
  have H1 : (some ((⟨#[]⟩ : ByteArray), s0_0, s0_1, true)) = some (r1, r2, r3, r4) := by rw [if_pos rfl] at H; exact H
  clear H
  have H := H1
  clear H1
  simp only [Option.some.injEq, Prod.mk.injEq] at H
  obtain ⟨rfl, rfl, rfl, rfl⟩ := H
  obtain ⟨HGz3, hgz3⟩ := HI0.out
  have hcz3_0 := cellS127_0 HGz3
  have hcz3_1 := cellS127_1 HGz3
  have hcz3_2 := cellS127_2 HGz3
  have hfz3_0 := blk_frozen HGz3 0
  have hfz3_1 := blk_frozen HGz3 1
  have hfz3_2 := blk_frozen HGz3 2
  clear HGz3 hgz3
  go_enter Try.func183, Try.ntmps183
  go_wp2
  go_ret
  exact ⟨z8_, z16_ HI0.out, z17_ HB.out HI0.out, z11_ HK.out⟩
 ·replace c2 := Bool.eq_false_iff.mpr c2
  subst c2
  have H1 : ((impl_GetText.f k s0_0 s0_1).bind fun bt1074 => (some (bt1074.1, s0_0, bt1074.2.1, (bt1074.2.2 != 0)))) = some (r1, r2, r3, r4) := by rw [if_neg (show ¬ (false = true) by decide)] at H; exact H
  clear H
  have H := H1
  clear H1
  replace H := Option.bind_eq_some_iff.mp H
  obtain ⟨⟨t1074, t1075, t1076⟩, A40, H⟩ := H
  replace H : (some (t1074, s0_0, t1075, (t1076 != 0))) = some (r1, r2, r3, r4) := H
  have A4 := Aside0.mk A40
  clear A40
  simp only [Option.some.injEq, Prod.mk.injEq] at H
  obtain ⟨rfl, rfl, rfl, rfl⟩ := H
  obtain ⟨HGz5, hgz5⟩ := HI0.out
  have hcz5_0 := cellS127_0 HGz5
  have hcz5_1 := cellS127_1 HGz5
  have hcz5_2 := cellS127_2 HGz5
  have hfz5_0 := blk_frozen HGz5 0
  have hfz5_1 := blk_frozen HGz5 1
  have hfz5_2 := blk_frozen HGz5 2
  clear HGz5 hgz5
  go_enter Try.func183, Try.ntmps183
  try go_wp2
  have n_ := as3_ (IsS127.drew HI0.out) (keep_drew HK.out) (below_drew1 HB.out)
  clear HI0 HK HB
  have ⟨HI0, HK, HB⟩ := n_
  clear n_
  refine start_ (n := 11) (S := fun w' => w'.cell? ⟨g, 0, none⟩ = some (.string s0_0) ∧ w'.cell? ⟨g, 1, none⟩ = some (.int .i64 s0_1) ∧ w'.cell? ⟨g, 2, none⟩ = some (.bool false)) (ds := []) #[false, false, false, false, false, false, false, false, false, false, false] (by kernel_rfl) rfl rfl ⟨(blk_cell (Aside0.mk HI0.out.1).out 0).trans rfl, (blk_cell (Aside0.mk HI0.out.1).out 1).trans rfl, (blk_cell (Aside0.mk HI0.out.1).out 2).trans rfl⟩ (fun hHeld => ?_); refine with_tabW impl_taker_str.tab3 impl_taker_str.bits3 (fun HT_ HW_ => ?_)
  generalize w.drew = w6 at HI0 HK HB hHeld ⊢
  refine pu_ 0 8 #[true, false, false, false, false, false, false, false, false, false, false] HT_.out ?_
  refine pu_ 1 9 #[true, true, false, false, false, false, false, false, false, false, false] HT_.out ?_
  refine pu_ 2 10 #[true, true, true, false, false, false, false, false, false, false, false] HT_.out ?_
  refine pu_ 4 12 #[true, true, true, false, true, false, false, false, false, false, false] HT_.out ?_
  refine pu_ 5 13 #[true, true, true, false, true, true, false, false, false, false, false] HT_.out ?_
  refine pu_ 6 14 #[true, true, true, false, true, true, true, false, false, false, false] HT_.out ?_
  refine tk3_ 3 11 #[true, true, true, true, true, true, true, false, false, false, false] HT_.out HW_.out hHeld ?_
  refine tk3_ 7 15 #[true, true, true, true, true, true, true, true, false, false, false] HT_.out HW_.out hHeld ?_
  refine join_ (σ := Nat) 1 #[true, true, true, true, true, true, true, true, true, true, false] (fun s_ => [(16, .agg #[.string t1074, .int .i64 t1075, .int .i64 t1076]), (3, .pointer (some ⟨s_, 0, none⟩))]) (fun s_ w' => (w'.cell? ⟨g, 0, none⟩ = some (.string s0_0) ∧ w'.cell? ⟨g, 1, none⟩ = some (.int .i64 s0_1) ∧ w'.cell? ⟨g, 2, none⟩ = some (.bool false)) ∧ (w'.heap[s_]? = some (.cells #[.string (⟨#[]⟩ : ByteArray), .int .i64 0, .int .i64 0] 202 (0, 0))) ∧ (w.heap.size ≤ s_) ∧ (w0.heap.size ≤ s_) ∧ (g ≠ s_) ∧ (s_ ≠ g) ∧ (IsS127 w0 w' g s0_0 s0_1 false) ∧ (KeepBut w w' g none) ∧ (Below w0.heap.size w0 w')) ?_ ?_
  rotate_left
  ·intro hCont
   refine two_ (i := 8) (j := 9) (Ni := some 16) (Nj := some 3) #[true, true, true, true, true, true, true, true, true, false, false] #[true, true, true, true, true, true, true, true, false, true, false] rfl rfl rfl rfl (two_of HT_.out (by kernel_rfl)) (by decide) (by decide) (fun K hK => ?_) (fun K hK => ?_)
   ·skip
    refine goes_ Try.func211 (by kernel_rfl) rfl #[.string s0_0, .int .i64 s0_1] (by rfl) rfl rfl (z0_) ?_
    with_reducible refine (impl_GetText.calls k s0_0 s0_1 t1074 t1075 t1076 _ A4.out).mono ?_
    rintro e w7 ⟨rfl, hb⟩
    refine ⟨_, rfl, ?_⟩
    have n_ := as3_ (IsS127.below (z16_ HI0.out) hb) (KeepBut.trans (z11_ HK.out) (KeepBut.of_below hb g none) (.inl rfl)) (below_step (z17_ HB.out HI0.out) hb)
    clear HI0 HK HB
    have ⟨HI0, HK, HB⟩ := n_
    clear n_
    (try clear hb)
    (try clear hb2)
    (try clear hk)
    (try clear hi)
    refine hK.out _ _ ⟨(blk_cell (Aside0.mk HI0.out.1).out 0).trans rfl, (blk_cell (Aside0.mk HI0.out.1).out 1).trans rfl, (blk_cell (Aside0.mk HI0.out.1).out 2).trans rfl⟩ (fun hHeld => ?_)
    clear hK K
    refine norm_ (a' := ?_) ?_ ?_
    rotate_left
    ·show Act.put _ (some 16) _ = _
     simp only [Act.put, sa_, s0_, ss_, i64_w, i32_w]
     rfl
    refine one_ (i := 9) (N := some 3) #[true, true, true, true, true, true, true, true, true, true, false] rfl rfl (one_of HT_.out (by kernel_rfl)) (by decide) (fun K hK => ?_)
    refine box_step ?hg (N := 3) ?hd (cs := #[.string (⟨#[]⟩ : ByteArray), .int .i64 0, .int .i64 0]) (t := 202) ?hr ?_; (case hd => rfl); (case hg => rfl); (case hr => first | (go_simp; done) | (go_simp; rfl))
    intro gb1077 hg w8 hbox hb
    have n_ := as8_ (IsS127.below (z16_ HI0.out) hb) (KeepBut.trans (z11_ HK.out) (KeepBut.of_below hb g none) (.inl rfl)) (below_step (z17_ HB.out HI0.out) hb) (hbox) ((z19_ HK.out : w.heap.size ≤ gb1077)) ((Nat.le_trans HW0.out (z19_ HK.out : w.heap.size ≤ gb1077) : w0.heap.size ≤ gb1077)) ((z58_ HI0.out : g ≠ gb1077)) ((z59_ HI0.out : gb1077 ≠ g))
    clear HI0 HK HB
    have ⟨HI0, HK, HB, BK1077, GW1077, GE1077, NB0_1077, NB1077_0⟩ := n_
    clear n_
    clear hb hbox hg
    refine hK.out _ _ ⟨(blk_cell (Aside0.mk HI0.out.1).out 0).trans rfl, (blk_cell (Aside0.mk HI0.out.1).out 1).trans rfl, (blk_cell (Aside0.mk HI0.out.1).out 2).trans rfl⟩ (fun hHeld => ?_)
    clear hK K
    refine norm_ (a' := ?_) ?_ ?_
    rotate_left
    ·show Act.put _ (some 3) _ = _
     simp only [Act.put, sa_, s0_, ss_, i64_w, i32_w]
     rfl
    exact norm_ (z44_) (hCont (gb1077) _ ⟨hHeld, (z9_ BK1077.out), GW1077.out, GE1077.out, NB0_1077.out, NB1077_0.out, (z30_ HI0.out NB0_1077.out), (z15_ HK.out GW1077.out), (z21_ HB.out HI0.out GE1077.out)⟩)
   ·skip
    refine box_step ?hg (N := 3) ?hd (cs := #[.string (⟨#[]⟩ : ByteArray), .int .i64 0, .int .i64 0]) (t := 202) ?hr ?_; (case hd => rfl); (case hg => rfl); (case hr => first | (go_simp; done) | (go_simp; rfl))
    intro gb1077 hg w7 hbox hb
    have n_ := as8_ (IsS127.below (z16_ HI0.out) hb) (KeepBut.trans (z11_ HK.out) (KeepBut.of_below hb g none) (.inl rfl)) (below_step (z17_ HB.out HI0.out) hb) (hbox) ((z19_ HK.out : w.heap.size ≤ gb1077)) ((Nat.le_trans HW0.out (z19_ HK.out : w.heap.size ≤ gb1077) : w0.heap.size ≤ gb1077)) ((z58_ HI0.out : g ≠ gb1077)) ((z59_ HI0.out : gb1077 ≠ g))
    clear HI0 HK HB
    have ⟨HI0, HK, HB, BK1077, GW1077, GE1077, NB0_1077, NB1077_0⟩ := n_
    clear n_
    clear hb hbox hg
    refine hK.out _ _ ⟨(blk_cell (Aside0.mk HI0.out.1).out 0).trans rfl, (blk_cell (Aside0.mk HI0.out.1).out 1).trans rfl, (blk_cell (Aside0.mk HI0.out.1).out 2).trans rfl⟩ (fun hHeld => ?_)
    clear hK K
    refine norm_ (a' := ?_) ?_ ?_
    rotate_left
    ·show Act.put _ (some 3) _ = _
     simp only [Act.put, sa_, s0_, ss_, i64_w, i32_w]
     rfl
    refine one_ (i := 8) (N := some 16) #[true, true, true, true, true, true, true, true, true, true, false] rfl rfl (one_of HT_.out (by kernel_rfl)) (by decide) (fun K hK => ?_)
    refine goes_ Try.func211 (by kernel_rfl) rfl #[.string s0_0, .int .i64 s0_1] (by rfl) rfl rfl (z0_) ?_
    with_reducible refine (impl_GetText.calls k s0_0 s0_1 t1074 t1075 t1076 _ A4.out).mono ?_
    rintro e w8 ⟨rfl, hb⟩
    refine ⟨_, rfl, ?_⟩
    have n_ := as4_ (IsS127.below (z30_ HI0.out NB0_1077.out) hb) (blkB_ BK1077.out hb) (KeepBut.trans (z15_ HK.out GW1077.out) (KeepBut.of_below hb g none) (.inl rfl)) (below_step (z21_ HB.out HI0.out GE1077.out) hb)
    clear HI0 BK1077 HK HB
    have ⟨HI0, BK1077, HK, HB⟩ := n_
    clear n_
    (try clear hb)
    (try clear hb2)
    (try clear hk)
    (try clear hi)
    refine hK.out _ _ ⟨(blk_cell (Aside0.mk HI0.out.1).out 0).trans rfl, (blk_cell (Aside0.mk HI0.out.1).out 1).trans rfl, (blk_cell (Aside0.mk HI0.out.1).out 2).trans rfl⟩ (fun hHeld => ?_)
    clear hK K
    refine norm_ (a' := ?_) ?_ ?_
    rotate_left
    ·show Act.put _ (some 16) _ = _
     simp only [Act.put, sa_, s0_, ss_, i64_w, i32_w]
     rfl
    exact norm_ (z44_) (hCont (gb1077) _ ⟨hHeld, (z9_ BK1077.out), GW1077.out, GE1077.out, NB0_1077.out, NB1077_0.out, (z30_ HI0.out NB0_1077.out), (z15_ HK.out GW1077.out), (z21_ HB.out HI0.out GE1077.out)⟩)
  rintro gb1077 w9 ⟨hS_, h0_, h1_, h2_, h3_, h4_, h5_, h6_, h7_⟩
  have n0_ : Aside0 (w9.heap[gb1077]? = some (.cells #[.string (⟨#[]⟩ : ByteArray), .int .i64 0, .int .i64 0] 202 (0, 0))) := ⟨h0_⟩
  have n1_ : Aside0 (w.heap.size ≤ gb1077) := ⟨h1_⟩
  have n2_ : Aside0 (w0.heap.size ≤ gb1077) := ⟨h2_⟩
  have n3_ : Aside0 (g ≠ gb1077) := ⟨h3_⟩
  have n4_ : Aside0 (gb1077 ≠ g) := ⟨h4_⟩
  have n5_ : Aside0 (IsS127 w0 w9 g s0_0 s0_1 false) := ⟨h5_⟩
  have n6_ : Aside0 (KeepBut w w9 g none) := ⟨h6_⟩
  have n7_ : Aside0 (Below w0.heap.size w0 w9) := ⟨h7_⟩
  clear HI0
  clear HK
  clear HB
  clear h0_ h1_ h2_ h3_ h4_ h5_ h6_ h7_
  have BK1077 := n0_
  have GW1077 := n1_
  have GE1077 := n2_
  have NB0_1077 := n3_
  have NB1077_0 := n4_
  have HI0 := n5_
  have HK := n6_
  have HB := n7_
  clear n0_ n1_ n2_ n3_ n4_ n5_ n6_ n7_
  have hHeld : w9.cell? ⟨g, 0, none⟩ = some (.string s0_0) ∧ w9.cell? ⟨g, 1, none⟩ = some (.int .i64 s0_1) ∧ w9.cell? ⟨g, 2, none⟩ = some (.bool false) := hS_
  refine norm_ (a' := ?_) ?_ ?_
  rotate_left
  ·simp only [putAll, Act.put, List.setIfInBounds_toArray, List.set_cons_zero, List.set_cons_succ]
   rfl
  refine one_ (i := 10) (N := none) #[true, true, true, true, true, true, true, true, true, true, true] rfl rfl (one_of HT_.out (by kernel_rfl)) (by decide) (fun K hK => ?_)
  have hs10 : w9.cell? ⟨gb1077, 0, none⟩ = some (.string (⟨#[]⟩ : ByteArray)) := (blk_cell BK1077.out 0).trans rfl
  have hfs10 := blk_frozen BK1077.out 0
  have hs11 : w9.cell? ⟨gb1077, 1, none⟩ = some (.int .i64 0) := (blk_cell BK1077.out 1).trans rfl
  have hfs11 := blk_frozen BK1077.out 1
  have hs12 : w9.cell? ⟨gb1077, 2, none⟩ = some (.int .i64 0) := (blk_cell BK1077.out 2).trans rfl
  have hfs12 := blk_frozen BK1077.out 2
  refine skip_ (w1 := ?_) (by rfl) rfl ?_ ?_
  rotate_left
  ·go_simp
   rfl
  refine hK.out _ _ ⟨((cell_far (p := ⟨gb1077, _, none⟩) NB0_1077.out _).trans (((cell_far (p := ⟨gb1077, _, none⟩) NB0_1077.out _).trans (((cell_far (p := ⟨gb1077, _, none⟩) NB0_1077.out _).trans (hHeld.1)))))), ((cell_far (p := ⟨gb1077, _, none⟩) NB0_1077.out _).trans (((cell_far (p := ⟨gb1077, _, none⟩) NB0_1077.out _).trans (((cell_far (p := ⟨gb1077, _, none⟩) NB0_1077.out _).trans (hHeld.2.1)))))), ((cell_far (p := ⟨gb1077, _, none⟩) NB0_1077.out _).trans (((cell_far (p := ⟨gb1077, _, none⟩) NB0_1077.out _).trans (((cell_far (p := ⟨gb1077, _, none⟩) NB0_1077.out _).trans (hHeld.2.2))))))⟩ (fun hHeld => ?_)
  clear hK K
  refine done_ (done_of HT_.out (by kernel_rfl)) ?_
  try go_wp2
  have n0_ : Aside0 ((((w9.setCell ⟨gb1077, 0, none⟩ (.string t1074)).setCell ⟨gb1077, 1, none⟩ (.int .i64 t1075)).setCell ⟨gb1077, 2, none⟩ (.int .i64 t1076)).heap[gb1077]? = some (.cells #[.string t1074, .int .i64 t1075, .int .i64 t1076] 202 (0, 0))) := ⟨z14_ BK1077.out⟩
  have n1_ : Aside0 (IsS127 w0 (((w9.setCell ⟨gb1077, 0, none⟩ (.string t1074)).setCell ⟨gb1077, 1, none⟩ (.int .i64 t1075)).setCell ⟨gb1077, 2, none⟩ (.int .i64 t1076)) g s0_0 s0_1 false) := ⟨z30_ HI0.out NB0_1077.out⟩
  have n2_ : Aside0 (KeepBut w (((w9.setCell ⟨gb1077, 0, none⟩ (.string t1074)).setCell ⟨gb1077, 1, none⟩ (.int .i64 t1075)).setCell ⟨gb1077, 2, none⟩ (.int .i64 t1076)) g none) := ⟨z15_ HK.out GW1077.out⟩
  have n3_ : Aside0 (Below w0.heap.size w0 (((w9.setCell ⟨gb1077, 0, none⟩ (.string t1074)).setCell ⟨gb1077, 1, none⟩ (.int .i64 t1075)).setCell ⟨gb1077, 2, none⟩ (.int .i64 t1076))) := ⟨z21_ HB.out HI0.out GE1077.out⟩
  (try clear BK1077)
  (try clear HI0)
  (try clear HK)
  (try clear HB)
  generalize (((w9.setCell ⟨gb1077, 0, none⟩ (.string t1074)).setCell ⟨gb1077, 1, none⟩ (.int .i64 t1075)).setCell ⟨gb1077, 2, none⟩ (.int .i64 t1076)) = w13 at n0_ n1_ n2_ n3_ ⊢
  have BK1077 := n0_
  have HI0 := n1_
  have HK := n2_
  have HB := n3_
  clear n0_ n1_ n2_ n3_
  have n_ := as4_ (blk_drew BK1077.out) (IsS127.drew HI0.out) (keep_drew HK.out) (below_drew1 HB.out)
  clear BK1077 HI0 HK HB
  have ⟨BK1077, HI0, HK, HB⟩ := n_
  clear n_
  refine start_ (n := 13) (S := fun w' => w'.cell? ⟨gb1077, 0, none⟩ = some (.string t1074) ∧ w'.cell? ⟨gb1077, 1, none⟩ = some (.int .i64 t1075) ∧ w'.cell? ⟨gb1077, 2, none⟩ = some (.int .i64 t1076)) (ds := []) #[false, false, false, false, false, false, false, false, false, false, false, false, false] (by kernel_rfl) rfl rfl ⟨(blk_cell BK1077.out 0).trans rfl, (blk_cell BK1077.out 1).trans rfl, (blk_cell BK1077.out 2).trans rfl⟩ (fun hHeld => ?_); refine with_tabW impl_taker_str.tab4 impl_taker_str.bits4 (fun HT_ HW_ => ?_)
  generalize w13.drew = w14 at BK1077 HI0 HK HB hHeld ⊢
  refine pu_ 0 17 #[true, false, false, false, false, false, false, false, false, false, false, false, false] HT_.out ?_
  refine pu_ 1 18 #[true, true, false, false, false, false, false, false, false, false, false, false, false] HT_.out ?_
  refine pu_ 2 19 #[true, true, true, false, false, false, false, false, false, false, false, false, false] HT_.out ?_
  refine pu_ 4 21 #[true, true, true, false, true, false, false, false, false, false, false, false, false] HT_.out ?_
  refine tk3_ 3 20 #[true, true, true, true, true, false, false, false, false, false, false, false, false] HT_.out HW_.out hHeld ?_
  refine pu_ 7 24 #[true, true, true, true, true, false, false, true, false, false, false, false, false] HT_.out ?_
  refine pu_ 8 25 #[true, true, true, true, true, false, false, true, true, false, false, false, false] HT_.out ?_
  refine tk3_ 5 22 #[true, true, true, true, true, true, false, true, true, false, false, false, false] HT_.out HW_.out hHeld ?_
  refine pu_ 6 23 #[true, true, true, true, true, true, true, true, true, false, false, false, false] HT_.out ?_
  refine one_ (i := 9) (N := none) #[true, true, true, true, true, true, true, true, true, true, false, false, false] rfl rfl (one_of HT_.out (by kernel_rfl)) (by decide) (fun K hK => ?_)
  have hcQ9_0 := (blk_cell HI0.out.1 0).trans (show _ = some (.string s0_0 : Value) by rfl)
  have hfQ9_0 := blk_frozen HI0.out.1 0
  have hcQ9_1 := (blk_cell HI0.out.1 1).trans (show _ = some (.int .i64 s0_1 : Value) by rfl)
  have hfQ9_1 := blk_frozen HI0.out.1 1
  have hcQ9_2 := (blk_cell HI0.out.1 2).trans (show _ = some (.bool false : Value) by rfl)
  have hfQ9_2 := blk_frozen HI0.out.1 2
  refine skip_ (w1 := ?_) (by rfl) rfl ?_ ?_
  rotate_left
  ·go_simp
   rfl
  refine hK.out _ _ ⟨((cell_far (p := ⟨g, _, none⟩) NB1077_0.out _).trans (hHeld.1)), ((cell_far (p := ⟨g, _, none⟩) NB1077_0.out _).trans (hHeld.2.1)), ((cell_far (p := ⟨g, _, none⟩) NB1077_0.out _).trans (hHeld.2.2))⟩ (fun hHeld => ?_)
  clear hK K
  refine pu_ 10 26 #[true, true, true, true, true, true, true, true, true, true, true, false, false] HT_.out ?_
  refine pu_ 11 27 #[true, true, true, true, true, true, true, true, true, true, true, true, false] HT_.out ?_
  refine one_ (i := 12) (N := none) #[true, true, true, true, true, true, true, true, true, true, true, true, true] rfl rfl (one_of HT_.out (by kernel_rfl)) (by decide) (fun K hK => ?_)
  have hcQ12_0 := (blk_cell HI0.out.1 0).trans (show _ = some (.string s0_0 : Value) by rfl)
  have hfQ12_0 := blk_frozen HI0.out.1 0
  have hcQ12_1 := (blk_cell HI0.out.1 1).trans (show _ = some (.int .i64 s0_1 : Value) by rfl)
  have hfQ12_1 := blk_frozen HI0.out.1 1
  have hcQ12_2 := (blk_cell HI0.out.1 2).trans (show _ = some (.bool false : Value) by rfl)
  have hfQ12_2 := blk_frozen HI0.out.1 2
  refine skip_ (w1 := ?_) (by rfl) rfl ?_ ?_
  rotate_left
  ·go_simp
   rfl
  refine hK.out _ _ ⟨((cell_far (p := ⟨g, _, none⟩) NB1077_0.out _).trans (hHeld.1)), ((cell_far (p := ⟨g, _, none⟩) NB1077_0.out _).trans (hHeld.2.1)), ((cell_far (p := ⟨g, _, none⟩) NB1077_0.out _).trans (hHeld.2.2))⟩ (fun hHeld => ?_)
  clear hK K
  refine done_ (done_of HT_.out (by kernel_rfl)) ?_
  have hnb15 := NB1077_0.out
  have hnc15 := NB0_1077.out
  have ⟨hcz16_0, hcz16_1, hcz16_2, hfz16_0, hfz16_1, hfz16_2⟩ := cz3_ BK1077.out
  try go_wp2
  go_ret
  exact ⟨z8_, z30_ HI0.out NB0_1077.out, z21_ HB.out HI0.out GE1077.out, z15_ HK.out GW1077.out⟩


/-! ### impl_taker_set: function 136 -/
mutual
def impl_taker_set.l0 : Nat → Int → ByteArray → Int → Bool → List (S33) → List (S158) → Option ((List (S33)) × (List (S158)) × ByteArray × Int × Bool)
 | 0, _, _, _, _, _, _ => none
 | k + 1, x4, x1000, x1001, x1002, x1086000, x1086001 => if x4 > 0 then (impl_taker_set.j1 k x4 (!x1002) x1000 x1001 x1002 x1086000 x1086001) else (impl_taker_set.j1 k x4 false x1000 x1001 x1002 x1086000 x1086001)
def impl_taker_set.j1 : Nat → Int → Bool → ByteArray → Int → Bool → List (S33) → List (S158) → Option ((List (S33)) × (List (S158)) × ByteArray × Int × Bool)
 | 0, _, _, _, _, _, _, _ => none
 | k + 1, x4, x20, x1000, x1001, x1002, x1086000, x1086001 => if x20 = true then ((impl_taker_num.f k x1000 x1001 x1002).bind fun bt1091 => ((impl_taker_num.f k bt1091.2.1 bt1091.2.2.1 bt1091.2.2.2).bind fun bt1096 => ((impl_taker_num.f k bt1096.2.1 bt1096.2.2.1 bt1096.2.2.2).bind fun bt1100 => ((impl_taker_str.f k bt1100.2.1 bt1100.2.2.1 bt1100.2.2.2).bind fun bt1104 => (if bt1104.2.2.2 = true then (if x1086001.length < 3518437208883 then (impl_taker_set.l0 k (wrap64 (x4 - 1)) bt1104.2.1 bt1104.2.2.1 true x1086000 (x1086001 ++ [(⟨(⟨bt1091.1, bt1096.1⟩ : S33), (bt1100.1 == 1), bt1104.1⟩ : S158)])) else (none)) else ((impl_within.f bt1100.1 0 1).bind fun t1111 => (if x1086001.length < 3518437208883 then (impl_taker_set.l0 k (wrap64 (x4 - 1)) bt1104.2.1 bt1104.2.2.1 (!t1111) x1086000 (x1086001 ++ [(⟨(⟨bt1091.1, bt1096.1⟩ : S33), (bt1100.1 == 1), bt1104.1⟩ : S158)])) else (none)))))))) else (if x1002 = true then (some (x1086000, x1086001, x1000, x1001, true)) else ((impl_SetRight.f k x1086000 x1086001).bind fun t1090 => (some (x1086000, x1086001, x1000, x1001, !t1090))))
end
def impl_taker_set.f (k : Nat) (s0_0 : ByteArray) (s0_1 : Int) (s0_2 : Bool) : Option ((List (S33)) × (List (S158)) × ByteArray × Int × Bool) := (impl_taker_seen.f k s0_0 s0_1 s0_2).bind fun bt1079 => ((impl_taker_count.f k bt1079.2.1 bt1079.2.2.1 bt1079.2.2.2 8).bind fun bt1086 => (impl_taker_set.l0 k bt1086.1 bt1086.2.1 bt1086.2.2.1 bt1086.2.2.2 bt1079.1 ([] : List (S158))))
theorem impl_taker_set.mono_l : ∀ k, (∀ y0 y1 y2 y3 y4 y5, LeO (impl_taker_set.l0 k y0 y1 y2 y3 y4 y5) (impl_taker_set.l0 (k + 1) y0 y1 y2 y3 y4 y5)) ∧ (∀ y0 y1 y2 y3 y4 y5 y6, LeO (impl_taker_set.j1 k y0 y1 y2 y3 y4 y5 y6) (impl_taker_set.j1 (k + 1) y0 y1 y2 y3 y4 y5 y6))
 | 0 => ⟨fun _ _ _ _ _ _ r h => by simp [impl_taker_set.l0] at h, fun _ _ _ _ _ _ _ r h => by simp [impl_taker_set.j1] at h⟩
 | k + 1 => by
  obtain ⟨ih0, ih1⟩ := impl_taker_set.mono_l k
  refine ⟨?_, ?_⟩
  ·intro y0 y1 y2 y3 y4 y5
   unfold impl_taker_set.l0
   repeat' first
   | (with_reducible exact ih0 _ _ _ _ _ _)
   | (with_reducible exact ih1 _ _ _ _ _ _ _)
   | (with_reducible exact impl_SetRight.mono _ _ _)
   | (with_reducible exact impl_taker_count.mono _ _ _ _ _)
   | (with_reducible exact impl_taker_num.mono _ _ _ _)
   | (with_reducible exact impl_taker_seen.mono _ _ _ _)
   | (with_reducible exact impl_taker_str.mono _ _ _ _)
   | (with_reducible exact LeO.refl _)
   | (with_reducible exact LeO.none _)
   | (with_reducible refine LeO.ite ?_ ?_)
   | (with_reducible refine LeO.bind ?_ (fun _ => ?_))
   | exact ih0 _ _ _ _ _ _
   | exact ih1 _ _ _ _ _ _ _
   | exact impl_SetRight.mono _ _ _
   | exact impl_taker_count.mono _ _ _ _ _
   | exact impl_taker_num.mono _ _ _ _
   | exact impl_taker_seen.mono _ _ _ _
   | exact impl_taker_str.mono _ _ _ _
   | exact LeO.none _
   | refine LeO.ite ?_ ?_
   | refine LeO.bind ?_ (fun _ => ?_)
  ·intro y0 y1 y2 y3 y4 y5 y6
   unfold impl_taker_set.j1
   repeat' first
   | (with_reducible exact ih0 _ _ _ _ _ _)
   | (with_reducible exact ih1 _ _ _ _ _ _ _)
   | (with_reducible exact impl_SetRight.mono _ _ _)
   | (with_reducible exact impl_taker_count.mono _ _ _ _ _)
   | (with_reducible exact impl_taker_num.mono _ _ _ _)
   | (with_reducible exact impl_taker_seen.mono _ _ _ _)
   | (with_reducible exact impl_taker_str.mono _ _ _ _)
   | (with_reducible exact LeO.refl _)
   | (with_reducible exact LeO.none _)
   | (with_reducible refine LeO.ite ?_ ?_)
   | (with_reducible refine LeO.bind ?_ (fun _ => ?_))
   | exact ih0 _ _ _ _ _ _
   | exact ih1 _ _ _ _ _ _ _
   | exact impl_SetRight.mono _ _ _
   | exact impl_taker_count.mono _ _ _ _ _
   | exact impl_taker_num.mono _ _ _ _
   | exact impl_taker_seen.mono _ _ _ _
   | exact impl_taker_str.mono _ _ _ _
   | exact LeO.none _
   | refine LeO.ite ?_ ?_
   | refine LeO.bind ?_ (fun _ => ?_)
theorem impl_taker_set.mono : ∀ a0 a1 a2 k, LeO (impl_taker_set.f k a0 a1 a2) (impl_taker_set.f (k + 1) a0 a1 a2) := by
 intro a0 a1 a2 k
 obtain ⟨ih0, ih1⟩ := impl_taker_set.mono_l k
 unfold impl_taker_set.f
 repeat' first
   | (with_reducible exact ih0 _ _ _ _ _ _)
   | (with_reducible exact ih1 _ _ _ _ _ _ _)
   | (with_reducible exact impl_SetRight.mono _ _ _)
   | (with_reducible exact impl_taker_count.mono _ _ _ _ _)
   | (with_reducible exact impl_taker_num.mono _ _ _ _)
   | (with_reducible exact impl_taker_seen.mono _ _ _ _)
   | (with_reducible exact impl_taker_str.mono _ _ _ _)
   | (with_reducible exact LeO.refl _)
   | (with_reducible exact LeO.none _)
   | (with_reducible refine LeO.ite ?_ ?_)
   | (with_reducible refine LeO.bind ?_ (fun _ => ?_))
   | exact ih0 _ _ _ _ _ _
   | exact ih1 _ _ _ _ _ _ _
   | exact impl_SetRight.mono _ _ _
   | exact impl_taker_count.mono _ _ _ _ _
   | exact impl_taker_num.mono _ _ _ _
   | exact impl_taker_seen.mono _ _ _ _
   | exact impl_taker_str.mono _ _ _ _
   | exact LeO.none _
   | refine LeO.ite ?_ ?_
   | refine LeO.bind ?_ (fun _ => ?_)
set_option maxHeartbeats 8000000 in
set_option maxRecDepth 100000 in
theorem impl_taker_set.calls (k : Nat) (g : Nat) (s0_0 : ByteArray) (s0_1 : Int) (s0_2 : Bool) (r1 : List (S33)) (r2 : List (S158)) (r3 : ByteArray) (r4 : Int) (r5 : Bool) (w0 w : World) (hI : IsS127 w0 w g s0_0 s0_1 s0_2) (hB : Below w0.heap.size w0 w) (h : impl_taker_set.f k s0_0 s0_1 s0_2 = some (r1, r2, r3, r4, r5)) :
  Calls Try.prog 136 #[.pointer (some ⟨g, 0, none⟩)] w fun e w' => ∃ v0_ v1_ : Value, e = .returned (.agg #[v0_, v1_]) ∧ Kd.R k33 33 w' w.heap.size (fun _ => True) v0_ r1 ∧ Kd.R k158 158 w' w.heap.size (fun _ => True) v1_ r2 ∧ IsS127 w0 w' g r3 r4 r5 ∧ Below w0.heap.size w0 w' ∧ KeepBut w w' g none := by
 have hu60 := Try.underlying60
 have hu33 := Try.underlying33
 have hu158 := Try.underlying158
 have HI0 := Aside0.mk hI
 have HK := Aside0.mk (KeepBut.refl w g none)
 have HL := Aside0.mk hB.size
 clear hI
 have HW0 := Aside0.mk hB.size
 have HB := Aside0.mk hB
 clear hB
 have H : ((impl_taker_seen.f k s0_0 s0_1 s0_2).bind fun bt1079 => ((impl_taker_count.f k bt1079.2.1 bt1079.2.2.1 bt1079.2.2.2 8).bind fun bt1086 => (impl_taker_set.l0 k bt1086.1 bt1086.2.1 bt1086.2.2.1 bt1086.2.2.2 bt1079.1 ([] : List (S158))))) = some (r1, r2, r3, r4, r5) := h
 clear h
 replace H := Option.bind_eq_some_iff.mp H
 obtain ⟨⟨t1079, t1082, t1083, t1084⟩, A20, H⟩ := H
 replace H : ((impl_taker_count.f k t1082 t1083 t1084 8).bind fun bt1086 => (impl_taker_set.l0 k bt1086.1 bt1086.2.1 bt1086.2.2.1 bt1086.2.2.2 t1079 ([] : List (S158)))) = some (r1, r2, r3, r4, r5) := H
 have A2 := Aside0.mk A20
 clear A20
 replace H := Option.bind_eq_some_iff.mp H
 obtain ⟨⟨t1086, t1087, t1088, t1089⟩, A30, H⟩ := H
 replace H : (impl_taker_set.l0 k t1086 t1087 t1088 t1089 t1079 ([] : List (S158))) = some (r1, r2, r3, r4, r5) := H
 have A3 := Aside0.mk A30
 clear A30
 have H' := Aside0.mk H
 clear H
 go_enter Try.func136, Try.ntmps136
 go_wp2_with (first | ((with_reducible refine gate_dst (N := 2) rfl ?_); refine box_event ?hg (N := 2) ?hd (cs := #[.slice none 0 0, .slice none 0 0]) (t := 60) ?hr ?_; (case hd => rfl); (case hg => rfl); (case hr => first | (go_simp; done) | (go_simp; rfl)); intro gb1078 hg w4 hbox hb; have n_ := as8_ (IsS127.below (z16_ HI0.out) hb) (KeepBut.trans (z11_ HK.out) (KeepBut.of_below hb g none) (.inl rfl)) (below_step (z17_ HB.out HI0.out) hb) (hbox) ((z19_ HK.out : w.heap.size ≤ gb1078)) ((Nat.le_trans HW0.out (z19_ HK.out : w.heap.size ≤ gb1078) : w0.heap.size ≤ gb1078)) ((by rw [hg]; exact Nat.ne_of_lt (IsS127.lt (show IsS127 w0 _ g s0_0 s0_1 s0_2 from by repeat (first | (with_reducible first | exact HI0.out | apply IsS127.alloc | apply IsS127.drewN | apply IsS127.drew | apply IsS127.set_0 | apply IsS127.set_1 | apply IsS127.set_2) | exact HI0.out))) : g ≠ gb1078)) ((by rw [hg]; exact Nat.ne_of_gt (IsS127.lt (show IsS127 w0 _ g s0_0 s0_1 s0_2 from by repeat (first | (with_reducible first | exact HI0.out | apply IsS127.alloc | apply IsS127.drewN | apply IsS127.drew | apply IsS127.set_0 | apply IsS127.set_1 | apply IsS127.set_2) | exact HI0.out))) : gb1078 ≠ g)); clear HI0 HK HB; have ⟨HI0, HK, HB, BK1078, GW1078, GE1078, NB0_1078, NB1078_0⟩ := n_; clear n_; clear hb hbox hg) | ((with_reducible refine gate_callee (f := 94) rfl ?_); refine goesL_ (some 8) rfl rfl Try.func94 (by kernel_rfl) rfl #[.pointer (some ⟨g, 0, none⟩)] rfl (z0_) ?_; (with_reducible refine (impl_taker_seen.calls k g s0_0 s0_1 s0_2 t1079 t1082 t1083 t1084 w0 _ ?side1 ?side2 A2.out).mono ?_); (case side1 => repeat (first | (with_reducible first | exact HI0.out | apply IsS127.alloc | apply IsS127.drewN | apply IsS127.drew | apply IsS127.set_0 | apply IsS127.set_1 | apply IsS127.set_2 | (apply IsS127.far; case hne => exact NB0_1078.out)) | exact HI0.out)); (case side2 => exact z21_ HB.out HI0.out GE1078.out); rintro e w5 ⟨v1080, rfl, ho0, hi, hb, hk⟩; refine ⟨_, rfl, ?_⟩; have n_ := as5_ (KeepBut.blk hk (g' := gb1078) (o := .cells #[.slice none 0 0, .slice none 0 0] 60 (0, 0)) (z9_ BK1078.out) NB1078_0.out (by simp)) (Kd.R_lower ho0 (keep_size (w := w) (g := g) (row := none) (z15_ HK.out GW1078.out))) (KeepBut.trans (z15_ HK.out GW1078.out) hk (.inl rfl)) (hb) (hi); clear BK1078 HK HB HI0; have ⟨BK1078, HO1081, HK, HB, HI0⟩ := n_; clear n_; (try clear hb); (try clear hb2); (try clear hk); (try clear hi); (try clear ho0); obtain ⟨Ao6, co6, eo6⟩ := Kd.R_slice HO1081.out; subst eo6) | ((with_reducible refine gate_dst (N := 3) rfl ?_); refine box_event ?hg (N := 3) ?hd (cs := #[.slice none 0 0, .slice none 0 0]) (t := 60) ?hr ?_; (case hd => rfl); (case hg => rfl); (case hr => first | (go_simp; done) | (go_simp; rfl)); intro gb1085 hg w7 hbox hb; have n_ := as12_ (Kd.R_below (z4_ HO1081.out) hb) (IsS127.below (by repeat (first | (with_reducible first | exact HI0.out | apply IsS127.alloc | apply IsS127.drewN | apply IsS127.drew | apply IsS127.set_0 | apply IsS127.set_1 | apply IsS127.set_2 | (apply IsS127.far; case hne => exact NB0_1078.out)) | exact HI0.out)) hb) (blkB_ BK1078.out hb) (KeepBut.trans (z15_ HK.out GW1078.out) (KeepBut.of_below hb g none) (.inl rfl)) (below_step (z21_ HB.out HI0.out GE1078.out) hb) (hbox) ((by rw [hg]; exact (keep_size (w := w) (g := g) (row := none) (by repeat (first | (with_reducible first | exact HK.out | apply KeepBut.set_ | apply keep_drewN | apply keep_drew | apply keep_alloc | refine keep_far ?_ GW1078.out _) | exact HK.out))) : w.heap.size ≤ gb1085)) ((Nat.le_trans HW0.out (by rw [hg]; exact (keep_size (w := w) (g := g) (row := none) (by repeat (first | (with_reducible first | exact HK.out | apply KeepBut.set_ | apply keep_drewN | apply keep_drew | apply keep_alloc | refine keep_far ?_ GW1078.out _) | exact HK.out))) : w.heap.size ≤ gb1085) : w0.heap.size ≤ gb1085)) (neL_ BK1078.out hg) (neG_ BK1078.out hg) ((by rw [hg]; exact Nat.ne_of_lt (IsS127.lt (show IsS127 w0 _ g t1082 t1083 t1084 from by repeat (first | (with_reducible first | exact HI0.out | apply IsS127.alloc | apply IsS127.drewN | apply IsS127.drew | apply IsS127.set_0 | apply IsS127.set_1 | apply IsS127.set_2 | (apply IsS127.far; case hne => exact NB0_1078.out)) | exact HI0.out))) : g ≠ gb1085)) ((by rw [hg]; exact Nat.ne_of_gt (IsS127.lt (show IsS127 w0 _ g t1082 t1083 t1084 from by repeat (first | (with_reducible first | exact HI0.out | apply IsS127.alloc | apply IsS127.drewN | apply IsS127.drew | apply IsS127.set_0 | apply IsS127.set_1 | apply IsS127.set_2 | (apply IsS127.far; case hne => exact NB0_1078.out)) | exact HI0.out))) : gb1085 ≠ g)); clear HO1081 HI0 BK1078 HK HB; have ⟨HO1081, HI0, BK1078, HK, HB, BK1085, GW1085, GE1085, NB1078_1085, NB1085_1078, NB0_1085, NB1085_0⟩ := n_; clear n_; clear hb hbox hg; have hnb8 := NB1085_1078.out; have hnc8 := NB1078_1085.out; have hnb9 := NB1085_0.out; have hnc9 := NB0_1085.out; have hcz10_0 : w7.cell? ⟨gb1085, 0, none⟩ = some (.slice none 0 0) := (blk_cell BK1085.out 0).trans rfl; have hcz10_1 : w7.cell? ⟨gb1085, 1, none⟩ = some (.slice none 0 0) := (blk_cell BK1085.out 1).trans rfl; have hfz10_0 := blk_frozen BK1085.out 0; have hfz10_1 := blk_frozen BK1085.out 1) | ((with_reducible refine gate_callee (f := 160) rfl ?_); refine goesL_ (some 11) rfl rfl Try.func160 (by kernel_rfl) rfl #[.pointer (some ⟨g, 0, none⟩), .int .i64 8] rfl (z0_) ?_; (with_reducible refine (impl_taker_count.calls k g t1082 t1083 t1084 8 t1086 t1087 t1088 t1089 w0 _ ?side1 ?side2 A3.out).mono ?_); (case side1 => exact z37_ HI0.out NB0_1078.out NB0_1085.out); (case side2 => exact z28_ HB.out HI0.out GE1078.out GE1085.out); rintro e w11 ⟨rfl, hi, hb, hk⟩; refine ⟨_, rfl, ?_⟩; have n_ := as6_ (KeepBut.blk hk (g' := gb1078) (o := .cells #[.slice none 0 0, .slice none 0 0] 60 (0, 0)) (z56_ NB1078_1085.out BK1078.out) NB1078_0.out (by simp)) (Kd.R_mono (Kd.R_keep (IsS127.apart (show IsS127 w0 _ g t1082 t1083 t1084 from by repeat (first | (with_reducible first | exact HI0.out | apply IsS127.alloc | apply IsS127.drewN | apply IsS127.drew | apply IsS127.set_0 | apply IsS127.set_1 | apply IsS127.set_2 | (apply IsS127.far; case hne => exact NB0_1078.out) | (apply IsS127.far; case hne => exact NB0_1085.out)) | exact HI0.out)) (z46_ HO1081.out BK1085.out) (by decide)) hk (fun _ h => h.2)) (fun _ h => h.1)) (KeepBut.blk hk (g' := gb1085) (o := .cells #[.slice Ao6 t1079.length co6, .slice none 0 0] 60 (0, 0)) (z42_ BK1085.out) NB1085_0.out (by simp)) (KeepBut.trans (z38_ HK.out GW1078.out GW1085.out) hk (.inl rfl)) (hb) (hi); clear BK1078 HO1081 BK1085 HK HB HI0; have ⟨BK1078, HO1081, BK1085, HK, HB, HI0⟩ := n_; clear n_; (try clear hb); (try clear hb2); (try clear hk); (try clear hi)))
 go_loopg [4] k (fun kq v4 w' => ∃ (x4_1 : Int) (x1000_1 : ByteArray) (x1001_1 : Int) (x1002_1 : Bool) (x1086001_1 : List (S158)) (u1086001 : Value), v4 = .int .i64 x4_1 ∧ Aside0 (impl_taker_set.l0 kq x4_1 x1000_1 x1001_1 x1002_1 t1079 x1086001_1 = some (r1, r2, r3, r4, r5)) ∧ Aside0 (kq ≤ k) ∧ Aside0 (Kd.R k33 33 w' w.heap.size (fun _ => True) (.slice Ao6 t1079.length co6) t1079) ∧ Aside0 (Kd.R k158 158 w' w.heap.size (fun _ => True) u1086001 x1086001_1) ∧ Aside0 (w'.heap[gb1078]? = some (.cells #[(.slice none 0 0), (.slice none 0 0)] 60 (0, 0))) ∧ Aside0 (w'.heap[gb1085]? = some (.cells #[(.slice Ao6 t1079.length co6), u1086001] 60 (0, 0))) ∧ Aside0 (IsS127 w0 w' g x1000_1 x1001_1 x1002_1) ∧ Aside0 (KeepBut w w' g none) ∧ Aside0 (Below w0.heap.size w0 w'))
 case atStart => exact ⟨(t1086), (t1087), (t1088), (t1089), (([] : List (S158))), (.slice none 0 0), (z2_), H', ⟨Nat.le_refl _⟩, ⟨z4_ HO1081.out⟩, ⟨z43_⟩, ⟨z9_ BK1078.out⟩, ⟨z9_ BK1085.out⟩, ⟨z37_ HI0.out NB0_1078.out NB0_1085.out⟩, ⟨z38_ HK.out GW1078.out GW1085.out⟩, ⟨z28_ HB.out HI0.out GE1078.out GE1085.out⟩⟩
 case round =>
  clear H'
  try clear c1
  try clear p2
  try clear c8
  try clear c9
  try clear hcz10_0
  try clear hcz10_1
  try clear hfz10_0
  try clear hfz10_1
  obtain ⟨x4_1, x1000_1, x1001_1, x1002_1, x1086001_1, u1086001, rfl, HA, HK1, HO_1086000, HO_1086001, BK1078, BK1085, HI0, HK, HB⟩ := hrel
  cases gk with
  | zero => exact absurd HA.out (by simp [impl_taker_set.l0])
  | succ k1 =>
   have H := HA.out
   clear HA
   simp only [impl_taker_set.l0] at H
   have HC12 := Aside0.mk H
   clear H
   go_upto_region 3 with (fail)
   go_cut [20] (fun v20 wc => ∃ (kq : Nat) (x20_11 : Bool), v20 = .bool x20_11 ∧ Aside0 (impl_taker_set.j1 kq x4_1 x20_11 x1000_1 x1001_1 x1002_1 t1079 x1086001_1 = some (r1, r2, r3, r4, r5)) ∧ Aside0 (kq ≤ k1) ∧ Aside0 (Kd.R k33 33 wc w.heap.size (fun _ => True) (.slice Ao6 t1079.length co6) t1079) ∧ Aside0 (Kd.R k158 158 wc w.heap.size (fun _ => True) u1086001 x1086001_1) ∧ Aside0 (wc.heap[gb1078]? = some (.cells #[(.slice none 0 0), (.slice none 0 0)] 60 (0, 0))) ∧ Aside0 (wc.heap[gb1085]? = some (.cells #[(.slice Ao6 t1079.length co6), u1086001] 60 (0, 0))) ∧ Aside0 (IsS127 w0 wc g x1000_1 x1001_1 x1002_1) ∧ Aside0 (KeepBut w wc g none) ∧ Aside0 (Below w0.heap.size w0 wc))
   case first =>
    have H := HC12.out
    clear HC12
    by_cases c13 : x4_1 > 0
    ·rw [if_pos c13] at H
     have c13b0 : decide (0 < x4_1) = true := decide_eq_true c13
     clear c13
     (first | rw [c13b0] | (simp only [i64_w, i32_w]; rw [c13b0]) | skip)
     have H' := Aside0.mk H
     clear H
     obtain ⟨HGz14, hgz14⟩ := HI0.out
     have hcz14_0 := cellS127_0 HGz14
     have hcz14_1 := cellS127_1 HGz14
     have hcz14_2 := cellS127_2 HGz14
     have hfz14_0 := blk_frozen HGz14 0
     have hfz14_1 := blk_frozen HGz14 1
     have hfz14_2 := blk_frozen HGz14 2
     clear HGz14 hgz14
     go_wp2
     go_meet
     case rel => exact ⟨_, (!x1002_1), (z2_), H', ⟨z26_ HK1.out⟩, ⟨z4_ HO_1086000.out⟩, ⟨z4_ HO_1086001.out⟩, ⟨z9_ BK1078.out⟩, ⟨z9_ BK1085.out⟩, ⟨z37_ HI0.out NB0_1078.out NB0_1085.out⟩, ⟨z38_ HK.out GW1078.out GW1085.out⟩, ⟨z28_ HB.out HI0.out GE1078.out GE1085.out⟩⟩
    ·rw [if_neg c13] at H
     have c13b0 : decide (0 < x4_1) = false := decide_eq_false c13
     clear c13
     (first | rw [c13b0] | (simp only [i64_w, i32_w]; rw [c13b0]) | skip)
     have H' := Aside0.mk H
     clear H
     go_wp2
     go_meet
     case rel => exact ⟨_, (false), (z2_), H', ⟨z26_ HK1.out⟩, ⟨z4_ HO_1086000.out⟩, ⟨z4_ HO_1086001.out⟩, ⟨z9_ BK1078.out⟩, ⟨z9_ BK1085.out⟩, ⟨z37_ HI0.out NB0_1078.out NB0_1085.out⟩, ⟨z38_ HK.out GW1078.out GW1085.out⟩, ⟨z28_ HB.out HI0.out GE1078.out GE1085.out⟩⟩
   case rest =>
    clear HC12
    try clear c1
    try clear p2
    try clear c8
    try clear c9
    try clear c13
    try clear c13b0
    try clear hcz10_0
    try clear hcz10_1
    try clear hcz14_0
    try clear hcz14_1
    try clear hcz14_2
    try clear hfz10_0
    try clear hfz10_1
    try clear hfz14_0
    try clear hfz14_1
    try clear hfz14_2
    try clear p2
    obtain ⟨kq, x20_11, rfl, HA, HJ11, HO_1086000, HO_1086001, BK1078, BK1085, HI0, HK, HB⟩ := hcut
    cases kq with
    | zero => exact absurd HA.out (by simp [impl_taker_set.j1])
    | succ kj11 =>
     have H := HA.out
     clear HA
     simp only [impl_taker_set.j1] at H
     by_cases c15 : x20_11 = true
     ·subst c15
      have H1 : ((impl_taker_num.f kj11 x1000_1 x1001_1 x1002_1).bind fun bt1091 => ((impl_taker_num.f kj11 bt1091.2.1 bt1091.2.2.1 bt1091.2.2.2).bind fun bt1096 => ((impl_taker_num.f kj11 bt1096.2.1 bt1096.2.2.1 bt1096.2.2.2).bind fun bt1100 => ((impl_taker_str.f kj11 bt1100.2.1 bt1100.2.2.1 bt1100.2.2.2).bind fun bt1104 => (if bt1104.2.2.2 = true then (if x1086001_1.length < 3518437208883 then (impl_taker_set.l0 kj11 (wrap64 (x4_1 - 1)) bt1104.2.1 bt1104.2.2.1 true t1079 (x1086001_1 ++ [(⟨(⟨bt1091.1, bt1096.1⟩ : S33), (bt1100.1 == 1), bt1104.1⟩ : S158)])) else (none)) else ((impl_within.f bt1100.1 0 1).bind fun t1111 => (if x1086001_1.length < 3518437208883 then (impl_taker_set.l0 kj11 (wrap64 (x4_1 - 1)) bt1104.2.1 bt1104.2.2.1 (!t1111) t1079 (x1086001_1 ++ [(⟨(⟨bt1091.1, bt1096.1⟩ : S33), (bt1100.1 == 1), bt1104.1⟩ : S158)])) else (none)))))))) = some (r1, r2, r3, r4, r5) := by rw [if_pos rfl] at H; exact H
      clear H
      have H := H1
      clear H1
      replace H := Option.bind_eq_some_iff.mp H
      obtain ⟨⟨t1091, t1092, t1093, t1094⟩, A160, H⟩ := H
      replace H : ((impl_taker_num.f kj11 t1092 t1093 t1094).bind fun bt1096 => ((impl_taker_num.f kj11 bt1096.2.1 bt1096.2.2.1 bt1096.2.2.2).bind fun bt1100 => ((impl_taker_str.f kj11 bt1100.2.1 bt1100.2.2.1 bt1100.2.2.2).bind fun bt1104 => (if bt1104.2.2.2 = true then (if x1086001_1.length < 3518437208883 then (impl_taker_set.l0 kj11 (wrap64 (x4_1 - 1)) bt1104.2.1 bt1104.2.2.1 true t1079 (x1086001_1 ++ [(⟨(⟨t1091, bt1096.1⟩ : S33), (bt1100.1 == 1), bt1104.1⟩ : S158)])) else (none)) else ((impl_within.f bt1100.1 0 1).bind fun t1111 => (if x1086001_1.length < 3518437208883 then (impl_taker_set.l0 kj11 (wrap64 (x4_1 - 1)) bt1104.2.1 bt1104.2.2.1 (!t1111) t1079 (x1086001_1 ++ [(⟨(⟨t1091, bt1096.1⟩ : S33), (bt1100.1 == 1), bt1104.1⟩ : S158)])) else (none))))))) = some (r1, r2, r3, r4, r5) := H
      have A16 := Aside0.mk A160
      clear A160
      replace H := Option.bind_eq_some_iff.mp H
      obtain ⟨⟨t1096, t1097, t1098, t1099⟩, A170, H⟩ := H
      replace H : ((impl_taker_num.f kj11 t1097 t1098 t1099).bind fun bt1100 => ((impl_taker_str.f kj11 bt1100.2.1 bt1100.2.2.1 bt1100.2.2.2).bind fun bt1104 => (if bt1104.2.2.2 = true then (if x1086001_1.length < 3518437208883 then (impl_taker_set.l0 kj11 (wrap64 (x4_1 - 1)) bt1104.2.1 bt1104.2.2.1 true t1079 (x1086001_1 ++ [(⟨(⟨t1091, t1096⟩ : S33), (bt1100.1 == 1), bt1104.1⟩ : S158)])) else (none)) else ((impl_within.f bt1100.1 0 1).bind fun t1111 => (if x1086001_1.length < 3518437208883 then (impl_taker_set.l0 kj11 (wrap64 (x4_1 - 1)) bt1104.2.1 bt1104.2.2.1 (!t1111) t1079 (x1086001_1 ++ [(⟨(⟨t1091, t1096⟩ : S33), (bt1100.1 == 1), bt1104.1⟩ : S158)])) else (none)))))) = some (r1, r2, r3, r4, r5) := H
      have A17 := Aside0.mk A170
      clear A170
      replace H := Option.bind_eq_some_iff.mp H
      obtain ⟨⟨t1100, t1101, t1102, t1103⟩, A180, H⟩ := H
      replace H : ((impl_taker_str.f kj11 t1101 t1102 t1103).bind fun bt1104 => (if bt1104.2.2.2 = true then (if x1086001_1.length < 3518437208883 then (impl_taker_set.l0 kj11 (wrap64 (x4_1 - 1)) bt1104.2.1 bt1104.2.2.1 true t1079 (x1086001_1 ++ [(⟨(⟨t1091, t1096⟩ : S33), (t1100 == 1), bt1104.1⟩ : S158)])) else (none)) else ((impl_within.f t1100 0 1).bind fun t1111 => (if x1086001_1.length < 3518437208883 then (impl_taker_set.l0 kj11 (wrap64 (x4_1 - 1)) bt1104.2.1 bt1104.2.2.1 (!t1111) t1079 (x1086001_1 ++ [(⟨(⟨t1091, t1096⟩ : S33), (t1100 == 1), bt1104.1⟩ : S158)])) else (none))))) = some (r1, r2, r3, r4, r5) := H
      have A18 := Aside0.mk A180
      clear A180
      replace H := Option.bind_eq_some_iff.mp H
      obtain ⟨⟨t1104, t1105, t1106, t1107⟩, A190, H⟩ := H
      replace H : (if t1107 = true then (if x1086001_1.length < 3518437208883 then (impl_taker_set.l0 kj11 (wrap64 (x4_1 - 1)) t1105 t1106 true t1079 (x1086001_1 ++ [(⟨(⟨t1091, t1096⟩ : S33), (t1100 == 1), t1104⟩ : S158)])) else (none)) else ((impl_within.f t1100 0 1).bind fun t1111 => (if x1086001_1.length < 3518437208883 then (impl_taker_set.l0 kj11 (wrap64 (x4_1 - 1)) t1105 t1106 (!t1111) t1079 (x1086001_1 ++ [(⟨(⟨t1091, t1096⟩ : S33), (t1100 == 1), t1104⟩ : S158)])) else (none)))) = some (r1, r2, r3, r4, r5) := H
      have A19 := Aside0.mk A190
      clear A190
      by_cases c20 : t1107 = true
      ·subst c20
       have H1 : (if x1086001_1.length < 3518437208883 then (impl_taker_set.l0 kj11 (wrap64 (x4_1 - 1)) t1105 t1106 true t1079 (x1086001_1 ++ [(⟨(⟨t1091, t1096⟩ : S33), (t1100 == 1), t1104⟩ : S158)])) else (none)) = some (r1, r2, r3, r4, r5) := by rw [if_pos rfl] at H; exact H
       clear H
       have H := H1
       clear H1
       by_cases c21 : x1086001_1.length < 3518437208883
       ·rw [if_pos c21] at H
        have LMc21 := Aside0.mk c21
        clear c21
        obtain ⟨y1108, hy1108⟩ : ∃ y_ : List (S158), y_ = (x1086001_1 ++ [(⟨(⟨t1091, t1096⟩ : S33), (t1100 == 1), t1104⟩ : S158)]) := ⟨_, rfl⟩
        replace H : (impl_taker_set.l0 kj11 (wrap64 (x4_1 - 1)) t1105 t1106 true t1079 y1108) = some (r1, r2, r3, r4, r5) := by first | (rw [hy1108]; with_reducible exact H) | (have H2_ := (Option.bind_some _ _).symm.trans H; rw [hy1108]; with_reducible exact H2_) | (have H2_ := (Option.bind_some _ _).symm.trans H; with_reducible exact H2_) | with_reducible exact H | (rw [hy1108]; exact H) | exact H
        have Ny1108 := Aside0.mk hy1108
        clear hy1108
        have H' := Aside0.mk H
        clear H
        go_wp2_with (first | ((with_reducible refine gate_callee (f := 161) rfl ?_); refine goesL_ (some 24) rfl rfl Try.func161 (by kernel_rfl) rfl #[.pointer (some ⟨g, 0, none⟩)] rfl (z0_) ?_; (with_reducible refine (impl_taker_num.calls kj11 g x1000_1 x1001_1 x1002_1 t1091 t1092 t1093 t1094 w0 _ ?side1 ?side2 A16.out).mono ?_); (case side1 => exact z37_ HI0.out NB0_1078.out NB0_1085.out); (case side2 => exact z28_ HB.out HI0.out GE1078.out GE1085.out); rintro e w22 ⟨rfl, hi, hb, hk⟩; refine ⟨_, rfl, ?_⟩; have n_ := as7_ (Kd.R_mono (Kd.R_keep (IsS127.apart (show IsS127 w0 _ g x1000_1 x1001_1 x1002_1 from by repeat (first | (with_reducible first | exact HI0.out | apply IsS127.alloc | apply IsS127.drewN | apply IsS127.drew | apply IsS127.set_0 | apply IsS127.set_1 | apply IsS127.set_2 | (apply IsS127.far; case hne => exact NB0_1078.out) | (apply IsS127.far; case hne => exact NB0_1085.out)) | exact HI0.out)) (z4_ HO_1086000.out) (by decide)) hk (fun _ h => h.2)) (fun _ h => h.1)) (Kd.R_mono (Kd.R_keep (IsS127.apart (show IsS127 w0 _ g x1000_1 x1001_1 x1002_1 from by repeat (first | (with_reducible first | exact HI0.out | apply IsS127.alloc | apply IsS127.drewN | apply IsS127.drew | apply IsS127.set_0 | apply IsS127.set_1 | apply IsS127.set_2 | (apply IsS127.far; case hne => exact NB0_1078.out) | (apply IsS127.far; case hne => exact NB0_1085.out)) | exact HI0.out)) (z4_ HO_1086001.out) (by decide)) hk (fun _ h => h.2)) (fun _ h => h.1)) (KeepBut.blk hk (g' := gb1078) (o := .cells #[.slice none 0 0, .slice none 0 0] 60 (0, 0)) (z9_ BK1078.out) NB1078_0.out (by simp)) (KeepBut.blk hk (g' := gb1085) (o := .cells #[.slice Ao6 t1079.length co6, u1086001] 60 (0, 0)) (z9_ BK1085.out) NB1085_0.out (by simp)) (KeepBut.trans (z38_ HK.out GW1078.out GW1085.out) hk (.inl rfl)) (hb) (hi); clear HO_1086000 HO_1086001 BK1078 BK1085 HK HB HI0; have ⟨HO_1086000, HO_1086001, BK1078, BK1085, HK, HB, HI0⟩ := n_; clear n_; (try clear hb); (try clear hb2); (try clear hk); (try clear hi)) | ((with_reducible refine gate_dst (N := 5) rfl ?_); refine box_event ?hg (N := 5) ?hd (cs := #[.int .i64 0, .int .i64 0, .bool false, .string (⟨#[]⟩ : ByteArray)]) (t := 158) ?hr ?_; (case hd => rfl); (case hg => rfl); (case hr => first | (go_simp; done) | (go_simp; rfl)); intro gb1095 hg w23 hbox hb; have n_ := as16_ (Kd.R_below (z4_ HO_1086000.out) hb) (Kd.R_below (Kd.R_elderB (z4_ HO_1086001.out) gb1095 (Nat.le_of_eq hg.symm)) hb) (blkB_ BK1078.out hb) (blkB_ BK1085.out hb) (IsS127.below (z37_ HI0.out NB0_1078.out NB0_1085.out) hb) (KeepBut.trans (z38_ HK.out GW1078.out GW1085.out) (KeepBut.of_below hb g none) (.inl rfl)) (below_step (z28_ HB.out HI0.out GE1078.out GE1085.out) hb) (hbox) ((z60_ HK.out GW1078.out GW1085.out : w.heap.size ≤ gb1095)) ((Nat.le_trans HW0.out (z60_ HK.out GW1078.out GW1085.out : w.heap.size ≤ gb1095) : w0.heap.size ≤ gb1095)) (neL_ BK1078.out hg) (neG_ BK1078.out hg) (neL_ BK1085.out hg) (neG_ BK1085.out hg) ((by rw [hg]; exact Nat.ne_of_lt (IsS127.lt (show IsS127 w0 _ g t1092 t1093 t1094 from by repeat (first | (with_reducible first | exact HI0.out | apply IsS127.alloc | apply IsS127.drewN | apply IsS127.drew | apply IsS127.set_0 | apply IsS127.set_1 | apply IsS127.set_2 | (apply IsS127.far; case hne => exact NB0_1078.out) | (apply IsS127.far; case hne => exact NB0_1085.out)) | exact HI0.out))) : g ≠ gb1095)) ((by rw [hg]; exact Nat.ne_of_gt (IsS127.lt (show IsS127 w0 _ g t1092 t1093 t1094 from by repeat (first | (with_reducible first | exact HI0.out | apply IsS127.alloc | apply IsS127.drewN | apply IsS127.drew | apply IsS127.set_0 | apply IsS127.set_1 | apply IsS127.set_2 | (apply IsS127.far; case hne => exact NB0_1078.out) | (apply IsS127.far; case hne => exact NB0_1085.out)) | exact HI0.out))) : gb1095 ≠ g)); clear HO_1086000 HO_1086001 BK1078 BK1085 HI0 HK HB; have ⟨HO_1086000, HO_1086001, BK1078, BK1085, HI0, HK, HB, BK1095, GW1095, GE1095, NB1078_1095, NB1095_1078, NB1085_1095, NB1095_1085, NB0_1095, NB1095_0⟩ := n_; clear n_; clear hb hbox hg; have hnb24 := NB1095_1078.out; have hnc24 := NB1078_1095.out; have hnb25 := NB1095_1085.out; have hnc25 := NB1085_1095.out; have hnb26 := NB1095_0.out; have hnc26 := NB0_1095.out; have hcz27_0 : w23.cell? ⟨gb1095, 0, none⟩ = some (.int .i64 0) := (blk_cell BK1095.out 0).trans rfl; have hcz27_1 : w23.cell? ⟨gb1095, 1, none⟩ = some (.int .i64 0) := (blk_cell BK1095.out 1).trans rfl; have hcz27_2 : w23.cell? ⟨gb1095, 2, none⟩ = some (.bool false) := (blk_cell BK1095.out 2).trans rfl; have hcz27_3 : w23.cell? ⟨gb1095, 3, none⟩ = some (.string (⟨#[]⟩ : ByteArray)) := (blk_cell BK1095.out 3).trans rfl; have hfz27_0 := blk_frozen BK1095.out 0; have hfz27_1 := blk_frozen BK1095.out 1; have hfz27_2 := blk_frozen BK1095.out 2; have hfz27_3 := blk_frozen BK1095.out 3) | ((with_reducible refine gate_callee (f := 161) rfl ?_); refine goesL_ (some 28) rfl rfl Try.func161 (by kernel_rfl) rfl #[.pointer (some ⟨g, 0, none⟩)] rfl (z0_) ?_; (with_reducible refine (impl_taker_num.calls kj11 g t1092 t1093 t1094 t1096 t1097 t1098 t1099 w0 _ ?side1 ?side2 A17.out).mono ?_); (case side1 => exact z47_ HI0.out NB0_1078.out NB0_1085.out NB0_1095.out); (case side2 => exact z41_ HB.out HI0.out GE1078.out GE1085.out GE1095.out); rintro e w28 ⟨rfl, hi, hb, hk⟩; refine ⟨_, rfl, ?_⟩; have n_ := as8_ (Kd.R_mono (Kd.R_keep (IsS127.apart (show IsS127 w0 _ g t1092 t1093 t1094 from by repeat (first | (with_reducible first | exact HI0.out | apply IsS127.alloc | apply IsS127.drewN | apply IsS127.drew | apply IsS127.set_0 | apply IsS127.set_1 | apply IsS127.set_2 | (apply IsS127.far; case hne => exact NB0_1078.out) | (apply IsS127.far; case hne => exact NB0_1085.out) | (apply IsS127.far; case hne => exact NB0_1095.out)) | exact HI0.out)) (z66_ HO_1086000.out BK1095.out) (by decide)) hk (fun _ h => h.2)) (fun _ h => h.1)) (Kd.R_mono (Kd.R_keep (IsS127.apart (show IsS127 w0 _ g t1092 t1093 t1094 from by repeat (first | (with_reducible first | exact HI0.out | apply IsS127.alloc | apply IsS127.drewN | apply IsS127.drew | apply IsS127.set_0 | apply IsS127.set_1 | apply IsS127.set_2 | (apply IsS127.far; case hne => exact NB0_1078.out) | (apply IsS127.far; case hne => exact NB0_1085.out) | (apply IsS127.far; case hne => exact NB0_1095.out)) | exact HI0.out)) (by (with_reducible repeat (first | apply Kd.R_alloc | apply Kd.R_drewN | apply Kd.R_drew)); exact (Kd.R_mono (rf4_ (Kd.R_mono HO_1086001.out (fun k_ hk => (⟨hk, hk.2⟩ : _ ∧ k_ ≠ gb1095))) (fun _ hk => hk.2)) (fun _ h_ => h_.1))) (by decide)) hk (fun _ h => h.2)) (fun _ h => h.1)) (KeepBut.blk hk (g' := gb1078) (o := .cells #[.slice none 0 0, .slice none 0 0] 60 (0, 0)) (z18_ NB1078_1095.out BK1078.out) NB1078_0.out (by simp)) (KeepBut.blk hk (g' := gb1085) (o := .cells #[.slice Ao6 t1079.length co6, u1086001] 60 (0, 0)) (z18_ NB1085_1095.out BK1085.out) NB1085_0.out (by simp)) (KeepBut.blk hk (g' := gb1095) (o := .cells #[.int .i64 t1091, .int .i64 0, .bool false, .string (⟨#[]⟩ : ByteArray)] 158 (0, 0)) (z22_ BK1095.out) NB1095_0.out (by simp)) (KeepBut.trans (z34_ HK.out GW1078.out GW1085.out GW1095.out) hk (.inl rfl)) (hb) (hi); clear HO_1086000 HO_1086001 BK1078 BK1085 BK1095 HK HB HI0; have ⟨HO_1086000, HO_1086001, BK1078, BK1085, BK1095, HK, HB, HI0⟩ := n_; clear n_; (try clear hb); (try clear hb2); (try clear hk); (try clear hi); have hcz29_0 : w28.cell? ⟨gb1095, 0, none⟩ = some (.int .i64 t1091) := (blk_cell BK1095.out 0).trans rfl; have hcz29_1 : w28.cell? ⟨gb1095, 1, none⟩ = some (.int .i64 0) := (blk_cell BK1095.out 1).trans rfl; have hcz29_2 : w28.cell? ⟨gb1095, 2, none⟩ = some (.bool false) := (blk_cell BK1095.out 2).trans rfl; have hcz29_3 : w28.cell? ⟨gb1095, 3, none⟩ = some (.string (⟨#[]⟩ : ByteArray)) := (blk_cell BK1095.out 3).trans rfl; have hfz29_0 := blk_frozen BK1095.out 0; have hfz29_1 := blk_frozen BK1095.out 1; have hfz29_2 := blk_frozen BK1095.out 2; have hfz29_3 := blk_frozen BK1095.out 3) | ((with_reducible refine gate_callee (f := 161) rfl ?_); refine goesL_ (some 32) rfl rfl Try.func161 (by kernel_rfl) rfl #[.pointer (some ⟨g, 0, none⟩)] rfl (z0_) ?_; (with_reducible refine (impl_taker_num.calls kj11 g t1097 t1098 t1099 t1100 t1101 t1102 t1103 w0 _ ?side1 ?side2 A18.out).mono ?_); (case side1 => exact z47_ HI0.out NB0_1078.out NB0_1085.out NB0_1095.out); (case side2 => exact z41_ HB.out HI0.out GE1078.out GE1085.out GE1095.out); rintro e w30 ⟨rfl, hi, hb, hk⟩; refine ⟨_, rfl, ?_⟩; have n_ := as8_ (Kd.R_mono (Kd.R_keep (IsS127.apart (show IsS127 w0 _ g t1097 t1098 t1099 from by repeat (first | (with_reducible first | exact HI0.out | apply IsS127.alloc | apply IsS127.drewN | apply IsS127.drew | apply IsS127.set_0 | apply IsS127.set_1 | apply IsS127.set_2 | (apply IsS127.far; case hne => exact NB0_1078.out) | (apply IsS127.far; case hne => exact NB0_1085.out) | (apply IsS127.far; case hne => exact NB0_1095.out)) | exact HI0.out)) (by (with_reducible repeat (first | apply Kd.R_alloc | apply Kd.R_drewN | apply Kd.R_drew)); exact (Kd.R_mono (Kd.R_far (p := ⟨gb1095, 1, none⟩) (Kd.R_types HO_1086000.out BK1095.out (by decide)) (fun _ hk => hk.2) (.int .i64 t1096)) (fun _ h_ => h_.1))) (by decide)) hk (fun _ h => h.2)) (fun _ h => h.1)) (Kd.R_mono (Kd.R_keep (IsS127.apart (show IsS127 w0 _ g t1097 t1098 t1099 from by repeat (first | (with_reducible first | exact HI0.out | apply IsS127.alloc | apply IsS127.drewN | apply IsS127.drew | apply IsS127.set_0 | apply IsS127.set_1 | apply IsS127.set_2 | (apply IsS127.far; case hne => exact NB0_1078.out) | (apply IsS127.far; case hne => exact NB0_1085.out) | (apply IsS127.far; case hne => exact NB0_1095.out)) | exact HI0.out)) (by (with_reducible repeat (first | apply Kd.R_alloc | apply Kd.R_drewN | apply Kd.R_drew)); exact (Kd.R_mono (Kd.R_far (p := ⟨gb1095, 1, none⟩) (Kd.R_mono HO_1086001.out (fun k_ hk => (⟨hk, hk.2⟩ : _ ∧ k_ ≠ gb1095))) (fun _ hk => hk.2) (.int .i64 t1096)) (fun _ h_ => h_.1))) (by decide)) hk (fun _ h => h.2)) (fun _ h => h.1)) (KeepBut.blk hk (g' := gb1078) (o := .cells #[.slice none 0 0, .slice none 0 0] 60 (0, 0)) (z32_ NB1078_1095.out BK1078.out) NB1078_0.out (by simp)) (KeepBut.blk hk (g' := gb1085) (o := .cells #[.slice Ao6 t1079.length co6, u1086001] 60 (0, 0)) (z32_ NB1085_1095.out BK1085.out) NB1085_0.out (by simp)) (KeepBut.blk hk (g' := gb1095) (o := .cells #[.int .i64 t1091, .int .i64 t1096, .bool false, .string (⟨#[]⟩ : ByteArray)] 158 (0, 0)) (by (with_reducible repeat (first | refine blk_drewN ?_ _ | refine blk_drew ?_ | refine blk_alloc ?_ _)); refine blk_put (cs := #[.int .i64 t1091, .int .i64 0, .bool false, .string (⟨#[]⟩ : ByteArray)]) ?_ 1 _ rfl; (with_reducible repeat (first | refine blk_drewN ?_ _ | refine blk_drew ?_ | refine blk_alloc ?_ _)); exact BK1095.out) NB1095_0.out (by simp)) (KeepBut.trans (z34_ HK.out GW1078.out GW1085.out GW1095.out) hk (.inl rfl)) (hb) (hi); clear HO_1086000 HO_1086001 BK1078 BK1085 BK1095 HK HB HI0; have ⟨HO_1086000, HO_1086001, BK1078, BK1085, BK1095, HK, HB, HI0⟩ := n_; clear n_; (try clear hb); (try clear hb2); (try clear hk); (try clear hi)) | ((with_reducible refine gate_callee (f := 183) rfl ?_); refine goesL_ (some 36) rfl rfl Try.func183 (by kernel_rfl) rfl #[.pointer (some ⟨g, 0, none⟩)] rfl (z0_) ?_; (with_reducible refine (impl_taker_str.calls kj11 g t1101 t1102 t1103 t1104 t1105 t1106 true w0 _ ?side1 ?side2 A19.out).mono ?_); (case side1 => exact z47_ HI0.out NB0_1078.out NB0_1085.out NB0_1095.out); (case side2 => exact z41_ HB.out HI0.out GE1078.out GE1085.out GE1095.out); rintro e w31 ⟨rfl, hi, hb, hk⟩; refine ⟨_, rfl, ?_⟩; have n_ := as8_ (Kd.R_mono (Kd.R_keep (IsS127.apart (show IsS127 w0 _ g t1101 t1102 t1103 from by repeat (first | (with_reducible first | exact HI0.out | apply IsS127.alloc | apply IsS127.drewN | apply IsS127.drew | apply IsS127.set_0 | apply IsS127.set_1 | apply IsS127.set_2 | (apply IsS127.far; case hne => exact NB0_1078.out) | (apply IsS127.far; case hne => exact NB0_1085.out) | (apply IsS127.far; case hne => exact NB0_1095.out)) | exact HI0.out)) (z4_ HO_1086000.out) (by decide)) hk (fun _ h => h.2)) (fun _ h => h.1)) (Kd.R_mono (Kd.R_keep (IsS127.apart (show IsS127 w0 _ g t1101 t1102 t1103 from by repeat (first | (with_reducible first | exact HI0.out | apply IsS127.alloc | apply IsS127.drewN | apply IsS127.drew | apply IsS127.set_0 | apply IsS127.set_1 | apply IsS127.set_2 | (apply IsS127.far; case hne => exact NB0_1078.out) | (apply IsS127.far; case hne => exact NB0_1085.out) | (apply IsS127.far; case hne => exact NB0_1095.out)) | exact HI0.out)) (z4_ HO_1086001.out) (by decide)) hk (fun _ h => h.2)) (fun _ h => h.1)) (KeepBut.blk hk (g' := gb1078) (o := .cells #[.slice none 0 0, .slice none 0 0] 60 (0, 0)) (z9_ BK1078.out) NB1078_0.out (by simp)) (KeepBut.blk hk (g' := gb1085) (o := .cells #[.slice Ao6 t1079.length co6, u1086001] 60 (0, 0)) (z9_ BK1085.out) NB1085_0.out (by simp)) (KeepBut.blk hk (g' := gb1095) (o := .cells #[.int .i64 t1091, .int .i64 t1096, .bool false, .string (⟨#[]⟩ : ByteArray)] 158 (0, 0)) (z9_ BK1095.out) NB1095_0.out (by simp)) (KeepBut.trans (z34_ HK.out GW1078.out GW1085.out GW1095.out) hk (.inl rfl)) (hb) (hi); clear HO_1086000 HO_1086001 BK1078 BK1085 BK1095 HK HB HI0; have ⟨HO_1086000, HO_1086001, BK1078, BK1085, BK1095, HK, HB, HI0⟩ := n_; clear n_; (try clear hb); (try clear hb2); (try clear hk); (try clear hi); have ⟨hcz32_0, hcz32_1, hcz32_2, hcz32_3, hfz32_0, hfz32_1, hfz32_2, hfz32_3⟩ := cz4_ BK1095.out; obtain ⟨HGz33, hgz33⟩ := HI0.out; have hcz33_0 := cellS127_0 HGz33; have hcz33_1 := cellS127_1 HGz33; have hcz33_2 := cellS127_2 HGz33; have hfz33_0 := blk_frozen HGz33 0; have hfz33_1 := blk_frozen HGz33 1; have hfz33_2 := blk_frozen HGz33 2; clear HGz33 hgz33; have hnb34 := NB1085_1078.out; have hnc34 := NB1078_1085.out; have hnb35 := NB1085_0.out; have hnc35 := NB0_1085.out; have hcz36_0 : w31.cell? ⟨gb1085, 0, none⟩ = some (.slice Ao6 t1079.length co6) := (blk_cell BK1085.out 0).trans rfl; have hcz36_1 : w31.cell? ⟨gb1085, 1, none⟩ = some (u1086001) := (blk_cell BK1085.out 1).trans rfl; have hfz36_0 := blk_frozen BK1085.out 0; have hfz36_1 := blk_frozen BK1085.out 1) | ((with_reducible refine gate_builtin (b := .append) (xs := #[.tmp 52, .tmp 54]) rfl ?_); at_builtin; refine Kd.R_append k158 w.heap.size rfl (.tmp 52) (.tmp 54) 58 158 (.agg #[(.int .i64 0), (.int .i64 0), (.bool false), (.string ⟨#[]⟩)]) 40 rfl Try.underlying58 info158 rfl (by decide) (by omega) u1086001 x1086001_1 (⟨(⟨t1091, t1096⟩ : S33), (t1100 == 1), t1104⟩ : S158) [.int .i64 t1091, .int .i64 t1096, .bool (t1100 == 1), .string t1104] (fun k_ => k_ ≠ gb1095) (fun _ => False) rfl (by first | (go_simp; done) | (go_simp; rfl)) ?aP (fun _ hk => hk.elim) ?aF ?aO (Below.refl _ _) ?aS ?aL ?_; (case aP => exact k158_mkM _ _ _ (⟨(⟨t1091, t1096⟩ : S33), (t1100 == 1), t1104⟩ : S158)); (case aF => exact (fun k_ hk => Kd.freshB (g := gb1095) (o := .cells #[.int .i64 t1091, .int .i64 t1096, .bool (t1100 == 1), .string t1104] 158 (0, 0)) (z61_ NB1095_0.out BK1095.out) k_ hk)); (case aO => exact (by (with_reducible repeat (first | apply Kd.R_alloc | apply Kd.R_drewN | apply Kd.R_drew)); exact Kd.R_mono (Kd.R_far (p := ⟨g, 2, none⟩) (Kd.R_far (p := ⟨gb1095, 3, none⟩) (Kd.R_far (p := ⟨gb1095, 2, none⟩) (IsS127.apart HI0.out (Kd.R_mono HO_1086001.out (fun k_ hk => (⟨hk, hk.2⟩ : _ ∧ k_ ≠ gb1095))) (by decide)) (fun _ hk => hk.1.2) (.bool (t1100 == 1))) (fun _ hk => hk.1.2) (.string t1104)) (fun _ hk => hk.2) (.bool true)) (fun _ hk => hk.1.1.2))); (case aS => exact (keep_size (w := w) (g := g) (row := none) (z34_ HK.out GW1078.out GW1085.out GW1095.out))); (case aL => have := LMc21.out; omega); intro v1109 w37 ho hb hg hat; rw [← Ny1108.out] at ho; have n_ := as8_ (Kd.R_over' (by (with_reducible repeat (first | apply Kd.R_alloc | apply Kd.R_drewN | apply Kd.R_drew)); exact (Kd.R_mono (Kd.R_mono (Kd.R_far (p := ⟨g, 2, none⟩) (Kd.R_far (p := ⟨gb1095, 3, none⟩) (Kd.R_far (p := ⟨gb1095, 2, none⟩) (IsS127.apart HI0.out (Kd.R_types HO_1086000.out BK1095.out (by decide)) (by decide)) (fun _ hk => hk.1.2) (.bool (t1100 == 1))) (fun _ hk => hk.1.2) (.string t1104)) (fun _ hk => hk.2) (.bool true)) (fun _ h_ => h_.1)) (fun _ h_ => h_.1))) (Kd.R_typed (by (with_reducible repeat (first | apply Kd.R_alloc | apply Kd.R_drewN | apply Kd.R_drew)); exact (Kd.R_mono (Kd.R_mono (Kd.R_far (p := ⟨g, 2, none⟩) (Kd.R_far (p := ⟨gb1095, 3, none⟩) (Kd.R_far (p := ⟨gb1095, 2, none⟩) (IsS127.apart HI0.out (Kd.R_mono HO_1086001.out (fun k_ hk => (⟨hk, hk.2⟩ : _ ∧ k_ ≠ gb1095))) (by decide)) (fun _ hk => hk.1.2) (.bool (t1100 == 1))) (fun _ hk => hk.1.2) (.string t1104)) (fun _ hk => hk.2) (.bool true)) (fun _ h_ => h_.1)) (fun _ h_ => h_.1)))) (by decide) hg) (blk_grown (g := gb1078) (o := .cells #[.slice none 0 0, .slice none 0 0] 60 (0, 0)) (z62_ NB1078_0.out NB1078_1095.out BK1078.out) hg (Kd.R_ne HO_1086001.out BK1078.out (by decide))) (blk_grown (g := gb1085) (o := .cells #[.slice Ao6 t1079.length co6, u1086001] 60 (0, 0)) (z62_ NB1085_0.out NB1085_1095.out BK1085.out) hg (Kd.R_ne HO_1086001.out BK1085.out (by decide))) (IsS127.grown (show IsS127 w0 _ g t1105 t1106 true from by repeat (first | (with_reducible first | exact HI0.out | apply IsS127.alloc | apply IsS127.drewN | apply IsS127.drew | apply IsS127.set_0 | apply IsS127.set_1 | apply IsS127.set_2 | (apply IsS127.far; case hne => exact NB0_1078.out) | (apply IsS127.far; case hne => exact NB0_1085.out) | (apply IsS127.far; case hne => exact NB0_1095.out)) | exact HI0.out)) hg (IsS127.own_ne HI0.out HO_1086001.out (by decide))) (blk_grown (g := gb1095) (o := .cells #[.int .i64 t1091, .int .i64 t1096, .bool (t1100 == 1), .string t1104] 158 (0, 0)) (z61_ NB1095_0.out BK1095.out) hg (Kd.R_away HO_1086001.out (fun _ hk => hk.2))) (below_weaken (z41_ HB.out HI0.out GE1078.out GE1085.out GE1095.out) HL.out hb) (KeepBut.trans (z34_ HK.out GW1078.out GW1085.out GW1095.out) (KeepBut.of_grown hg g) (Kd.R_base2 HO_1086001.out)) (ho); clear HO_1086000 BK1078 BK1085 HI0 BK1095 HB HK HO_1086001; have ⟨HO_1086000, BK1078, BK1085, HI0, BK1095, HB, HK, HO1110⟩ := n_; clear n_; clear ho hb hg hat; obtain ⟨Ao38, co38, eo38⟩ := Kd.R_slice HO1110.out; subst eo38; have hcz39_0 : w37.cell? ⟨gb1085, 0, none⟩ = some (.slice Ao6 t1079.length co6) := (blk_cell BK1085.out 0).trans rfl; have hcz39_1 : w37.cell? ⟨gb1085, 1, none⟩ = some (u1086001) := (blk_cell BK1085.out 1).trans rfl; have hfz39_0 := blk_frozen BK1085.out 0; have hfz39_1 := blk_frozen BK1085.out 1))
        go_roundg kj11
        case measure => have := HK1.out; have := HJ11.out; omega
        case rel => exact ⟨(wrap64 (x4_1 - 1)), (t1105), (t1106), (true), (y1108), (.slice Ao38 y1108.length co38), (z2_), H', ⟨by have := HK1.out; have := HJ11.out; omega⟩, ⟨by (with_reducible repeat (first | apply Kd.R_alloc | apply Kd.R_drewN | apply Kd.R_drew)); exact Kd.R_mono (Kd.R_far (p := ⟨gb1085, 1, none⟩) (Kd.R_types HO_1086000.out BK1085.out (by decide)) (fun _ hk => hk.2) (.slice Ao38 y1108.length co38)) (fun _ hk => trivial)⟩, ⟨by (with_reducible repeat (first | apply Kd.R_alloc | apply Kd.R_drewN | apply Kd.R_drew)); exact Kd.R_mono (Kd.R_far (p := ⟨gb1085, 1, none⟩) (Kd.R_types HO1110.out BK1085.out (by decide)) (fun _ hk => hk.2) (.slice Ao38 y1108.length co38)) (fun _ hk => trivial)⟩, ⟨z32_ NB1078_1085.out BK1078.out⟩, ⟨by (with_reducible repeat (first | refine blk_drewN ?_ _ | refine blk_drew ?_ | refine blk_alloc ?_ _)); refine blk_put (cs := #[.slice Ao6 t1079.length co6, u1086001]) ?_ 1 _ rfl; (with_reducible repeat (first | refine blk_drewN ?_ _ | refine blk_drew ?_ | refine blk_alloc ?_ _)); exact BK1085.out⟩, ⟨z47_ HI0.out NB0_1078.out NB0_1085.out NB0_1095.out⟩, ⟨z34_ HK.out GW1078.out GW1085.out GW1095.out⟩, ⟨z41_ HB.out HI0.out GE1078.out GE1085.out GE1095.out⟩⟩
       ·rw [if_neg c21] at H
        exact absurd H (by simp)
      ·replace c20 := Bool.eq_false_iff.mpr c20
       subst c20
       have H1 : ((impl_within.f t1100 0 1).bind fun t1111 => (if x1086001_1.length < 3518437208883 then (impl_taker_set.l0 kj11 (wrap64 (x4_1 - 1)) t1105 t1106 (!t1111) t1079 (x1086001_1 ++ [(⟨(⟨t1091, t1096⟩ : S33), (t1100 == 1), t1104⟩ : S158)])) else (none))) = some (r1, r2, r3, r4, r5) := by rw [if_neg (show ¬ (false = true) by decide)] at H; exact H
       clear H
       have H := H1
       clear H1
       replace H := Option.bind_eq_some_iff.mp H
       obtain ⟨t1111, A400, H⟩ := H
       replace H : (if x1086001_1.length < 3518437208883 then (impl_taker_set.l0 kj11 (wrap64 (x4_1 - 1)) t1105 t1106 (!t1111) t1079 (x1086001_1 ++ [(⟨(⟨t1091, t1096⟩ : S33), (t1100 == 1), t1104⟩ : S158)])) else (none)) = some (r1, r2, r3, r4, r5) := H
       have A40 := Aside0.mk A400
       clear A400
       by_cases c41 : x1086001_1.length < 3518437208883
       ·rw [if_pos c41] at H
        have LMc41 := Aside0.mk c41
        clear c41
        obtain ⟨y1112, hy1112⟩ : ∃ y_ : List (S158), y_ = (x1086001_1 ++ [(⟨(⟨t1091, t1096⟩ : S33), (t1100 == 1), t1104⟩ : S158)]) := ⟨_, rfl⟩
        replace H : (impl_taker_set.l0 kj11 (wrap64 (x4_1 - 1)) t1105 t1106 (!t1111) t1079 y1112) = some (r1, r2, r3, r4, r5) := by first | (rw [hy1112]; with_reducible exact H) | (have H2_ := (Option.bind_some _ _).symm.trans H; rw [hy1112]; with_reducible exact H2_) | (have H2_ := (Option.bind_some _ _).symm.trans H; with_reducible exact H2_) | with_reducible exact H | (rw [hy1112]; exact H) | exact H
        have Ny1112 := Aside0.mk hy1112
        clear hy1112
        have H' := Aside0.mk H
        clear H
        go_wp2_with (first | ((with_reducible refine gate_callee (f := 161) rfl ?_); refine goesL_ (some 24) rfl rfl Try.func161 (by kernel_rfl) rfl #[.pointer (some ⟨g, 0, none⟩)] rfl (z0_) ?_; (with_reducible refine (impl_taker_num.calls kj11 g x1000_1 x1001_1 x1002_1 t1091 t1092 t1093 t1094 w0 _ ?side1 ?side2 A16.out).mono ?_); (case side1 => exact z37_ HI0.out NB0_1078.out NB0_1085.out); (case side2 => exact z28_ HB.out HI0.out GE1078.out GE1085.out); rintro e w42 ⟨rfl, hi, hb, hk⟩; refine ⟨_, rfl, ?_⟩; have n_ := as7_ (Kd.R_mono (Kd.R_keep (IsS127.apart (show IsS127 w0 _ g x1000_1 x1001_1 x1002_1 from by repeat (first | (with_reducible first | exact HI0.out | apply IsS127.alloc | apply IsS127.drewN | apply IsS127.drew | apply IsS127.set_0 | apply IsS127.set_1 | apply IsS127.set_2 | (apply IsS127.far; case hne => exact NB0_1078.out) | (apply IsS127.far; case hne => exact NB0_1085.out)) | exact HI0.out)) (z4_ HO_1086000.out) (by decide)) hk (fun _ h => h.2)) (fun _ h => h.1)) (Kd.R_mono (Kd.R_keep (IsS127.apart (show IsS127 w0 _ g x1000_1 x1001_1 x1002_1 from by repeat (first | (with_reducible first | exact HI0.out | apply IsS127.alloc | apply IsS127.drewN | apply IsS127.drew | apply IsS127.set_0 | apply IsS127.set_1 | apply IsS127.set_2 | (apply IsS127.far; case hne => exact NB0_1078.out) | (apply IsS127.far; case hne => exact NB0_1085.out)) | exact HI0.out)) (z4_ HO_1086001.out) (by decide)) hk (fun _ h => h.2)) (fun _ h => h.1)) (KeepBut.blk hk (g' := gb1078) (o := .cells #[.slice none 0 0, .slice none 0 0] 60 (0, 0)) (z9_ BK1078.out) NB1078_0.out (by simp)) (KeepBut.blk hk (g' := gb1085) (o := .cells #[.slice Ao6 t1079.length co6, u1086001] 60 (0, 0)) (z9_ BK1085.out) NB1085_0.out (by simp)) (KeepBut.trans (z38_ HK.out GW1078.out GW1085.out) hk (.inl rfl)) (hb) (hi); clear HO_1086000 HO_1086001 BK1078 BK1085 HK HB HI0; have ⟨HO_1086000, HO_1086001, BK1078, BK1085, HK, HB, HI0⟩ := n_; clear n_; (try clear hb); (try clear hb2); (try clear hk); (try clear hi)) | ((with_reducible refine gate_dst (N := 5) rfl ?_); refine box_event ?hg (N := 5) ?hd (cs := #[.int .i64 0, .int .i64 0, .bool false, .string (⟨#[]⟩ : ByteArray)]) (t := 158) ?hr ?_; (case hd => rfl); (case hg => rfl); (case hr => first | (go_simp; done) | (go_simp; rfl)); intro gb1095 hg w43 hbox hb; have n_ := as16_ (Kd.R_below (z4_ HO_1086000.out) hb) (Kd.R_below (Kd.R_elderB (z4_ HO_1086001.out) gb1095 (Nat.le_of_eq hg.symm)) hb) (blkB_ BK1078.out hb) (blkB_ BK1085.out hb) (IsS127.below (z37_ HI0.out NB0_1078.out NB0_1085.out) hb) (KeepBut.trans (z38_ HK.out GW1078.out GW1085.out) (KeepBut.of_below hb g none) (.inl rfl)) (below_step (z28_ HB.out HI0.out GE1078.out GE1085.out) hb) (hbox) ((z60_ HK.out GW1078.out GW1085.out : w.heap.size ≤ gb1095)) ((Nat.le_trans HW0.out (z60_ HK.out GW1078.out GW1085.out : w.heap.size ≤ gb1095) : w0.heap.size ≤ gb1095)) (neL_ BK1078.out hg) (neG_ BK1078.out hg) (neL_ BK1085.out hg) (neG_ BK1085.out hg) ((by rw [hg]; exact Nat.ne_of_lt (IsS127.lt (show IsS127 w0 _ g t1092 t1093 t1094 from by repeat (first | (with_reducible first | exact HI0.out | apply IsS127.alloc | apply IsS127.drewN | apply IsS127.drew | apply IsS127.set_0 | apply IsS127.set_1 | apply IsS127.set_2 | (apply IsS127.far; case hne => exact NB0_1078.out) | (apply IsS127.far; case hne => exact NB0_1085.out)) | exact HI0.out))) : g ≠ gb1095)) ((by rw [hg]; exact Nat.ne_of_gt (IsS127.lt (show IsS127 w0 _ g t1092 t1093 t1094 from by repeat (first | (with_reducible first | exact HI0.out | apply IsS127.alloc | apply IsS127.drewN | apply IsS127.drew | apply IsS127.set_0 | apply IsS127.set_1 | apply IsS127.set_2 | (apply IsS127.far; case hne => exact NB0_1078.out) | (apply IsS127.far; case hne => exact NB0_1085.out)) | exact HI0.out))) : gb1095 ≠ g)); clear HO_1086000 HO_1086001 BK1078 BK1085 HI0 HK HB; have ⟨HO_1086000, HO_1086001, BK1078, BK1085, HI0, HK, HB, BK1095, GW1095, GE1095, NB1078_1095, NB1095_1078, NB1085_1095, NB1095_1085, NB0_1095, NB1095_0⟩ := n_; clear n_; clear hb hbox hg; have hnb44 := NB1095_1078.out; have hnc44 := NB1078_1095.out; have hnb45 := NB1095_1085.out; have hnc45 := NB1085_1095.out; have hnb46 := NB1095_0.out; have hnc46 := NB0_1095.out; have hcz47_0 : w43.cell? ⟨gb1095, 0, none⟩ = some (.int .i64 0) := (blk_cell BK1095.out 0).trans rfl; have hcz47_1 : w43.cell? ⟨gb1095, 1, none⟩ = some (.int .i64 0) := (blk_cell BK1095.out 1).trans rfl; have hcz47_2 : w43.cell? ⟨gb1095, 2, none⟩ = some (.bool false) := (blk_cell BK1095.out 2).trans rfl; have hcz47_3 : w43.cell? ⟨gb1095, 3, none⟩ = some (.string (⟨#[]⟩ : ByteArray)) := (blk_cell BK1095.out 3).trans rfl; have hfz47_0 := blk_frozen BK1095.out 0; have hfz47_1 := blk_frozen BK1095.out 1; have hfz47_2 := blk_frozen BK1095.out 2; have hfz47_3 := blk_frozen BK1095.out 3) | ((with_reducible refine gate_callee (f := 161) rfl ?_); refine goesL_ (some 28) rfl rfl Try.func161 (by kernel_rfl) rfl #[.pointer (some ⟨g, 0, none⟩)] rfl (z0_) ?_; (with_reducible refine (impl_taker_num.calls kj11 g t1092 t1093 t1094 t1096 t1097 t1098 t1099 w0 _ ?side1 ?side2 A17.out).mono ?_); (case side1 => exact z47_ HI0.out NB0_1078.out NB0_1085.out NB0_1095.out); (case side2 => exact z41_ HB.out HI0.out GE1078.out GE1085.out GE1095.out); rintro e w48 ⟨rfl, hi, hb, hk⟩; refine ⟨_, rfl, ?_⟩; have n_ := as8_ (Kd.R_mono (Kd.R_keep (IsS127.apart (show IsS127 w0 _ g t1092 t1093 t1094 from by repeat (first | (with_reducible first | exact HI0.out | apply IsS127.alloc | apply IsS127.drewN | apply IsS127.drew | apply IsS127.set_0 | apply IsS127.set_1 | apply IsS127.set_2 | (apply IsS127.far; case hne => exact NB0_1078.out) | (apply IsS127.far; case hne => exact NB0_1085.out) | (apply IsS127.far; case hne => exact NB0_1095.out)) | exact HI0.out)) (z66_ HO_1086000.out BK1095.out) (by decide)) hk (fun _ h => h.2)) (fun _ h => h.1)) (Kd.R_mono (Kd.R_keep (IsS127.apart (show IsS127 w0 _ g t1092 t1093 t1094 from by repeat (first | (with_reducible first | exact HI0.out | apply IsS127.alloc | apply IsS127.drewN | apply IsS127.drew | apply IsS127.set_0 | apply IsS127.set_1 | apply IsS127.set_2 | (apply IsS127.far; case hne => exact NB0_1078.out) | (apply IsS127.far; case hne => exact NB0_1085.out) | (apply IsS127.far; case hne => exact NB0_1095.out)) | exact HI0.out)) (by (with_reducible repeat (first | apply Kd.R_alloc | apply Kd.R_drewN | apply Kd.R_drew)); exact (Kd.R_mono (rf4_ (Kd.R_mono HO_1086001.out (fun k_ hk => (⟨hk, hk.2⟩ : _ ∧ k_ ≠ gb1095))) (fun _ hk => hk.2)) (fun _ h_ => h_.1))) (by decide)) hk (fun _ h => h.2)) (fun _ h => h.1)) (KeepBut.blk hk (g' := gb1078) (o := .cells #[.slice none 0 0, .slice none 0 0] 60 (0, 0)) (z18_ NB1078_1095.out BK1078.out) NB1078_0.out (by simp)) (KeepBut.blk hk (g' := gb1085) (o := .cells #[.slice Ao6 t1079.length co6, u1086001] 60 (0, 0)) (z18_ NB1085_1095.out BK1085.out) NB1085_0.out (by simp)) (KeepBut.blk hk (g' := gb1095) (o := .cells #[.int .i64 t1091, .int .i64 0, .bool false, .string (⟨#[]⟩ : ByteArray)] 158 (0, 0)) (z22_ BK1095.out) NB1095_0.out (by simp)) (KeepBut.trans (z34_ HK.out GW1078.out GW1085.out GW1095.out) hk (.inl rfl)) (hb) (hi); clear HO_1086000 HO_1086001 BK1078 BK1085 BK1095 HK HB HI0; have ⟨HO_1086000, HO_1086001, BK1078, BK1085, BK1095, HK, HB, HI0⟩ := n_; clear n_; (try clear hb); (try clear hb2); (try clear hk); (try clear hi); have hcz49_0 : w48.cell? ⟨gb1095, 0, none⟩ = some (.int .i64 t1091) := (blk_cell BK1095.out 0).trans rfl; have hcz49_1 : w48.cell? ⟨gb1095, 1, none⟩ = some (.int .i64 0) := (blk_cell BK1095.out 1).trans rfl; have hcz49_2 : w48.cell? ⟨gb1095, 2, none⟩ = some (.bool false) := (blk_cell BK1095.out 2).trans rfl; have hcz49_3 : w48.cell? ⟨gb1095, 3, none⟩ = some (.string (⟨#[]⟩ : ByteArray)) := (blk_cell BK1095.out 3).trans rfl; have hfz49_0 := blk_frozen BK1095.out 0; have hfz49_1 := blk_frozen BK1095.out 1; have hfz49_2 := blk_frozen BK1095.out 2; have hfz49_3 := blk_frozen BK1095.out 3) | ((with_reducible refine gate_callee (f := 161) rfl ?_); refine goesL_ (some 32) rfl rfl Try.func161 (by kernel_rfl) rfl #[.pointer (some ⟨g, 0, none⟩)] rfl (z0_) ?_; (with_reducible refine (impl_taker_num.calls kj11 g t1097 t1098 t1099 t1100 t1101 t1102 t1103 w0 _ ?side1 ?side2 A18.out).mono ?_); (case side1 => exact z47_ HI0.out NB0_1078.out NB0_1085.out NB0_1095.out); (case side2 => exact z41_ HB.out HI0.out GE1078.out GE1085.out GE1095.out); rintro e w50 ⟨rfl, hi, hb, hk⟩; refine ⟨_, rfl, ?_⟩; have n_ := as8_ (Kd.R_mono (Kd.R_keep (IsS127.apart (show IsS127 w0 _ g t1097 t1098 t1099 from by repeat (first | (with_reducible first | exact HI0.out | apply IsS127.alloc | apply IsS127.drewN | apply IsS127.drew | apply IsS127.set_0 | apply IsS127.set_1 | apply IsS127.set_2 | (apply IsS127.far; case hne => exact NB0_1078.out) | (apply IsS127.far; case hne => exact NB0_1085.out) | (apply IsS127.far; case hne => exact NB0_1095.out)) | exact HI0.out)) (by (with_reducible repeat (first | apply Kd.R_alloc | apply Kd.R_drewN | apply Kd.R_drew)); exact (Kd.R_mono (Kd.R_far (p := ⟨gb1095, 1, none⟩) (Kd.R_types HO_1086000.out BK1095.out (by decide)) (fun _ hk => hk.2) (.int .i64 t1096)) (fun _ h_ => h_.1))) (by decide)) hk (fun _ h => h.2)) (fun _ h => h.1)) (Kd.R_mono (Kd.R_keep (IsS127.apart (show IsS127 w0 _ g t1097 t1098 t1099 from by repeat (first | (with_reducible first | exact HI0.out | apply IsS127.alloc | apply IsS127.drewN | apply IsS127.drew | apply IsS127.set_0 | apply IsS127.set_1 | apply IsS127.set_2 | (apply IsS127.far; case hne => exact NB0_1078.out) | (apply IsS127.far; case hne => exact NB0_1085.out) | (apply IsS127.far; case hne => exact NB0_1095.out)) | exact HI0.out)) (by (with_reducible repeat (first | apply Kd.R_alloc | apply Kd.R_drewN | apply Kd.R_drew)); exact (Kd.R_mono (Kd.R_far (p := ⟨gb1095, 1, none⟩) (Kd.R_mono HO_1086001.out (fun k_ hk => (⟨hk, hk.2⟩ : _ ∧ k_ ≠ gb1095))) (fun _ hk => hk.2) (.int .i64 t1096)) (fun _ h_ => h_.1))) (by decide)) hk (fun _ h => h.2)) (fun _ h => h.1)) (KeepBut.blk hk (g' := gb1078) (o := .cells #[.slice none 0 0, .slice none 0 0] 60 (0, 0)) (z32_ NB1078_1095.out BK1078.out) NB1078_0.out (by simp)) (KeepBut.blk hk (g' := gb1085) (o := .cells #[.slice Ao6 t1079.length co6, u1086001] 60 (0, 0)) (z32_ NB1085_1095.out BK1085.out) NB1085_0.out (by simp)) (KeepBut.blk hk (g' := gb1095) (o := .cells #[.int .i64 t1091, .int .i64 t1096, .bool false, .string (⟨#[]⟩ : ByteArray)] 158 (0, 0)) (by (with_reducible repeat (first | refine blk_drewN ?_ _ | refine blk_drew ?_ | refine blk_alloc ?_ _)); refine blk_put (cs := #[.int .i64 t1091, .int .i64 0, .bool false, .string (⟨#[]⟩ : ByteArray)]) ?_ 1 _ rfl; (with_reducible repeat (first | refine blk_drewN ?_ _ | refine blk_drew ?_ | refine blk_alloc ?_ _)); exact BK1095.out) NB1095_0.out (by simp)) (KeepBut.trans (z34_ HK.out GW1078.out GW1085.out GW1095.out) hk (.inl rfl)) (hb) (hi); clear HO_1086000 HO_1086001 BK1078 BK1085 BK1095 HK HB HI0; have ⟨HO_1086000, HO_1086001, BK1078, BK1085, BK1095, HK, HB, HI0⟩ := n_; clear n_; (try clear hb); (try clear hb2); (try clear hk); (try clear hi)) | ((with_reducible refine gate_callee (f := 183) rfl ?_); refine goesL_ (some 36) rfl rfl Try.func183 (by kernel_rfl) rfl #[.pointer (some ⟨g, 0, none⟩)] rfl (z0_) ?_; (with_reducible refine (impl_taker_str.calls kj11 g t1101 t1102 t1103 t1104 t1105 t1106 false w0 _ ?side1 ?side2 A19.out).mono ?_); (case side1 => exact z47_ HI0.out NB0_1078.out NB0_1085.out NB0_1095.out); (case side2 => exact z41_ HB.out HI0.out GE1078.out GE1085.out GE1095.out); rintro e w51 ⟨rfl, hi, hb, hk⟩; refine ⟨_, rfl, ?_⟩; have n_ := as8_ (Kd.R_mono (Kd.R_keep (IsS127.apart (show IsS127 w0 _ g t1101 t1102 t1103 from by repeat (first | (with_reducible first | exact HI0.out | apply IsS127.alloc | apply IsS127.drewN | apply IsS127.drew | apply IsS127.set_0 | apply IsS127.set_1 | apply IsS127.set_2 | (apply IsS127.far; case hne => exact NB0_1078.out) | (apply IsS127.far; case hne => exact NB0_1085.out) | (apply IsS127.far; case hne => exact NB0_1095.out)) | exact HI0.out)) (z4_ HO_1086000.out) (by decide)) hk (fun _ h => h.2)) (fun _ h => h.1)) (Kd.R_mono (Kd.R_keep (IsS127.apart (show IsS127 w0 _ g t1101 t1102 t1103 from by repeat (first | (with_reducible first | exact HI0.out | apply IsS127.alloc | apply IsS127.drewN | apply IsS127.drew | apply IsS127.set_0 | apply IsS127.set_1 | apply IsS127.set_2 | (apply IsS127.far; case hne => exact NB0_1078.out) | (apply IsS127.far; case hne => exact NB0_1085.out) | (apply IsS127.far; case hne => exact NB0_1095.out)) | exact HI0.out)) (z4_ HO_1086001.out) (by decide)) hk (fun _ h => h.2)) (fun _ h => h.1)) (KeepBut.blk hk (g' := gb1078) (o := .cells #[.slice none 0 0, .slice none 0 0] 60 (0, 0)) (z9_ BK1078.out) NB1078_0.out (by simp)) (KeepBut.blk hk (g' := gb1085) (o := .cells #[.slice Ao6 t1079.length co6, u1086001] 60 (0, 0)) (z9_ BK1085.out) NB1085_0.out (by simp)) (KeepBut.blk hk (g' := gb1095) (o := .cells #[.int .i64 t1091, .int .i64 t1096, .bool false, .string (⟨#[]⟩ : ByteArray)] 158 (0, 0)) (z9_ BK1095.out) NB1095_0.out (by simp)) (KeepBut.trans (z34_ HK.out GW1078.out GW1085.out GW1095.out) hk (.inl rfl)) (hb) (hi); clear HO_1086000 HO_1086001 BK1078 BK1085 BK1095 HK HB HI0; have ⟨HO_1086000, HO_1086001, BK1078, BK1085, BK1095, HK, HB, HI0⟩ := n_; clear n_; (try clear hb); (try clear hb2); (try clear hk); (try clear hi); have ⟨hcz52_0, hcz52_1, hcz52_2, hcz52_3, hfz52_0, hfz52_1, hfz52_2, hfz52_3⟩ := cz4_ BK1095.out; obtain ⟨HGz53, hgz53⟩ := HI0.out; have hcz53_0 := cellS127_0 HGz53; have hcz53_1 := cellS127_1 HGz53; have hcz53_2 := cellS127_2 HGz53; have hfz53_0 := blk_frozen HGz53 0; have hfz53_1 := blk_frozen HGz53 1; have hfz53_2 := blk_frozen HGz53 2; clear HGz53 hgz53) | (go_at_call 156; (with_reducible refine (impl_within.calls t1100 0 1 t1111 _ A40.out).mono ?_); rintro e w' ⟨rfl, ⟨nd, rfl⟩⟩; have hnb54 := NB1085_1078.out; have hnc54 := NB1078_1085.out; have hnb55 := NB1085_0.out; have hnc55 := NB0_1085.out; have hcz56_0 : w51.cell? ⟨gb1085, 0, none⟩ = some (.slice Ao6 t1079.length co6) := (blk_cell BK1085.out 0).trans rfl; have hcz56_1 : w51.cell? ⟨gb1085, 1, none⟩ = some (u1086001) := (blk_cell BK1085.out 1).trans rfl; have hfz56_0 := blk_frozen BK1085.out 0; have hfz56_1 := blk_frozen BK1085.out 1) | ((with_reducible refine gate_builtin (b := .append) (xs := #[.tmp 52, .tmp 54]) rfl ?_); at_builtin; refine Kd.R_append k158 w.heap.size rfl (.tmp 52) (.tmp 54) 58 158 (.agg #[(.int .i64 0), (.int .i64 0), (.bool false), (.string ⟨#[]⟩)]) 40 rfl Try.underlying58 info158 rfl (by decide) (by omega) u1086001 x1086001_1 (⟨(⟨t1091, t1096⟩ : S33), (t1100 == 1), t1104⟩ : S158) [.int .i64 t1091, .int .i64 t1096, .bool (t1100 == 1), .string t1104] (fun k_ => k_ ≠ gb1095) (fun _ => False) rfl (by first | (go_simp; done) | (go_simp; rfl)) ?aP (fun _ hk => hk.elim) ?aF ?aO (Below.refl _ _) ?aS ?aL ?_; (case aP => exact k158_mkM _ _ _ (⟨(⟨t1091, t1096⟩ : S33), (t1100 == 1), t1104⟩ : S158)); (case aF => exact (fun k_ hk => Kd.freshB (g := gb1095) (o := .cells #[.int .i64 t1091, .int .i64 t1096, .bool (t1100 == 1), .string t1104] 158 (0, 0)) (z61_ NB1095_0.out BK1095.out) k_ hk)); (case aO => exact (by (with_reducible repeat (first | apply Kd.R_alloc | apply Kd.R_drewN | apply Kd.R_drew)); exact Kd.R_mono (Kd.R_far (p := ⟨g, 2, none⟩) (Kd.R_far (p := ⟨gb1095, 3, none⟩) (Kd.R_far (p := ⟨gb1095, 2, none⟩) (IsS127.apart HI0.out (Kd.R_mono HO_1086001.out (fun k_ hk => (⟨hk, hk.2⟩ : _ ∧ k_ ≠ gb1095))) (by decide)) (fun _ hk => hk.1.2) (.bool (t1100 == 1))) (fun _ hk => hk.1.2) (.string t1104)) (fun _ hk => hk.2) (.bool (!t1111))) (fun _ hk => hk.1.1.2))); (case aS => exact (keep_size (w := w) (g := g) (row := none) (z34_ HK.out GW1078.out GW1085.out GW1095.out))); (case aL => have := LMc41.out; omega); intro v1113 w57 ho hb hg hat; rw [← Ny1112.out] at ho; have n_ := as8_ (Kd.R_over' (by (with_reducible repeat (first | apply Kd.R_alloc | apply Kd.R_drewN | apply Kd.R_drew)); exact (Kd.R_mono (Kd.R_mono (Kd.R_far (p := ⟨g, 2, none⟩) (Kd.R_far (p := ⟨gb1095, 3, none⟩) (Kd.R_far (p := ⟨gb1095, 2, none⟩) (IsS127.apart HI0.out (Kd.R_types HO_1086000.out BK1095.out (by decide)) (by decide)) (fun _ hk => hk.1.2) (.bool (t1100 == 1))) (fun _ hk => hk.1.2) (.string t1104)) (fun _ hk => hk.2) (.bool (!t1111))) (fun _ h_ => h_.1)) (fun _ h_ => h_.1))) (Kd.R_typed (by (with_reducible repeat (first | apply Kd.R_alloc | apply Kd.R_drewN | apply Kd.R_drew)); exact (Kd.R_mono (Kd.R_mono (Kd.R_far (p := ⟨g, 2, none⟩) (Kd.R_far (p := ⟨gb1095, 3, none⟩) (Kd.R_far (p := ⟨gb1095, 2, none⟩) (IsS127.apart HI0.out (Kd.R_mono HO_1086001.out (fun k_ hk => (⟨hk, hk.2⟩ : _ ∧ k_ ≠ gb1095))) (by decide)) (fun _ hk => hk.1.2) (.bool (t1100 == 1))) (fun _ hk => hk.1.2) (.string t1104)) (fun _ hk => hk.2) (.bool (!t1111))) (fun _ h_ => h_.1)) (fun _ h_ => h_.1)))) (by decide) hg) (blk_grown (g := gb1078) (o := .cells #[.slice none 0 0, .slice none 0 0] 60 (0, 0)) (z62_ NB1078_0.out NB1078_1095.out BK1078.out) hg (Kd.R_ne HO_1086001.out BK1078.out (by decide))) (blk_grown (g := gb1085) (o := .cells #[.slice Ao6 t1079.length co6, u1086001] 60 (0, 0)) (z62_ NB1085_0.out NB1085_1095.out BK1085.out) hg (Kd.R_ne HO_1086001.out BK1085.out (by decide))) (IsS127.grown (show IsS127 w0 _ g t1105 t1106 (!t1111) from by repeat (first | (with_reducible first | exact HI0.out | apply IsS127.alloc | apply IsS127.drewN | apply IsS127.drew | apply IsS127.set_0 | apply IsS127.set_1 | apply IsS127.set_2 | (apply IsS127.far; case hne => exact NB0_1078.out) | (apply IsS127.far; case hne => exact NB0_1085.out) | (apply IsS127.far; case hne => exact NB0_1095.out)) | exact HI0.out)) hg (IsS127.own_ne HI0.out HO_1086001.out (by decide))) (blk_grown (g := gb1095) (o := .cells #[.int .i64 t1091, .int .i64 t1096, .bool (t1100 == 1), .string t1104] 158 (0, 0)) (z61_ NB1095_0.out BK1095.out) hg (Kd.R_away HO_1086001.out (fun _ hk => hk.2))) (below_weaken (z41_ HB.out HI0.out GE1078.out GE1085.out GE1095.out) HL.out hb) (KeepBut.trans (z34_ HK.out GW1078.out GW1085.out GW1095.out) (KeepBut.of_grown hg g) (Kd.R_base2 HO_1086001.out)) (ho); clear HO_1086000 BK1078 BK1085 HI0 BK1095 HB HK HO_1086001; have ⟨HO_1086000, BK1078, BK1085, HI0, BK1095, HB, HK, HO1114⟩ := n_; clear n_; clear ho hb hg hat; obtain ⟨Ao58, co58, eo58⟩ := Kd.R_slice HO1114.out; subst eo58; have hcz59_0 : w57.cell? ⟨gb1085, 0, none⟩ = some (.slice Ao6 t1079.length co6) := (blk_cell BK1085.out 0).trans rfl; have hcz59_1 : w57.cell? ⟨gb1085, 1, none⟩ = some (u1086001) := (blk_cell BK1085.out 1).trans rfl; have hfz59_0 := blk_frozen BK1085.out 0; have hfz59_1 := blk_frozen BK1085.out 1))
        go_roundg kj11
        case measure => have := HK1.out; have := HJ11.out; omega
        case rel => exact ⟨(wrap64 (x4_1 - 1)), (t1105), (t1106), (!t1111), (y1112), (.slice Ao58 y1112.length co58), (z2_), H', ⟨by have := HK1.out; have := HJ11.out; omega⟩, ⟨by (with_reducible repeat (first | apply Kd.R_alloc | apply Kd.R_drewN | apply Kd.R_drew)); exact Kd.R_mono (Kd.R_far (p := ⟨gb1085, 1, none⟩) (Kd.R_types HO_1086000.out BK1085.out (by decide)) (fun _ hk => hk.2) (.slice Ao58 y1112.length co58)) (fun _ hk => trivial)⟩, ⟨by (with_reducible repeat (first | apply Kd.R_alloc | apply Kd.R_drewN | apply Kd.R_drew)); exact Kd.R_mono (Kd.R_far (p := ⟨gb1085, 1, none⟩) (Kd.R_types HO1114.out BK1085.out (by decide)) (fun _ hk => hk.2) (.slice Ao58 y1112.length co58)) (fun _ hk => trivial)⟩, ⟨z32_ NB1078_1085.out BK1078.out⟩, ⟨by (with_reducible repeat (first | refine blk_drewN ?_ _ | refine blk_drew ?_ | refine blk_alloc ?_ _)); refine blk_put (cs := #[.slice Ao6 t1079.length co6, u1086001]) ?_ 1 _ rfl; (with_reducible repeat (first | refine blk_drewN ?_ _ | refine blk_drew ?_ | refine blk_alloc ?_ _)); exact BK1085.out⟩, ⟨z47_ HI0.out NB0_1078.out NB0_1085.out NB0_1095.out⟩, ⟨z34_ HK.out GW1078.out GW1085.out GW1095.out⟩, ⟨z41_ HB.out HI0.out GE1078.out GE1085.out GE1095.out⟩⟩
       ·rw [if_neg c41] at H
        exact absurd H (by simp)
     ·replace c15 := Bool.eq_false_iff.mpr c15
      subst c15
      have H1 : (if x1002_1 = true then (some (t1079, x1086001_1, x1000_1, x1001_1, true)) else ((impl_SetRight.f kj11 t1079 x1086001_1).bind fun t1090 => (some (t1079, x1086001_1, x1000_1, x1001_1, !t1090)))) = some (r1, r2, r3, r4, r5) := by rw [if_neg (show ¬ (false = true) by decide)] at H; exact H
      clear H
      have H := H1
      clear H1
      by_cases c60 : x1002_1 = true
      ·subst c60
       have H1 : (some (t1079, x1086001_1, x1000_1, x1001_1, true)) = some (r1, r2, r3, r4, r5) := by rw [if_pos rfl] at H; exact H
       clear H
       have H := H1
       clear H1
       simp only [Option.some.injEq, Prod.mk.injEq] at H
       obtain ⟨rfl, rfl, rfl, rfl, rfl⟩ := H
       obtain ⟨HGz61, hgz61⟩ := HI0.out
       have hcz61_0 := cellS127_0 HGz61
       have hcz61_1 := cellS127_1 HGz61
       have hcz61_2 := cellS127_2 HGz61
       have hfz61_0 := blk_frozen HGz61 0
       have hfz61_1 := blk_frozen HGz61 1
       have hfz61_2 := blk_frozen HGz61 2
       clear HGz61 hgz61
       have hnb62 := NB1085_1078.out
       have hnc62 := NB1078_1085.out
       have hnb63 := NB1085_0.out
       have hnc63 := NB0_1085.out
       have ⟨hcz64_0, hcz64_1, hfz64_0, hfz64_1⟩ := cz2_ BK1085.out
       have hnb65 := NB1078_0.out
       have hnc65 := NB0_1078.out
       have ⟨hcz66_0, hcz66_1, hfz66_0, hfz66_1⟩ := cz2_ BK1078.out
       obtain ⟨Ao67, co67, eo67⟩ := Kd.R_slice HO_1086001.out
       subst eo67
       go_wp2
       refine bodyPost_ret (results_cell_row rfl _ _ gb1078 60 #[.slice Ao6 t1079.length co6, .slice Ao67 x1086001_1.length co67] (0, 0) _ rfl (by (with_reducible repeat (first | refine blk_drewN ?_ _ | refine blk_drew ?_ | refine blk_alloc ?_ _)); apply put2_; (with_reducible repeat (first | refine blk_drewN ?_ _ | refine blk_drew ?_ | refine blk_alloc ?_ _)); refine blk_far ?_ NB1078_0.out _; (with_reducible repeat (first | refine blk_drewN ?_ _ | refine blk_drew ?_ | refine blk_alloc ?_ _)); exact BK1078.out) Try.underlying60 rfl (by kernel_rfl)) rfl ?_
       exact ⟨_, _, z8_, by (with_reducible repeat (first | apply Kd.R_alloc | apply Kd.R_drewN | apply Kd.R_drew)); exact Kd.R_mono (rf2_ (Kd.R_far (p := ⟨g, 2, none⟩) (Kd.R_types (IsS127.apart HI0.out HO_1086000.out (by decide)) BK1078.out (by decide)) (fun _ hk => hk.1.2) (.bool true)) (fun _ hk => hk.2)) (fun _ hk => trivial), by (with_reducible repeat (first | apply Kd.R_alloc | apply Kd.R_drewN | apply Kd.R_drew)); exact Kd.R_mono (rf2_ (Kd.R_far (p := ⟨g, 2, none⟩) (Kd.R_types (IsS127.apart HI0.out HO_1086001.out (by decide)) BK1078.out (by decide)) (fun _ hk => hk.1.2) (.bool true)) (fun _ hk => hk.2)) (fun _ hk => trivial), z37_ HI0.out NB0_1078.out NB0_1085.out, z28_ HB.out HI0.out GE1078.out GE1085.out, z38_ HK.out GW1078.out GW1085.out⟩
      ·replace c60 := Bool.eq_false_iff.mpr c60
       subst c60
       have H1 : ((impl_SetRight.f kj11 t1079 x1086001_1).bind fun t1090 => (some (t1079, x1086001_1, x1000_1, x1001_1, !t1090))) = some (r1, r2, r3, r4, r5) := by rw [if_neg (show ¬ (false = true) by decide)] at H; exact H
       clear H
       have H := H1
       clear H1
       replace H := Option.bind_eq_some_iff.mp H
       obtain ⟨t1090, A680, H⟩ := H
       replace H : (some (t1079, x1086001_1, x1000_1, x1001_1, !t1090)) = some (r1, r2, r3, r4, r5) := H
       have A68 := Aside0.mk A680
       clear A680
       simp only [Option.some.injEq, Prod.mk.injEq] at H
       obtain ⟨rfl, rfl, rfl, rfl, rfl⟩ := H
       obtain ⟨HGz69, hgz69⟩ := HI0.out
       have hcz69_0 := cellS127_0 HGz69
       have hcz69_1 := cellS127_1 HGz69
       have hcz69_2 := cellS127_2 HGz69
       have hfz69_0 := blk_frozen HGz69 0
       have hfz69_1 := blk_frozen HGz69 1
       have hfz69_2 := blk_frozen HGz69 2
       clear HGz69 hgz69
       have hnb70 := NB1085_1078.out
       have hnc70 := NB1078_1085.out
       have hnb71 := NB1085_0.out
       have hnc71 := NB0_1085.out
       have ⟨hcz72_0, hcz72_1, hfz72_0, hfz72_1⟩ := cz2_ BK1085.out
       obtain ⟨Ao73, co73, eo73⟩ := Kd.R_slice HO_1086001.out
       subst eo73
       go_wp2_with (first | (go_at_call 111; (with_reducible refine (impl_SetRight.calls kj11 _ _ t1079 _ _ x1086001_1 t1090 _ ?side1 ?side2 ?side3 ?side4 A68.out).mono ?_); (case side1 => exact z27_ HO_1086000.out); (case side2 => exact (Kd.R_reads' HO_1086000.out).2.1); (case side3 => exact z27_ HO_1086001.out); (case side4 => exact (Kd.R_reads' HO_1086001.out).2.1); rintro e w74 ⟨rfl, hb⟩; have n_ := as7_ (Kd.R_below (z4_ HO_1086000.out) hb) (Kd.R_below (z4_ HO_1086001.out) hb) (blkB_ BK1078.out hb) (blkB_ BK1085.out hb) (IsS127.below (z37_ HI0.out NB0_1078.out NB0_1085.out) hb) (KeepBut.trans (z38_ HK.out GW1078.out GW1085.out) (KeepBut.of_below hb g none) (.inl rfl)) (below_step (z28_ HB.out HI0.out GE1078.out GE1085.out) hb); clear HO_1086000 HO_1086001 BK1078 BK1085 HI0 HK HB; have ⟨HO_1086000, HO_1086001, BK1078, BK1085, HI0, HK, HB⟩ := n_; clear n_; (try clear hb); (try clear hb2); (try clear hk); (try clear hi); obtain ⟨HGz75, hgz75⟩ := HI0.out; have hcz75_0 := cellS127_0 HGz75; have hcz75_1 := cellS127_1 HGz75; have hcz75_2 := cellS127_2 HGz75; have hfz75_0 := blk_frozen HGz75 0; have hfz75_1 := blk_frozen HGz75 1; have hfz75_2 := blk_frozen HGz75 2; clear HGz75 hgz75; have ⟨hcz76_0, hcz76_1, hfz76_0, hfz76_1⟩ := cz2_ BK1085.out; have hnb77 := NB1078_0.out; have hnc77 := NB0_1078.out; have hcz78_0 : w74.cell? ⟨gb1078, 0, none⟩ = some (.slice none 0 0) := (blk_cell BK1078.out 0).trans rfl; have hcz78_1 : w74.cell? ⟨gb1078, 1, none⟩ = some (.slice none 0 0) := (blk_cell BK1078.out 1).trans rfl; have hfz78_0 := blk_frozen BK1078.out 0; have hfz78_1 := blk_frozen BK1078.out 1))
       refine bodyPost_ret (results_cell_row rfl _ _ gb1078 60 #[.slice Ao6 t1079.length co6, .slice Ao73 x1086001_1.length co73] (0, 0) _ rfl (by (with_reducible repeat (first | refine blk_drewN ?_ _ | refine blk_drew ?_ | refine blk_alloc ?_ _)); apply put2_; (with_reducible repeat (first | refine blk_drewN ?_ _ | refine blk_drew ?_ | refine blk_alloc ?_ _)); refine blk_far ?_ NB1078_0.out _; (with_reducible repeat (first | refine blk_drewN ?_ _ | refine blk_drew ?_ | refine blk_alloc ?_ _)); exact BK1078.out) Try.underlying60 rfl (by kernel_rfl)) rfl ?_
       exact ⟨_, _, z8_, by (with_reducible repeat (first | apply Kd.R_alloc | apply Kd.R_drewN | apply Kd.R_drew)); exact Kd.R_mono (rf2_ (Kd.R_far (p := ⟨g, 2, none⟩) (Kd.R_types (IsS127.apart HI0.out HO_1086000.out (by decide)) BK1078.out (by decide)) (fun _ hk => hk.1.2) (.bool (!t1090))) (fun _ hk => hk.2)) (fun _ hk => trivial), by (with_reducible repeat (first | apply Kd.R_alloc | apply Kd.R_drewN | apply Kd.R_drew)); exact Kd.R_mono (rf2_ (Kd.R_far (p := ⟨g, 2, none⟩) (Kd.R_types (IsS127.apart HI0.out HO_1086001.out (by decide)) BK1078.out (by decide)) (fun _ hk => hk.1.2) (.bool (!t1090))) (fun _ hk => hk.2)) (fun _ hk => trivial), z37_ HI0.out NB0_1078.out NB0_1085.out, z28_ HB.out HI0.out GE1078.out GE1085.out, z38_ HK.out GW1078.out GW1085.out⟩


/-! ### impl_SetRead: function 64 -/
def impl_SetRead.f (k : Nat) (a0 : ByteArray) : Option ((List (S33)) × (List (S158)) × Int × Int × Int) := (impl_isLong.f k (([a0] : List ByteArray))).bind fun t1119 => (if t1119 = true then (some (([] : List (S33)), ([] : List (S158)), 0, 0, 2)) else ((impl_taker_set.f k a0 0 false).bind fun bt1121 => ((impl_taker_done.f bt1121.2.2.1 bt1121.2.2.2.1 bt1121.2.2.2.2).bind fun bt1131 => (if bt1131.1 = true then (some (bt1121.1, bt1121.2.1, 0, 0, 0)) else (some (([] : List (S33)), ([] : List (S158)), 0, 0, 3))))))
theorem impl_SetRead.mono : ∀ a0 k, LeO (impl_SetRead.f k a0) (impl_SetRead.f (k + 1) a0) := by
 intro a0 k
 unfold impl_SetRead.f
 repeat' first
   | (with_reducible exact impl_isLong.mono _ _)
   | (with_reducible exact impl_taker_set.mono _ _ _ _)
   | (with_reducible exact LeO.refl _)
   | (with_reducible exact LeO.none _)
   | (with_reducible refine LeO.ite ?_ ?_)
   | (with_reducible refine LeO.bind ?_ (fun _ => ?_))
   | exact impl_isLong.mono _ _
   | exact impl_taker_set.mono _ _ _ _
   | exact LeO.none _
   | refine LeO.ite ?_ ?_
   | refine LeO.bind ?_ (fun _ => ?_)
set_option maxHeartbeats 8000000 in
set_option maxRecDepth 100000 in
theorem impl_SetRead.calls (k : Nat) (a0 : ByteArray) (r1 : List (S33)) (r2 : List (S158)) (r3 : Int) (r4 : Int) (r5 : Int) (w : World) (h : impl_SetRead.f k a0 = some (r1, r2, r3, r4, r5)) :
  Calls Try.prog 64 #[.string a0] w fun e w' => ∃ v0_ v1_ : Value, e = .returned (.agg #[v0_, v1_, .int .i64 r3, .int .i64 r4, .int .i64 r5]) ∧ Kd.R k33 33 w' w.heap.size (fun _ => True) v0_ r1 ∧ Kd.R k158 158 w' w.heap.size (fun _ => True) v1_ r2 ∧ Below w.heap.size w w' := by
 have hu87 := Try.underlying87
 have hu127 := Try.underlying127
 have hu60 := Try.underlying60
 have HB := Aside0.mk (Below.refl w.heap.size w)
 have H : ((impl_isLong.f k (([a0] : List ByteArray))).bind fun t1119 => (if t1119 = true then (some (([] : List (S33)), ([] : List (S158)), 0, 0, 2)) else ((impl_taker_set.f k a0 0 false).bind fun bt1121 => ((impl_taker_done.f bt1121.2.2.1 bt1121.2.2.2.1 bt1121.2.2.2.2).bind fun bt1131 => (if bt1131.1 = true then (some (bt1121.1, bt1121.2.1, 0, 0, 0)) else (some (([] : List (S33)), ([] : List (S158)), 0, 0, 3))))))) = some (r1, r2, r3, r4, r5) := h
 clear h
 obtain ⟨y1116, hy1116⟩ : ∃ y_ : List ByteArray, y_ = (([a0] : List ByteArray)) := ⟨_, rfl⟩
 replace H : ((impl_isLong.f k y1116).bind fun t1119 => (if t1119 = true then (some (([] : List (S33)), ([] : List (S158)), 0, 0, 2)) else ((impl_taker_set.f k a0 0 false).bind fun bt1121 => ((impl_taker_done.f bt1121.2.2.1 bt1121.2.2.2.1 bt1121.2.2.2.2).bind fun bt1131 => (if bt1131.1 = true then (some (bt1121.1, bt1121.2.1, 0, 0, 0)) else (some (([] : List (S33)), ([] : List (S158)), 0, 0, 3))))))) = some (r1, r2, r3, r4, r5) := by first | (rw [hy1116]; with_reducible exact H) | (have H2_ := (Option.bind_some _ _).symm.trans H; rw [hy1116]; with_reducible exact H2_) | (have H2_ := (Option.bind_some _ _).symm.trans H; with_reducible exact H2_) | with_reducible exact H | (rw [hy1116]; exact H) | exact H
 have Ny1116 := Aside0.mk hy1116
 clear hy1116
 replace H := Option.bind_eq_some_iff.mp H
 obtain ⟨t1119, A20, H⟩ := H
 replace H : (if t1119 = true then (some (([] : List (S33)), ([] : List (S158)), 0, 0, 2)) else ((impl_taker_set.f k a0 0 false).bind fun bt1121 => ((impl_taker_done.f bt1121.2.2.1 bt1121.2.2.2.1 bt1121.2.2.2.2).bind fun bt1131 => (if bt1131.1 = true then (some (bt1121.1, bt1121.2.1, 0, 0, 0)) else (some (([] : List (S33)), ([] : List (S158)), 0, 0, 3)))))) = some (r1, r2, r3, r4, r5) := H
 have A2 := Aside0.mk A20
 clear A20
 by_cases c3 : t1119 = true
 ·subst c3
  have H1 : (some (([] : List (S33)), ([] : List (S158)), 0, 0, 2)) = some (r1, r2, r3, r4, r5) := by rw [if_pos rfl] at H; exact H
  clear H
  have H := H1
  clear H1
  simp only [Option.some.injEq, Prod.mk.injEq] at H
  obtain ⟨rfl, rfl, rfl, rfl, rfl⟩ := H
  go_enter Try.func64, Try.ntmps64
  go_wp2_with (first | ((with_reducible refine gate_dst (N := 2) rfl ?_); refine box_event ?hg (N := 2) ?hd (cs := #[.slice none 0 0, .slice none 0 0, .int .i64 0, .int .i64 0, .int .i64 0]) (t := 87) ?hr ?_; (case hd => rfl); (case hg => rfl); (case hr => first | (go_simp; done) | (go_simp; rfl)); intro gb1115 hg w4 hbox hb; have n_ := as4_ (below_step (z5_ HB.out) hb) (hbox) ((z7_ HB.out : w.heap.size ≤ gb1115)) ((z7_ HB.out : w.heap.size ≤ gb1115)); clear HB; have ⟨HB, BK1115, GW1115, GE1115⟩ := n_; clear n_; clear hb hbox hg) | ((with_reducible refine gate_dst (N := 6) rfl ?_); refine Kd.R_lit Kd.string _ 9 ?hg (N := 6) ?hd (xs := ([a0] : List ByteArray)) (inner := [.string a0]) (ok := fun _ => True) (okp := fun _ => True) ?hr ?hp (fun _ hk => hk) trivial (Below.refl _ _) (Nat.le_refl _) (by simp) ?_; (case hd => rfl); (case hg => rfl); (case hr => first | (go_simp; done) | (go_simp; rfl)); (case hp => exact (Reps.one (show Kd.M Kd.string _ _ _ a0 [.string a0] from rfl) (Reps.none _ _))); intro v1117 w5 ho6 hb hg_ hnew_; clear hg_ hnew_; (first | rw [← Ny1116.out] at ho6 | (simp only [Int.reduceToNat] at ho6; rw [← Ny1116.out] at ho6)); have n_ := as3_ (Kd.R_lower ho6 (below_size (z1_ HB.out GE1115.out))) (blkB_ BK1115.out hb) (below_step (z1_ HB.out GE1115.out) hb); clear BK1115 HB; have ⟨HO1118, BK1115, HB⟩ := n_; clear n_; clear hb ho6; obtain ⟨Ao7, co7, eo7⟩ := Kd.R_slice HO1118.out; subst eo7) | ((with_reducible refine gate_callee (f := 93) rfl ?_); refine goesL_ (some 7) rfl rfl Try.func93 (by kernel_rfl) rfl #[.slice Ao7 y1116.length co7] rfl (z0_) ?_; (with_reducible refine (impl_isLong.calls k _ _ y1116 true _ ?side1 ?side2 A2.out).mono ?_); (case side1 => exact z27_ HO1118.out); (case side2 => exact (Kd.R_reads' HO1118.out).2.1); rintro e w' ⟨rfl, ⟨nd, rfl⟩⟩; refine ⟨_, rfl, ?_⟩; (try (rw [drewN_self w5]; generalize hq_ : World.drewN w5 _ = w5; have n0_ : Aside0 (Kd.R Kd.string 9 w5 w.heap.size (fun _ => True) (.slice Ao7 y1116.length co7) y1116) := ⟨z50_ HO1118.out⟩; have n1_ : Aside0 (w5.heap[gb1115]? = some (.cells #[.slice none 0 0, .slice none 0 0, .int .i64 0, .int .i64 0, .int .i64 0] 87 (0, 0))) := ⟨z36_ BK1115.out⟩; have n2_ : Aside0 (Below w.heap.size w w5) := ⟨z51_ HB.out GE1115.out⟩; clear HO1118 BK1115 HB hq_; have HO1118 := n0_; have BK1115 := n1_; have HB := n2_; clear n0_ n1_ n2_)); have hcz8_0 : w5.cell? ⟨gb1115, 0, none⟩ = some (.slice none 0 0) := (blk_cell BK1115.out 0).trans rfl; have hcz8_1 : w5.cell? ⟨gb1115, 1, none⟩ = some (.slice none 0 0) := (blk_cell BK1115.out 1).trans rfl; have hcz8_2 : w5.cell? ⟨gb1115, 2, none⟩ = some (.int .i64 0) := (blk_cell BK1115.out 2).trans rfl; have hcz8_3 : w5.cell? ⟨gb1115, 3, none⟩ = some (.int .i64 0) := (blk_cell BK1115.out 3).trans rfl; have hcz8_4 : w5.cell? ⟨gb1115, 4, none⟩ = some (.int .i64 0) := (blk_cell BK1115.out 4).trans rfl; have hfz8_0 := blk_frozen BK1115.out 0; have hfz8_1 := blk_frozen BK1115.out 1; have hfz8_2 := blk_frozen BK1115.out 2; have hfz8_3 := blk_frozen BK1115.out 3; have hfz8_4 := blk_frozen BK1115.out 4))
  refine bodyPost_ret (results_cell_row rfl _ _ gb1115 87 #[.slice none 0 0, .slice none 0 0, .int .i64 0, .int .i64 0, .int .i64 2] (0, 0) _ rfl (z39_ BK1115.out) Try.underlying87 rfl (by kernel_rfl)) rfl ?_
  exact ⟨_, _, z8_, z43_, z43_, z1_ HB.out GE1115.out⟩
 ·replace c3 := Bool.eq_false_iff.mpr c3
  subst c3
  have H1 : ((impl_taker_set.f k a0 0 false).bind fun bt1121 => ((impl_taker_done.f bt1121.2.2.1 bt1121.2.2.2.1 bt1121.2.2.2.2).bind fun bt1131 => (if bt1131.1 = true then (some (bt1121.1, bt1121.2.1, 0, 0, 0)) else (some (([] : List (S33)), ([] : List (S158)), 0, 0, 3))))) = some (r1, r2, r3, r4, r5) := by rw [if_neg (show ¬ (false = true) by decide)] at H; exact H
  clear H
  have H := H1
  clear H1
  replace H := Option.bind_eq_some_iff.mp H
  obtain ⟨⟨t1121, t1124, t1127, t1128, t1129⟩, A90, H⟩ := H
  replace H : ((impl_taker_done.f t1127 t1128 t1129).bind fun bt1131 => (if bt1131.1 = true then (some (t1121, t1124, 0, 0, 0)) else (some (([] : List (S33)), ([] : List (S158)), 0, 0, 3)))) = some (r1, r2, r3, r4, r5) := H
  have A9 := Aside0.mk A90
  clear A90
  replace H := Option.bind_eq_some_iff.mp H
  obtain ⟨⟨t1131, t1132, t1133, t1134⟩, A100, H⟩ := H
  replace H : (if t1131 = true then (some (t1121, t1124, 0, 0, 0)) else (some (([] : List (S33)), ([] : List (S158)), 0, 0, 3))) = some (r1, r2, r3, r4, r5) := H
  have A10 := Aside0.mk A100
  clear A100
  by_cases c11 : t1131 = true
  ·subst c11
   have H1 : (some (t1121, t1124, 0, 0, 0)) = some (r1, r2, r3, r4, r5) := by rw [if_pos rfl] at H; exact H
   clear H
   have H := H1
   clear H1
   simp only [Option.some.injEq, Prod.mk.injEq] at H
   obtain ⟨rfl, rfl, rfl, rfl, rfl⟩ := H
   go_enter Try.func64, Try.ntmps64
   go_wp2_with (first | ((with_reducible refine gate_dst (N := 2) rfl ?_); refine box_event ?hg (N := 2) ?hd (cs := #[.slice none 0 0, .slice none 0 0, .int .i64 0, .int .i64 0, .int .i64 0]) (t := 87) ?hr ?_; (case hd => rfl); (case hg => rfl); (case hr => first | (go_simp; done) | (go_simp; rfl)); intro gb1115 hg w12 hbox hb; have n_ := as4_ (below_step (z5_ HB.out) hb) (hbox) ((z7_ HB.out : w.heap.size ≤ gb1115)) ((z7_ HB.out : w.heap.size ≤ gb1115)); clear HB; have ⟨HB, BK1115, GW1115, GE1115⟩ := n_; clear n_; clear hb hbox hg) | ((with_reducible refine gate_dst (N := 6) rfl ?_); refine Kd.R_lit Kd.string _ 9 ?hg (N := 6) ?hd (xs := ([a0] : List ByteArray)) (inner := [.string a0]) (ok := fun _ => True) (okp := fun _ => True) ?hr ?hp (fun _ hk => hk) trivial (Below.refl _ _) (Nat.le_refl _) (by simp) ?_; (case hd => rfl); (case hg => rfl); (case hr => first | (go_simp; done) | (go_simp; rfl)); (case hp => exact (Reps.one (show Kd.M Kd.string _ _ _ a0 [.string a0] from rfl) (Reps.none _ _))); intro v1117 w13 ho14 hb hg_ hnew_; clear hg_ hnew_; (first | rw [← Ny1116.out] at ho14 | (simp only [Int.reduceToNat] at ho14; rw [← Ny1116.out] at ho14)); have n_ := as3_ (Kd.R_lower ho14 (below_size (z1_ HB.out GE1115.out))) (blkB_ BK1115.out hb) (below_step (z1_ HB.out GE1115.out) hb); clear BK1115 HB; have ⟨HO1118, BK1115, HB⟩ := n_; clear n_; clear hb ho14; obtain ⟨Ao15, co15, eo15⟩ := Kd.R_slice HO1118.out; subst eo15) | ((with_reducible refine gate_callee (f := 93) rfl ?_); refine goesL_ (some 7) rfl rfl Try.func93 (by kernel_rfl) rfl #[.slice Ao15 y1116.length co15] rfl (z0_) ?_; (with_reducible refine (impl_isLong.calls k _ _ y1116 false _ ?side1 ?side2 A2.out).mono ?_); (case side1 => exact z27_ HO1118.out); (case side2 => exact (Kd.R_reads' HO1118.out).2.1); rintro e w' ⟨rfl, ⟨nd, rfl⟩⟩; refine ⟨_, rfl, ?_⟩; (try (rw [drewN_self w13]; generalize hq_ : World.drewN w13 _ = w13; have n0_ : Aside0 (Kd.R Kd.string 9 w13 w.heap.size (fun _ => True) (.slice Ao15 y1116.length co15) y1116) := ⟨z50_ HO1118.out⟩; have n1_ : Aside0 (w13.heap[gb1115]? = some (.cells #[.slice none 0 0, .slice none 0 0, .int .i64 0, .int .i64 0, .int .i64 0] 87 (0, 0))) := ⟨z36_ BK1115.out⟩; have n2_ : Aside0 (Below w.heap.size w w13) := ⟨z51_ HB.out GE1115.out⟩; clear HO1118 BK1115 HB hq_; have HO1118 := n0_; have BK1115 := n1_; have HB := n2_; clear n0_ n1_ n2_))) | ((with_reducible refine gate_dst (N := 11) rfl ?_); refine box_event ?hg (N := 11) ?hd (cs := #[.string a0, .int .i64 0, .bool false]) (t := 127) ?hr ?_; (case hd => rfl); (case hg => rfl); (case hr => first | (go_simp; done) | (go_simp; rfl)); intro gb1120 hg w16 hbox hb; have n_ := as8_ (Kd.R_below (z4_ HO1118.out) hb) (blkB_ BK1115.out hb) (below_step (z1_ HB.out GE1115.out) hb) ((show IsS127 w w16 gb1120 a0 0 false from ⟨hbox, (z10_ HB.out GE1115.out : w.heap.size ≤ gb1120)⟩)) ((z10_ HB.out GE1115.out : w.heap.size ≤ gb1120)) ((z10_ HB.out GE1115.out : w.heap.size ≤ gb1120)) (neL_ BK1115.out hg) (neG_ BK1115.out hg); clear HO1118 BK1115 HB; have ⟨HO1118, BK1115, HB, HI1120, GW1120, GE1120, NB1115_1120, NB1120_1115⟩ := n_; clear n_; clear hb hbox hg) | ((with_reducible refine gate_callee (f := 136) rfl ?_); refine goesL_ (some 13) rfl rfl Try.func136 (by kernel_rfl) rfl #[.pointer (some ⟨gb1120, 0, none⟩)] rfl (z0_) ?_; (with_reducible refine (impl_taker_set.calls k gb1120 a0 0 false t1121 t1124 t1127 t1128 t1129 w _ ?side1 ?side2 A9.out).mono ?_); (case side1 => exact z30_ HI1120.out NB1120_1115.out); (case side2 => exact z21_ HB.out HI1120.out GE1115.out); rintro e w17 ⟨v1122, v1125, rfl, ho0, ho1, hi, hb, hk⟩; refine ⟨_, rfl, ?_⟩; have n_ := as6_ (KeepBut.blk hk (g' := gb1115) (o := .cells #[.slice none 0 0, .slice none 0 0, .int .i64 0, .int .i64 0, .int .i64 0] 87 (0, 0)) (z9_ BK1115.out) NB1115_1120.out (by simp)) (Kd.R_mono (Kd.R_keep (IsS127.apart (show IsS127 w _ gb1120 a0 0 false from by repeat (first | (with_reducible first | exact HI1120.out | apply IsS127.alloc | apply IsS127.drewN | apply IsS127.drew | apply IsS127.set_0 | apply IsS127.set_1 | apply IsS127.set_2 | refine IsS127.far ?_ (by exact NB1120_1115.out) _) | exact HI1120.out)) (z4_ HO1118.out) (by decide)) hk (fun _ h => h.2)) (fun _ h => h.1)) (Kd.R_lower ho0 (below_size (z21_ HB.out HI1120.out GE1115.out))) (Kd.R_lower ho1 (below_size (z21_ HB.out HI1120.out GE1115.out))) (hb) (hi); clear BK1115 HO1118 HB HI1120; have ⟨BK1115, HO1118, HO1123, HO1126, HB, HI1120⟩ := n_; clear n_; (try clear hb); (try clear hb2); (try clear hk); (try clear hi); (try clear ho0); (try clear ho1)) | ((with_reducible refine gate_dst (N := 4) rfl ?_); refine box_event ?hg (N := 4) ?hd (cs := #[.slice none 0 0, .slice none 0 0]) (t := 60) ?hr ?_; (case hd => rfl); (case hg => rfl); (case hr => first | (go_simp; done) | (go_simp; rfl)); intro gb1130 hg w18 hbox hb; have n_ := as13_ (Kd.R_below (z4_ HO1118.out) hb) (Kd.R_below (z4_ HO1123.out) hb) (Kd.R_below (z4_ HO1126.out) hb) (blkB_ BK1115.out hb) (IsS127.below (z30_ HI1120.out NB1120_1115.out) hb) (below_step (z21_ HB.out HI1120.out GE1115.out) hb) (hbox) ((z63_ HB.out HI1120.out GE1115.out : w.heap.size ≤ gb1130)) ((z63_ HB.out HI1120.out GE1115.out : w.heap.size ≤ gb1130)) (neL_ BK1115.out hg) (neG_ BK1115.out hg) ((by rw [hg]; exact Nat.ne_of_lt (IsS127.lt (show IsS127 w _ gb1120 t1127 t1128 t1129 from by repeat (first | (with_reducible first | exact HI1120.out | apply IsS127.alloc | apply IsS127.drewN | apply IsS127.drew | apply IsS127.set_0 | apply IsS127.set_1 | apply IsS127.set_2 | refine IsS127.far ?_ (by exact NB1120_1115.out) _) | exact HI1120.out))) : gb1120 ≠ gb1130)) ((by rw [hg]; exact Nat.ne_of_gt (IsS127.lt (show IsS127 w _ gb1120 t1127 t1128 t1129 from by repeat (first | (with_reducible first | exact HI1120.out | apply IsS127.alloc | apply IsS127.drewN | apply IsS127.drew | apply IsS127.set_0 | apply IsS127.set_1 | apply IsS127.set_2 | refine IsS127.far ?_ (by exact NB1120_1115.out) _) | exact HI1120.out))) : gb1130 ≠ gb1120)); clear HO1118 HO1123 HO1126 BK1115 HI1120 HB; have ⟨HO1118, HO1123, HO1126, BK1115, HI1120, HB, BK1130, GW1130, GE1130, NB1115_1130, NB1130_1115, NB1120_1130, NB1130_1120⟩ := n_; clear n_; clear hb hbox hg; obtain ⟨Ao19, co19, eo19⟩ := Kd.R_slice HO1123.out; subst eo19; have hnb20 := NB1130_1115.out; have hnc20 := NB1115_1130.out; have hnb21 := NB1130_1120.out; have hnc21 := NB1120_1130.out; have ⟨hcz22_0, hcz22_1, hfz22_0, hfz22_1⟩ := cz2_ BK1130.out; obtain ⟨Ao23, co23, eo23⟩ := Kd.R_slice HO1126.out; subst eo23) | ((with_reducible refine gate_callee (f := 95) rfl ?_); refine goesL_ (some 15) rfl rfl Try.func95 (by kernel_rfl) rfl #[.pointer (some ⟨gb1120, 0, none⟩)] rfl (z0_) ?_; (with_reducible refine (impl_taker_done.calls gb1120 t1127 t1128 t1129 true t1132 t1133 t1134 w _ ?side1 ?side2 A10.out).mono ?_); (case side1 => repeat (first | (with_reducible first | exact HI1120.out | apply IsS127.alloc | apply IsS127.drewN | apply IsS127.drew | apply IsS127.set_0 | apply IsS127.set_1 | apply IsS127.set_2 | refine IsS127.far ?_ (by exact NB1120_1115.out) _ | refine IsS127.far ?_ (by exact NB1120_1130.out) _) | exact HI1120.out)); (case side2 => exact z28_ HB.out HI1120.out GE1115.out GE1130.out); rintro e w24 ⟨rfl, hi, hb, hk⟩; refine ⟨_, rfl, ?_⟩; have n_ := as7_ (KeepBut.blk hk (g' := gb1115) (o := .cells #[.slice none 0 0, .slice none 0 0, .int .i64 0, .int .i64 0, .int .i64 0] 87 (0, 0)) (z56_ NB1115_1130.out BK1115.out) NB1115_1120.out (by simp)) (Kd.R_mono (Kd.R_keep (IsS127.apart (show IsS127 w _ gb1120 t1127 t1128 t1129 from by repeat (first | (with_reducible first | exact HI1120.out | apply IsS127.alloc | apply IsS127.drewN | apply IsS127.drew | apply IsS127.set_0 | apply IsS127.set_1 | apply IsS127.set_2 | refine IsS127.far ?_ (by exact NB1120_1115.out) _ | refine IsS127.far ?_ (by exact NB1120_1130.out) _) | exact HI1120.out)) (z46_ HO1118.out BK1130.out) (by decide)) hk (fun _ h => h.2)) (fun _ h => h.1)) (Kd.R_mono (Kd.R_keep (IsS127.apart (show IsS127 w _ gb1120 t1127 t1128 t1129 from by repeat (first | (with_reducible first | exact HI1120.out | apply IsS127.alloc | apply IsS127.drewN | apply IsS127.drew | apply IsS127.set_0 | apply IsS127.set_1 | apply IsS127.set_2 | refine IsS127.far ?_ (by exact NB1120_1115.out) _ | refine IsS127.far ?_ (by exact NB1120_1130.out) _) | exact HI1120.out)) (z46_ HO1123.out BK1130.out) (by decide)) hk (fun _ h => h.2)) (fun _ h => h.1)) (Kd.R_mono (Kd.R_keep (IsS127.apart (show IsS127 w _ gb1120 t1127 t1128 t1129 from by repeat (first | (with_reducible first | exact HI1120.out | apply IsS127.alloc | apply IsS127.drewN | apply IsS127.drew | apply IsS127.set_0 | apply IsS127.set_1 | apply IsS127.set_2 | refine IsS127.far ?_ (by exact NB1120_1115.out) _ | refine IsS127.far ?_ (by exact NB1120_1130.out) _) | exact HI1120.out)) (z46_ HO1126.out BK1130.out) (by decide)) hk (fun _ h => h.2)) (fun _ h => h.1)) (KeepBut.blk hk (g' := gb1130) (o := .cells #[.slice Ao19 t1121.length co19, .slice Ao23 t1124.length co23] 60 (0, 0)) (z42_ BK1130.out) NB1130_1120.out (by simp)) (hb) (hi); clear BK1115 HO1118 HO1123 HO1126 BK1130 HB HI1120; have ⟨BK1115, HO1118, HO1123, HO1126, BK1130, HB, HI1120⟩ := n_; clear n_; (try clear hb); (try clear hb2); (try clear hk); (try clear hi); have ⟨hcz25_0, hcz25_1, hfz25_0, hfz25_1⟩ := cz2_ BK1130.out; have hnb26 := NB1115_1120.out; have hnc26 := NB1120_1115.out; have hcz27_0 : w24.cell? ⟨gb1115, 0, none⟩ = some (.slice none 0 0) := (blk_cell BK1115.out 0).trans rfl; have hcz27_1 : w24.cell? ⟨gb1115, 1, none⟩ = some (.slice none 0 0) := (blk_cell BK1115.out 1).trans rfl; have hcz27_2 : w24.cell? ⟨gb1115, 2, none⟩ = some (.int .i64 0) := (blk_cell BK1115.out 2).trans rfl; have hcz27_3 : w24.cell? ⟨gb1115, 3, none⟩ = some (.int .i64 0) := (blk_cell BK1115.out 3).trans rfl; have hcz27_4 : w24.cell? ⟨gb1115, 4, none⟩ = some (.int .i64 0) := (blk_cell BK1115.out 4).trans rfl; have hfz27_0 := blk_frozen BK1115.out 0; have hfz27_1 := blk_frozen BK1115.out 1; have hfz27_2 := blk_frozen BK1115.out 2; have hfz27_3 := blk_frozen BK1115.out 3; have hfz27_4 := blk_frozen BK1115.out 4))
   refine bodyPost_ret (results_cell_row rfl _ _ gb1115 87 #[.slice Ao19 t1121.length co19, .slice Ao23 t1124.length co23, .int .i64 0, .int .i64 0, .int .i64 0] (0, 0) _ rfl (z39_ BK1115.out) Try.underlying87 rfl (by kernel_rfl)) rfl ?_
   exact ⟨_, _, z8_, z45_ HO1123.out BK1115.out, z45_ HO1126.out BK1115.out, z28_ HB.out HI1120.out GE1115.out GE1130.out⟩
  ·replace c11 := Bool.eq_false_iff.mpr c11
   subst c11
   have H1 : (some (([] : List (S33)), ([] : List (S158)), 0, 0, 3)) = some (r1, r2, r3, r4, r5) := by rw [if_neg (show ¬ (false = true) by decide)] at H; exact H
   clear H
   have H := H1
   clear H1
   simp only [Option.some.injEq, Prod.mk.injEq] at H
   obtain ⟨rfl, rfl, rfl, rfl, rfl⟩ := H
   go_enter Try.func64, Try.ntmps64
   go_wp2_with (first | ((with_reducible refine gate_dst (N := 2) rfl ?_); refine box_event ?hg (N := 2) ?hd (cs := #[.slice none 0 0, .slice none 0 0, .int .i64 0, .int .i64 0, .int .i64 0]) (t := 87) ?hr ?_; (case hd => rfl); (case hg => rfl); (case hr => first | (go_simp; done) | (go_simp; rfl)); intro gb1115 hg w28 hbox hb; have n_ := as4_ (below_step (z5_ HB.out) hb) (hbox) ((z7_ HB.out : w.heap.size ≤ gb1115)) ((z7_ HB.out : w.heap.size ≤ gb1115)); clear HB; have ⟨HB, BK1115, GW1115, GE1115⟩ := n_; clear n_; clear hb hbox hg) | ((with_reducible refine gate_dst (N := 6) rfl ?_); refine Kd.R_lit Kd.string _ 9 ?hg (N := 6) ?hd (xs := ([a0] : List ByteArray)) (inner := [.string a0]) (ok := fun _ => True) (okp := fun _ => True) ?hr ?hp (fun _ hk => hk) trivial (Below.refl _ _) (Nat.le_refl _) (by simp) ?_; (case hd => rfl); (case hg => rfl); (case hr => first | (go_simp; done) | (go_simp; rfl)); (case hp => exact (Reps.one (show Kd.M Kd.string _ _ _ a0 [.string a0] from rfl) (Reps.none _ _))); intro v1117 w29 ho30 hb hg_ hnew_; clear hg_ hnew_; (first | rw [← Ny1116.out] at ho30 | (simp only [Int.reduceToNat] at ho30; rw [← Ny1116.out] at ho30)); have n_ := as3_ (Kd.R_lower ho30 (below_size (z1_ HB.out GE1115.out))) (blkB_ BK1115.out hb) (below_step (z1_ HB.out GE1115.out) hb); clear BK1115 HB; have ⟨HO1118, BK1115, HB⟩ := n_; clear n_; clear hb ho30; obtain ⟨Ao31, co31, eo31⟩ := Kd.R_slice HO1118.out; subst eo31) | ((with_reducible refine gate_callee (f := 93) rfl ?_); refine goesL_ (some 7) rfl rfl Try.func93 (by kernel_rfl) rfl #[.slice Ao31 y1116.length co31] rfl (z0_) ?_; (with_reducible refine (impl_isLong.calls k _ _ y1116 false _ ?side1 ?side2 A2.out).mono ?_); (case side1 => exact z27_ HO1118.out); (case side2 => exact (Kd.R_reads' HO1118.out).2.1); rintro e w' ⟨rfl, ⟨nd, rfl⟩⟩; refine ⟨_, rfl, ?_⟩; (try (rw [drewN_self w29]; generalize hq_ : World.drewN w29 _ = w29; have n0_ : Aside0 (Kd.R Kd.string 9 w29 w.heap.size (fun _ => True) (.slice Ao31 y1116.length co31) y1116) := ⟨z50_ HO1118.out⟩; have n1_ : Aside0 (w29.heap[gb1115]? = some (.cells #[.slice none 0 0, .slice none 0 0, .int .i64 0, .int .i64 0, .int .i64 0] 87 (0, 0))) := ⟨z36_ BK1115.out⟩; have n2_ : Aside0 (Below w.heap.size w w29) := ⟨z51_ HB.out GE1115.out⟩; clear HO1118 BK1115 HB hq_; have HO1118 := n0_; have BK1115 := n1_; have HB := n2_; clear n0_ n1_ n2_))) | ((with_reducible refine gate_dst (N := 11) rfl ?_); refine box_event ?hg (N := 11) ?hd (cs := #[.string a0, .int .i64 0, .bool false]) (t := 127) ?hr ?_; (case hd => rfl); (case hg => rfl); (case hr => first | (go_simp; done) | (go_simp; rfl)); intro gb1120 hg w32 hbox hb; have n_ := as8_ (Kd.R_below (z4_ HO1118.out) hb) (blkB_ BK1115.out hb) (below_step (z1_ HB.out GE1115.out) hb) ((show IsS127 w w32 gb1120 a0 0 false from ⟨hbox, (z10_ HB.out GE1115.out : w.heap.size ≤ gb1120)⟩)) ((z10_ HB.out GE1115.out : w.heap.size ≤ gb1120)) ((z10_ HB.out GE1115.out : w.heap.size ≤ gb1120)) (neL_ BK1115.out hg) (neG_ BK1115.out hg); clear HO1118 BK1115 HB; have ⟨HO1118, BK1115, HB, HI1120, GW1120, GE1120, NB1115_1120, NB1120_1115⟩ := n_; clear n_; clear hb hbox hg) | ((with_reducible refine gate_callee (f := 136) rfl ?_); refine goesL_ (some 13) rfl rfl Try.func136 (by kernel_rfl) rfl #[.pointer (some ⟨gb1120, 0, none⟩)] rfl (z0_) ?_; (with_reducible refine (impl_taker_set.calls k gb1120 a0 0 false t1121 t1124 t1127 t1128 t1129 w _ ?side1 ?side2 A9.out).mono ?_); (case side1 => exact z30_ HI1120.out NB1120_1115.out); (case side2 => exact z21_ HB.out HI1120.out GE1115.out); rintro e w33 ⟨v1122, v1125, rfl, ho0, ho1, hi, hb, hk⟩; refine ⟨_, rfl, ?_⟩; have n_ := as6_ (KeepBut.blk hk (g' := gb1115) (o := .cells #[.slice none 0 0, .slice none 0 0, .int .i64 0, .int .i64 0, .int .i64 0] 87 (0, 0)) (z9_ BK1115.out) NB1115_1120.out (by simp)) (Kd.R_mono (Kd.R_keep (IsS127.apart (show IsS127 w _ gb1120 a0 0 false from by repeat (first | (with_reducible first | exact HI1120.out | apply IsS127.alloc | apply IsS127.drewN | apply IsS127.drew | apply IsS127.set_0 | apply IsS127.set_1 | apply IsS127.set_2 | refine IsS127.far ?_ (by exact NB1120_1115.out) _) | exact HI1120.out)) (z4_ HO1118.out) (by decide)) hk (fun _ h => h.2)) (fun _ h => h.1)) (Kd.R_lower ho0 (below_size (z21_ HB.out HI1120.out GE1115.out))) (Kd.R_lower ho1 (below_size (z21_ HB.out HI1120.out GE1115.out))) (hb) (hi); clear BK1115 HO1118 HB HI1120; have ⟨BK1115, HO1118, HO1123, HO1126, HB, HI1120⟩ := n_; clear n_; (try clear hb); (try clear hb2); (try clear hk); (try clear hi); (try clear ho0); (try clear ho1)) | ((with_reducible refine gate_dst (N := 4) rfl ?_); refine box_event ?hg (N := 4) ?hd (cs := #[.slice none 0 0, .slice none 0 0]) (t := 60) ?hr ?_; (case hd => rfl); (case hg => rfl); (case hr => first | (go_simp; done) | (go_simp; rfl)); intro gb1130 hg w34 hbox hb; have n_ := as13_ (Kd.R_below (z4_ HO1118.out) hb) (Kd.R_below (z4_ HO1123.out) hb) (Kd.R_below (z4_ HO1126.out) hb) (blkB_ BK1115.out hb) (IsS127.below (z30_ HI1120.out NB1120_1115.out) hb) (below_step (z21_ HB.out HI1120.out GE1115.out) hb) (hbox) ((z63_ HB.out HI1120.out GE1115.out : w.heap.size ≤ gb1130)) ((z63_ HB.out HI1120.out GE1115.out : w.heap.size ≤ gb1130)) (neL_ BK1115.out hg) (neG_ BK1115.out hg) ((by rw [hg]; exact Nat.ne_of_lt (IsS127.lt (show IsS127 w _ gb1120 t1127 t1128 t1129 from by repeat (first | (with_reducible first | exact HI1120.out | apply IsS127.alloc | apply IsS127.drewN | apply IsS127.drew | apply IsS127.set_0 | apply IsS127.set_1 | apply IsS127.set_2 | refine IsS127.far ?_ (by exact NB1120_1115.out) _) | exact HI1120.out))) : gb1120 ≠ gb1130)) ((by rw [hg]; exact Nat.ne_of_gt (IsS127.lt (show IsS127 w _ gb1120 t1127 t1128 t1129 from by repeat (first | (with_reducible first | exact HI1120.out | apply IsS127.alloc | apply IsS127.drewN | apply IsS127.drew | apply IsS127.set_0 | apply IsS127.set_1 | apply IsS127.set_2 | refine IsS127.far ?_ (by exact NB1120_1115.out) _) | exact HI1120.out))) : gb1130 ≠ gb1120)); clear HO1118 HO1123 HO1126 BK1115 HI1120 HB; have ⟨HO1118, HO1123, HO1126, BK1115, HI1120, HB, BK1130, GW1130, GE1130, NB1115_1130, NB1130_1115, NB1120_1130, NB1130_1120⟩ := n_; clear n_; clear hb hbox hg; obtain ⟨Ao35, co35, eo35⟩ := Kd.R_slice HO1123.out; subst eo35; have hnb36 := NB1130_1115.out; have hnc36 := NB1115_1130.out; have hnb37 := NB1130_1120.out; have hnc37 := NB1120_1130.out; have ⟨hcz38_0, hcz38_1, hfz38_0, hfz38_1⟩ := cz2_ BK1130.out; obtain ⟨Ao39, co39, eo39⟩ := Kd.R_slice HO1126.out; subst eo39) | ((with_reducible refine gate_callee (f := 95) rfl ?_); refine goesL_ (some 15) rfl rfl Try.func95 (by kernel_rfl) rfl #[.pointer (some ⟨gb1120, 0, none⟩)] rfl (z0_) ?_; (with_reducible refine (impl_taker_done.calls gb1120 t1127 t1128 t1129 false t1132 t1133 t1134 w _ ?side1 ?side2 A10.out).mono ?_); (case side1 => repeat (first | (with_reducible first | exact HI1120.out | apply IsS127.alloc | apply IsS127.drewN | apply IsS127.drew | apply IsS127.set_0 | apply IsS127.set_1 | apply IsS127.set_2 | refine IsS127.far ?_ (by exact NB1120_1115.out) _ | refine IsS127.far ?_ (by exact NB1120_1130.out) _) | exact HI1120.out)); (case side2 => exact z28_ HB.out HI1120.out GE1115.out GE1130.out); rintro e w40 ⟨rfl, hi, hb, hk⟩; refine ⟨_, rfl, ?_⟩; have n_ := as7_ (KeepBut.blk hk (g' := gb1115) (o := .cells #[.slice none 0 0, .slice none 0 0, .int .i64 0, .int .i64 0, .int .i64 0] 87 (0, 0)) (z56_ NB1115_1130.out BK1115.out) NB1115_1120.out (by simp)) (Kd.R_mono (Kd.R_keep (IsS127.apart (show IsS127 w _ gb1120 t1127 t1128 t1129 from by repeat (first | (with_reducible first | exact HI1120.out | apply IsS127.alloc | apply IsS127.drewN | apply IsS127.drew | apply IsS127.set_0 | apply IsS127.set_1 | apply IsS127.set_2 | refine IsS127.far ?_ (by exact NB1120_1115.out) _ | refine IsS127.far ?_ (by exact NB1120_1130.out) _) | exact HI1120.out)) (z46_ HO1118.out BK1130.out) (by decide)) hk (fun _ h => h.2)) (fun _ h => h.1)) (Kd.R_mono (Kd.R_keep (IsS127.apart (show IsS127 w _ gb1120 t1127 t1128 t1129 from by repeat (first | (with_reducible first | exact HI1120.out | apply IsS127.alloc | apply IsS127.drewN | apply IsS127.drew | apply IsS127.set_0 | apply IsS127.set_1 | apply IsS127.set_2 | refine IsS127.far ?_ (by exact NB1120_1115.out) _ | refine IsS127.far ?_ (by exact NB1120_1130.out) _) | exact HI1120.out)) (z46_ HO1123.out BK1130.out) (by decide)) hk (fun _ h => h.2)) (fun _ h => h.1)) (Kd.R_mono (Kd.R_keep (IsS127.apart (show IsS127 w _ gb1120 t1127 t1128 t1129 from by repeat (first | (with_reducible first | exact HI1120.out | apply IsS127.alloc | apply IsS127.drewN | apply IsS127.drew | apply IsS127.set_0 | apply IsS127.set_1 | apply IsS127.set_2 | refine IsS127.far ?_ (by exact NB1120_1115.out) _ | refine IsS127.far ?_ (by exact NB1120_1130.out) _) | exact HI1120.out)) (z46_ HO1126.out BK1130.out) (by decide)) hk (fun _ h => h.2)) (fun _ h => h.1)) (KeepBut.blk hk (g' := gb1130) (o := .cells #[.slice Ao35 t1121.length co35, .slice Ao39 t1124.length co39] 60 (0, 0)) (z42_ BK1130.out) NB1130_1120.out (by simp)) (hb) (hi); clear BK1115 HO1118 HO1123 HO1126 BK1130 HB HI1120; have ⟨BK1115, HO1118, HO1123, HO1126, BK1130, HB, HI1120⟩ := n_; clear n_; (try clear hb); (try clear hb2); (try clear hk); (try clear hi); have hnb41 := NB1115_1120.out; have hnc41 := NB1120_1115.out; have hcz42_0 : w40.cell? ⟨gb1115, 0, none⟩ = some (.slice none 0 0) := (blk_cell BK1115.out 0).trans rfl; have hcz42_1 : w40.cell? ⟨gb1115, 1, none⟩ = some (.slice none 0 0) := (blk_cell BK1115.out 1).trans rfl; have hcz42_2 : w40.cell? ⟨gb1115, 2, none⟩ = some (.int .i64 0) := (blk_cell BK1115.out 2).trans rfl; have hcz42_3 : w40.cell? ⟨gb1115, 3, none⟩ = some (.int .i64 0) := (blk_cell BK1115.out 3).trans rfl; have hcz42_4 : w40.cell? ⟨gb1115, 4, none⟩ = some (.int .i64 0) := (blk_cell BK1115.out 4).trans rfl; have hfz42_0 := blk_frozen BK1115.out 0; have hfz42_1 := blk_frozen BK1115.out 1; have hfz42_2 := blk_frozen BK1115.out 2; have hfz42_3 := blk_frozen BK1115.out 3; have hfz42_4 := blk_frozen BK1115.out 4))
   refine bodyPost_ret (results_cell_row rfl _ _ gb1115 87 #[.slice none 0 0, .slice none 0 0, .int .i64 0, .int .i64 0, .int .i64 3] (0, 0) _ rfl (z39_ BK1115.out) Try.underlying87 rfl (by kernel_rfl)) rfl ?_
   exact ⟨_, _, z8_, z43_, z43_, z28_ HB.out HI1120.out GE1115.out GE1130.out⟩


/-! ### laws_eqMark: function 129 -/
def laws_eqMark.f (a0_0 : Int) (a0_1 : Int) (a1_0 : Int) (a1_1 : Int) : Option (Bool) := if a0_0 = a1_0 then (if a0_1 = a1_1 then (some true) else (none)) else (none)
set_option maxHeartbeats 8000000 in
set_option maxRecDepth 100000 in
theorem laws_eqMark.calls (a0_0 : Int) (a0_1 : Int) (a1_0 : Int) (a1_1 : Int) (r : Bool) (w : World) (h : laws_eqMark.f a0_0 a0_1 a1_0 a1_1 = some r) :
  Calls Try.prog 129 #[.agg #[.int .i64 a0_0, .int .i64 a0_1], .agg #[.int .i64 a1_0, .int .i64 a1_1]] w fun e w' => e = .returned (.bool r) ∧ Below w.heap.size w w' := by
 have hu33 := Try.underlying33
 have HB := Aside0.mk (Below.refl w.heap.size w)
 have H : (if a0_0 = a1_0 then (if a0_1 = a1_1 then (some true) else (none)) else (none)) = some r := h
 clear h
 by_cases c3 : a0_0 = a1_0
 ·rw [if_pos c3] at H
  have c3b0 : (a0_0 == a1_0) = true := beq_iff_eq.mpr c3
  have c3b1 : (a0_0 != a1_0) = false := bne_eq_false_iff_eq.mpr c3
  clear c3
  by_cases c4 : a0_1 = a1_1
  ·rw [if_pos c4] at H
   have c4b0 : (a0_1 == a1_1) = true := beq_iff_eq.mpr c4
   have c4b1 : (a0_1 != a1_1) = false := bne_eq_false_iff_eq.mpr c4
   clear c4
   obtain rfl := Option.some.inj H
   go_enter Try.func129, Try.ntmps129
   go_wp2_with (first | ((with_reducible refine gate_dst (N := 2) rfl ?_); refine box_event ?hg (N := 2) ?hd (cs := #[.int .i64 a0_0, .int .i64 a0_1]) (t := 33) ?hr ?_; (case hd => rfl); (case hg => rfl); (case hr => first | (go_simp; done) | (go_simp; rfl)); intro gb798 hg w5 hbox hb; have n_ := as4_ (below_step (z5_ HB.out) hb) (hbox) ((z7_ HB.out : w.heap.size ≤ gb798)) ((z7_ HB.out : w.heap.size ≤ gb798)); clear HB; have ⟨HB, BK798, GW798, GE798⟩ := n_; clear n_; clear hb hbox hg) | ((with_reducible refine gate_dst (N := 3) rfl ?_); refine box_event ?hg (N := 3) ?hd (cs := #[.int .i64 a1_0, .int .i64 a1_1]) (t := 33) ?hr ?_; (case hd => rfl); (case hg => rfl); (case hr => first | (go_simp; done) | (go_simp; rfl)); intro gb799 hg w6 hbox hb; have n_ := as7_ (blkB_ BK798.out hb) (below_step (z1_ HB.out GE798.out) hb) (hbox) ((z10_ HB.out GE798.out : w.heap.size ≤ gb799)) ((z10_ HB.out GE798.out : w.heap.size ≤ gb799)) (neL_ BK798.out hg) (neG_ BK798.out hg); clear BK798 HB; have ⟨BK798, HB, BK799, GW799, GE799, NB798_799, NB799_798⟩ := n_; clear n_; clear hb hbox hg; have hnb7 := NB798_799.out; have hnc7 := NB799_798.out; have ⟨hcz8_0, hcz8_1, hfz8_0, hfz8_1⟩ := cz2_ BK798.out; have hcz9_0 : w6.cell? ⟨gb799, 0, none⟩ = some (.int .i64 a1_0) := (blk_cell BK799.out 0).trans rfl; have hcz9_1 : w6.cell? ⟨gb799, 1, none⟩ = some (.int .i64 a1_1) := (blk_cell BK799.out 1).trans rfl; have hfz9_0 := blk_frozen BK799.out 0; have hfz9_1 := blk_frozen BK799.out 1))
   go_ret
   exact ⟨z8_, z6_ HB.out GE798.out GE799.out⟩
  ·rw [if_neg c4] at H
   exact absurd H (by simp)
 ·rw [if_neg c3] at H
  exact absurd H (by simp)


/-! ### laws_eqMarkS: function 59 -/
def laws_eqMarkS.l0 : Nat → List (S33) → List (S33) → Int → Option (Bool)
 | 0, _, _, _ => none
 | k + 1, x0, x1, x5 => if x5 < (x0.length : Int) then (if 0 ≤ x5 then (if x5 < (x1.length : Int) then ((laws_eqMark.f ((rd_T33 x0 x5).f0) ((rd_T33 x0 x5).f1) ((rd_T33 x1 x5).f0) ((rd_T33 x1 x5).f1)).bind fun t802 => (if t802 = true then (laws_eqMarkS.l0 k x0 x1 (wrap64 (x5 + 1))) else (none))) else (none)) else (none)) else (some true)
def laws_eqMarkS.f (k : Nat) (l0 : List (S33)) (l1 : List (S33)) : Option (Bool) := if (l0.length : Int) = (l1.length : Int) then (laws_eqMarkS.l0 k l0 l1 0) else (none)
theorem laws_eqMarkS.mono_l : ∀ k, (∀ y0 y1 y2, LeO (laws_eqMarkS.l0 k y0 y1 y2) (laws_eqMarkS.l0 (k + 1) y0 y1 y2))
 | 0 => fun _ _ _ r h => by simp [laws_eqMarkS.l0] at h
 | k + 1 => by
  have ih0 := laws_eqMarkS.mono_l k
  ·intro y0 y1 y2
   unfold laws_eqMarkS.l0
   repeat' first
   | (with_reducible exact ih0 _ _ _)
   | (with_reducible exact LeO.refl _)
   | (with_reducible exact LeO.none _)
   | (with_reducible refine LeO.ite ?_ ?_)
   | (with_reducible refine LeO.bind ?_ (fun _ => ?_))
   | exact ih0 _ _ _
   | exact LeO.none _
   | refine LeO.ite ?_ ?_
   | refine LeO.bind ?_ (fun _ => ?_)
theorem laws_eqMarkS.mono : ∀ a0 a1 k, LeO (laws_eqMarkS.f k a0 a1) (laws_eqMarkS.f (k + 1) a0 a1) := by
 intro a0 a1 k
 have ih0 := laws_eqMarkS.mono_l k
 unfold laws_eqMarkS.f
 repeat' first
   | (with_reducible exact ih0 _ _ _)
   | (with_reducible exact LeO.refl _)
   | (with_reducible exact LeO.none _)
   | (with_reducible refine LeO.ite ?_ ?_)
   | (with_reducible refine LeO.bind ?_ (fun _ => ?_))
   | exact ih0 _ _ _
   | exact LeO.none _
   | refine LeO.ite ?_ ?_
   | refine LeO.bind ?_ (fun _ => ?_)
def laws_eqMarkS.T6 : Bool × List (List Nat × List Nat) := (true, [([], []), ([], []), ([0, 1], [0, 1]), ([2], [2]), ([], []), ([], []), ([4, 5], [4, 5]), ([6], [6]), ([3, 7], [3, 7]), ([8], [8])])
def laws_eqMarkS.B6 : List Nat := [0, 0, 3, 7, 0, 0, 48, 112, 255, 511]
theorem laws_eqMarkS.tab6 : rtab .any (opsOf Try.f59 6) = laws_eqMarkS.T6 := by kernel_rfl
theorem laws_eqMarkS.bits6 : waitsOk laws_eqMarkS.T6.2 laws_eqMarkS.B6 = true := by kernel_rfl
set_option maxHeartbeats 8000000 in
set_option maxRecDepth 100000 in
theorem laws_eqMarkS.calls (k : Nat) (A0 : Option Addr) (c0 : Nat) (l0 : List (S33)) (A1 : Option Addr) (c1 : Nat) (l1 : List (S33)) (r : Bool) (w : World) (hr0 : Kd.C k33 w A0 l0.length l0) (hc0 : l0.length ≤ c0) (hr1 : Kd.C k33 w A1 l1.length l1) (hc1 : l1.length ≤ c1) (h : laws_eqMarkS.f k l0 l1 = some r) :
  Calls Try.prog 59 #[.slice A0 l0.length c0, .slice A1 l1.length c1] w fun e w' => e = .returned (.bool r) ∧ Below w.heap.size w w' := by
 have hu33 := Try.underlying33
 have HR0 := Aside0.mk hr0
 have HC0 := Aside0.mk hc0
 clear hr0 hc0
 have HR1 := Aside0.mk hr1
 have HC1 := Aside0.mk hc1
 clear hr1 hc1
 have HB := Aside0.mk (Below.refl w.heap.size w)
 have H : (if (l0.length : Int) = (l1.length : Int) then (laws_eqMarkS.l0 k l0 l1 0) else (none)) = some r := h
 clear h
 by_cases c3 : (l0.length : Int) = (l1.length : Int)
 ·rw [if_pos c3] at H
  have c3b0 : ((l0.length : Int) == (l1.length : Int)) = true := beq_iff_eq.mpr c3
  have c3b1 : ((l0.length : Int) != (l1.length : Int)) = false := bne_eq_false_iff_eq.mpr c3
  have c3b2 : (l0.length == l1.length) = true := by first | simpa using c3 | (simp at c3 ⊢; omega)
  clear c3
  have H' := Aside0.mk H
  clear H
  go_enter Try.func59, Try.ntmps59
  go_wp2
  go_loopg [5] k (fun kq v5 w' => ∃ (x5_1 : Int), v5 = .int .i64 x5_1 ∧ Aside0 (laws_eqMarkS.l0 kq l0 l1 x5_1 = some r) ∧ Aside0 (kq ≤ k) ∧ Aside0 (Below w.heap.size w w'))
  case atStart => exact ⟨(0), (z2_), H', ⟨Nat.le_refl _⟩, ⟨z5_ HB.out⟩⟩
  case round =>
   clear H'
   try clear c1
   try clear p2
   try clear c3
   try clear c3b0
   try clear c3b1
   try clear c3b2
   obtain ⟨x5_1, rfl, HA, HK1, HB⟩ := hrel
   cases gk with
   | zero => exact absurd HA.out (by simp [laws_eqMarkS.l0])
   | succ k1 =>
    have H := HA.out
    clear HA
    simp only [laws_eqMarkS.l0] at H
    by_cases c4 : x5_1 < (l0.length : Int)
    ·rw [if_pos c4] at H
     have c4b0 : decide (x5_1 < (l0.length : Int)) = true := decide_eq_true c4
     clear c4
     by_cases c5 : 0 ≤ x5_1
     ·rw [if_pos c5] at H
      have c5b0 : decide (0 ≤ x5_1) = true := decide_eq_true c5
      clear c5
      by_cases c6 : x5_1 < (l1.length : Int)
      ·rw [if_pos c6] at H
       have c6b0 : decide (x5_1 < (l1.length : Int)) = true := decide_eq_true c6
       clear c6
       replace H := Option.bind_eq_some_iff.mp H
       obtain ⟨t802, A70, H⟩ := H
       replace H : (if t802 = true then (laws_eqMarkS.l0 k1 l0 l1 (wrap64 (x5_1 + 1))) else (none)) = some r := H
       have A7 := Aside0.mk A70
       clear A70
       by_cases c8 : t802 = true
       ·subst c8
        have H1 : (laws_eqMarkS.l0 k1 l0 l1 (wrap64 (x5_1 + 1))) = some r := by rw [if_pos rfl] at H; exact H
        clear H
        have H := H1
        clear H1
        have H' := Aside0.mk H
        clear H
        try go_wp2
        have n0_ := Aside0.mk (below_drew1 HB.out)
        clear HB
        have HB := n0_
        clear n0_
        have p800 : 0 ≤ (x5_1 : Int) := of_decide_eq_true (z3_)
        have q800 : x5_1 < (l0.length : Int) := of_decide_eq_true (z3_)
        obtain ⟨ad800, e800, hx800_0, hx800_1⟩ := at_T33 HR0.out x5_1 p800 q800
        have hw800_1 := hx800_1
        have hw800_0 := hx800_0
        cases e800
        replace hx800_0 := (HB.out.cell (World.block_lt_of_cell? w _ hx800_0)).trans hx800_0
        replace hx800_1 := (HB.out.cell (World.block_lt_of_cell? w _ hx800_1)).trans hx800_1
        replace p800 := eq_true p800
        replace q800 := eq_true q800
        have p801 : 0 ≤ (x5_1 : Int) := of_decide_eq_true (z3_)
        have q801 : x5_1 < (l1.length : Int) := of_decide_eq_true (z3_)
        obtain ⟨ad801, e801, hx801_0, hx801_1⟩ := at_T33 HR1.out x5_1 p801 q801
        have hw801_1 := hx801_1
        have hw801_0 := hx801_0
        cases e801
        replace hx801_0 := (HB.out.cell (World.block_lt_of_cell? w _ hx801_0)).trans hx801_0
        replace hx801_1 := (HB.out.cell (World.block_lt_of_cell? w _ hx801_1)).trans hx801_1
        replace p801 := eq_true p801
        replace q801 := eq_true q801
        refine start_ (n := 10) (S := fun w' => w'.cell? (ad800.add ((x5_1).toNat * 2)) = some (.int .i64 ((rd_T33 l0 x5_1).f0)) ∧ w'.cell? ⟨(ad800.add ((x5_1).toNat * 2)).block, (ad800.add ((x5_1).toNat * 2)).off + 1, none⟩ = some (.int .i64 ((rd_T33 l0 x5_1).f1)) ∧ w'.cell? (ad801.add ((x5_1).toNat * 2)) = some (.int .i64 ((rd_T33 l1 x5_1).f0)) ∧ w'.cell? ⟨(ad801.add ((x5_1).toNat * 2)).block, (ad801.add ((x5_1).toNat * 2)).off + 1, none⟩ = some (.int .i64 ((rd_T33 l1 x5_1).f1))) (ds := []) #[false, false, false, false, false, false, false, false, false, false] (by kernel_rfl) rfl rfl ⟨((HB.out.cell (World.block_lt_of_cell? w _ hw800_0)).trans hw800_0), ((HB.out.cell (World.block_lt_of_cell? w _ hw800_1)).trans hw800_1), ((HB.out.cell (World.block_lt_of_cell? w _ hw801_0)).trans hw801_0), ((HB.out.cell (World.block_lt_of_cell? w _ hw801_1)).trans hw801_1)⟩ (fun hHeld => ?_); refine with_tabW laws_eqMarkS.tab6 laws_eqMarkS.bits6 (fun HT_ HW_ => ?_)
        generalize wr.drew = w9 at HB hx800_0 hx800_1 hx801_0 hx801_1 hHeld ⊢
        refine pu_ 0 17 #[true, false, false, false, false, false, false, false, false, false] HT_.out ?_
        refine pu_ 1 18 #[true, true, false, false, false, false, false, false, false, false] HT_.out ?_
        refine pu_ 2 19 #[true, true, true, false, false, false, false, false, false, false] HT_.out ?_
        refine pu_ 4 21 #[true, true, true, false, true, false, false, false, false, false] HT_.out ?_
        refine pu_ 5 22 #[true, true, true, false, true, true, false, false, false, false] HT_.out ?_
        refine pu_ 6 23 #[true, true, true, false, true, true, true, false, false, false] HT_.out ?_
        refine tk4_ 3 20 #[true, true, true, true, true, true, true, false, false, false] HT_.out HW_.out hHeld ?_
        refine tk4_ 7 24 #[true, true, true, true, true, true, true, true, false, false] HT_.out HW_.out hHeld ?_
        refine one_ (i := 8) (N := some 25) #[true, true, true, true, true, true, true, true, true, false] rfl rfl (one_of HT_.out (by kernel_rfl)) (by decide) (fun K hK => ?_)
        refine goes_ Try.func129 (by kernel_rfl) rfl #[.agg #[.int .i64 ((rd_T33 l0 x5_1).f0), .int .i64 ((rd_T33 l0 x5_1).f1)], .agg #[.int .i64 ((rd_T33 l1 x5_1).f0), .int .i64 ((rd_T33 l1 x5_1).f1)]] (by rfl) rfl rfl (z0_) ?_
        with_reducible refine (laws_eqMark.calls ((rd_T33 l0 x5_1).f0) ((rd_T33 l0 x5_1).f1) ((rd_T33 l1 x5_1).f0) ((rd_T33 l1 x5_1).f1) true _ A7.out).mono ?_
        rintro e w10 ⟨rfl, hb⟩
        refine ⟨_, rfl, ?_⟩
        have n0_ := Aside0.mk (below_step (z5_ HB.out) hb)
        clear HB
        have HB := n0_
        clear n0_
        (try clear hb)
        (try clear hb2)
        (try clear hk)
        (try clear hi)
        refine hK.out _ _ ⟨((HB.out.cell (World.block_lt_of_cell? w _ hw800_0)).trans hw800_0), ((HB.out.cell (World.block_lt_of_cell? w _ hw800_1)).trans hw800_1), ((HB.out.cell (World.block_lt_of_cell? w _ hw801_0)).trans hw801_0), ((HB.out.cell (World.block_lt_of_cell? w _ hw801_1)).trans hw801_1)⟩ (fun hHeld => ?_)
        clear hK K
        refine norm_ (a' := ?_) ?_ ?_
        rotate_left
        ·show Act.put _ (some 25) _ = _
         simp only [Act.put, sa_, s0_, ss_, i64_w, i32_w]
         rfl
        refine pu_ 9 26 #[true, true, true, true, true, true, true, true, true, true] HT_.out ?_
        refine done_ (done_of HT_.out (by kernel_rfl)) ?_
        try go_wp2
        go_roundg k1
        case measure => have := HK1.out; omega
        case rel => exact ⟨(wrap64 (x5_1 + 1)), (z2_), H', ⟨by have := HK1.out; omega⟩, ⟨z5_ HB.out⟩⟩
       ·replace c8 := Bool.eq_false_iff.mpr c8
        subst c8
        have H1 : (none) = some r := by rw [if_neg (show ¬ (false = true) by decide)] at H; exact H
        clear H
        have H := H1
        clear H1
        exact absurd H (by simp)
      ·rw [if_neg c6] at H
       exact absurd H (by simp)
     ·rw [if_neg c5] at H
      exact absurd H (by simp)
    ·rw [if_neg c4] at H
     have c4b0 : decide (x5_1 < (l0.length : Int)) = false := decide_eq_false c4
     clear c4
     obtain rfl := Option.some.inj H
     go_wp2
     go_ret
     exact ⟨z8_, z5_ HB.out⟩
 ·rw [if_neg c3] at H
  exact absurd H (by simp)


/-! ### laws_eqSib: function 175 -/
def laws_eqSib.f (a0_0 : Int) (a0_1 : Int) (a0_2 : Bool) (a0_3 : ByteArray) (a1_0 : Int) (a1_1 : Int) (a1_2 : Bool) (a1_3 : ByteArray) : Option (Bool) := (laws_eqMark.f a0_0 a0_1 a1_0 a1_1).bind fun t805 => (if t805 = true then (if (a0_2 != a1_2) = true then (none) else (if a0_3.toList = a1_3.toList then (some true) else (none))) else (none))
set_option maxHeartbeats 8000000 in
set_option maxRecDepth 100000 in
theorem laws_eqSib.calls (a0_0 : Int) (a0_1 : Int) (a0_2 : Bool) (a0_3 : ByteArray) (a1_0 : Int) (a1_1 : Int) (a1_2 : Bool) (a1_3 : ByteArray) (r : Bool) (w : World) (h : laws_eqSib.f a0_0 a0_1 a0_2 a0_3 a1_0 a1_1 a1_2 a1_3 = some r) :
  Calls Try.prog 175 #[.agg #[.int .i64 a0_0, .int .i64 a0_1, .bool a0_2, .string a0_3], .agg #[.int .i64 a1_0, .int .i64 a1_1, .bool a1_2, .string a1_3]] w fun e w' => e = .returned (.bool r) ∧ Below w.heap.size w w' := by
 have hu158 := Try.underlying158
 have hu33 := Try.underlying33
 have HB := Aside0.mk (Below.refl w.heap.size w)
 have H : ((laws_eqMark.f a0_0 a0_1 a1_0 a1_1).bind fun t805 => (if t805 = true then (if (a0_2 != a1_2) = true then (none) else (if a0_3.toList = a1_3.toList then (some true) else (none))) else (none))) = some r := h
 clear h
 replace H := Option.bind_eq_some_iff.mp H
 obtain ⟨t805, A30, H⟩ := H
 replace H : (if t805 = true then (if (a0_2 != a1_2) = true then (none) else (if a0_3.toList = a1_3.toList then (some true) else (none))) else (none)) = some r := H
 have A3 := Aside0.mk A30
 clear A30
 by_cases c4 : t805 = true
 ·subst c4
  have H1 : (if (a0_2 != a1_2) = true then (none) else (if a0_3.toList = a1_3.toList then (some true) else (none))) = some r := by rw [if_pos rfl] at H; exact H
  clear H
  have H := H1
  clear H1
  by_cases c5 : (a0_2 != a1_2) = true
  ·rw [if_pos c5] at H
   exact absurd H (by simp)
  ·rw [if_neg c5] at H
   have c5b0 : (a0_2 != a1_2) = false := by simpa using c5
   (try (have c5b1 : decide (a0_2 = a1_2) = true := by simpa using c5))
   (try (have c5b2 : (a0_2 == a1_2) = true := by simpa using c5))
   clear c5
   by_cases c6 : a0_3.toList = a1_3.toList
   ·rw [if_pos c6] at H
    have c6b0 : (a0_3.toList == a1_3.toList) = true := beq_iff_eq.mpr c6
    have c6b1 : (a0_3.toList != a1_3.toList) = false := bne_eq_false_iff_eq.mpr c6
    clear c6
    obtain rfl := Option.some.inj H
    go_enter Try.func175, Try.ntmps175
    go_wp2_with (first | ((with_reducible refine gate_dst (N := 2) rfl ?_); refine box_event ?hg (N := 2) ?hd (cs := #[.int .i64 a0_0, .int .i64 a0_1, .bool a0_2, .string a0_3]) (t := 158) ?hr ?_; (case hd => rfl); (case hg => rfl); (case hr => first | (go_simp; done) | (go_simp; rfl)); intro gb803 hg w7 hbox hb; have n_ := as4_ (below_step (z5_ HB.out) hb) (hbox) ((z7_ HB.out : w.heap.size ≤ gb803)) ((z7_ HB.out : w.heap.size ≤ gb803)); clear HB; have ⟨HB, BK803, GW803, GE803⟩ := n_; clear n_; clear hb hbox hg) | ((with_reducible refine gate_dst (N := 3) rfl ?_); refine box_event ?hg (N := 3) ?hd (cs := #[.int .i64 a1_0, .int .i64 a1_1, .bool a1_2, .string a1_3]) (t := 158) ?hr ?_; (case hd => rfl); (case hg => rfl); (case hr => first | (go_simp; done) | (go_simp; rfl)); intro gb804 hg w8 hbox hb; have n_ := as7_ (blkB_ BK803.out hb) (below_step (z1_ HB.out GE803.out) hb) (hbox) ((z10_ HB.out GE803.out : w.heap.size ≤ gb804)) ((z10_ HB.out GE803.out : w.heap.size ≤ gb804)) (neL_ BK803.out hg) (neG_ BK803.out hg); clear BK803 HB; have ⟨BK803, HB, BK804, GW804, GE804, NB803_804, NB804_803⟩ := n_; clear n_; clear hb hbox hg; have hnb9 := NB803_804.out; have hnc9 := NB804_803.out; have ⟨hcz10_0, hcz10_1, hcz10_2, hcz10_3, hfz10_0, hfz10_1, hfz10_2, hfz10_3⟩ := cz4_ BK803.out; have hcz11_0 : w8.cell? ⟨gb804, 0, none⟩ = some (.int .i64 a1_0) := (blk_cell BK804.out 0).trans rfl; have hcz11_1 : w8.cell? ⟨gb804, 1, none⟩ = some (.int .i64 a1_1) := (blk_cell BK804.out 1).trans rfl; have hcz11_2 : w8.cell? ⟨gb804, 2, none⟩ = some (.bool a1_2) := (blk_cell BK804.out 2).trans rfl; have hcz11_3 : w8.cell? ⟨gb804, 3, none⟩ = some (.string a1_3) := (blk_cell BK804.out 3).trans rfl; have hfz11_0 := blk_frozen BK804.out 0; have hfz11_1 := blk_frozen BK804.out 1; have hfz11_2 := blk_frozen BK804.out 2; have hfz11_3 := blk_frozen BK804.out 3) | ((with_reducible refine gate_callee (f := 129) rfl ?_); refine goesL_ (some 9) rfl rfl Try.func129 (by kernel_rfl) rfl #[.agg #[.int .i64 a0_0, .int .i64 a0_1], .agg #[.int .i64 a1_0, .int .i64 a1_1]] rfl (z0_) ?_; (with_reducible refine (laws_eqMark.calls a0_0 a0_1 a1_0 a1_1 true _ A3.out).mono ?_); rintro e w12 ⟨rfl, hb⟩; refine ⟨_, rfl, ?_⟩; have n_ := as3_ (blkB_ BK803.out hb) (blkB_ BK804.out hb) (below_step (z6_ HB.out GE803.out GE804.out) hb); clear BK803 BK804 HB; have ⟨BK803, BK804, HB⟩ := n_; clear n_; (try clear hb); (try clear hb2); (try clear hk); (try clear hi); have ⟨hcz13_0, hcz13_1, hcz13_2, hcz13_3, hfz13_0, hfz13_1, hfz13_2, hfz13_3⟩ := cz4_ BK803.out; have hcz14_0 : w12.cell? ⟨gb804, 0, none⟩ = some (.int .i64 a1_0) := (blk_cell BK804.out 0).trans rfl; have hcz14_1 : w12.cell? ⟨gb804, 1, none⟩ = some (.int .i64 a1_1) := (blk_cell BK804.out 1).trans rfl; have hcz14_2 : w12.cell? ⟨gb804, 2, none⟩ = some (.bool a1_2) := (blk_cell BK804.out 2).trans rfl; have hcz14_3 : w12.cell? ⟨gb804, 3, none⟩ = some (.string a1_3) := (blk_cell BK804.out 3).trans rfl; have hfz14_0 := blk_frozen BK804.out 0; have hfz14_1 := blk_frozen BK804.out 1; have hfz14_2 := blk_frozen BK804.out 2; have hfz14_3 := blk_frozen BK804.out 3))
    go_ret
    exact ⟨z8_, z6_ HB.out GE803.out GE804.out⟩
   ·rw [if_neg c6] at H
    exact absurd H (by simp)
 ·replace c4 := Bool.eq_false_iff.mpr c4
  subst c4
  have H1 : (none) = some r := by rw [if_neg (show ¬ (false = true) by decide)] at H; exact H
  clear H
  have H := H1
  clear H1
  exact absurd H (by simp)


/-! ### laws_eqSibS: function 112 -/
def laws_eqSibS.l0 : Nat → List (S158) → List (S158) → Int → Option (Bool)
 | 0, _, _, _ => none
 | k + 1, x0, x1, x5 => if x5 < (x0.length : Int) then (if 0 ≤ x5 then (if x5 < (x1.length : Int) then ((laws_eqSib.f ((rd_T158 x0 x5).f0.f0) ((rd_T158 x0 x5).f0.f1) ((rd_T158 x0 x5).f1) ((rd_T158 x0 x5).f2) ((rd_T158 x1 x5).f0.f0) ((rd_T158 x1 x5).f0.f1) ((rd_T158 x1 x5).f1) ((rd_T158 x1 x5).f2)).bind fun t808 => (if t808 = true then (laws_eqSibS.l0 k x0 x1 (wrap64 (x5 + 1))) else (none))) else (none)) else (none)) else (some true)
def laws_eqSibS.f (k : Nat) (l0 : List (S158)) (l1 : List (S158)) : Option (Bool) := if (l0.length : Int) = (l1.length : Int) then (laws_eqSibS.l0 k l0 l1 0) else (none)
theorem laws_eqSibS.mono_l : ∀ k, (∀ y0 y1 y2, LeO (laws_eqSibS.l0 k y0 y1 y2) (laws_eqSibS.l0 (k + 1) y0 y1 y2))
 | 0 => fun _ _ _ r h => by simp [laws_eqSibS.l0] at h
 | k + 1 => by
  have ih0 := laws_eqSibS.mono_l k
  ·intro y0 y1 y2
   unfold laws_eqSibS.l0
   repeat' first
   | (with_reducible exact ih0 _ _ _)
   | (with_reducible exact LeO.refl _)
   | (with_reducible exact LeO.none _)
   | (with_reducible refine LeO.ite ?_ ?_)
   | (with_reducible refine LeO.bind ?_ (fun _ => ?_))
   | exact ih0 _ _ _
   | exact LeO.none _
   | refine LeO.ite ?_ ?_
   | refine LeO.bind ?_ (fun _ => ?_)
theorem laws_eqSibS.mono : ∀ a0 a1 k, LeO (laws_eqSibS.f k a0 a1) (laws_eqSibS.f (k + 1) a0 a1) := by
 intro a0 a1 k
 have ih0 := laws_eqSibS.mono_l k
 unfold laws_eqSibS.f
 repeat' first
   | (with_reducible exact ih0 _ _ _)
   | (with_reducible exact LeO.refl _)
   | (with_reducible exact LeO.none _)
   | (with_reducible refine LeO.ite ?_ ?_)
   | (with_reducible refine LeO.bind ?_ (fun _ => ?_))
   | exact ih0 _ _ _
   | exact LeO.none _
   | refine LeO.ite ?_ ?_
   | refine LeO.bind ?_ (fun _ => ?_)
def laws_eqSibS.T6 : Bool × List (List Nat × List Nat) := (true, [([], []), ([], []), ([0, 1], [0, 1]), ([2], [2]), ([], []), ([], []), ([4, 5], [4, 5]), ([6], [6]), ([3, 7], [3, 7]), ([8], [8])])
def laws_eqSibS.B6 : List Nat := [0, 0, 3, 7, 0, 0, 48, 112, 255, 511]
theorem laws_eqSibS.tab6 : rtab .any (opsOf Try.f112 6) = laws_eqSibS.T6 := by kernel_rfl
theorem laws_eqSibS.bits6 : waitsOk laws_eqSibS.T6.2 laws_eqSibS.B6 = true := by kernel_rfl
set_option maxHeartbeats 8000000 in
set_option maxRecDepth 100000 in
theorem laws_eqSibS.calls (k : Nat) (A0 : Option Addr) (c0 : Nat) (l0 : List (S158)) (A1 : Option Addr) (c1 : Nat) (l1 : List (S158)) (r : Bool) (w : World) (hr0 : Kd.C k158 w A0 l0.length l0) (hc0 : l0.length ≤ c0) (hr1 : Kd.C k158 w A1 l1.length l1) (hc1 : l1.length ≤ c1) (h : laws_eqSibS.f k l0 l1 = some r) :
  Calls Try.prog 112 #[.slice A0 l0.length c0, .slice A1 l1.length c1] w fun e w' => e = .returned (.bool r) ∧ Below w.heap.size w w' := by
 have hu158 := Try.underlying158
 have HR0 := Aside0.mk hr0
 have HC0 := Aside0.mk hc0
 clear hr0 hc0
 have HR1 := Aside0.mk hr1
 have HC1 := Aside0.mk hc1
 clear hr1 hc1
 have HB := Aside0.mk (Below.refl w.heap.size w)
 have H : (if (l0.length : Int) = (l1.length : Int) then (laws_eqSibS.l0 k l0 l1 0) else (none)) = some r := h
 clear h
 by_cases c3 : (l0.length : Int) = (l1.length : Int)
 ·rw [if_pos c3] at H
  have c3b0 : ((l0.length : Int) == (l1.length : Int)) = true := beq_iff_eq.mpr c3
  have c3b1 : ((l0.length : Int) != (l1.length : Int)) = false := bne_eq_false_iff_eq.mpr c3
  have c3b2 : (l0.length == l1.length) = true := by first | simpa using c3 | (simp at c3 ⊢; omega)
  clear c3
  have H' := Aside0.mk H
  clear H
  go_enter Try.func112, Try.ntmps112
  go_wp2
  go_loopg [5] k (fun kq v5 w' => ∃ (x5_1 : Int), v5 = .int .i64 x5_1 ∧ Aside0 (laws_eqSibS.l0 kq l0 l1 x5_1 = some r) ∧ Aside0 (kq ≤ k) ∧ Aside0 (Below w.heap.size w w'))
  case atStart => exact ⟨(0), (z2_), H', ⟨Nat.le_refl _⟩, ⟨z5_ HB.out⟩⟩
  case round =>
   clear H'
   try clear c1
   try clear p2
   try clear c3
   try clear c3b0
   try clear c3b1
   try clear c3b2
   obtain ⟨x5_1, rfl, HA, HK1, HB⟩ := hrel
   cases gk with
   | zero => exact absurd HA.out (by simp [laws_eqSibS.l0])
   | succ k1 =>
    have H := HA.out
    clear HA
    simp only [laws_eqSibS.l0] at H
    by_cases c4 : x5_1 < (l0.length : Int)
    ·rw [if_pos c4] at H
     have c4b0 : decide (x5_1 < (l0.length : Int)) = true := decide_eq_true c4
     clear c4
     by_cases c5 : 0 ≤ x5_1
     ·rw [if_pos c5] at H
      have c5b0 : decide (0 ≤ x5_1) = true := decide_eq_true c5
      clear c5
      by_cases c6 : x5_1 < (l1.length : Int)
      ·rw [if_pos c6] at H
       have c6b0 : decide (x5_1 < (l1.length : Int)) = true := decide_eq_true c6
       clear c6
       replace H := Option.bind_eq_some_iff.mp H
       obtain ⟨t808, A70, H⟩ := H
       replace H : (if t808 = true then (laws_eqSibS.l0 k1 l0 l1 (wrap64 (x5_1 + 1))) else (none)) = some r := H
       have A7 := Aside0.mk A70
       clear A70
       by_cases c8 : t808 = true
       ·subst c8
        have H1 : (laws_eqSibS.l0 k1 l0 l1 (wrap64 (x5_1 + 1))) = some r := by rw [if_pos rfl] at H; exact H
        clear H
        have H := H1
        clear H1
        have H' := Aside0.mk H
        clear H
        try go_wp2
        have n0_ := Aside0.mk (below_drew1 HB.out)
        clear HB
        have HB := n0_
        clear n0_
        have p806 : 0 ≤ (x5_1 : Int) := of_decide_eq_true (z3_)
        have q806 : x5_1 < (l0.length : Int) := of_decide_eq_true (z3_)
        obtain ⟨ad806, e806, hx806_0, hx806_1, hx806_2, hx806_3⟩ := at_T158 HR0.out x5_1 p806 q806
        have hw806_3 := hx806_3
        have hw806_2 := hx806_2
        have hw806_1 := hx806_1
        have hw806_0 := hx806_0
        cases e806
        replace hx806_0 := (HB.out.cell (World.block_lt_of_cell? w _ hx806_0)).trans hx806_0
        replace hx806_1 := (HB.out.cell (World.block_lt_of_cell? w _ hx806_1)).trans hx806_1
        replace hx806_2 := (HB.out.cell (World.block_lt_of_cell? w _ hx806_2)).trans hx806_2
        replace hx806_3 := (HB.out.cell (World.block_lt_of_cell? w _ hx806_3)).trans hx806_3
        replace p806 := eq_true p806
        replace q806 := eq_true q806
        have p807 : 0 ≤ (x5_1 : Int) := of_decide_eq_true (z3_)
        have q807 : x5_1 < (l1.length : Int) := of_decide_eq_true (z3_)
        obtain ⟨ad807, e807, hx807_0, hx807_1, hx807_2, hx807_3⟩ := at_T158 HR1.out x5_1 p807 q807
        have hw807_3 := hx807_3
        have hw807_2 := hx807_2
        have hw807_1 := hx807_1
        have hw807_0 := hx807_0
        cases e807
        replace hx807_0 := (HB.out.cell (World.block_lt_of_cell? w _ hx807_0)).trans hx807_0
        replace hx807_1 := (HB.out.cell (World.block_lt_of_cell? w _ hx807_1)).trans hx807_1
        replace hx807_2 := (HB.out.cell (World.block_lt_of_cell? w _ hx807_2)).trans hx807_2
        replace hx807_3 := (HB.out.cell (World.block_lt_of_cell? w _ hx807_3)).trans hx807_3
        replace p807 := eq_true p807
        replace q807 := eq_true q807
        refine start_ (n := 10) (S := fun w' => w'.cell? (ad806.add ((x5_1).toNat * 4)) = some (.int .i64 ((rd_T158 l0 x5_1).f0.f0)) ∧ w'.cell? ⟨(ad806.add ((x5_1).toNat * 4)).block, (ad806.add ((x5_1).toNat * 4)).off + 1, none⟩ = some (.int .i64 ((rd_T158 l0 x5_1).f0.f1)) ∧ w'.cell? ⟨(ad806.add ((x5_1).toNat * 4)).block, (ad806.add ((x5_1).toNat * 4)).off + 2, none⟩ = some (.bool ((rd_T158 l0 x5_1).f1)) ∧ w'.cell? ⟨(ad806.add ((x5_1).toNat * 4)).block, (ad806.add ((x5_1).toNat * 4)).off + 3, none⟩ = some (.string ((rd_T158 l0 x5_1).f2)) ∧ w'.cell? (ad807.add ((x5_1).toNat * 4)) = some (.int .i64 ((rd_T158 l1 x5_1).f0.f0)) ∧ w'.cell? ⟨(ad807.add ((x5_1).toNat * 4)).block, (ad807.add ((x5_1).toNat * 4)).off + 1, none⟩ = some (.int .i64 ((rd_T158 l1 x5_1).f0.f1)) ∧ w'.cell? ⟨(ad807.add ((x5_1).toNat * 4)).block, (ad807.add ((x5_1).toNat * 4)).off + 2, none⟩ = some (.bool ((rd_T158 l1 x5_1).f1)) ∧ w'.cell? ⟨(ad807.add ((x5_1).toNat * 4)).block, (ad807.add ((x5_1).toNat * 4)).off + 3, none⟩ = some (.string ((rd_T158 l1 x5_1).f2))) (ds := []) #[false, false, false, false, false, false, false, false, false, false] (by kernel_rfl) rfl rfl ⟨((HB.out.cell (World.block_lt_of_cell? w _ hw806_0)).trans hw806_0), ((HB.out.cell (World.block_lt_of_cell? w _ hw806_1)).trans hw806_1), ((HB.out.cell (World.block_lt_of_cell? w _ hw806_2)).trans hw806_2), ((HB.out.cell (World.block_lt_of_cell? w _ hw806_3)).trans hw806_3), ((HB.out.cell (World.block_lt_of_cell? w _ hw807_0)).trans hw807_0), ((HB.out.cell (World.block_lt_of_cell? w _ hw807_1)).trans hw807_1), ((HB.out.cell (World.block_lt_of_cell? w _ hw807_2)).trans hw807_2), ((HB.out.cell (World.block_lt_of_cell? w _ hw807_3)).trans hw807_3)⟩ (fun hHeld => ?_); refine with_tabW laws_eqSibS.tab6 laws_eqSibS.bits6 (fun HT_ HW_ => ?_)
        generalize wr.drew = w9 at HB hx806_0 hx806_1 hx806_2 hx806_3 hx807_0 hx807_1 hx807_2 hx807_3 hHeld ⊢
        refine pu_ 0 17 #[true, false, false, false, false, false, false, false, false, false] HT_.out ?_
        refine pu_ 1 18 #[true, true, false, false, false, false, false, false, false, false] HT_.out ?_
        refine pu_ 2 19 #[true, true, true, false, false, false, false, false, false, false] HT_.out ?_
        refine pu_ 4 21 #[true, true, true, false, true, false, false, false, false, false] HT_.out ?_
        refine pu_ 5 22 #[true, true, true, false, true, true, false, false, false, false] HT_.out ?_
        refine pu_ 6 23 #[true, true, true, false, true, true, true, false, false, false] HT_.out ?_
        refine tk8_ 3 20 #[true, true, true, true, true, true, true, false, false, false] HT_.out HW_.out hHeld ?_
        refine tk8_ 7 24 #[true, true, true, true, true, true, true, true, false, false] HT_.out HW_.out hHeld ?_
        refine one_ (i := 8) (N := some 25) #[true, true, true, true, true, true, true, true, true, false] rfl rfl (one_of HT_.out (by kernel_rfl)) (by decide) (fun K hK => ?_)
        refine goes_ Try.func175 (by kernel_rfl) rfl #[.agg #[.int .i64 ((rd_T158 l0 x5_1).f0.f0), .int .i64 ((rd_T158 l0 x5_1).f0.f1), .bool ((rd_T158 l0 x5_1).f1), .string ((rd_T158 l0 x5_1).f2)], .agg #[.int .i64 ((rd_T158 l1 x5_1).f0.f0), .int .i64 ((rd_T158 l1 x5_1).f0.f1), .bool ((rd_T158 l1 x5_1).f1), .string ((rd_T158 l1 x5_1).f2)]] (by rfl) rfl rfl (z0_) ?_
        with_reducible refine (laws_eqSib.calls ((rd_T158 l0 x5_1).f0.f0) ((rd_T158 l0 x5_1).f0.f1) ((rd_T158 l0 x5_1).f1) ((rd_T158 l0 x5_1).f2) ((rd_T158 l1 x5_1).f0.f0) ((rd_T158 l1 x5_1).f0.f1) ((rd_T158 l1 x5_1).f1) ((rd_T158 l1 x5_1).f2) true _ A7.out).mono ?_
        rintro e w10 ⟨rfl, hb⟩
        refine ⟨_, rfl, ?_⟩
        have n0_ := Aside0.mk (below_step (z5_ HB.out) hb)
        clear HB
        have HB := n0_
        clear n0_
        (try clear hb)
        (try clear hb2)
        (try clear hk)
        (try clear hi)
        refine hK.out _ _ ⟨((HB.out.cell (World.block_lt_of_cell? w _ hw806_0)).trans hw806_0), ((HB.out.cell (World.block_lt_of_cell? w _ hw806_1)).trans hw806_1), ((HB.out.cell (World.block_lt_of_cell? w _ hw806_2)).trans hw806_2), ((HB.out.cell (World.block_lt_of_cell? w _ hw806_3)).trans hw806_3), ((HB.out.cell (World.block_lt_of_cell? w _ hw807_0)).trans hw807_0), ((HB.out.cell (World.block_lt_of_cell? w _ hw807_1)).trans hw807_1), ((HB.out.cell (World.block_lt_of_cell? w _ hw807_2)).trans hw807_2), ((HB.out.cell (World.block_lt_of_cell? w _ hw807_3)).trans hw807_3)⟩ (fun hHeld => ?_)
        clear hK K
        refine norm_ (a' := ?_) ?_ ?_
        rotate_left
        ·show Act.put _ (some 25) _ = _
         simp only [Act.put, sa_, s0_, ss_, i64_w, i32_w]
         rfl
        refine pu_ 9 26 #[true, true, true, true, true, true, true, true, true, true] HT_.out ?_
        refine done_ (done_of HT_.out (by kernel_rfl)) ?_
        try go_wp2
        go_roundg k1
        case measure => have := HK1.out; omega
        case rel => exact ⟨(wrap64 (x5_1 + 1)), (z2_), H', ⟨by have := HK1.out; omega⟩, ⟨z5_ HB.out⟩⟩
       ·replace c8 := Bool.eq_false_iff.mpr c8
        subst c8
        have H1 : (none) = some r := by rw [if_neg (show ¬ (false = true) by decide)] at H; exact H
        clear H
        have H := H1
        clear H1
        exact absurd H (by simp)
      ·rw [if_neg c6] at H
       exact absurd H (by simp)
     ·rw [if_neg c5] at H
      exact absurd H (by simp)
    ·rw [if_neg c4] at H
     have c4b0 : decide (x5_1 < (l0.length : Int)) = false := decide_eq_false c4
     clear c4
     obtain rfl := Option.some.inj H
     go_wp2
     go_ret
     exact ⟨z8_, z5_ HB.out⟩
 ·rw [if_neg c3] at H
  exact absurd H (by simp)


/-! ### laws_eqSet: function 47 -/
def laws_eqSet.f (k : Nat) (l0_0 : List (S33)) (l0_1 : List (S158)) (l1_0 : List (S33)) (l1_1 : List (S158)) : Option (Bool) := (laws_eqMarkS.f k l0_0 l1_0).bind fun t811 => (if t811 = true then ((laws_eqSibS.f k l0_1 l1_1).bind fun t812 => (if t812 = true then (some true) else (none))) else (none))
theorem laws_eqSet.mono : ∀ a0 a1 a2 a3 k, LeO (laws_eqSet.f k a0 a1 a2 a3) (laws_eqSet.f (k + 1) a0 a1 a2 a3) := by
 intro a0 a1 a2 a3 k
 unfold laws_eqSet.f
 repeat' first
   | (with_reducible exact laws_eqMarkS.mono _ _ _)
   | (with_reducible exact laws_eqSibS.mono _ _ _)
   | (with_reducible exact LeO.refl _)
   | (with_reducible exact LeO.none _)
   | (with_reducible refine LeO.ite ?_ ?_)
   | (with_reducible refine LeO.bind ?_ (fun _ => ?_))
   | exact laws_eqMarkS.mono _ _ _
   | exact laws_eqSibS.mono _ _ _
   | exact LeO.none _
   | refine LeO.ite ?_ ?_
   | refine LeO.bind ?_ (fun _ => ?_)
set_option maxHeartbeats 8000000 in
set_option maxRecDepth 100000 in
theorem laws_eqSet.calls (k : Nat) (A0_0 : Option Addr) (c0_0 : Nat) (l0_0 : List (S33)) (A0_1 : Option Addr) (c0_1 : Nat) (l0_1 : List (S158)) (A1_0 : Option Addr) (c1_0 : Nat) (l1_0 : List (S33)) (A1_1 : Option Addr) (c1_1 : Nat) (l1_1 : List (S158)) (r : Bool) (w : World) (hr0_0 : Kd.C k33 w A0_0 l0_0.length l0_0) (hc0_0 : l0_0.length ≤ c0_0) (hr0_1 : Kd.C k158 w A0_1 l0_1.length l0_1) (hc0_1 : l0_1.length ≤ c0_1) (hr1_0 : Kd.C k33 w A1_0 l1_0.length l1_0) (hc1_0 : l1_0.length ≤ c1_0) (hr1_1 : Kd.C k158 w A1_1 l1_1.length l1_1) (hc1_1 : l1_1.length ≤ c1_1) (h : laws_eqSet.f k l0_0 l0_1 l1_0 l1_1 = some r) :
  Calls Try.prog 47 #[.agg #[.slice A0_0 l0_0.length c0_0, .slice A0_1 l0_1.length c0_1], .agg #[.slice A1_0 l1_0.length c1_0, .slice A1_1 l1_1.length c1_1]] w fun e w' => e = .returned (.bool r) ∧ Below w.heap.size w w' := by
 have hu60 := Try.underlying60
 have HR0_0 := Aside0.mk hr0_0
 have HC0_0 := Aside0.mk hc0_0
 clear hr0_0 hc0_0
 have HR0_1 := Aside0.mk hr0_1
 have HC0_1 := Aside0.mk hc0_1
 clear hr0_1 hc0_1
 have HR1_0 := Aside0.mk hr1_0
 have HC1_0 := Aside0.mk hc1_0
 clear hr1_0 hc1_0
 have HR1_1 := Aside0.mk hr1_1
 have HC1_1 := Aside0.mk hc1_1
 clear hr1_1 hc1_1
 have HB := Aside0.mk (Below.refl w.heap.size w)
 have H : ((laws_eqMarkS.f k l0_0 l1_0).bind fun t811 => (if t811 = true then ((laws_eqSibS.f k l0_1 l1_1).bind fun t812 => (if t812 = true then (some true) else (none))) else (none))) = some r := h
 clear h
 replace H := Option.bind_eq_some_iff.mp H
 obtain ⟨t811, A30, H⟩ := H
 replace H : (if t811 = true then ((laws_eqSibS.f k l0_1 l1_1).bind fun t812 => (if t812 = true then (some true) else (none))) else (none)) = some r := H
 have A3 := Aside0.mk A30
 clear A30
 by_cases c4 : t811 = true
 ·subst c4
  have H1 : ((laws_eqSibS.f k l0_1 l1_1).bind fun t812 => (if t812 = true then (some true) else (none))) = some r := by rw [if_pos rfl] at H; exact H
  clear H
  have H := H1
  clear H1
  replace H := Option.bind_eq_some_iff.mp H
  obtain ⟨t812, A50, H⟩ := H
  replace H : (if t812 = true then (some true) else (none)) = some r := H
  have A5 := Aside0.mk A50
  clear A50
  by_cases c6 : t812 = true
  ·subst c6
   have H1 : (some true) = some r := by rw [if_pos rfl] at H; exact H
   clear H
   have H := H1
   clear H1
   obtain rfl := Option.some.inj H
   go_enter Try.func47, Try.ntmps47
   go_wp2_with (first | ((with_reducible refine gate_dst (N := 2) rfl ?_); refine box_event ?hg (N := 2) ?hd (cs := #[.slice A0_0 l0_0.length c0_0, .slice A0_1 l0_1.length c0_1]) (t := 60) ?hr ?_; (case hd => rfl); (case hg => rfl); (case hr => first | (go_simp; done) | (go_simp; rfl)); intro gb809 hg w7 hbox hb; have n_ := as4_ (below_step (z5_ HB.out) hb) (hbox) ((z7_ HB.out : w.heap.size ≤ gb809)) ((z7_ HB.out : w.heap.size ≤ gb809)); clear HB; have ⟨HB, BK809, GW809, GE809⟩ := n_; clear n_; clear hb hbox hg) | ((with_reducible refine gate_dst (N := 3) rfl ?_); refine box_event ?hg (N := 3) ?hd (cs := #[.slice A1_0 l1_0.length c1_0, .slice A1_1 l1_1.length c1_1]) (t := 60) ?hr ?_; (case hd => rfl); (case hg => rfl); (case hr => first | (go_simp; done) | (go_simp; rfl)); intro gb810 hg w8 hbox hb; have n_ := as7_ (blkB_ BK809.out hb) (below_step (z1_ HB.out GE809.out) hb) (hbox) ((z10_ HB.out GE809.out : w.heap.size ≤ gb810)) ((z10_ HB.out GE809.out : w.heap.size ≤ gb810)) (neL_ BK809.out hg) (neG_ BK809.out hg); clear BK809 HB; have ⟨BK809, HB, BK810, GW810, GE810, NB809_810, NB810_809⟩ := n_; clear n_; clear hb hbox hg; have hnb9 := NB809_810.out; have hnc9 := NB810_809.out; have ⟨hcz10_0, hcz10_1, hfz10_0, hfz10_1⟩ := cz2_ BK809.out; have hcz11_0 : w8.cell? ⟨gb810, 0, none⟩ = some (.slice A1_0 l1_0.length c1_0) := (blk_cell BK810.out 0).trans rfl; have hcz11_1 : w8.cell? ⟨gb810, 1, none⟩ = some (.slice A1_1 l1_1.length c1_1) := (blk_cell BK810.out 1).trans rfl; have hfz11_0 := blk_frozen BK810.out 0; have hfz11_1 := blk_frozen BK810.out 1) | ((with_reducible refine gate_callee (f := 59) rfl ?_); refine goesL_ (some 9) rfl rfl Try.func59 (by kernel_rfl) rfl #[.slice A0_0 l0_0.length c0_0, .slice A1_0 l1_0.length c1_0] rfl (z0_) ?_; (with_reducible refine (laws_eqMarkS.calls k _ _ l0_0 _ _ l1_0 true _ ?side1 ?side2 ?side3 ?side4 A3.out).mono ?_); (case side1 => exact z12_ HR0_0.out HB.out); (case side2 => exact HC0_0.out); (case side3 => exact z12_ HR1_0.out HB.out); (case side4 => exact HC1_0.out); rintro e w12 ⟨rfl, hb⟩; refine ⟨_, rfl, ?_⟩; have n_ := as3_ (blkB_ BK809.out hb) (blkB_ BK810.out hb) (below_step (z6_ HB.out GE809.out GE810.out) hb); clear BK809 BK810 HB; have ⟨BK809, BK810, HB⟩ := n_; clear n_; (try clear hb); (try clear hb2); (try clear hk); (try clear hi); have ⟨hcz13_0, hcz13_1, hfz13_0, hfz13_1⟩ := cz2_ BK809.out; have hcz14_0 : w12.cell? ⟨gb810, 0, none⟩ = some (.slice A1_0 l1_0.length c1_0) := (blk_cell BK810.out 0).trans rfl; have hcz14_1 : w12.cell? ⟨gb810, 1, none⟩ = some (.slice A1_1 l1_1.length c1_1) := (blk_cell BK810.out 1).trans rfl; have hfz14_0 := blk_frozen BK810.out 0; have hfz14_1 := blk_frozen BK810.out 1) | ((with_reducible refine gate_callee (f := 112) rfl ?_); refine goesL_ (some 15) rfl rfl Try.func112 (by kernel_rfl) rfl #[.slice A0_1 l0_1.length c0_1, .slice A1_1 l1_1.length c1_1] rfl (z0_) ?_; (with_reducible refine (laws_eqSibS.calls k _ _ l0_1 _ _ l1_1 true _ ?side1 ?side2 ?side3 ?side4 A5.out).mono ?_); (case side1 => exact z12_ HR0_1.out HB.out); (case side2 => exact HC0_1.out); (case side3 => exact z12_ HR1_1.out HB.out); (case side4 => exact HC1_1.out); rintro e w15 ⟨rfl, hb⟩; refine ⟨_, rfl, ?_⟩; have n_ := as3_ (blkB_ BK809.out hb) (blkB_ BK810.out hb) (below_step (z6_ HB.out GE809.out GE810.out) hb); clear BK809 BK810 HB; have ⟨BK809, BK810, HB⟩ := n_; clear n_; (try clear hb); (try clear hb2); (try clear hk); (try clear hi)))
   go_ret
   exact ⟨z8_, z6_ HB.out GE809.out GE810.out⟩
  ·replace c6 := Bool.eq_false_iff.mpr c6
   subst c6
   have H1 : (none) = some r := by rw [if_neg (show ¬ (false = true) by decide)] at H; exact H
   clear H
   have H := H1
   clear H1
   exact absurd H (by simp)
 ·replace c4 := Bool.eq_false_iff.mpr c4
  subst c4
  have H1 : (none) = some r := by rw [if_neg (show ¬ (false = true) by decide)] at H; exact H
  clear H
  have H := H1
  clear H1
  exact absurd H (by simp)


/-! ### laws_eqSetOut: function 65 -/
def laws_eqSetOut.f (k : Nat) (l0_0 : List (S33)) (l0_1 : List (S158)) (a0_2 : Int) (a0_3 : Int) (a0_4 : Int) (l1_0 : List (S33)) (l1_1 : List (S158)) (a1_2 : Int) (a1_3 : Int) (a1_4 : Int) : Option (Bool) := (laws_eqSet.f k l0_0 l0_1 l1_0 l1_1).bind fun t1137 => (if t1137 = true then ((laws_eqMark.f a0_2 a0_3 a1_2 a1_3).bind fun t1138 => (if t1138 = true then (if a0_4 = a1_4 then (some true) else (none)) else (none))) else (none))
theorem laws_eqSetOut.mono : ∀ a0 a1 a2 a3 a4 a5 a6 a7 a8 a9 k, LeO (laws_eqSetOut.f k a0 a1 a2 a3 a4 a5 a6 a7 a8 a9) (laws_eqSetOut.f (k + 1) a0 a1 a2 a3 a4 a5 a6 a7 a8 a9) := by
 intro a0 a1 a2 a3 a4 a5 a6 a7 a8 a9 k
 unfold laws_eqSetOut.f
 repeat' first
   | (with_reducible exact laws_eqSet.mono _ _ _ _ _)
   | (with_reducible exact LeO.refl _)
   | (with_reducible exact LeO.none _)
   | (with_reducible refine LeO.ite ?_ ?_)
   | (with_reducible refine LeO.bind ?_ (fun _ => ?_))
   | exact laws_eqSet.mono _ _ _ _ _
   | exact LeO.none _
   | refine LeO.ite ?_ ?_
   | refine LeO.bind ?_ (fun _ => ?_)
set_option maxHeartbeats 8000000 in
set_option maxRecDepth 100000 in
theorem laws_eqSetOut.calls (k : Nat) (A0_0 : Option Addr) (c0_0 : Nat) (l0_0 : List (S33)) (A0_1 : Option Addr) (c0_1 : Nat) (l0_1 : List (S158)) (a0_2 : Int) (a0_3 : Int) (a0_4 : Int) (A1_0 : Option Addr) (c1_0 : Nat) (l1_0 : List (S33)) (A1_1 : Option Addr) (c1_1 : Nat) (l1_1 : List (S158)) (a1_2 : Int) (a1_3 : Int) (a1_4 : Int) (r : Bool) (w : World) (hr0_0 : Kd.C k33 w A0_0 l0_0.length l0_0) (hc0_0 : l0_0.length ≤ c0_0) (hr0_1 : Kd.C k158 w A0_1 l0_1.length l0_1) (hc0_1 : l0_1.length ≤ c0_1) (hr1_0 : Kd.C k33 w A1_0 l1_0.length l1_0) (hc1_0 : l1_0.length ≤ c1_0) (hr1_1 : Kd.C k158 w A1_1 l1_1.length l1_1) (hc1_1 : l1_1.length ≤ c1_1) (h : laws_eqSetOut.f k l0_0 l0_1 a0_2 a0_3 a0_4 l1_0 l1_1 a1_2 a1_3 a1_4 = some r) :
  Calls Try.prog 65 #[.agg #[.slice A0_0 l0_0.length c0_0, .slice A0_1 l0_1.length c0_1, .int .i64 a0_2, .int .i64 a0_3, .int .i64 a0_4], .agg #[.slice A1_0 l1_0.length c1_0, .slice A1_1 l1_1.length c1_1, .int .i64 a1_2, .int .i64 a1_3, .int .i64 a1_4]] w fun e w' => e = .returned (.bool r) ∧ Below w.heap.size w w' := by
 have hu87 := Try.underlying87
 have hu60 := Try.underlying60
 have hu33 := Try.underlying33
 have HR0_0 := Aside0.mk hr0_0
 have HC0_0 := Aside0.mk hc0_0
 clear hr0_0 hc0_0
 have HR0_1 := Aside0.mk hr0_1
 have HC0_1 := Aside0.mk hc0_1
 clear hr0_1 hc0_1
 have HR1_0 := Aside0.mk hr1_0
 have HC1_0 := Aside0.mk hc1_0
 clear hr1_0 hc1_0
 have HR1_1 := Aside0.mk hr1_1
 have HC1_1 := Aside0.mk hc1_1
 clear hr1_1 hc1_1
 have HB := Aside0.mk (Below.refl w.heap.size w)
 have H : ((laws_eqSet.f k l0_0 l0_1 l1_0 l1_1).bind fun t1137 => (if t1137 = true then ((laws_eqMark.f a0_2 a0_3 a1_2 a1_3).bind fun t1138 => (if t1138 = true then (if a0_4 = a1_4 then (some true) else (none)) else (none))) else (none))) = some r := h
 clear h
 replace H := Option.bind_eq_some_iff.mp H
 obtain ⟨t1137, A30, H⟩ := H
 replace H : (if t1137 = true then ((laws_eqMark.f a0_2 a0_3 a1_2 a1_3).bind fun t1138 => (if t1138 = true then (if a0_4 = a1_4 then (some true) else (none)) else (none))) else (none)) = some r := H
 have A3 := Aside0.mk A30
 clear A30
 by_cases c4 : t1137 = true
 ·subst c4
  have H1 : ((laws_eqMark.f a0_2 a0_3 a1_2 a1_3).bind fun t1138 => (if t1138 = true then (if a0_4 = a1_4 then (some true) else (none)) else (none))) = some r := by rw [if_pos rfl] at H; exact H
  clear H
  have H := H1
  clear H1
  replace H := Option.bind_eq_some_iff.mp H
  obtain ⟨t1138, A50, H⟩ := H
  replace H : (if t1138 = true then (if a0_4 = a1_4 then (some true) else (none)) else (none)) = some r := H
  have A5 := Aside0.mk A50
  clear A50
  by_cases c6 : t1138 = true
  ·subst c6
   have H1 : (if a0_4 = a1_4 then (some true) else (none)) = some r := by rw [if_pos rfl] at H; exact H
   clear H
   have H := H1
   clear H1
   by_cases c7 : a0_4 = a1_4
   ·rw [if_pos c7] at H
    have c7b0 : (a0_4 == a1_4) = true := beq_iff_eq.mpr c7
    have c7b1 : (a0_4 != a1_4) = false := bne_eq_false_iff_eq.mpr c7
    clear c7
    obtain rfl := Option.some.inj H
    go_enter Try.func65, Try.ntmps65
    go_wp2_with (first | ((with_reducible refine gate_dst (N := 2) rfl ?_); refine box_event ?hg (N := 2) ?hd (cs := #[.slice A0_0 l0_0.length c0_0, .slice A0_1 l0_1.length c0_1, .int .i64 a0_2, .int .i64 a0_3, .int .i64 a0_4]) (t := 87) ?hr ?_; (case hd => rfl); (case hg => rfl); (case hr => first | (go_simp; done) | (go_simp; rfl)); intro gb1135 hg w8 hbox hb; have n_ := as4_ (below_step (z5_ HB.out) hb) (hbox) ((z7_ HB.out : w.heap.size ≤ gb1135)) ((z7_ HB.out : w.heap.size ≤ gb1135)); clear HB; have ⟨HB, BK1135, GW1135, GE1135⟩ := n_; clear n_; clear hb hbox hg) | ((with_reducible refine gate_dst (N := 3) rfl ?_); refine box_event ?hg (N := 3) ?hd (cs := #[.slice A1_0 l1_0.length c1_0, .slice A1_1 l1_1.length c1_1, .int .i64 a1_2, .int .i64 a1_3, .int .i64 a1_4]) (t := 87) ?hr ?_; (case hd => rfl); (case hg => rfl); (case hr => first | (go_simp; done) | (go_simp; rfl)); intro gb1136 hg w9 hbox hb; have n_ := as7_ (blkB_ BK1135.out hb) (below_step (z1_ HB.out GE1135.out) hb) (hbox) ((z10_ HB.out GE1135.out : w.heap.size ≤ gb1136)) ((z10_ HB.out GE1135.out : w.heap.size ≤ gb1136)) (neL_ BK1135.out hg) (neG_ BK1135.out hg); clear BK1135 HB; have ⟨BK1135, HB, BK1136, GW1136, GE1136, NB1135_1136, NB1136_1135⟩ := n_; clear n_; clear hb hbox hg; have hnb10 := NB1135_1136.out; have hnc10 := NB1136_1135.out; have ⟨hcz11_0, hcz11_1, hcz11_2, hcz11_3, hcz11_4, hfz11_0, hfz11_1, hfz11_2, hfz11_3, hfz11_4⟩ := cz5_ BK1135.out; have hcz12_0 : w9.cell? ⟨gb1136, 0, none⟩ = some (.slice A1_0 l1_0.length c1_0) := (blk_cell BK1136.out 0).trans rfl; have hcz12_1 : w9.cell? ⟨gb1136, 1, none⟩ = some (.slice A1_1 l1_1.length c1_1) := (blk_cell BK1136.out 1).trans rfl; have hcz12_2 : w9.cell? ⟨gb1136, 2, none⟩ = some (.int .i64 a1_2) := (blk_cell BK1136.out 2).trans rfl; have hcz12_3 : w9.cell? ⟨gb1136, 3, none⟩ = some (.int .i64 a1_3) := (blk_cell BK1136.out 3).trans rfl; have hcz12_4 : w9.cell? ⟨gb1136, 4, none⟩ = some (.int .i64 a1_4) := (blk_cell BK1136.out 4).trans rfl; have hfz12_0 := blk_frozen BK1136.out 0; have hfz12_1 := blk_frozen BK1136.out 1; have hfz12_2 := blk_frozen BK1136.out 2; have hfz12_3 := blk_frozen BK1136.out 3; have hfz12_4 := blk_frozen BK1136.out 4) | ((with_reducible refine gate_callee (f := 47) rfl ?_); refine goesL_ (some 9) rfl rfl Try.func47 (by kernel_rfl) rfl #[.agg #[.slice A0_0 l0_0.length c0_0, .slice A0_1 l0_1.length c0_1], .agg #[.slice A1_0 l1_0.length c1_0, .slice A1_1 l1_1.length c1_1]] rfl (z0_) ?_; (with_reducible refine (laws_eqSet.calls k _ _ l0_0 _ _ l0_1 _ _ l1_0 _ _ l1_1 true _ ?side1 ?side2 ?side3 ?side4 ?side5 ?side6 ?side7 ?side8 A3.out).mono ?_); (case side1 => exact z12_ HR0_0.out HB.out); (case side2 => exact HC0_0.out); (case side3 => exact z12_ HR0_1.out HB.out); (case side4 => exact HC0_1.out); (case side5 => exact z12_ HR1_0.out HB.out); (case side6 => exact HC1_0.out); (case side7 => exact z12_ HR1_1.out HB.out); (case side8 => exact HC1_1.out); rintro e w13 ⟨rfl, hb⟩; refine ⟨_, rfl, ?_⟩; have n_ := as3_ (blkB_ BK1135.out hb) (blkB_ BK1136.out hb) (below_step (z6_ HB.out GE1135.out GE1136.out) hb); clear BK1135 BK1136 HB; have ⟨BK1135, BK1136, HB⟩ := n_; clear n_; (try clear hb); (try clear hb2); (try clear hk); (try clear hi); have ⟨hcz14_0, hcz14_1, hcz14_2, hcz14_3, hcz14_4, hfz14_0, hfz14_1, hfz14_2, hfz14_3, hfz14_4⟩ := cz5_ BK1135.out; have hcz15_0 : w13.cell? ⟨gb1136, 0, none⟩ = some (.slice A1_0 l1_0.length c1_0) := (blk_cell BK1136.out 0).trans rfl; have hcz15_1 : w13.cell? ⟨gb1136, 1, none⟩ = some (.slice A1_1 l1_1.length c1_1) := (blk_cell BK1136.out 1).trans rfl; have hcz15_2 : w13.cell? ⟨gb1136, 2, none⟩ = some (.int .i64 a1_2) := (blk_cell BK1136.out 2).trans rfl; have hcz15_3 : w13.cell? ⟨gb1136, 3, none⟩ = some (.int .i64 a1_3) := (blk_cell BK1136.out 3).trans rfl; have hcz15_4 : w13.cell? ⟨gb1136, 4, none⟩ = some (.int .i64 a1_4) := (blk_cell BK1136.out 4).trans rfl; have hfz15_0 := blk_frozen BK1136.out 0; have hfz15_1 := blk_frozen BK1136.out 1; have hfz15_2 := blk_frozen BK1136.out 2; have hfz15_3 := blk_frozen BK1136.out 3; have hfz15_4 := blk_frozen BK1136.out 4) | ((with_reducible refine gate_callee (f := 129) rfl ?_); refine goesL_ (some 15) rfl rfl Try.func129 (by kernel_rfl) rfl #[.agg #[.int .i64 a0_2, .int .i64 a0_3], .agg #[.int .i64 a1_2, .int .i64 a1_3]] rfl (z0_) ?_; (with_reducible refine (laws_eqMark.calls a0_2 a0_3 a1_2 a1_3 true _ A5.out).mono ?_); rintro e w16 ⟨rfl, hb⟩; refine ⟨_, rfl, ?_⟩; have n_ := as3_ (blkB_ BK1135.out hb) (blkB_ BK1136.out hb) (below_step (z6_ HB.out GE1135.out GE1136.out) hb); clear BK1135 BK1136 HB; have ⟨BK1135, BK1136, HB⟩ := n_; clear n_; (try clear hb); (try clear hb2); (try clear hk); (try clear hi); have ⟨hcz17_0, hcz17_1, hcz17_2, hcz17_3, hcz17_4, hfz17_0, hfz17_1, hfz17_2, hfz17_3, hfz17_4⟩ := cz5_ BK1135.out; have hcz18_0 : w16.cell? ⟨gb1136, 0, none⟩ = some (.slice A1_0 l1_0.length c1_0) := (blk_cell BK1136.out 0).trans rfl; have hcz18_1 : w16.cell? ⟨gb1136, 1, none⟩ = some (.slice A1_1 l1_1.length c1_1) := (blk_cell BK1136.out 1).trans rfl; have hcz18_2 : w16.cell? ⟨gb1136, 2, none⟩ = some (.int .i64 a1_2) := (blk_cell BK1136.out 2).trans rfl; have hcz18_3 : w16.cell? ⟨gb1136, 3, none⟩ = some (.int .i64 a1_3) := (blk_cell BK1136.out 3).trans rfl; have hcz18_4 : w16.cell? ⟨gb1136, 4, none⟩ = some (.int .i64 a1_4) := (blk_cell BK1136.out 4).trans rfl; have hfz18_0 := blk_frozen BK1136.out 0; have hfz18_1 := blk_frozen BK1136.out 1; have hfz18_2 := blk_frozen BK1136.out 2; have hfz18_3 := blk_frozen BK1136.out 3; have hfz18_4 := blk_frozen BK1136.out 4))
    go_ret
    exact ⟨z8_, z6_ HB.out GE1135.out GE1136.out⟩
   ·rw [if_neg c7] at H
    exact absurd H (by simp)
  ·replace c6 := Bool.eq_false_iff.mpr c6
   subst c6
   have H1 : (none) = some r := by rw [if_neg (show ¬ (false = true) by decide)] at H; exact H
   clear H
   have H := H1
   clear H1
   exact absurd H (by simp)
 ·replace c4 := Bool.eq_false_iff.mpr c4
  subst c4
  have H1 : (none) = some r := by rw [if_neg (show ¬ (false = true) by decide)] at H; exact H
  clear H
  have H := H1
  clear H1
  exact absurd H (by simp)


/-! ### laws_markMarkS: function 61 -/
def laws_markMarkS.l0 : Nat → List (S33) → Int → Int → Option (Int × (List (S33)))
 | 0, _, _, _ => none
 | k + 1, x0, x1, x5 => if x5 < (x0.length : Int) then (if 0 ≤ x5 then ((some (x0.set (x5 : Int).toNat (⟨x1, (rd_T33 x0 x5).f1⟩ : S33) : List (S33))).bind fun y819 => (laws_markMarkS.l0 k (y819.set (x5 : Int).toNat (⟨(rd_T33 y819 x5).f0, wrap64 (x1 + 1)⟩ : S33)) (wrap64 ((wrap64 (x1 + 1)) + 1)) (wrap64 (x5 + 1)))) else (none)) else (some (x1, x0))
def laws_markMarkS.f (k : Nat) (l0 : List (S33)) (a1 : Int) : Option (Int × (List (S33))) := laws_markMarkS.l0 k l0 a1 0
theorem laws_markMarkS.mono_l : ∀ k, (∀ y0 y1 y2, LeO (laws_markMarkS.l0 k y0 y1 y2) (laws_markMarkS.l0 (k + 1) y0 y1 y2))
 | 0 => fun _ _ _ r h => by simp [laws_markMarkS.l0] at h
 | k + 1 => by
  have ih0 := laws_markMarkS.mono_l k
  ·intro y0 y1 y2
   unfold laws_markMarkS.l0
   repeat' first
   | (with_reducible exact ih0 _ _ _)
   | (with_reducible exact LeO.refl _)
   | (with_reducible exact LeO.none _)
   | (with_reducible refine LeO.ite ?_ ?_)
   | (with_reducible refine LeO.bind ?_ (fun _ => ?_))
   | exact ih0 _ _ _
   | exact LeO.none _
   | refine LeO.ite ?_ ?_
   | refine LeO.bind ?_ (fun _ => ?_)
theorem laws_markMarkS.mono : ∀ a0 a1 k, LeO (laws_markMarkS.f k a0 a1) (laws_markMarkS.f (k + 1) a0 a1) := by
 intro a0 a1 k
 have ih0 := laws_markMarkS.mono_l k
 unfold laws_markMarkS.f
 repeat' first
   | (with_reducible exact ih0 _ _ _)
   | (with_reducible exact LeO.refl _)
   | (with_reducible exact LeO.none _)
   | (with_reducible refine LeO.ite ?_ ?_)
   | (with_reducible refine LeO.bind ?_ (fun _ => ?_))
   | exact ih0 _ _ _
   | exact LeO.none _
   | refine LeO.ite ?_ ?_
   | refine LeO.bind ?_ (fun _ => ?_)
set_option maxHeartbeats 8000000 in
set_option maxRecDepth 100000 in
theorem laws_markMarkS.calls (k : Nat) (P0_ : Nat → Prop) (u9000_ : Value) (l0 : List (S33)) (a1 : Int) (r1 : Int) (r2 : List (S33)) (w0 w : World) (hB : Below w0.heap.size w0 w) (ho0 : Kd.R k33 33 w w0.heap.size P0_ u9000_ l0) (h : laws_markMarkS.f k l0 a1 = some (r1, r2)) :
  Calls Try.prog 61 #[u9000_, .int .i64 a1] w fun e w' => e = .returned (.int .i64 r1) ∧ Kd.R k33 33 w' w0.heap.size (fun k_ => (P0_ k_ ∨ w.heap.size ≤ k_)) u9000_ r2 ∧ Below w0.heap.size w0 w' ∧ Kept w w' (fun k_ => P0_ k_) := by
 have HO0 := Aside0.mk (show Kd.R k33 33 w w0.heap.size (fun k_ => (P0_ k_ ∨ w.heap.size ≤ k_)) u9000_ l0 from Kd.R_mono ho0 (fun k_ hk => (.inl hk)))
 have HK := Aside0.mk (Kept.refl w (fun k_ => P0_ k_))
 have HW0 := Aside0.mk hB.size
 have HB := Aside0.mk hB
 clear hB
 have H : (laws_markMarkS.l0 k l0 a1 0) = some (r1, r2) := h
 clear h
 have H' := Aside0.mk H
 clear H
 go_enter Try.func61, Try.ntmps61
 go_wp2
 go_loopg [1, 5] k (fun kq v1 v5 w' => ∃ (x0_1 : List (S33)) (x1_1 : Int) (x5_1 : Int), v1 = .int .i64 x1_1 ∧ v5 = .int .i64 x5_1 ∧ Aside0 (laws_markMarkS.l0 kq x0_1 x1_1 x5_1 = some (r1, r2)) ∧ Aside0 (kq ≤ k) ∧ Aside0 (Kd.R k33 33 w' w0.heap.size (fun k_ => (P0_ k_ ∨ w.heap.size ≤ k_)) u9000_ x0_1) ∧ Aside0 (Kept w w' (fun k_ => P0_ k_)) ∧ Aside0 (Below w0.heap.size w0 w'))
 case atStart => exact ⟨(l0), (a1), (0), (z2_), (z2_), H', ⟨Nat.le_refl _⟩, ⟨z4_ HO0.out⟩, ⟨z29_ HK.out⟩, ⟨z5_ HB.out⟩⟩
 case round =>
  clear H'
  try clear p2
  obtain ⟨x0_1, x1_1, x5_1, rfl, rfl, HA, HK1, HO_0, HK, HB⟩ := hrel
  cases gk with
  | zero => exact absurd HA.out (by simp [laws_markMarkS.l0])
  | succ k1 =>
   have H := HA.out
   clear HA
   simp only [laws_markMarkS.l0] at H
   by_cases c3 : x5_1 < (x0_1.length : Int)
   ·rw [if_pos c3] at H
    have c3b0 : decide (x5_1 < (x0_1.length : Int)) = true := decide_eq_true c3
    clear c3
    by_cases c4 : 0 ≤ x5_1
    ·rw [if_pos c4] at H
     have c4b0 : decide (0 ≤ x5_1) = true := decide_eq_true c4
     clear c4
     obtain ⟨y819, hy819⟩ : ∃ y_ : List (S33), y_ = (x0_1.set (x5_1 : Int).toNat (⟨x1_1, (rd_T33 x0_1 x5_1).f1⟩ : S33)) := ⟨_, rfl⟩
     replace H : (laws_markMarkS.l0 k1 (y819.set (x5_1 : Int).toNat (⟨(rd_T33 y819 x5_1).f0, wrap64 (x1_1 + 1)⟩ : S33)) (wrap64 ((wrap64 (x1_1 + 1)) + 1)) (wrap64 (x5_1 + 1))) = some (r1, r2) := by first | (rw [hy819]; with_reducible exact H) | (have H2_ := (Option.bind_some _ _).symm.trans H; rw [hy819]; with_reducible exact H2_) | (have H2_ := (Option.bind_some _ _).symm.trans H; with_reducible exact H2_) | with_reducible exact H | (rw [hy819]; exact H) | exact H
     have Ny819 := Aside0.mk hy819
     clear hy819
     obtain ⟨y820, hy820⟩ : ∃ y_ : List (S33), y_ = (y819.set (x5_1 : Int).toNat (⟨(rd_T33 y819 x5_1).f0, wrap64 (x1_1 + 1)⟩ : S33)) := ⟨_, rfl⟩
     replace H : (laws_markMarkS.l0 k1 y820 (wrap64 ((wrap64 (x1_1 + 1)) + 1)) (wrap64 (x5_1 + 1))) = some (r1, r2) := by first | (rw [hy820]; with_reducible exact H) | (have H2_ := (Option.bind_some _ _).symm.trans H; rw [hy820]; with_reducible exact H2_) | (have H2_ := (Option.bind_some _ _).symm.trans H; with_reducible exact H2_) | with_reducible exact H | (rw [hy820]; exact H) | exact H
     have Ny820 := Aside0.mk hy820
     clear hy820
     have H' := Aside0.mk H
     clear H
     obtain ⟨Ao7, co7, eo7⟩ := Kd.R_slice HO_0.out
     subst eo7
     have p5 : 0 ≤ (x5_1 : Int) := of_decide_eq_true (z3_)
     have q5 : (x5_1 : Int) < ((x0_1.length : Int) : Int) := of_decide_eq_true (z3_)
     obtain ⟨go5, co5, eo5, gb5, gl5, cl5, HG5⟩ := Kd.R_form HO_0.out (by omega)
     (first | cases eo5 | (injection eo5 with ea_ en_ ec_; (first | subst ea_ | (injection ea_ with ea_; subst ea_)); subst ec_; clear en_))
     have GB5 := Aside0.mk gb5
     have GG5 := Aside0.mk HG5
     clear gb5 gl5 HG5
     have HMgo5 := Aside0.mk (show (P0_ go5 ∨ w.heap.size ≤ go5) from (HO_0.out.1 _ rfl))
     obtain ⟨ce5, hcl5, hM5, hcc5, hfr5⟩ := Kd.R_elem HO_0.out z33 (x5_1 : Int) p5 q5
     obtain rfl := k33_openM hM5
     have hx5_0 : wr.cell? ⟨go5, (x5_1 : Int).toNat * 2, none⟩ = some (.int .i64 ((rd_T33 x0_1 x5_1).f0)) := hcc5 0 _ rfl
     have hx5_1 : wr.cell? ⟨go5, (x5_1 : Int).toNat * 2 + 1, none⟩ = some (.int .i64 ((rd_T33 x0_1 x5_1).f1)) := hcc5 1 _ rfl
     have hf5_0 : wr.frozen? ⟨go5, (x5_1 : Int).toNat * 2, none⟩ = false := hfr5 0
     have hf5_1 : wr.frozen? ⟨go5, (x5_1 : Int).toNat * 2 + 1, none⟩ = false := hfr5 1
     clear hcl5 hcc5 hfr5 hM5
     replace p5 := eq_true p5
     replace q5 := eq_true q5
     have HX8 := Aside0.mk (show Kd.R k33 33 wr w0.heap.size (fun k_ => (P0_ k_ ∨ w.heap.size ≤ k_)) (.slice (some ⟨go5, 0, none⟩) x0_1.length co7) x0_1 from (z4_ HO_0.out))
     obtain ⟨ce8, hcl8, hM8, hcc8, hfr8⟩ := Kd.R_elem HX8.out z33 (x5_1 : Int) (of_decide_eq_true (z3_)) (z35_ HO_0.out)
     obtain rfl := k33_openM hM8
     have HP8 := Kd.R_seg HX8.out (x5_1 : Int) (of_decide_eq_true (z3_)) (z35_ HO_0.out) (seg := [.int .i64 x1_1]) (j := 0) hcl8 hcc8 (show 1 ≤ 2 from by decide) (x' := (⟨x1_1, (rd_T33 x0_1 x5_1).f1⟩ : S33)) (k33_mkM _ _ _ (⟨x1_1, (rd_T33 x0_1 x5_1).f1⟩ : S33) ) (fun _ hk => hk)
     have hx8_0 := hcc8 0 _ rfl
     (try simp only [show (k33).sz = 2 from rfl, Nat.mul_one, Nat.add_zero] at hx8_0)
     have hf8_0 := hfr8 0
     (try simp only [show (k33).sz = 2 from rfl, Nat.mul_one, Nat.add_zero] at hf8_0)
     clear hcl8 hcc8 hfr8 hM8
     go_wp2_with (first | ((with_reducible refine gate_store (t := 2) (p := 16) rfl ?_); refine store_event (t := 2) (p := 16) (v := ?vo_w9) (w1 := (wr.setCell ⟨go5, (x5_1 : Int).toNat * 2, none⟩ (.int .i64 x1_1))) ?hg ?ho ?hn ?hr ?_; (case ho => rfl); (case hg => rfl); (case hn => rfl); (case hr => first | (go_simp; done) | (go_simp; rfl)); intro w9 hw; have hg : wr.grownBy w9 (some go5) := (by rw [hw]; exact HP8.2); have hp_ : Kd.R k33 33 w9 w0.heap.size (fun k_ => (P0_ k_ ∨ w.heap.size ≤ k_)) (.slice (some ⟨go5, 0, none⟩) x0_1.length co7) y819 := (by rw [hw, Ny819.out]; exact HP8.1); clear HP8; have n_ := as3_ (hp_) ((by rw [hw]; exact below_set (HB.out) GB5.out : Below w0.heap.size w0 w9)) (Kept.of_grown (S := (fun k_ => P0_ k_)) hg (z29_ HK.out) (fun k_ e_ => (HO_0.out.1 k_ e_))); clear HO_0 HB HK; have ⟨HO_0, HB, HK⟩ := n_; clear n_; clear hg hw hp_; have p6 : 0 ≤ (x5_1 : Int) := of_decide_eq_true (z3_); have q6 : (x5_1 : Int) < ((x0_1.length : Int) : Int) := of_decide_eq_true (z3_); obtain ⟨ce6, hcl6, hM6, hcc6, hfr6⟩ := Kd.R_elem HO_0.out z33 (x5_1 : Int) p6 q6; obtain rfl := k33_openM hM6; have hx6_0 : w9.cell? ⟨go5, (x5_1 : Int).toNat * 2, none⟩ = some (.int .i64 ((rd_T33 y819 x5_1).f0)) := hcc6 0 _ rfl; have hx6_1 : w9.cell? ⟨go5, (x5_1 : Int).toNat * 2 + 1, none⟩ = some (.int .i64 ((rd_T33 y819 x5_1).f1)) := hcc6 1 _ rfl; have hf6_0 : w9.frozen? ⟨go5, (x5_1 : Int).toNat * 2, none⟩ = false := hfr6 0; have hf6_1 : w9.frozen? ⟨go5, (x5_1 : Int).toNat * 2 + 1, none⟩ = false := hfr6 1; clear hcl6 hcc6 hfr6 hM6; replace p6 := eq_true p6; replace q6 := eq_true q6; have HX10 := Aside0.mk (show Kd.R k33 33 w9 w0.heap.size (fun k_ => (P0_ k_ ∨ w.heap.size ≤ k_)) (.slice (some ⟨go5, 0, none⟩) x0_1.length co7) y819 from (z4_ HO_0.out)); obtain ⟨ce10, hcl10, hM10, hcc10, hfr10⟩ := Kd.R_elem HX10.out z33 (x5_1 : Int) (of_decide_eq_true (z3_)) (z35_ HO_0.out); obtain rfl := k33_openM hM10; have HP10 := Kd.R_seg HX10.out (x5_1 : Int) (of_decide_eq_true (z3_)) (z35_ HO_0.out) (seg := [.int .i64 (wrap64 (x1_1 + 1))]) (j := 1) hcl10 hcc10 (show 2 ≤ 2 from by decide) (x' := (⟨(rd_T33 y819 x5_1).f0, wrap64 (x1_1 + 1)⟩ : S33)) (k33_mkM _ _ _ (⟨(rd_T33 y819 x5_1).f0, wrap64 (x1_1 + 1)⟩ : S33) ) (fun _ hk => hk); have hx10_1 := hcc10 1 _ rfl; (try simp only [show (k33).sz = 2 from rfl, Nat.mul_one, Nat.add_zero] at hx10_1); have hf10_1 := hfr10 1; (try simp only [show (k33).sz = 2 from rfl, Nat.mul_one, Nat.add_zero] at hf10_1); clear hcl10 hcc10 hfr10 hM10) | ((with_reducible refine gate_store (t := 2) (p := 23) rfl ?_); refine store_event (t := 2) (p := 23) (v := ?vo_w11) (w1 := (w9.setCell ⟨go5, (x5_1 : Int).toNat * 2 + 1, none⟩ (.int .i64 (wrap64 (x1_1 + 1))))) ?hg ?ho ?hn ?hr ?_; (case ho => rfl); (case hg => rfl); (case hn => rfl); (case hr => first | (go_simp; done) | (go_simp; rfl)); intro w11 hw; have hg : w9.grownBy w11 (some go5) := (by rw [hw]; exact HP10.2); have hp_ : Kd.R k33 33 w11 w0.heap.size (fun k_ => (P0_ k_ ∨ w.heap.size ≤ k_)) (.slice (some ⟨go5, 0, none⟩) x0_1.length co7) y820 := (by rw [hw, Ny820.out]; exact HP10.1); clear HP10; have n_ := as3_ (hp_) ((by rw [hw]; exact below_set (HB.out) GB5.out : Below w0.heap.size w0 w11)) (Kept.of_grown (S := (fun k_ => P0_ k_)) hg (z29_ HK.out) (fun k_ e_ => (HO_0.out.1 k_ e_))); clear HO_0 HB HK; have ⟨HO_0, HB, HK⟩ := n_; clear n_; clear hg hw hp_))
     go_roundg k1
     case measure => have := HK1.out; omega
     case rel => exact ⟨(y820), (wrap64 ((wrap64 (x1_1 + 1)) + 1)), (wrap64 (x5_1 + 1)), (z2_), (z2_), H', ⟨by have := HK1.out; omega⟩, ⟨z4_ HO_0.out⟩, ⟨z29_ HK.out⟩, ⟨z5_ HB.out⟩⟩
    ·rw [if_neg c4] at H
     exact absurd H (by simp)
   ·rw [if_neg c3] at H
    have c3b0 : decide (x5_1 < (x0_1.length : Int)) = false := decide_eq_false c3
    clear c3
    simp only [Option.some.injEq, Prod.mk.injEq] at H
    obtain ⟨rfl, rfl⟩ := H
    obtain ⟨Ao12, co12, eo12⟩ := Kd.R_slice HO_0.out
    subst eo12
    go_wp2
    go_ret
    exact ⟨z8_, z4_ HO_0.out, z5_ HB.out, z29_ HK.out⟩


/-! ### laws_markText: function 82 -/
def laws_markText.l0 : Nat → Int → ByteArray → Option (ByteArray)
 | 0, _, _ => none
 | k + 1, x0, x3 => if x0 > 0 then ((some (([(wrap64 (48 + (Int.tmod x0 10))) % 256] : List Int) : List Int)).bind fun y821 => (if (strOfNums y821).size + x3.size ≤ 9223372036854775807 then (laws_markText.l0 k (wrap64 (Int.tdiv x0 10)) ((strOfNums y821) ++ x3)) else (none))) else (if 1 + x3.size ≤ 9223372036854775807 then (some ((⟨#[109]⟩ : ByteArray) ++ x3)) else (none))
def laws_markText.f (k : Nat) (a0 : Int) : Option (ByteArray) := if a0 ≤ 0 then (some (⟨#[109, 48]⟩ : ByteArray)) else (laws_markText.l0 k a0 (⟨#[]⟩ : ByteArray))
theorem laws_markText.mono_l : ∀ k, (∀ y0 y1, LeO (laws_markText.l0 k y0 y1) (laws_markText.l0 (k + 1) y0 y1))
 | 0 => fun _ _ r h => by simp [laws_markText.l0] at h
 | k + 1 => by
  have ih0 := laws_markText.mono_l k
  ·intro y0 y1
   unfold laws_markText.l0
   repeat' first
   | (with_reducible exact ih0 _ _)
   | (with_reducible exact LeO.refl _)
   | (with_reducible exact LeO.none _)
   | (with_reducible refine LeO.ite ?_ ?_)
   | (with_reducible refine LeO.bind ?_ (fun _ => ?_))
   | exact ih0 _ _
   | exact LeO.none _
   | refine LeO.ite ?_ ?_
   | refine LeO.bind ?_ (fun _ => ?_)
theorem laws_markText.mono : ∀ a0 k, LeO (laws_markText.f k a0) (laws_markText.f (k + 1) a0) := by
 intro a0 k
 have ih0 := laws_markText.mono_l k
 unfold laws_markText.f
 repeat' first
   | (with_reducible exact ih0 _ _)
   | (with_reducible exact LeO.refl _)
   | (with_reducible exact LeO.none _)
   | (with_reducible refine LeO.ite ?_ ?_)
   | (with_reducible refine LeO.bind ?_ (fun _ => ?_))
   | exact ih0 _ _
   | exact LeO.none _
   | refine LeO.ite ?_ ?_
   | refine LeO.bind ?_ (fun _ => ?_)
set_option maxHeartbeats 8000000 in
set_option maxRecDepth 100000 in
theorem laws_markText.calls (k : Nat) (a0 : Int) (r : ByteArray) (w : World) (h : laws_markText.f k a0 = some r) :
  Calls Try.prog 82 #[.int .i64 a0] w fun e w' => e = .returned (.string r) ∧ Below w.heap.size w w' := by
 have HB := Aside0.mk (Below.refl w.heap.size w)
 have H : (if a0 ≤ 0 then (some (⟨#[109, 48]⟩ : ByteArray)) else (laws_markText.l0 k a0 (⟨#[]⟩ : ByteArray))) = some r := h
 clear h
 by_cases c2 : a0 ≤ 0
 ·rw [if_pos c2] at H
  have c2b0 : decide (a0 ≤ 0) = true := decide_eq_true c2
  clear c2
  obtain rfl := Option.some.inj H
  go_enter Try.func82, Try.ntmps82
  go_wp2
  go_ret
  exact ⟨z8_, z5_ HB.out⟩
 ·rw [if_neg c2] at H
  have c2b0 : decide (a0 ≤ 0) = false := decide_eq_false c2
  clear c2
  have H' := Aside0.mk H
  clear H
  go_enter Try.func82, Try.ntmps82
  go_wp2
  go_loopg [0, 3] k (fun kq v0 v3 w' => ∃ (x0_1 : Int) (x3_1 : ByteArray), v0 = .int .i64 x0_1 ∧ v3 = .string x3_1 ∧ Aside0 (laws_markText.l0 kq x0_1 x3_1 = some r) ∧ Aside0 (kq ≤ k) ∧ Aside0 (Below w.heap.size w w'))
  case atStart => exact ⟨(a0), ((⟨#[]⟩ : ByteArray)), (z2_), (z2_), H', ⟨Nat.le_refl _⟩, ⟨z5_ HB.out⟩⟩
  case round =>
   clear H'
   try clear c2
   try clear c2b0
   try clear p2
   obtain ⟨x0_1, x3_1, rfl, rfl, HA, HK1, HB⟩ := hrel
   cases gk with
   | zero => exact absurd HA.out (by simp [laws_markText.l0])
   | succ k1 =>
    have H := HA.out
    clear HA
    simp only [laws_markText.l0] at H
    by_cases c3 : x0_1 > 0
    ·rw [if_pos c3] at H
     have c3b0 : decide (0 < x0_1) = true := decide_eq_true c3
     clear c3
     obtain ⟨y821, hy821⟩ : ∃ y_ : List Int, y_ = (([(wrap64 (48 + (Int.tmod x0_1 10))) % 256] : List Int)) := ⟨_, rfl⟩
     replace H : (if (strOfNums y821).size + x3_1.size ≤ 9223372036854775807 then (laws_markText.l0 k1 (wrap64 (Int.tdiv x0_1 10)) ((strOfNums y821) ++ x3_1)) else (none)) = some r := by first | (rw [hy821]; with_reducible exact H) | (have H2_ := (Option.bind_some _ _).symm.trans H; rw [hy821]; with_reducible exact H2_) | (have H2_ := (Option.bind_some _ _).symm.trans H; with_reducible exact H2_) | with_reducible exact H | (rw [hy821]; exact H) | exact H
     have Ny821 := Aside0.mk hy821
     clear hy821
     by_cases c4 : (strOfNums y821).size + x3_1.size ≤ 9223372036854775807
     ·rw [if_pos c4] at H
      have c4b0 := eq_true c4
      have c4b1 : decide ((strOfNums y821).size + x3_1.size ≤ 9223372036854775807) = true := decide_eq_true c4
      try have c4b2 : (9223372036854775807 < (strOfNums y821).size + x3_1.size) = False := eq_false (Nat.not_lt.2 c4)
      have H' := Aside0.mk H
      clear H
      go_wp2_with (first | ((with_reducible refine gate_dst (N := 12) rfl ?_); refine Kd.R_lit (Kd.int .u8) _ 5 ?hg (N := 12) ?hd (xs := ([(wrap64 (48 + (Int.tmod x0_1 10))) % 256] : List Int)) (inner := [.int .u8 ((wrap64 (48 + (Int.tmod x0_1 10))) % 256)]) (ok := fun _ => True) (okp := fun _ => True) ?hr ?hp (fun _ hk => hk) trivial (Below.refl _ _) (Nat.le_refl _) (by simp) ?_; (case hd => rfl); (case hg => rfl); (case hr => first | (go_simp; done) | (go_simp; rfl)); (case hp => exact (Reps.one (show Kd.M (Kd.int .u8) _ _ _ ((wrap64 (48 + (Int.tmod x0_1 10))) % 256) [.int .u8 ((wrap64 (48 + (Int.tmod x0_1 10))) % 256)] from rfl) (Reps.none _ _))); intro v822 w5 ho6 hb hg_ hnew_; clear hg_ hnew_; (first | rw [← Ny821.out] at ho6 | (simp only [Int.reduceToNat] at ho6; rw [← Ny821.out] at ho6)); have n_ := as2_ (Kd.R_lower ho6 (below_size (z5_ HB.out))) (below_step (z5_ HB.out) hb); clear HB; have ⟨HO823, HB⟩ := n_; clear n_; clear hb ho6; have hcv7 := own_string (P := Try.prog) Try.underlying27 Try.underlying5 Try.underlying9 (Kd.own_of_R HO823.out)))
      go_roundg k1
      case measure => have := HK1.out; omega
      case rel => exact ⟨(wrap64 (Int.tdiv x0_1 10)), ((strOfNums y821) ++ x3_1), (z2_), (z2_), H', ⟨by have := HK1.out; omega⟩, ⟨z5_ HB.out⟩⟩
     ·rw [if_neg c4] at H
      exact absurd H (by simp)
    ·rw [if_neg c3] at H
     have c3b0 : decide (0 < x0_1) = false := decide_eq_false c3
     clear c3
     by_cases c8 : 1 + x3_1.size ≤ 9223372036854775807
     ·rw [if_pos c8] at H
      have c8b0 := eq_true c8
      have c8b1 : decide (1 + x3_1.size ≤ 9223372036854775807) = true := decide_eq_true c8
      try have c8b2 : (9223372036854775807 < 1 + x3_1.size) = False := eq_false (Nat.not_lt.2 c8)
      obtain rfl := Option.some.inj H
      go_wp2
      go_ret
      exact ⟨z8_, z5_ HB.out⟩
     ·rw [if_neg c8] at H
      exact absurd H (by simp)


/-! ### laws_markSibS: function 113 -/
def laws_markSibS.l0 : Nat → List (S158) → Int → Int → Option (Int × (List (S158)))
 | 0, _, _, _ => none
 | k + 1, x0, x1, x5 => if x5 < (x0.length : Int) then (if 0 ≤ x5 then ((some (x0.set (x5 : Int).toNat (⟨(⟨x1, (rd_T158 x0 x5).f0.f1⟩ : S33), (rd_T158 x0 x5).f1, (rd_T158 x0 x5).f2⟩ : S158) : List (S158))).bind fun y824 => ((some (y824.set (x5 : Int).toNat (⟨(⟨(rd_T158 y824 x5).f0.f0, wrap64 (x1 + 1)⟩ : S33), (rd_T158 y824 x5).f1, (rd_T158 y824 x5).f2⟩ : S158) : List (S158))).bind fun y825 => ((some (y825.set (x5 : Int).toNat (⟨(⟨(rd_T158 y825 x5).f0.f0, (rd_T158 y825 x5).f0.f1⟩ : S33), ((Int.tmod (wrap64 ((wrap64 (x1 + 1)) + 1)) 3) == 0), (rd_T158 y825 x5).f2⟩ : S158) : List (S158))).bind fun y826 => ((laws_markText.f k (wrap64 ((wrap64 ((wrap64 (x1 + 1)) + 1)) + 1))).bind fun t827 => (laws_markSibS.l0 k (y826.set (x5 : Int).toNat (⟨(⟨(rd_T158 y826 x5).f0.f0, (rd_T158 y826 x5).f0.f1⟩ : S33), (rd_T158 y826 x5).f1, t827⟩ : S158)) (wrap64 ((wrap64 ((wrap64 ((wrap64 (x1 + 1)) + 1)) + 1)) + 1)) (wrap64 (x5 + 1))))))) else (none)) else (some (x1, x0))
def laws_markSibS.f (k : Nat) (l0 : List (S158)) (a1 : Int) : Option (Int × (List (S158))) := laws_markSibS.l0 k l0 a1 0
theorem laws_markSibS.mono_l : ∀ k, (∀ y0 y1 y2, LeO (laws_markSibS.l0 k y0 y1 y2) (laws_markSibS.l0 (k + 1) y0 y1 y2))
 | 0 => fun _ _ _ r h => by simp [laws_markSibS.l0] at h
 | k + 1 => by
  have ih0 := laws_markSibS.mono_l k
  ·intro y0 y1 y2
   unfold laws_markSibS.l0
   repeat' first
   | (with_reducible exact ih0 _ _ _)
   | (with_reducible exact laws_markText.mono _ _)
   | (with_reducible exact LeO.refl _)
   | (with_reducible exact LeO.none _)
   | (with_reducible refine LeO.ite ?_ ?_)
   | (with_reducible refine LeO.bind ?_ (fun _ => ?_))
   | exact ih0 _ _ _
   | exact laws_markText.mono _ _
   | exact LeO.none _
   | refine LeO.ite ?_ ?_
   | refine LeO.bind ?_ (fun _ => ?_)
theorem laws_markSibS.mono : ∀ a0 a1 k, LeO (laws_markSibS.f k a0 a1) (laws_markSibS.f (k + 1) a0 a1) := by
 intro a0 a1 k
 have ih0 := laws_markSibS.mono_l k
 unfold laws_markSibS.f
 repeat' first
   | (with_reducible exact ih0 _ _ _)
   | (with_reducible exact laws_markText.mono _ _)
   | (with_reducible exact LeO.refl _)
   | (with_reducible exact LeO.none _)
   | (with_reducible refine LeO.ite ?_ ?_)
   | (with_reducible refine LeO.bind ?_ (fun _ => ?_))
   | exact ih0 _ _ _
   | exact laws_markText.mono _ _
   | exact LeO.none _
   | refine LeO.ite ?_ ?_
   | refine LeO.bind ?_ (fun _ => ?_)
set_option maxHeartbeats 8000000 in
set_option maxRecDepth 100000 in
theorem laws_markSibS.calls (k : Nat) (P0_ : Nat → Prop) (u9000_ : Value) (l0 : List (S158)) (a1 : Int) (r1 : Int) (r2 : List (S158)) (w0 w : World) (hB : Below w0.heap.size w0 w) (ho0 : Kd.R k158 158 w w0.heap.size P0_ u9000_ l0) (h : laws_markSibS.f k l0 a1 = some (r1, r2)) :
  Calls Try.prog 113 #[u9000_, .int .i64 a1] w fun e w' => e = .returned (.int .i64 r1) ∧ Kd.R k158 158 w' w0.heap.size (fun k_ => (P0_ k_ ∨ w.heap.size ≤ k_)) u9000_ r2 ∧ Below w0.heap.size w0 w' ∧ Kept w w' (fun k_ => P0_ k_) := by
 have HO0 := Aside0.mk (show Kd.R k158 158 w w0.heap.size (fun k_ => (P0_ k_ ∨ w.heap.size ≤ k_)) u9000_ l0 from Kd.R_mono ho0 (fun k_ hk => (.inl hk)))
 have HK := Aside0.mk (Kept.refl w (fun k_ => P0_ k_))
 have HW0 := Aside0.mk hB.size
 have HB := Aside0.mk hB
 clear hB
 have H : (laws_markSibS.l0 k l0 a1 0) = some (r1, r2) := h
 clear h
 have H' := Aside0.mk H
 clear H
 go_enter Try.func113, Try.ntmps113
 go_wp2
 go_loopg [1, 5] k (fun kq v1 v5 w' => ∃ (x0_1 : List (S158)) (x1_1 : Int) (x5_1 : Int), v1 = .int .i64 x1_1 ∧ v5 = .int .i64 x5_1 ∧ Aside0 (laws_markSibS.l0 kq x0_1 x1_1 x5_1 = some (r1, r2)) ∧ Aside0 (kq ≤ k) ∧ Aside0 (Kd.R k158 158 w' w0.heap.size (fun k_ => (P0_ k_ ∨ w.heap.size ≤ k_)) u9000_ x0_1) ∧ Aside0 (Kept w w' (fun k_ => P0_ k_)) ∧ Aside0 (Below w0.heap.size w0 w'))
 case atStart => exact ⟨(l0), (a1), (0), (z2_), (z2_), H', ⟨Nat.le_refl _⟩, ⟨z4_ HO0.out⟩, ⟨z29_ HK.out⟩, ⟨z5_ HB.out⟩⟩
 case round =>
  clear H'
  try clear c1
  try clear p2
  obtain ⟨x0_1, x1_1, x5_1, rfl, rfl, HA, HK1, HO_0, HK, HB⟩ := hrel
  cases gk with
  | zero => exact absurd HA.out (by simp [laws_markSibS.l0])
  | succ k1 =>
   have H := HA.out
   clear HA
   simp only [laws_markSibS.l0] at H
   by_cases c3 : x5_1 < (x0_1.length : Int)
   ·rw [if_pos c3] at H
    have c3b0 : decide (x5_1 < (x0_1.length : Int)) = true := decide_eq_true c3
    clear c3
    by_cases c4 : 0 ≤ x5_1
    ·rw [if_pos c4] at H
     have c4b0 : decide (0 ≤ x5_1) = true := decide_eq_true c4
     clear c4
     obtain ⟨y824, hy824⟩ : ∃ y_ : List (S158), y_ = (x0_1.set (x5_1 : Int).toNat (⟨(⟨x1_1, (rd_T158 x0_1 x5_1).f0.f1⟩ : S33), (rd_T158 x0_1 x5_1).f1, (rd_T158 x0_1 x5_1).f2⟩ : S158)) := ⟨_, rfl⟩
     replace H : ((some (y824.set (x5_1 : Int).toNat (⟨(⟨(rd_T158 y824 x5_1).f0.f0, wrap64 (x1_1 + 1)⟩ : S33), (rd_T158 y824 x5_1).f1, (rd_T158 y824 x5_1).f2⟩ : S158) : List (S158))).bind fun y825 => ((some (y825.set (x5_1 : Int).toNat (⟨(⟨(rd_T158 y825 x5_1).f0.f0, (rd_T158 y825 x5_1).f0.f1⟩ : S33), ((Int.tmod (wrap64 ((wrap64 (x1_1 + 1)) + 1)) 3) == 0), (rd_T158 y825 x5_1).f2⟩ : S158) : List (S158))).bind fun y826 => ((laws_markText.f k1 (wrap64 ((wrap64 ((wrap64 (x1_1 + 1)) + 1)) + 1))).bind fun t827 => (laws_markSibS.l0 k1 (y826.set (x5_1 : Int).toNat (⟨(⟨(rd_T158 y826 x5_1).f0.f0, (rd_T158 y826 x5_1).f0.f1⟩ : S33), (rd_T158 y826 x5_1).f1, t827⟩ : S158)) (wrap64 ((wrap64 ((wrap64 ((wrap64 (x1_1 + 1)) + 1)) + 1)) + 1)) (wrap64 (x5_1 + 1)))))) = some (r1, r2) := by first | (rw [hy824]; with_reducible exact H) | (have H2_ := (Option.bind_some _ _).symm.trans H; rw [hy824]; with_reducible exact H2_) | (have H2_ := (Option.bind_some _ _).symm.trans H; with_reducible exact H2_) | with_reducible exact H | (rw [hy824]; exact H) | exact H
     have Ny824 := Aside0.mk hy824
     clear hy824
     obtain ⟨y825, hy825⟩ : ∃ y_ : List (S158), y_ = (y824.set (x5_1 : Int).toNat (⟨(⟨(rd_T158 y824 x5_1).f0.f0, wrap64 (x1_1 + 1)⟩ : S33), (rd_T158 y824 x5_1).f1, (rd_T158 y824 x5_1).f2⟩ : S158)) := ⟨_, rfl⟩
     replace H : ((some (y825.set (x5_1 : Int).toNat (⟨(⟨(rd_T158 y825 x5_1).f0.f0, (rd_T158 y825 x5_1).f0.f1⟩ : S33), ((Int.tmod (wrap64 ((wrap64 (x1_1 + 1)) + 1)) 3) == 0), (rd_T158 y825 x5_1).f2⟩ : S158) : List (S158))).bind fun y826 => ((laws_markText.f k1 (wrap64 ((wrap64 ((wrap64 (x1_1 + 1)) + 1)) + 1))).bind fun t827 => (laws_markSibS.l0 k1 (y826.set (x5_1 : Int).toNat (⟨(⟨(rd_T158 y826 x5_1).f0.f0, (rd_T158 y826 x5_1).f0.f1⟩ : S33), (rd_T158 y826 x5_1).f1, t827⟩ : S158)) (wrap64 ((wrap64 ((wrap64 ((wrap64 (x1_1 + 1)) + 1)) + 1)) + 1)) (wrap64 (x5_1 + 1))))) = some (r1, r2) := by first | (rw [hy825]; with_reducible exact H) | (have H2_ := (Option.bind_some _ _).symm.trans H; rw [hy825]; with_reducible exact H2_) | (have H2_ := (Option.bind_some _ _).symm.trans H; with_reducible exact H2_) | with_reducible exact H | (rw [hy825]; exact H) | exact H
     have Ny825 := Aside0.mk hy825
     clear hy825
     obtain ⟨y826, hy826⟩ : ∃ y_ : List (S158), y_ = (y825.set (x5_1 : Int).toNat (⟨(⟨(rd_T158 y825 x5_1).f0.f0, (rd_T158 y825 x5_1).f0.f1⟩ : S33), ((Int.tmod (wrap64 ((wrap64 (x1_1 + 1)) + 1)) 3) == 0), (rd_T158 y825 x5_1).f2⟩ : S158)) := ⟨_, rfl⟩
     replace H : ((laws_markText.f k1 (wrap64 ((wrap64 ((wrap64 (x1_1 + 1)) + 1)) + 1))).bind fun t827 => (laws_markSibS.l0 k1 (y826.set (x5_1 : Int).toNat (⟨(⟨(rd_T158 y826 x5_1).f0.f0, (rd_T158 y826 x5_1).f0.f1⟩ : S33), (rd_T158 y826 x5_1).f1, t827⟩ : S158)) (wrap64 ((wrap64 ((wrap64 ((wrap64 (x1_1 + 1)) + 1)) + 1)) + 1)) (wrap64 (x5_1 + 1)))) = some (r1, r2) := by first | (rw [hy826]; with_reducible exact H) | (have H2_ := (Option.bind_some _ _).symm.trans H; rw [hy826]; with_reducible exact H2_) | (have H2_ := (Option.bind_some _ _).symm.trans H; with_reducible exact H2_) | with_reducible exact H | (rw [hy826]; exact H) | exact H
     have Ny826 := Aside0.mk hy826
     clear hy826
     replace H := Option.bind_eq_some_iff.mp H
     obtain ⟨t827, A80, H⟩ := H
     replace H : (laws_markSibS.l0 k1 (y826.set (x5_1 : Int).toNat (⟨(⟨(rd_T158 y826 x5_1).f0.f0, (rd_T158 y826 x5_1).f0.f1⟩ : S33), (rd_T158 y826 x5_1).f1, t827⟩ : S158)) (wrap64 ((wrap64 ((wrap64 ((wrap64 (x1_1 + 1)) + 1)) + 1)) + 1)) (wrap64 (x5_1 + 1))) = some (r1, r2) := H
     have A8 := Aside0.mk A80
     clear A80
     obtain ⟨y828, hy828⟩ : ∃ y_ : List (S158), y_ = (y826.set (x5_1 : Int).toNat (⟨(⟨(rd_T158 y826 x5_1).f0.f0, (rd_T158 y826 x5_1).f0.f1⟩ : S33), (rd_T158 y826 x5_1).f1, t827⟩ : S158)) := ⟨_, rfl⟩
     replace H : (laws_markSibS.l0 k1 y828 (wrap64 ((wrap64 ((wrap64 ((wrap64 (x1_1 + 1)) + 1)) + 1)) + 1)) (wrap64 (x5_1 + 1))) = some (r1, r2) := by first | (rw [hy828]; with_reducible exact H) | (have H2_ := (Option.bind_some _ _).symm.trans H; rw [hy828]; with_reducible exact H2_) | (have H2_ := (Option.bind_some _ _).symm.trans H; with_reducible exact H2_) | with_reducible exact H | (rw [hy828]; exact H) | exact H
     have Ny828 := Aside0.mk hy828
     clear hy828
     have H' := Aside0.mk H
     clear H
     obtain ⟨Ao10, co10, eo10⟩ := Kd.R_slice HO_0.out
     subst eo10
     have p5 : 0 ≤ (x5_1 : Int) := of_decide_eq_true (z3_)
     have q5 : (x5_1 : Int) < ((x0_1.length : Int) : Int) := of_decide_eq_true (z3_)
     obtain ⟨go5, co5, eo5, gb5, gl5, cl5, HG5⟩ := Kd.R_form HO_0.out (by omega)
     (first | cases eo5 | (injection eo5 with ea_ en_ ec_; (first | subst ea_ | (injection ea_ with ea_; subst ea_)); subst ec_; clear en_))
     have GB5 := Aside0.mk gb5
     have GG5 := Aside0.mk HG5
     clear gb5 gl5 HG5
     have HMgo5 := Aside0.mk (show (P0_ go5 ∨ w.heap.size ≤ go5) from (HO_0.out.1 _ rfl))
     obtain ⟨ce5, hcl5, hM5, hcc5, hfr5⟩ := Kd.R_elem HO_0.out z158 (x5_1 : Int) p5 q5
     obtain rfl := k158_openM hM5
     have hx5_0 : wr.cell? ⟨go5, (x5_1 : Int).toNat * 4, none⟩ = some (.int .i64 ((rd_T158 x0_1 x5_1).f0.f0)) := hcc5 0 _ rfl
     have hx5_1 : wr.cell? ⟨go5, (x5_1 : Int).toNat * 4 + 1, none⟩ = some (.int .i64 ((rd_T158 x0_1 x5_1).f0.f1)) := hcc5 1 _ rfl
     have hx5_2 : wr.cell? ⟨go5, (x5_1 : Int).toNat * 4 + 2, none⟩ = some (.bool ((rd_T158 x0_1 x5_1).f1)) := hcc5 2 _ rfl
     have hx5_3 : wr.cell? ⟨go5, (x5_1 : Int).toNat * 4 + 3, none⟩ = some (.string ((rd_T158 x0_1 x5_1).f2)) := hcc5 3 _ rfl
     have hf5_0 : wr.frozen? ⟨go5, (x5_1 : Int).toNat * 4, none⟩ = false := hfr5 0
     have hf5_1 : wr.frozen? ⟨go5, (x5_1 : Int).toNat * 4 + 1, none⟩ = false := hfr5 1
     have hf5_2 : wr.frozen? ⟨go5, (x5_1 : Int).toNat * 4 + 2, none⟩ = false := hfr5 2
     have hf5_3 : wr.frozen? ⟨go5, (x5_1 : Int).toNat * 4 + 3, none⟩ = false := hfr5 3
     clear hcl5 hcc5 hfr5 hM5
     replace p5 := eq_true p5
     replace q5 := eq_true q5
     have HX11 := Aside0.mk (show Kd.R k158 158 wr w0.heap.size (fun k_ => (P0_ k_ ∨ w.heap.size ≤ k_)) (.slice (some ⟨go5, 0, none⟩) x0_1.length co10) x0_1 from (z4_ HO_0.out))
     obtain ⟨ce11, hcl11, hM11, hcc11, hfr11⟩ := Kd.R_elem HX11.out z158 (x5_1 : Int) (of_decide_eq_true (z3_)) (z35_ HO_0.out)
     obtain rfl := k158_openM hM11
     have HP11 := Kd.R_seg HX11.out (x5_1 : Int) (of_decide_eq_true (z3_)) (z35_ HO_0.out) (seg := [.int .i64 x1_1]) (j := 0) hcl11 hcc11 (show 1 ≤ 4 from by decide) (x' := (⟨(⟨x1_1, (rd_T158 x0_1 x5_1).f0.f1⟩ : S33), (rd_T158 x0_1 x5_1).f1, (rd_T158 x0_1 x5_1).f2⟩ : S158)) (k158_mkM _ _ _ (⟨(⟨x1_1, (rd_T158 x0_1 x5_1).f0.f1⟩ : S33), (rd_T158 x0_1 x5_1).f1, (rd_T158 x0_1 x5_1).f2⟩ : S158) ) (fun _ hk => hk)
     have hx11_0 := hcc11 0 _ rfl
     (try simp only [show (k158).sz = 4 from rfl, Nat.mul_one, Nat.add_zero] at hx11_0)
     have hf11_0 := hfr11 0
     (try simp only [show (k158).sz = 4 from rfl, Nat.mul_one, Nat.add_zero] at hf11_0)
     clear hcl11 hcc11 hfr11 hM11
     go_wp2_with (first | ((with_reducible refine gate_store (t := 2) (p := 17) rfl ?_); refine store_event (t := 2) (p := 17) (v := ?vo_w12) (w1 := (wr.setCell ⟨go5, (x5_1 : Int).toNat * 4, none⟩ (.int .i64 x1_1))) ?hg ?ho ?hn ?hr ?_; (case ho => rfl); (case hg => rfl); (case hn => rfl); (case hr => first | (go_simp; done) | (go_simp; rfl)); intro w12 hw; have hg : wr.grownBy w12 (some go5) := (by rw [hw]; exact HP11.2); have hp_ : Kd.R k158 158 w12 w0.heap.size (fun k_ => (P0_ k_ ∨ w.heap.size ≤ k_)) (.slice (some ⟨go5, 0, none⟩) x0_1.length co10) y824 := (by rw [hw, Ny824.out]; exact HP11.1); clear HP11; have n_ := as3_ (hp_) ((by rw [hw]; exact below_set (HB.out) GB5.out : Below w0.heap.size w0 w12)) (Kept.of_grown (S := (fun k_ => P0_ k_)) hg (z29_ HK.out) (fun k_ e_ => (HO_0.out.1 k_ e_))); clear HO_0 HB HK; have ⟨HO_0, HB, HK⟩ := n_; clear n_; clear hg hw hp_; have p6 : 0 ≤ (x5_1 : Int) := of_decide_eq_true (z3_); have q6 : (x5_1 : Int) < ((x0_1.length : Int) : Int) := of_decide_eq_true (z3_); obtain ⟨ce6, hcl6, hM6, hcc6, hfr6⟩ := Kd.R_elem HO_0.out z158 (x5_1 : Int) p6 q6; obtain rfl := k158_openM hM6; have hx6_0 : w12.cell? ⟨go5, (x5_1 : Int).toNat * 4, none⟩ = some (.int .i64 ((rd_T158 y824 x5_1).f0.f0)) := hcc6 0 _ rfl; have hx6_1 : w12.cell? ⟨go5, (x5_1 : Int).toNat * 4 + 1, none⟩ = some (.int .i64 ((rd_T158 y824 x5_1).f0.f1)) := hcc6 1 _ rfl; have hx6_2 : w12.cell? ⟨go5, (x5_1 : Int).toNat * 4 + 2, none⟩ = some (.bool ((rd_T158 y824 x5_1).f1)) := hcc6 2 _ rfl; have hx6_3 : w12.cell? ⟨go5, (x5_1 : Int).toNat * 4 + 3, none⟩ = some (.string ((rd_T158 y824 x5_1).f2)) := hcc6 3 _ rfl; have hf6_0 : w12.frozen? ⟨go5, (x5_1 : Int).toNat * 4, none⟩ = false := hfr6 0; have hf6_1 : w12.frozen? ⟨go5, (x5_1 : Int).toNat * 4 + 1, none⟩ = false := hfr6 1; have hf6_2 : w12.frozen? ⟨go5, (x5_1 : Int).toNat * 4 + 2, none⟩ = false := hfr6 2; have hf6_3 : w12.frozen? ⟨go5, (x5_1 : Int).toNat * 4 + 3, none⟩ = false := hfr6 3; clear hcl6 hcc6 hfr6 hM6; replace p6 := eq_true p6; replace q6 := eq_true q6; have HX13 := Aside0.mk (show Kd.R k158 158 w12 w0.heap.size (fun k_ => (P0_ k_ ∨ w.heap.size ≤ k_)) (.slice (some ⟨go5, 0, none⟩) x0_1.length co10) y824 from (z4_ HO_0.out)); obtain ⟨ce13, hcl13, hM13, hcc13, hfr13⟩ := Kd.R_elem HX13.out z158 (x5_1 : Int) (of_decide_eq_true (z3_)) (z35_ HO_0.out); obtain rfl := k158_openM hM13; have HP13 := Kd.R_seg HX13.out (x5_1 : Int) (of_decide_eq_true (z3_)) (z35_ HO_0.out) (seg := [.int .i64 (wrap64 (x1_1 + 1))]) (j := 1) hcl13 hcc13 (show 2 ≤ 4 from by decide) (x' := (⟨(⟨(rd_T158 y824 x5_1).f0.f0, wrap64 (x1_1 + 1)⟩ : S33), (rd_T158 y824 x5_1).f1, (rd_T158 y824 x5_1).f2⟩ : S158)) (k158_mkM _ _ _ (⟨(⟨(rd_T158 y824 x5_1).f0.f0, wrap64 (x1_1 + 1)⟩ : S33), (rd_T158 y824 x5_1).f1, (rd_T158 y824 x5_1).f2⟩ : S158) ) (fun _ hk => hk); have hx13_1 := hcc13 1 _ rfl; (try simp only [show (k158).sz = 4 from rfl, Nat.mul_one, Nat.add_zero] at hx13_1); have hf13_1 := hfr13 1; (try simp only [show (k158).sz = 4 from rfl, Nat.mul_one, Nat.add_zero] at hf13_1); clear hcl13 hcc13 hfr13 hM13) | ((with_reducible refine gate_store (t := 2) (p := 25) rfl ?_); refine store_event (t := 2) (p := 25) (v := ?vo_w14) (w1 := (w12.setCell ⟨go5, (x5_1 : Int).toNat * 4 + 1, none⟩ (.int .i64 (wrap64 (x1_1 + 1))))) ?hg ?ho ?hn ?hr ?_; (case ho => rfl); (case hg => rfl); (case hn => rfl); (case hr => first | (go_simp; done) | (go_simp; rfl)); intro w14 hw; have hg : w12.grownBy w14 (some go5) := (by rw [hw]; exact HP13.2); have hp_ : Kd.R k158 158 w14 w0.heap.size (fun k_ => (P0_ k_ ∨ w.heap.size ≤ k_)) (.slice (some ⟨go5, 0, none⟩) x0_1.length co10) y825 := (by rw [hw, Ny825.out]; exact HP13.1); clear HP13; have n_ := as3_ (hp_) ((by rw [hw]; exact below_set (HB.out) GB5.out : Below w0.heap.size w0 w14)) (Kept.of_grown (S := (fun k_ => P0_ k_)) hg (z29_ HK.out) (fun k_ e_ => (HO_0.out.1 k_ e_))); clear HO_0 HB HK; have ⟨HO_0, HB, HK⟩ := n_; clear n_; clear hg hw hp_; have p7 : 0 ≤ (x5_1 : Int) := of_decide_eq_true (z3_); have q7 : (x5_1 : Int) < ((x0_1.length : Int) : Int) := of_decide_eq_true (z3_); obtain ⟨ce7, hcl7, hM7, hcc7, hfr7⟩ := Kd.R_elem HO_0.out z158 (x5_1 : Int) p7 q7; obtain rfl := k158_openM hM7; have hx7_0 : w14.cell? ⟨go5, (x5_1 : Int).toNat * 4, none⟩ = some (.int .i64 ((rd_T158 y825 x5_1).f0.f0)) := hcc7 0 _ rfl; have hx7_1 : w14.cell? ⟨go5, (x5_1 : Int).toNat * 4 + 1, none⟩ = some (.int .i64 ((rd_T158 y825 x5_1).f0.f1)) := hcc7 1 _ rfl; have hx7_2 : w14.cell? ⟨go5, (x5_1 : Int).toNat * 4 + 2, none⟩ = some (.bool ((rd_T158 y825 x5_1).f1)) := hcc7 2 _ rfl; have hx7_3 : w14.cell? ⟨go5, (x5_1 : Int).toNat * 4 + 3, none⟩ = some (.string ((rd_T158 y825 x5_1).f2)) := hcc7 3 _ rfl; have hf7_0 : w14.frozen? ⟨go5, (x5_1 : Int).toNat * 4, none⟩ = false := hfr7 0; have hf7_1 : w14.frozen? ⟨go5, (x5_1 : Int).toNat * 4 + 1, none⟩ = false := hfr7 1; have hf7_2 : w14.frozen? ⟨go5, (x5_1 : Int).toNat * 4 + 2, none⟩ = false := hfr7 2; have hf7_3 : w14.frozen? ⟨go5, (x5_1 : Int).toNat * 4 + 3, none⟩ = false := hfr7 3; clear hcl7 hcc7 hfr7 hM7; replace p7 := eq_true p7; replace q7 := eq_true q7; have HX15 := Aside0.mk (show Kd.R k158 158 w14 w0.heap.size (fun k_ => (P0_ k_ ∨ w.heap.size ≤ k_)) (.slice (some ⟨go5, 0, none⟩) x0_1.length co10) y825 from (z4_ HO_0.out)); obtain ⟨ce15, hcl15, hM15, hcc15, hfr15⟩ := Kd.R_elem HX15.out z158 (x5_1 : Int) (of_decide_eq_true (z3_)) (z35_ HO_0.out); obtain rfl := k158_openM hM15; have HP15 := Kd.R_seg HX15.out (x5_1 : Int) (of_decide_eq_true (z3_)) (z35_ HO_0.out) (seg := [.bool ((Int.tmod (wrap64 ((wrap64 (x1_1 + 1)) + 1)) 3) == 0)]) (j := 2) hcl15 hcc15 (show 3 ≤ 4 from by decide) (x' := (⟨(⟨(rd_T158 y825 x5_1).f0.f0, (rd_T158 y825 x5_1).f0.f1⟩ : S33), ((Int.tmod (wrap64 ((wrap64 (x1_1 + 1)) + 1)) 3) == 0), (rd_T158 y825 x5_1).f2⟩ : S158)) (k158_mkM _ _ _ (⟨(⟨(rd_T158 y825 x5_1).f0.f0, (rd_T158 y825 x5_1).f0.f1⟩ : S33), ((Int.tmod (wrap64 ((wrap64 (x1_1 + 1)) + 1)) 3) == 0), (rd_T158 y825 x5_1).f2⟩ : S158) ) (fun _ hk => hk); have hx15_2 := hcc15 2 _ rfl; (try simp only [show (k158).sz = 4 from rfl, Nat.mul_one, Nat.add_zero] at hx15_2); have hf15_2 := hfr15 2; (try simp only [show (k158).sz = 4 from rfl, Nat.mul_one, Nat.add_zero] at hf15_2); clear hcl15 hcc15 hfr15 hM15) | ((with_reducible refine gate_store (t := 4) (p := 34) rfl ?_); refine store_event (t := 4) (p := 34) (v := ?vo_w16) (w1 := (w14.setCell ⟨go5, (x5_1 : Int).toNat * 4 + 2, none⟩ (.bool ((Int.tmod (wrap64 ((wrap64 (x1_1 + 1)) + 1)) 3) == 0)))) ?hg ?ho ?hn ?hr ?_; (case ho => rfl); (case hg => rfl); (case hn => rfl); (case hr => first | (go_simp; done) | (go_simp; rfl)); intro w16 hw; have hg : w14.grownBy w16 (some go5) := (by rw [hw]; exact HP15.2); have hp_ : Kd.R k158 158 w16 w0.heap.size (fun k_ => (P0_ k_ ∨ w.heap.size ≤ k_)) (.slice (some ⟨go5, 0, none⟩) x0_1.length co10) y826 := (by rw [hw, Ny826.out]; exact HP15.1); clear HP15; have n_ := as3_ (hp_) ((by rw [hw]; exact below_set (HB.out) GB5.out : Below w0.heap.size w0 w16)) (Kept.of_grown (S := (fun k_ => P0_ k_)) hg (z29_ HK.out) (fun k_ e_ => (HO_0.out.1 k_ e_))); clear HO_0 HB HK; have ⟨HO_0, HB, HK⟩ := n_; clear n_; clear hg hw hp_) | ((with_reducible refine gate_callee (f := 82) rfl ?_); refine goesL_ (some 40) rfl rfl Try.func82 (by kernel_rfl) rfl #[.int .i64 (wrap64 ((wrap64 ((wrap64 (x1_1 + 1)) + 1)) + 1))] rfl (z0_) ?_; (with_reducible refine (laws_markText.calls k1 (wrap64 ((wrap64 ((wrap64 (x1_1 + 1)) + 1)) + 1)) t827 _ A8.out).mono ?_); rintro e w17 ⟨rfl, hb⟩; refine ⟨_, rfl, ?_⟩; have n_ := as3_ (Kd.R_below (z4_ HO_0.out) hb) (Kept.below (S := (fun k_ => P0_ k_)) (z29_ HK.out) hb) (below_step (z5_ HB.out) hb); clear HO_0 HK HB; have ⟨HO_0, HK, HB⟩ := n_; clear n_; (try clear hb); (try clear hb2); (try clear hk); (try clear hi); have p9 : 0 ≤ (x5_1 : Int) := of_decide_eq_true (z3_); have q9 : (x5_1 : Int) < ((x0_1.length : Int) : Int) := of_decide_eq_true (z3_); obtain ⟨ce9, hcl9, hM9, hcc9, hfr9⟩ := Kd.R_elem HO_0.out z158 (x5_1 : Int) p9 q9; obtain rfl := k158_openM hM9; have hx9_0 : w17.cell? ⟨go5, (x5_1 : Int).toNat * 4, none⟩ = some (.int .i64 ((rd_T158 y826 x5_1).f0.f0)) := hcc9 0 _ rfl; have hx9_1 : w17.cell? ⟨go5, (x5_1 : Int).toNat * 4 + 1, none⟩ = some (.int .i64 ((rd_T158 y826 x5_1).f0.f1)) := hcc9 1 _ rfl; have hx9_2 : w17.cell? ⟨go5, (x5_1 : Int).toNat * 4 + 2, none⟩ = some (.bool ((rd_T158 y826 x5_1).f1)) := hcc9 2 _ rfl; have hx9_3 : w17.cell? ⟨go5, (x5_1 : Int).toNat * 4 + 3, none⟩ = some (.string ((rd_T158 y826 x5_1).f2)) := hcc9 3 _ rfl; have hf9_0 : w17.frozen? ⟨go5, (x5_1 : Int).toNat * 4, none⟩ = false := hfr9 0; have hf9_1 : w17.frozen? ⟨go5, (x5_1 : Int).toNat * 4 + 1, none⟩ = false := hfr9 1; have hf9_2 : w17.frozen? ⟨go5, (x5_1 : Int).toNat * 4 + 2, none⟩ = false := hfr9 2; have hf9_3 : w17.frozen? ⟨go5, (x5_1 : Int).toNat * 4 + 3, none⟩ = false := hfr9 3; clear hcl9 hcc9 hfr9 hM9; replace p9 := eq_true p9; replace q9 := eq_true q9; have HX18 := Aside0.mk (show Kd.R k158 158 w17 w0.heap.size (fun k_ => (P0_ k_ ∨ w.heap.size ≤ k_)) (.slice (some ⟨go5, 0, none⟩) x0_1.length co10) y826 from (z4_ HO_0.out)); obtain ⟨ce18, hcl18, hM18, hcc18, hfr18⟩ := Kd.R_elem HX18.out z158 (x5_1 : Int) (of_decide_eq_true (z3_)) (z35_ HO_0.out); obtain rfl := k158_openM hM18; have HP18 := Kd.R_seg HX18.out (x5_1 : Int) (of_decide_eq_true (z3_)) (z35_ HO_0.out) (seg := [.string t827]) (j := 3) hcl18 hcc18 (show 4 ≤ 4 from by decide) (x' := (⟨(⟨(rd_T158 y826 x5_1).f0.f0, (rd_T158 y826 x5_1).f0.f1⟩ : S33), (rd_T158 y826 x5_1).f1, t827⟩ : S158)) (k158_mkM _ _ _ (⟨(⟨(rd_T158 y826 x5_1).f0.f0, (rd_T158 y826 x5_1).f0.f1⟩ : S33), (rd_T158 y826 x5_1).f1, t827⟩ : S158) ) (fun _ hk => hk); have hx18_3 := hcc18 3 _ rfl; (try simp only [show (k158).sz = 4 from rfl, Nat.mul_one, Nat.add_zero] at hx18_3); have hf18_3 := hfr18 3; (try simp only [show (k158).sz = 4 from rfl, Nat.mul_one, Nat.add_zero] at hf18_3); clear hcl18 hcc18 hfr18 hM18) | ((with_reducible refine gate_store (t := 9) (p := 42) rfl ?_); refine store_event (t := 9) (p := 42) (v := ?vo_w19) (w1 := (w17.setCell ⟨go5, (x5_1 : Int).toNat * 4 + 3, none⟩ (.string t827))) ?hg ?ho ?hn ?hr ?_; (case ho => rfl); (case hg => rfl); (case hn => rfl); (case hr => first | (go_simp; done) | (go_simp; rfl)); intro w19 hw; have hg : w17.grownBy w19 (some go5) := (by rw [hw]; exact HP18.2); have hp_ : Kd.R k158 158 w19 w0.heap.size (fun k_ => (P0_ k_ ∨ w.heap.size ≤ k_)) (.slice (some ⟨go5, 0, none⟩) x0_1.length co10) y828 := (by rw [hw, Ny828.out]; exact HP18.1); clear HP18; have n_ := as3_ (hp_) ((by rw [hw]; exact below_set (HB.out) GB5.out : Below w0.heap.size w0 w19)) (Kept.of_grown (S := (fun k_ => P0_ k_)) hg (z29_ HK.out) (fun k_ e_ => (HO_0.out.1 k_ e_))); clear HO_0 HB HK; have ⟨HO_0, HB, HK⟩ := n_; clear n_; clear hg hw hp_))
     go_roundg k1
     case measure => have := HK1.out; omega
     case rel => exact ⟨(y828), (wrap64 ((wrap64 ((wrap64 ((wrap64 (x1_1 + 1)) + 1)) + 1)) + 1)), (wrap64 (x5_1 + 1)), (z2_), (z2_), H', ⟨by have := HK1.out; omega⟩, ⟨z4_ HO_0.out⟩, ⟨z29_ HK.out⟩, ⟨z5_ HB.out⟩⟩
    ·rw [if_neg c4] at H
     exact absurd H (by simp)
   ·rw [if_neg c3] at H
    have c3b0 : decide (x5_1 < (x0_1.length : Int)) = false := decide_eq_false c3
    clear c3
    simp only [Option.some.injEq, Prod.mk.injEq] at H
    obtain ⟨rfl, rfl⟩ := H
    obtain ⟨Ao20, co20, eo20⟩ := Kd.R_slice HO_0.out
    subst eo20
    go_wp2
    go_ret
    exact ⟨z8_, z4_ HO_0.out, z5_ HB.out, z29_ HK.out⟩


/-! ### laws_markSet: function 49 -/
def laws_markSet.f (k : Nat) (l0_0 : List (S33)) (l0_1 : List (S158)) (a1 : Int) : Option (Int × (List (S33)) × (List (S158))) := (laws_markMarkS.f k l0_0 a1).bind fun bt830 => ((laws_markSibS.f k l0_1 bt830.1).bind fun bt832 => (some (bt832.1, bt830.2, bt832.2)))
theorem laws_markSet.mono : ∀ a0 a1 a2 k, LeO (laws_markSet.f k a0 a1 a2) (laws_markSet.f (k + 1) a0 a1 a2) := by
 intro a0 a1 a2 k
 unfold laws_markSet.f
 repeat' first
   | (with_reducible exact laws_markMarkS.mono _ _ _)
   | (with_reducible exact laws_markSibS.mono _ _ _)
   | (with_reducible exact LeO.refl _)
   | (with_reducible exact LeO.none _)
   | (with_reducible refine LeO.ite ?_ ?_)
   | (with_reducible refine LeO.bind ?_ (fun _ => ?_))
   | exact laws_markMarkS.mono _ _ _
   | exact laws_markSibS.mono _ _ _
   | exact LeO.none _
   | refine LeO.ite ?_ ?_
   | refine LeO.bind ?_ (fun _ => ?_)
set_option maxHeartbeats 8000000 in
set_option maxRecDepth 100000 in
theorem laws_markSet.calls (k : Nat) (P0_0_ : Nat → Prop) (u9000_ : Value) (l0_0 : List (S33)) (P0_1_ : Nat → Prop) (u9001_ : Value) (l0_1 : List (S158)) (a1 : Int) (r1 : Int) (r2 : List (S33)) (r3 : List (S158)) (w0 w : World) (hB : Below w0.heap.size w0 w) (ho0_0 : Kd.R k33 33 w w0.heap.size P0_0_ u9000_ l0_0) (ho0_1 : Kd.R k158 158 w w0.heap.size P0_1_ u9001_ l0_1) (h : laws_markSet.f k l0_0 l0_1 a1 = some (r1, r2, r3)) :
  Calls Try.prog 49 #[.agg #[u9000_, u9001_], .int .i64 a1] w fun e w' => e = .returned (.int .i64 r1) ∧ Kd.R k33 33 w' w0.heap.size (fun k_ => ((P0_0_ k_ ∨ P0_1_ k_) ∨ w.heap.size ≤ k_)) u9000_ r2 ∧ Kd.R k158 158 w' w0.heap.size (fun k_ => ((P0_0_ k_ ∨ P0_1_ k_) ∨ w.heap.size ≤ k_)) u9001_ r3 ∧ Below w0.heap.size w0 w' ∧ Kept w w' (fun k_ => P0_0_ k_ ∨ P0_1_ k_) := by
 have hu60 := Try.underlying60
 have HO0_0 := Aside0.mk (show Kd.R k33 33 w w0.heap.size (fun k_ => ((P0_0_ k_ ∨ P0_1_ k_) ∨ w.heap.size ≤ k_)) u9000_ l0_0 from Kd.R_mono ho0_0 (fun k_ hk => (.inl (.inl hk))))
 have HO0_1 := Aside0.mk (show Kd.R k158 158 w w0.heap.size (fun k_ => ((P0_0_ k_ ∨ P0_1_ k_) ∨ w.heap.size ≤ k_)) u9001_ l0_1 from Kd.R_mono ho0_1 (fun k_ hk => (.inl (.inr hk))))
 have HK := Aside0.mk (Kept.refl w (fun k_ => P0_0_ k_ ∨ P0_1_ k_))
 have HW0 := Aside0.mk hB.size
 have HB := Aside0.mk hB
 clear hB
 have H : ((laws_markMarkS.f k l0_0 a1).bind fun bt830 => ((laws_markSibS.f k l0_1 bt830.1).bind fun bt832 => (some (bt832.1, bt830.2, bt832.2)))) = some (r1, r2, r3) := h
 clear h
 replace H := Option.bind_eq_some_iff.mp H
 obtain ⟨⟨t830, t831⟩, A30, H⟩ := H
 replace H : ((laws_markSibS.f k l0_1 t830).bind fun bt832 => (some (bt832.1, t831, bt832.2))) = some (r1, r2, r3) := H
 have A3 := Aside0.mk A30
 clear A30
 replace H := Option.bind_eq_some_iff.mp H
 obtain ⟨⟨t832, t833⟩, A40, H⟩ := H
 replace H : (some (t832, t831, t833)) = some (r1, r2, r3) := H
 have A4 := Aside0.mk A40
 clear A40
 simp only [Option.some.injEq, Prod.mk.injEq] at H
 obtain ⟨rfl, rfl, rfl⟩ := H
 obtain ⟨Ao5, co5, eo5⟩ := Kd.R_slice HO0_0.out
 subst eo5
 obtain ⟨Ao6, co6, eo6⟩ := Kd.R_slice HO0_1.out
 subst eo6
 go_enter Try.func49, Try.ntmps49
 go_wp2_with (first | ((with_reducible refine gate_dst (N := 2) rfl ?_); refine box_event ?hg (N := 2) ?hd (cs := #[.slice Ao5 l0_0.length co5, .slice Ao6 l0_1.length co6]) (t := 60) ?hr ?_; (case hd => rfl); (case hg => rfl); (case hr => first | (go_simp; done) | (go_simp; rfl)); intro gb829 hg w7 hbox hb; have n_ := as7_ (Kd.R_below (z4_ HO0_0.out) hb) (Kd.R_below (z4_ HO0_1.out) hb) (Kept.below (S := (fun k_ => P0_0_ k_ ∨ P0_1_ k_)) (z29_ HK.out) hb) (below_step (z5_ HB.out) hb) (hbox) ((by rw [hg]; exact (by first | exact HK.out.1 | exact (show Kept w _ (fun k_ => P0_0_ k_ ∨ P0_1_ k_) from by repeat (first | (with_reducible first | exact HK.out | apply Kept.alloc | apply Kept.drewN | apply Kept.drew) | exact HK.out)).1) : w.heap.size ≤ gb829)) ((z7_ HB.out : w0.heap.size ≤ gb829)); clear HO0_0 HO0_1 HK HB; have ⟨HO0_0, HO0_1, HK, HB, BK829, GW829, GE829⟩ := n_; clear n_; clear hb hbox hg; have hcz8_0 : w7.cell? ⟨gb829, 0, none⟩ = some (.slice Ao5 l0_0.length co5) := (blk_cell BK829.out 0).trans rfl; have hcz8_1 : w7.cell? ⟨gb829, 1, none⟩ = some (.slice Ao6 l0_1.length co6) := (blk_cell BK829.out 1).trans rfl; have hfz8_0 := blk_frozen BK829.out 0; have hfz8_1 := blk_frozen BK829.out 1) | ((with_reducible refine gate_callee (f := 61) rfl ?_); refine goesL_ (some 8) rfl rfl Try.func61 (by kernel_rfl) rfl #[.slice Ao5 l0_0.length co5, .int .i64 a1] rfl (z0_) ?_; (with_reducible refine (laws_markMarkS.calls k (fun k_ => some k_ = (.slice Ao5 l0_0.length co5 : Value).ownBlock) (.slice Ao5 l0_0.length co5) l0_0 a1 t830 t831 w0 _ ?side1 ?side2 A3.out).mono ?_); (case side1 => exact z1_ HB.out GE829.out); (case side2 => exact Kd.R_tight rfl HO0_0.out); rintro e w9 ⟨rfl, hy0, hb, hkp⟩; refine ⟨_, rfl, ?_⟩; have n_ := as5_ (Kd.R_reok rfl hy0 (fun k_ e_ => HO0_0.out.1 k_ e_)) (Kd.R_mono (ok' := fun k_ => ((P0_0_ k_ ∨ P0_1_ k_) ∨ w.heap.size ≤ k_)) (Kd.R_keptB ((Kd.R_apart' HO0_1.out (Kd.R_typed HO0_0.out) (by decide))) hkp (fun k_ hk_ hs_ => (hk_.2) hs_)) (fun k_ hk_ => hk_.1.1)) (blk_kept (z9_ BK829.out) hkp (fun hs_ => (fun e_ => (Kd.R_ne HO0_0.out BK829.out (by decide)) e_) hs_)) (Kept.then_ (S := (fun k_ => P0_0_ k_ ∨ P0_1_ k_)) (z52_ HK.out GW829.out) hkp (fun k_ hs_ => (fun e_ => (HO0_0.out.1 k_ e_.symm)) hs_)) (hb); clear HO0_0 HO0_1 BK829 HK HB; have ⟨HO0_0, HO0_1, BK829, HK, HB⟩ := n_; clear n_; (try clear hb); (try clear hkp); (try clear hy0); have hcz10_0 : w9.cell? ⟨gb829, 0, none⟩ = some (.slice Ao5 l0_0.length co5) := (blk_cell BK829.out 0).trans rfl; have hcz10_1 : w9.cell? ⟨gb829, 1, none⟩ = some (.slice Ao6 l0_1.length co6) := (blk_cell BK829.out 1).trans rfl; have hfz10_0 := blk_frozen BK829.out 0; have hfz10_1 := blk_frozen BK829.out 1) | ((with_reducible refine gate_callee (f := 113) rfl ?_); refine goesL_ (some 12) rfl rfl Try.func113 (by kernel_rfl) rfl #[.slice Ao6 l0_1.length co6, .int .i64 t830] rfl (z0_) ?_; (with_reducible refine (laws_markSibS.calls k (fun k_ => some k_ = (.slice Ao6 l0_1.length co6 : Value).ownBlock) (.slice Ao6 l0_1.length co6) l0_1 t830 t832 t833 w0 _ ?side1 ?side2 A4.out).mono ?_); (case side1 => exact z1_ HB.out GE829.out); (case side2 => exact Kd.R_tight rfl HO0_1.out); rintro e w11 ⟨rfl, hy0, hb, hkp⟩; refine ⟨_, rfl, ?_⟩; have n_ := as5_ (Kd.R_mono (ok' := fun k_ => ((P0_0_ k_ ∨ P0_1_ k_) ∨ w.heap.size ≤ k_)) (Kd.R_keptB ((Kd.R_apart' HO0_0.out (Kd.R_typed HO0_1.out) (by decide))) hkp (fun k_ hk_ hs_ => (hk_.2) hs_)) (fun k_ hk_ => hk_.1.1)) (Kd.R_reok rfl hy0 (fun k_ e_ => HO0_1.out.1 k_ e_)) (blk_kept (z9_ BK829.out) hkp (fun hs_ => (fun e_ => (Kd.R_ne HO0_1.out BK829.out (by decide)) e_) hs_)) (Kept.then_ (S := (fun k_ => P0_0_ k_ ∨ P0_1_ k_)) (z52_ HK.out GW829.out) hkp (fun k_ hs_ => (fun e_ => (HO0_1.out.1 k_ e_.symm)) hs_)) (hb); clear HO0_0 HO0_1 BK829 HK HB; have ⟨HO0_0, HO0_1, BK829, HK, HB⟩ := n_; clear n_; (try clear hb); (try clear hkp); (try clear hy0)))
 go_ret
 exact ⟨z8_, z4_ HO0_0.out, z4_ HO0_1.out, z1_ HB.out GE829.out, z52_ HK.out GW829.out⟩


/-! ### laws_markSetOut: function 66 -/
def laws_markSetOut.f (k : Nat) (l0_0 : List (S33)) (l0_1 : List (S158)) (a0_2 : Int) (a0_3 : Int) (a0_4 : Int) (a1 : Int) : Option (Int × (List (S33)) × (List (S158))) := (laws_markSet.f k l0_0 l0_1 a1).bind fun bt1140 => (some (bt1140.1, bt1140.2.1, bt1140.2.2))
theorem laws_markSetOut.mono : ∀ a0 a1 a2 a3 a4 a5 k, LeO (laws_markSetOut.f k a0 a1 a2 a3 a4 a5) (laws_markSetOut.f (k + 1) a0 a1 a2 a3 a4 a5) := by
 intro a0 a1 a2 a3 a4 a5 k
 unfold laws_markSetOut.f
 repeat' first
   | (with_reducible exact laws_markSet.mono _ _ _ _)
   | (with_reducible exact LeO.refl _)
   | (with_reducible exact LeO.none _)
   | (with_reducible refine LeO.ite ?_ ?_)
   | (with_reducible refine LeO.bind ?_ (fun _ => ?_))
   | exact laws_markSet.mono _ _ _ _
   | exact LeO.none _
   | refine LeO.ite ?_ ?_
   | refine LeO.bind ?_ (fun _ => ?_)
set_option maxHeartbeats 8000000 in
set_option maxRecDepth 100000 in
theorem laws_markSetOut.calls (k : Nat) (P0_0_ : Nat → Prop) (u9000_ : Value) (l0_0 : List (S33)) (P0_1_ : Nat → Prop) (u9001_ : Value) (l0_1 : List (S158)) (a0_2 : Int) (a0_3 : Int) (a0_4 : Int) (a1 : Int) (r1 : Int) (r2 : List (S33)) (r3 : List (S158)) (w0 w : World) (hB : Below w0.heap.size w0 w) (ho0_0 : Kd.R k33 33 w w0.heap.size P0_0_ u9000_ l0_0) (ho0_1 : Kd.R k158 158 w w0.heap.size P0_1_ u9001_ l0_1) (h : laws_markSetOut.f k l0_0 l0_1 a0_2 a0_3 a0_4 a1 = some (r1, r2, r3)) :
  Calls Try.prog 66 #[.agg #[u9000_, u9001_, .int .i64 a0_2, .int .i64 a0_3, .int .i64 a0_4], .int .i64 a1] w fun e w' => e = .returned (.int .i64 r1) ∧ Kd.R k33 33 w' w0.heap.size (fun k_ => ((P0_0_ k_ ∨ P0_1_ k_) ∨ w.heap.size ≤ k_)) u9000_ r2 ∧ Kd.R k158 158 w' w0.heap.size (fun k_ => ((P0_0_ k_ ∨ P0_1_ k_) ∨ w.heap.size ≤ k_)) u9001_ r3 ∧ Below w0.heap.size w0 w' ∧ Kept w w' (fun k_ => P0_0_ k_ ∨ P0_1_ k_) := by
 have hu87 := Try.underlying87
 have hu60 := Try.underlying60
 have HO0_0 := Aside0.mk (show Kd.R k33 33 w w0.heap.size (fun k_ => ((P0_0_ k_ ∨ P0_1_ k_) ∨ w.heap.size ≤ k_)) u9000_ l0_0 from Kd.R_mono ho0_0 (fun k_ hk => (.inl (.inl hk))))
 have HO0_1 := Aside0.mk (show Kd.R k158 158 w w0.heap.size (fun k_ => ((P0_0_ k_ ∨ P0_1_ k_) ∨ w.heap.size ≤ k_)) u9001_ l0_1 from Kd.R_mono ho0_1 (fun k_ hk => (.inl (.inr hk))))
 have HK := Aside0.mk (Kept.refl w (fun k_ => P0_0_ k_ ∨ P0_1_ k_))
 have HW0 := Aside0.mk hB.size
 have HB := Aside0.mk hB
 clear hB
 have H : ((laws_markSet.f k l0_0 l0_1 a1).bind fun bt1140 => (some (bt1140.1, bt1140.2.1, bt1140.2.2))) = some (r1, r2, r3) := h
 clear h
 replace H := Option.bind_eq_some_iff.mp H
 obtain ⟨⟨t1140, t1141, t1142⟩, A30, H⟩ := H
 replace H : (some (t1140, t1141, t1142)) = some (r1, r2, r3) := H
 have A3 := Aside0.mk A30
 clear A30
 simp only [Option.some.injEq, Prod.mk.injEq] at H
 obtain ⟨rfl, rfl, rfl⟩ := H
 obtain ⟨Ao4, co4, eo4⟩ := Kd.R_slice HO0_0.out
 subst eo4
 obtain ⟨Ao5, co5, eo5⟩ := Kd.R_slice HO0_1.out
 subst eo5
 go_enter Try.func66, Try.ntmps66
 go_wp2_with (first | ((with_reducible refine gate_dst (N := 2) rfl ?_); refine box_event ?hg (N := 2) ?hd (cs := #[.slice Ao4 l0_0.length co4, .slice Ao5 l0_1.length co5, .int .i64 a0_2, .int .i64 a0_3, .int .i64 a0_4]) (t := 87) ?hr ?_; (case hd => rfl); (case hg => rfl); (case hr => first | (go_simp; done) | (go_simp; rfl)); intro gb1139 hg w6 hbox hb; have n_ := as7_ (Kd.R_below (z4_ HO0_0.out) hb) (Kd.R_below (z4_ HO0_1.out) hb) (Kept.below (S := (fun k_ => P0_0_ k_ ∨ P0_1_ k_)) (z29_ HK.out) hb) (below_step (z5_ HB.out) hb) (hbox) ((by rw [hg]; exact (by first | exact HK.out.1 | exact (show Kept w _ (fun k_ => P0_0_ k_ ∨ P0_1_ k_) from by repeat (first | (with_reducible first | exact HK.out | apply Kept.alloc | apply Kept.drewN | apply Kept.drew) | exact HK.out)).1) : w.heap.size ≤ gb1139)) ((z7_ HB.out : w0.heap.size ≤ gb1139)); clear HO0_0 HO0_1 HK HB; have ⟨HO0_0, HO0_1, HK, HB, BK1139, GW1139, GE1139⟩ := n_; clear n_; clear hb hbox hg; have hcz7_0 : w6.cell? ⟨gb1139, 0, none⟩ = some (.slice Ao4 l0_0.length co4) := (blk_cell BK1139.out 0).trans rfl; have hcz7_1 : w6.cell? ⟨gb1139, 1, none⟩ = some (.slice Ao5 l0_1.length co5) := (blk_cell BK1139.out 1).trans rfl; have hcz7_2 : w6.cell? ⟨gb1139, 2, none⟩ = some (.int .i64 a0_2) := (blk_cell BK1139.out 2).trans rfl; have hcz7_3 : w6.cell? ⟨gb1139, 3, none⟩ = some (.int .i64 a0_3) := (blk_cell BK1139.out 3).trans rfl; have hcz7_4 : w6.cell? ⟨gb1139, 4, none⟩ = some (.int .i64 a0_4) := (blk_cell BK1139.out 4).trans rfl; have hfz7_0 := blk_frozen BK1139.out 0; have hfz7_1 := blk_frozen BK1139.out 1; have hfz7_2 := blk_frozen BK1139.out 2; have hfz7_3 := blk_frozen BK1139.out 3; have hfz7_4 := blk_frozen BK1139.out 4) | ((with_reducible refine gate_callee (f := 49) rfl ?_); refine goesL_ (some 8) rfl rfl Try.func49 (by kernel_rfl) rfl #[.agg #[.slice Ao4 l0_0.length co4, .slice Ao5 l0_1.length co5], .int .i64 a1] rfl (z0_) ?_; (with_reducible refine (laws_markSet.calls k (fun k_ => some k_ = (.slice Ao4 l0_0.length co4 : Value).ownBlock) (.slice Ao4 l0_0.length co4) l0_0 (fun k_ => some k_ = (.slice Ao5 l0_1.length co5 : Value).ownBlock) (.slice Ao5 l0_1.length co5) l0_1 a1 t1140 t1141 t1142 w0 _ ?side1 ?side2 ?side3 A3.out).mono ?_); (case side1 => exact z1_ HB.out GE1139.out); (case side2 => exact Kd.R_tight rfl HO0_0.out); (case side3 => exact Kd.R_tight rfl HO0_1.out); rintro e w8 ⟨rfl, hy0, hy1, hb, hkp⟩; refine ⟨_, rfl, ?_⟩; have n_ := as5_ (Kd.R_reok rfl hy0 (fun k_ e_ => HO0_0.out.1 k_ e_)) (Kd.R_reok rfl hy1 (fun k_ e_ => HO0_1.out.1 k_ e_)) (blk_kept (z9_ BK1139.out) hkp (fun hs_ => Or.elim hs_ (fun e_ => (fun e_ => (Kd.R_ne HO0_0.out BK1139.out (by decide)) e_) e_) (fun e_ => (fun e_ => (Kd.R_ne HO0_1.out BK1139.out (by decide)) e_) e_))) (Kept.then_ (S := (fun k_ => P0_0_ k_ ∨ P0_1_ k_)) (z52_ HK.out GW1139.out) hkp (fun k_ hs_ => Or.elim hs_ (fun e_ => (fun e_ => (HO0_0.out.1 k_ e_.symm)) e_) (fun e_ => (fun e_ => (HO0_1.out.1 k_ e_.symm)) e_))) (hb); clear HO0_0 HO0_1 BK1139 HK HB; have ⟨HO0_0, HO0_1, BK1139, HK, HB⟩ := n_; clear n_; (try clear hb); (try clear hkp); (try clear hy0); (try clear hy1)))
 go_ret
 exact ⟨z8_, z4_ HO0_0.out, z4_ HO0_1.out, z1_ HB.out GE1139.out, z52_ HK.out GW1139.out⟩


/-! ### laws_heldMarkS: function 130 -/
def laws_heldMarkS.l0 : Nat → List (S33) → Int → Int → Option (Int)
 | 0, _, _, _ => none
 | k + 1, x0, x1, x5 => if x5 < (x0.length : Int) then (if 0 ≤ x5 then (if ((rd_T33 x0 x5).f0) = x1 then (if ((rd_T33 x0 x5).f1) = (wrap64 (x1 + 1)) then (laws_heldMarkS.l0 k x0 (wrap64 ((wrap64 (x1 + 1)) + 1)) (wrap64 (x5 + 1))) else (none)) else (none)) else (none)) else (some x1)
def laws_heldMarkS.f (k : Nat) (l0 : List (S33)) (a1 : Int) : Option (Int) := laws_heldMarkS.l0 k l0 a1 0
theorem laws_heldMarkS.mono_l : ∀ k, (∀ y0 y1 y2, LeO (laws_heldMarkS.l0 k y0 y1 y2) (laws_heldMarkS.l0 (k + 1) y0 y1 y2))
 | 0 => fun _ _ _ r h => by simp [laws_heldMarkS.l0] at h
 | k + 1 => by
  have ih0 := laws_heldMarkS.mono_l k
  ·intro y0 y1 y2
   unfold laws_heldMarkS.l0
   repeat' first
   | (with_reducible exact ih0 _ _ _)
   | (with_reducible exact LeO.refl _)
   | (with_reducible exact LeO.none _)
   | (with_reducible refine LeO.ite ?_ ?_)
   | (with_reducible refine LeO.bind ?_ (fun _ => ?_))
   | exact ih0 _ _ _
   | exact LeO.none _
   | refine LeO.ite ?_ ?_
   | refine LeO.bind ?_ (fun _ => ?_)
theorem laws_heldMarkS.mono : ∀ a0 a1 k, LeO (laws_heldMarkS.f k a0 a1) (laws_heldMarkS.f (k + 1) a0 a1) := by
 intro a0 a1 k
 have ih0 := laws_heldMarkS.mono_l k
 unfold laws_heldMarkS.f
 repeat' first
   | (with_reducible exact ih0 _ _ _)
   | (with_reducible exact LeO.refl _)
   | (with_reducible exact LeO.none _)
   | (with_reducible refine LeO.ite ?_ ?_)
   | (with_reducible refine LeO.bind ?_ (fun _ => ?_))
   | exact ih0 _ _ _
   | exact LeO.none _
   | refine LeO.ite ?_ ?_
   | refine LeO.bind ?_ (fun _ => ?_)
set_option maxHeartbeats 8000000 in
set_option maxRecDepth 100000 in
theorem laws_heldMarkS.calls (k : Nat) (A0 : Option Addr) (c0 : Nat) (l0 : List (S33)) (a1 : Int) (r : Int) (w : World) (hr0 : Kd.C k33 w A0 l0.length l0) (hc0 : l0.length ≤ c0) (h : laws_heldMarkS.f k l0 a1 = some r) :
  Calls Try.prog 130 #[.slice A0 l0.length c0, .int .i64 a1] w fun e w' => e = .returned (.int .i64 r) ∧ Drawn0 w w' := by
 have HR0 := Aside0.mk hr0
 have HC0 := Aside0.mk hc0
 clear hr0 hc0
 have H : (laws_heldMarkS.l0 k l0 a1 0) = some r := h
 clear h
 have H' := Aside0.mk H
 clear H
 go_enter Try.func130, Try.ntmps130
 go_wp2
 go_loopg [1, 5] k (fun kq v1 v5 w' => ∃ (x1_1 : Int) (x5_1 : Int), v1 = .int .i64 x1_1 ∧ v5 = .int .i64 x5_1 ∧ Aside0 (laws_heldMarkS.l0 kq l0 x1_1 x5_1 = some r) ∧ Aside0 (kq ≤ k) ∧ Drawn0 w w')
 case atStart => exact ⟨(a1), (0), (z2_), (z2_), H', ⟨Nat.le_refl _⟩, z13_⟩
 case round =>
  clear H'
  try clear c1
  try clear p2
  obtain ⟨x1_1, x5_1, rfl, rfl, HA, HK1, ⟨m1, rfl⟩⟩ := hrel
  cases gk with
  | zero => exact absurd HA.out (by simp [laws_heldMarkS.l0])
  | succ k1 =>
   have H := HA.out
   clear HA
   simp only [laws_heldMarkS.l0] at H
   by_cases c3 : x5_1 < (l0.length : Int)
   ·rw [if_pos c3] at H
    have c3b0 : decide (x5_1 < (l0.length : Int)) = true := decide_eq_true c3
    clear c3
    by_cases c4 : 0 ≤ x5_1
    ·rw [if_pos c4] at H
     have c4b0 : decide (0 ≤ x5_1) = true := decide_eq_true c4
     clear c4
     by_cases c5 : ((rd_T33 l0 x5_1).f0) = x1_1
     ·rw [if_pos c5] at H
      have c5b0 : (((rd_T33 l0 x5_1).f0) == x1_1) = true := beq_iff_eq.mpr c5
      have c5b1 : (((rd_T33 l0 x5_1).f0) != x1_1) = false := bne_eq_false_iff_eq.mpr c5
      clear c5
      by_cases c6 : ((rd_T33 l0 x5_1).f1) = (wrap64 (x1_1 + 1))
      ·rw [if_pos c6] at H
       have c6b0 : (((rd_T33 l0 x5_1).f1) == (wrap64 (x1_1 + 1))) = true := beq_iff_eq.mpr c6
       have c6b1 : (((rd_T33 l0 x5_1).f1) != (wrap64 (x1_1 + 1))) = false := bne_eq_false_iff_eq.mpr c6
       clear c6
       have H' := Aside0.mk H
       clear H
       have p842 : 0 ≤ (x5_1 : Int) := of_decide_eq_true (z3_)
       have q842 : x5_1 < (l0.length : Int) := of_decide_eq_true (z3_)
       obtain ⟨ad842, e842, hx842_0, hx842_1⟩ := at_T33 HR0.out x5_1 p842 q842
       cases e842
       replace p842 := eq_true p842
       replace q842 := eq_true q842
       have p843 : 0 ≤ (x5_1 : Int) := of_decide_eq_true (z3_)
       have q843 : x5_1 < (l0.length : Int) := of_decide_eq_true (z3_)
       obtain ⟨ad843, e843, hx843_0, hx843_1⟩ := at_T33 HR0.out x5_1 p843 q843
       obtain rfl : ad842 = ad843 := (by injection e843)
       replace p843 := eq_true p843
       replace q843 := eq_true q843
       go_wp2
       go_roundg k1
       case measure => have := HK1.out; omega
       case rel => exact ⟨(wrap64 ((wrap64 (x1_1 + 1)) + 1)), (wrap64 (x5_1 + 1)), (z2_), (z2_), H', ⟨by have := HK1.out; omega⟩, z13_⟩
      ·rw [if_neg c6] at H
       exact absurd H (by simp)
     ·rw [if_neg c5] at H
      exact absurd H (by simp)
    ·rw [if_neg c4] at H
     exact absurd H (by simp)
   ·rw [if_neg c3] at H
    have c3b0 : decide (x5_1 < (l0.length : Int)) = false := decide_eq_false c3
    clear c3
    obtain rfl := Option.some.inj H
    go_wp2
    go_ret
    exact ⟨z2_, z13_⟩

end Go.Proofs.Ytconpopbpphpgaa.P
