/- For all sets, marks, nodes, data and flags the program's SetPut and the reference's return the same, of its own memory, and leave what they are given. No condition. (Part 2 of 4: written by programs of this workplace and by hand, merged.) -/
import Derived.Test.YtphbgcfpcadabaaMFnExactSetPuta
set_option linter.unusedVariables false
set_option linter.unusedSimpArgs false

namespace Go.Proofs.Ytphbgcfpcadabaa.P
open Go.RowKit Go.Proofs.YtphbgcfpcadabaaW.PrintWords Go.Proofs.YtphbgcfpcadabaaW.PrintLast Go.Proofs.YtphbgcfpcadabaaW.PrintMore
attribute [local go_sem] max2_int min2_int max_two min_two max_three min_three max_four min_four   -- for this text's walks alone
set_option linter.unusedVariables false
set_option linter.unusedSimpArgs false

/-! ### spec_SeenHas: function 72 -/
def spec_SeenHas.f (k:Nat) (l0:List (S56)) (a1_0:Int) (a1_1:Int):Option (Bool):=(spec_SeenRight.f k l0).bind fun t120=>(if t120=true then ((spec_l02Dot.f a1_0 a1_1).bind fun t121=>(if t121=true then ((spec_l02Of.f k l0 a1_0).bind fun t122=>(some (decide (a1_1≤t122)))) else (some false))) else (some false))
theorem spec_SeenHas.mono:∀ a0 a1 a2 k,LeO (spec_SeenHas.f k a0 a1 a2) (spec_SeenHas.f (k+1) a0 a1 a2):=by
 intro a0 a1 a2 k
 unfold spec_SeenHas.f
 repeat' first
   | (with_reducible exact spec_SeenRight.mono _ _)
   | (with_reducible exact spec_l02Of.mono _ _ _)
   | (with_reducible exact LeO.refl _)
   | (with_reducible exact LeO.none _)
   | (with_reducible refine LeO.ite ?_ ?_)
   | (with_reducible refine LeO.bind ?_ (fun _=>?_))
   | exact spec_SeenRight.mono _ _
   | exact spec_l02Of.mono _ _ _
   | exact LeO.none _
   | refine LeO.ite ?_ ?_
   | refine LeO.bind ?_ (fun _=>?_)
def spec_SeenHas.T1:Bool × List (List Nat × List Nat):=(true,[([],[]),([0],[0]),([1,1],[1]),([2],[2]),([3,2,2],[2,3]),([2,4],[2,4]),([5,4],[5]),([6],[6]),([7,6],[6,7]),([6],[6]),([6],[6]),([10,6],[6,10]),([9,11,6,6],[6,9,11]),([8,12,6],[6,8,12]),([6,13],[6,13]),([14,12,0,1,2,3,4,5,6,7,8,9,10,11,12,13,14],[14])])
def spec_SeenHas.B1:List Nat:=[0,1,3,7,15,31,63,127,255,127,127,1151,3711,8191,16383,32767]
theorem spec_SeenHas.tab1:rtab .any (opsOf Try.f72 1)=spec_SeenHas.T1:=by kernel_rfl
theorem spec_SeenHas.bits1:waitsOk spec_SeenHas.T1.2 spec_SeenHas.B1=true:=by kernel_rfl
abbrev spec_SeenHas.q0:Array Bool:=#[O,O,O,O,O,O,O,O,O,O,O,O,O,O,O,O]
abbrev spec_SeenHas.q1:Array Bool:=#[I,O,O,O,O,O,O,O,O,O,O,O,O,O,O,O]
abbrev spec_SeenHas.q2:Array Bool:=#[I,I,O,O,O,O,O,O,O,O,O,O,O,O,O,O]
abbrev spec_SeenHas.q3:Array Bool:=#[I,I,I,O,O,O,O,O,O,O,O,O,O,O,O,O]
abbrev spec_SeenHas.q4:Array Bool:=#[I,I,I,I,O,O,O,O,O,O,O,O,O,O,O,O]
abbrev spec_SeenHas.q5:Array Bool:=#[I,I,I,I,I,O,O,O,O,O,O,O,O,O,O,O]
abbrev spec_SeenHas.q6:Array Bool:=#[I,I,I,I,I,I,O,O,O,O,O,O,O,O,O,O]
abbrev spec_SeenHas.q7:Array Bool:=#[I,I,I,I,I,I,I,O,O,O,O,O,O,O,O,O]
abbrev spec_SeenHas.q8:Array Bool:=#[I,I,I,I,I,I,I,I,O,O,O,O,O,O,O,O]
abbrev spec_SeenHas.q9:Array Bool:=#[I,I,I,I,I,I,I,I,I,I,I,O,O,O,O,O]
abbrev spec_SeenHas.q10:Array Bool:=#[I,I,I,I,I,I,I,I,I,I,I,I,O,O,O,O]
abbrev spec_SeenHas.q11:Array Bool:=#[I,I,I,I,I,I,I,I,I,I,I,I,I,O,O,O]
abbrev spec_SeenHas.q12:Array Bool:=#[I,I,I,I,I,I,I,I,I,I,I,I,I,I,O,O]
abbrev spec_SeenHas.q13:Array Bool:=#[I,I,I,I,I,I,I,I,I,I,I,I,I,I,I,O]
abbrev spec_SeenHas.q14:Array Bool:=#[I,I,I,I,I,I,I,I,I,I,I,I,I,I,I,I]
abbrev spec_SeenHas.q15:Array Bool:=#[I,I,I,I,I,I,I,I,I,O,O,O,O,O,O,O]
abbrev spec_SeenHas.q16:Array Bool:=#[I,I,I,I,I,I,I,I,I,I,O,O,O,O,O,O]
set_option maxHeartbeats 8000000 in
set_option maxRecDepth 100000 in
theorem spec_SeenHas.calls (k:Nat) (A0:Option Addr) (c0:Nat) (l0:List (S56)) (a1_0:Int) (a1_1:Int) (r:Bool) (w:World) (hr0:Kd.C k56 w A0 l0.length l0) (hc0:l0.length≤c0) (h:spec_SeenHas.f k l0 a1_0 a1_1=some r) :
  Calls Try.prog 72 #[.slice A0 l0.length c0,.agg #[.int .i64 a1_0,.int .i64 a1_1]] w fun e w'=>e = .returned (.bool r)∧Below w.heap.size w w':=by
 have hu56:=Try.underlying56
 have HR0:=Aside0.mk hr0
 have HC0:=Aside0.mk hc0
 clear hr0 hc0
 have HB:=Aside0.mk (Below.refl w.heap.size w)
 have H:((spec_SeenRight.f k l0).bind fun t120=>(if t120=true then ((spec_l02Dot.f a1_0 a1_1).bind fun t121=>(if t121=true then ((spec_l02Of.f k l0 a1_0).bind fun t122=>(some (decide (a1_1≤t122)))) else (some false))) else (some false)))=some r:=h
 clear h
 replace H:=Option.bind_eq_some_iff.mp H
 obtain ⟨t120,A30,H⟩:=H
 replace H:(if t120=true then ((spec_l02Dot.f a1_0 a1_1).bind fun t121=>(if t121=true then ((spec_l02Of.f k l0 a1_0).bind fun t122=>(some (decide (a1_1≤t122)))) else (some false))) else (some false))=some r:=H
 have A3:=Aside0.mk A30
 clear A30
 by_cases c4:t120=true
 ·subst c4
  have H1:((spec_l02Dot.f a1_0 a1_1).bind fun t121=>(if t121=true then ((spec_l02Of.f k l0 a1_0).bind fun t122=>(some (decide (a1_1≤t122)))) else (some false)))=some r:=by rw [if_pos rfl] at H;exact H
  clear H
  have H:=H1
  clear H1
  replace H:=Option.bind_eq_some_iff.mp H
  obtain ⟨t121,A50,H⟩:=H
  replace H:(if t121=true then ((spec_l02Of.f k l0 a1_0).bind fun t122=>(some (decide (a1_1≤t122)))) else (some false))=some r:=H
  have A5:=Aside0.mk A50
  clear A50
  by_cases c6:t121=true
  ·subst c6
   have H1:((spec_l02Of.f k l0 a1_0).bind fun t122=>(some (decide (a1_1≤t122))))=some r:=by rw [if_pos rfl] at H;exact H
   clear H
   have H:=H1
   clear H1
   replace H:=Option.bind_eq_some_iff.mp H
   obtain ⟨t122,A70,H⟩:=H
   replace H:(some (decide (a1_1≤t122)))=some r:=H
   have A7:=Aside0.mk A70
   clear A70
   obtain rfl:=Option.some.inj H
   go_enter Try.func72,Try.ntmps72
   try go_wp2_with (first | ((with_reducible refine gd_ 3 ?_);refine be_ 3 #[.int .i64 a1_0,.int .i64 a1_1] 56 ?_;intro gb119 hg w8 hbox hb;refine as4_ (below_step (z3_ HB.out) hb) (hbox) ((z7_ HB.out:w.heap.size≤gb119)) ((z7_ HB.out:w.heap.size≤gb119)) ?_;clear HB;intro HB BK119 GW119 GE119;clear hb hbox hg))
   refine as2_ (blk_drew BK119.out) (below_drew1 HB.out) ?_
   clear BK119 HB
   intro BK119 HB
   refine start_ (n:=16) (S:=fun w'=>w'.cell? ⟨gb119,0,none⟩=some (.int .i64 a1_0)∧w'.cell? ⟨gb119,1,none⟩=some (.int .i64 a1_1)) (ds:=[]) spec_SeenHas.q0 (by kernel_rfl) rfl rfl (cc2_ BK119.out) (fun hHeld=>?_);refine with_tabW spec_SeenHas.tab1 spec_SeenHas.bits1 (fun HT_ HW_=>?_)
   generalize w8.drew=w9 at BK119 HB hHeld ⊢
   refine pu_ 0 5 spec_SeenHas.q1 HT_.out ?_
   refine o1_ 1 6 spec_SeenHas.q2 HT_.out (fun K hK=>?_)
   refine gs_ Try.func68 #[.slice A0 l0.length c0] ?_
   with_reducible refine (spec_SeenRight.calls k _ _ l0 true _ ?s1 ?s2 A3.out).mono ?_
   (case s1=>repeat (first | exact (Kd.C_below HR0.out HB.out) | (with_reducible refine Kd.C_alloc ?_ _) | (with_reducible refine Kd.C_drewN ?_ _) | (with_reducible refine Kd.C_drew ?_)))
   (case s2=>exact HC0.out)
   rintro e w10 ⟨rfl,hb⟩
   refine ⟨_,rfl,?_⟩
   refine as2_ (blkB_ BK119.out hb) (below_step (z6_ HB.out GE119.out) hb) ?_
   clear BK119 HB
   intro BK119 HB
   (try clear hb)
   refine hK.out _ _ (cc2_ BK119.out) (fun hHeld=>?_)
   clear hK K
   refine nm_ 6 ?_
   refine pu_ 2 7 spec_SeenHas.q3 HT_.out ?_
   refine tk2_ 3 8 spec_SeenHas.q4 HT_.out HW_.out hHeld ?_
   refine o1_ 4 9 spec_SeenHas.q5 HT_.out (fun K hK=>?_)
   refine gs_ Try.func101 #[.agg #[.int .i64 a1_0,.int .i64 a1_1]] ?_
   with_reducible refine (spec_l02Dot.calls a1_0 a1_1 true _ A5.out).mono ?_
   rintro e w11 ⟨rfl,hb⟩
   refine ⟨_,rfl,?_⟩
   refine as2_ (blkB_ BK119.out hb) (below_step (z6_ HB.out GE119.out) hb) ?_
   clear BK119 HB
   intro BK119 HB
   (try clear hb)
   refine hK.out _ _ (cc2_ BK119.out) (fun hHeld=>?_)
   clear hK K
   refine nm_ 9 ?_
   refine pu_ 5 10 spec_SeenHas.q6 HT_.out ?_
   refine pu_ 6 11 spec_SeenHas.q7 HT_.out ?_
   refine pu_ 7 12 spec_SeenHas.q8 HT_.out ?_
   refine pu_ 9 14 #[I,I,I,I,I,I,I,I,O,I,O,O,O,O,O,O] HT_.out ?_
   refine pu_ 10 15 #[I,I,I,I,I,I,I,I,O,I,I,O,O,O,O,O] HT_.out ?_
   refine tk2_ 8 13 spec_SeenHas.q9 HT_.out HW_.out hHeld ?_
   refine tk2_ 11 16 spec_SeenHas.q10 HT_.out HW_.out hHeld ?_
   refine o1_ 12 17 spec_SeenHas.q11 HT_.out (fun K hK=>?_)
   refine gs_ Try.func71 #[.slice A0 l0.length c0,.int .i64 a1_0] ?_
   with_reducible refine (spec_l02Of.calls k _ _ l0 a1_0 t122 _ ?s1 ?s2 A7.out).mono ?_
   (case s1=>repeat (first | exact (Kd.C_below HR0.out HB.out) | (with_reducible refine Kd.C_alloc ?_ _) | (with_reducible refine Kd.C_drewN ?_ _) | (with_reducible refine Kd.C_drew ?_)))
   (case s2=>exact HC0.out)
   rintro e w' ⟨rfl,⟨nd,rfl⟩⟩
   refine ⟨_,rfl,?_⟩
   refine hK.out _ _ (cc2_ BK119.out) (fun hHeld=>?_)
   clear hK K
   refine nm_ 17 ?_
   refine pu_ 13 18 spec_SeenHas.q12 HT_.out ?_
   refine pu_ 14 19 spec_SeenHas.q13 HT_.out ?_
   refine pu_ 15 4 spec_SeenHas.q14 HT_.out ?_
   refine done_ (done_of HT_.out (by kernel_rfl)) ?_
   try go_wp2
   go_ret
   exact ⟨z8_,z6_ HB.out GE119.out⟩
  ·replace c6:=Bool.eq_false_iff.mpr c6
   subst c6
   have H1:(some false)=some r:=by rw [if_neg (show ¬ (false=true) by decide)] at H;exact H
   clear H
   have H:=H1
   clear H1
   obtain rfl:=Option.some.inj H
   go_enter Try.func72,Try.ntmps72
   try go_wp2_with (first | ((with_reducible refine gd_ 3 ?_);refine be_ 3 #[.int .i64 a1_0,.int .i64 a1_1] 56 ?_;intro gb119 hg w12 hbox hb;refine as4_ (below_step (z3_ HB.out) hb) (hbox) ((z7_ HB.out:w.heap.size≤gb119)) ((z7_ HB.out:w.heap.size≤gb119)) ?_;clear HB;intro HB BK119 GW119 GE119;clear hb hbox hg))
   refine as2_ (blk_drew BK119.out) (below_drew1 HB.out) ?_
   clear BK119 HB
   intro BK119 HB
   refine start_ (n:=16) (S:=fun w'=>w'.cell? ⟨gb119,0,none⟩=some (.int .i64 a1_0)∧w'.cell? ⟨gb119,1,none⟩=some (.int .i64 a1_1)) (ds:=[]) spec_SeenHas.q0 (by kernel_rfl) rfl rfl (cc2_ BK119.out) (fun hHeld=>?_);refine with_tabW spec_SeenHas.tab1 spec_SeenHas.bits1 (fun HT_ HW_=>?_)
   generalize w12.drew=w13 at BK119 HB hHeld ⊢
   refine pu_ 0 5 spec_SeenHas.q1 HT_.out ?_
   refine o1_ 1 6 spec_SeenHas.q2 HT_.out (fun K hK=>?_)
   refine gs_ Try.func68 #[.slice A0 l0.length c0] ?_
   with_reducible refine (spec_SeenRight.calls k _ _ l0 true _ ?s1 ?s2 A3.out).mono ?_
   (case s1=>repeat (first | exact (Kd.C_below HR0.out HB.out) | (with_reducible refine Kd.C_alloc ?_ _) | (with_reducible refine Kd.C_drewN ?_ _) | (with_reducible refine Kd.C_drew ?_)))
   (case s2=>exact HC0.out)
   rintro e w14 ⟨rfl,hb⟩
   refine ⟨_,rfl,?_⟩
   refine as2_ (blkB_ BK119.out hb) (below_step (z6_ HB.out GE119.out) hb) ?_
   clear BK119 HB
   intro BK119 HB
   (try clear hb)
   refine hK.out _ _ (cc2_ BK119.out) (fun hHeld=>?_)
   clear hK K
   refine nm_ 6 ?_
   refine pu_ 2 7 spec_SeenHas.q3 HT_.out ?_
   refine tk2_ 3 8 spec_SeenHas.q4 HT_.out HW_.out hHeld ?_
   refine o1_ 4 9 spec_SeenHas.q5 HT_.out (fun K hK=>?_)
   refine gs_ Try.func101 #[.agg #[.int .i64 a1_0,.int .i64 a1_1]] ?_
   with_reducible refine (spec_l02Dot.calls a1_0 a1_1 false _ A5.out).mono ?_
   rintro e w15 ⟨rfl,hb⟩
   refine ⟨_,rfl,?_⟩
   refine as2_ (blkB_ BK119.out hb) (below_step (z6_ HB.out GE119.out) hb) ?_
   clear BK119 HB
   intro BK119 HB
   (try clear hb)
   refine hK.out _ _ (cc2_ BK119.out) (fun hHeld=>?_)
   clear hK K
   refine nm_ 9 ?_
   refine pu_ 5 10 spec_SeenHas.q6 HT_.out ?_
   refine pu_ 6 11 spec_SeenHas.q7 HT_.out ?_
   refine pn_ 7 12 spec_SeenHas.q8 HT_.out ?_
   refine pn_ 8 13 spec_SeenHas.q15 HT_.out ?_
   refine pn_ 9 14 spec_SeenHas.q16 HT_.out ?_
   refine pn_ 10 15 spec_SeenHas.q9 HT_.out ?_
   refine pn_ 11 16 spec_SeenHas.q10 HT_.out ?_
   refine pn_ 12 17 spec_SeenHas.q11 HT_.out ?_
   refine pn_ 13 18 spec_SeenHas.q12 HT_.out ?_
   refine pu_ 14 19 spec_SeenHas.q13 HT_.out ?_
   refine pu_ 15 4 spec_SeenHas.q14 HT_.out ?_
   refine done_ (done_of HT_.out (by kernel_rfl)) ?_
   try go_wp2
   go_ret
   exact ⟨z8_,z6_ HB.out GE119.out⟩
 ·replace c4:=Bool.eq_false_iff.mpr c4
  subst c4
  have H1:(some false)=some r:=by rw [if_neg (show ¬ (false=true) by decide)] at H;exact H
  clear H
  have H:=H1
  clear H1
  obtain rfl:=Option.some.inj H
  go_enter Try.func72,Try.ntmps72
  try go_wp2_with (first | ((with_reducible refine gd_ 3 ?_);refine be_ 3 #[.int .i64 a1_0,.int .i64 a1_1] 56 ?_;intro gb119 hg w16 hbox hb;refine as4_ (below_step (z3_ HB.out) hb) (hbox) ((z7_ HB.out:w.heap.size≤gb119)) ((z7_ HB.out:w.heap.size≤gb119)) ?_;clear HB;intro HB BK119 GW119 GE119;clear hb hbox hg))
  refine as2_ (blk_drew BK119.out) (below_drew1 HB.out) ?_
  clear BK119 HB
  intro BK119 HB
  refine start_ (n:=16) (S:=fun w'=>True) (ds:=[]) spec_SeenHas.q0 (by kernel_rfl) rfl rfl trivial (fun hHeld=>?_);refine with_tabW spec_SeenHas.tab1 spec_SeenHas.bits1 (fun HT_ HW_=>?_)
  generalize w16.drew=w17 at BK119 HB hHeld ⊢
  refine pu_ 0 5 spec_SeenHas.q1 HT_.out ?_
  refine o1_ 1 6 spec_SeenHas.q2 HT_.out (fun K hK=>?_)
  refine gs_ Try.func68 #[.slice A0 l0.length c0] ?_
  with_reducible refine (spec_SeenRight.calls k _ _ l0 false _ ?s1 ?s2 A3.out).mono ?_
  (case s1=>repeat (first | exact (Kd.C_below HR0.out HB.out) | (with_reducible refine Kd.C_alloc ?_ _) | (with_reducible refine Kd.C_drewN ?_ _) | (with_reducible refine Kd.C_drew ?_)))
  (case s2=>exact HC0.out)
  rintro e w18 ⟨rfl,hb⟩
  refine ⟨_,rfl,?_⟩
  refine as2_ (blkB_ BK119.out hb) (below_step (z6_ HB.out GE119.out) hb) ?_
  clear BK119 HB
  intro BK119 HB
  (try clear hb)
  refine hK.out _ _ trivial (fun hHeld=>?_)
  clear hK K
  refine nm_ 6 ?_
  refine pu_ 2 7 spec_SeenHas.q3 HT_.out ?_
  refine pn_ 3 8 spec_SeenHas.q4 HT_.out ?_
  refine pn_ 4 9 spec_SeenHas.q5 HT_.out ?_
  refine pu_ 5 10 spec_SeenHas.q6 HT_.out ?_
  refine pu_ 6 11 spec_SeenHas.q7 HT_.out ?_
  refine pn_ 7 12 spec_SeenHas.q8 HT_.out ?_
  refine pn_ 8 13 spec_SeenHas.q15 HT_.out ?_
  refine pn_ 9 14 spec_SeenHas.q16 HT_.out ?_
  refine pn_ 10 15 spec_SeenHas.q9 HT_.out ?_
  refine pn_ 11 16 spec_SeenHas.q10 HT_.out ?_
  refine pn_ 12 17 spec_SeenHas.q11 HT_.out ?_
  refine pn_ 13 18 spec_SeenHas.q12 HT_.out ?_
  refine pu_ 14 19 spec_SeenHas.q13 HT_.out ?_
  refine pu_ 15 4 spec_SeenHas.q14 HT_.out ?_
  refine done_ (done_of HT_.out (by kernel_rfl)) ?_
  try go_wp2
  go_ret
  exact ⟨z8_,z6_ HB.out GE119.out⟩


/-! ### spec_l03Less: function 82 -/
def spec_l03Less.f (a0_0:Int) (a0_1:Int) (a1_0:Int) (a1_1:Int):Option (Bool):=if a0_0<a1_0 then (some true) else (if a0_0=a1_0 then (some (decide (a0_1<a1_1))) else (some false))
set_option maxHeartbeats 8000000 in
set_option maxRecDepth 100000 in
theorem spec_l03Less.calls (a0_0:Int) (a0_1:Int) (a1_0:Int) (a1_1:Int) (r:Bool) (w:World) (h:spec_l03Less.f a0_0 a0_1 a1_0 a1_1=some r) :
  Calls Try.prog 82 #[.agg #[.int .i64 a0_0,.int .i64 a0_1],.agg #[.int .i64 a1_0,.int .i64 a1_1]] w fun e w'=>e = .returned (.bool r)∧Below w.heap.size w w':=by
 have hu56:=Try.underlying56
 have HB:=Aside0.mk (Below.refl w.heap.size w)
 have H:(if a0_0<a1_0 then (some true) else (if a0_0=a1_0 then (some (decide (a0_1<a1_1))) else (some false)))=some r:=h
 clear h
 by_cases c3:a0_0<a1_0
 ·rw [if_pos c3] at H
  have c3b0:decide (a0_0<a1_0)=true:=decide_eq_true c3
  clear c3
  obtain rfl:=Option.some.inj H
  go_enter Try.func82,Try.ntmps82
  go_wp2_with (first | ((with_reducible refine gd_ 2 ?_);refine be_ 2 #[.int .i64 a0_0,.int .i64 a0_1] 56 ?_;intro gb123 hg w4 hbox hb;refine as4_ (below_step (z3_ HB.out) hb) (hbox) ((z7_ HB.out:w.heap.size≤gb123)) ((z7_ HB.out:w.heap.size≤gb123)) ?_;clear HB;intro HB BK123 GW123 GE123;clear hb hbox hg) | ((with_reducible refine gd_ 3 ?_);refine be_ 3 #[.int .i64 a1_0,.int .i64 a1_1] 56 ?_;intro gb124 hg w5 hbox hb;refine as7_ (blkB_ BK123.out hb) (below_step (z6_ HB.out GE123.out) hb) (hbox) ((z9_ HB.out GE123.out:w.heap.size≤gb124)) ((z9_ HB.out GE123.out:w.heap.size≤gb124)) (neL_ BK123.out hg) (neG_ BK123.out hg) ?_;clear BK123 HB;intro BK123 HB BK124 GW124 GE124 NB123_124 NB124_123;clear hb hbox hg;have hnb6:=NB123_124.out;have hnc6:=NB124_123.out;have ⟨hcz7_0,hcz7_1,hfz7_0,hfz7_1⟩:=cz2_ BK123.out;have ⟨hcz8_0,hcz8_1,hfz8_0,hfz8_1⟩:=cz2_ BK124.out))
  go_ret
  exact ⟨z8_,z4_ HB.out GE123.out GE124.out⟩
 ·rw [if_neg c3] at H
  have c3b0:decide (a0_0<a1_0)=false:=decide_eq_false c3
  clear c3
  by_cases c9:a0_0=a1_0
  ·rw [if_pos c9] at H
   have c9b0:(a0_0 == a1_0)=true:=beq_iff_eq.mpr c9
   have c9b1:(a0_0 != a1_0)=false:=bne_eq_false_iff_eq.mpr c9
   clear c9
   obtain rfl:=Option.some.inj H
   go_enter Try.func82,Try.ntmps82
   go_wp2_with (first | ((with_reducible refine gd_ 2 ?_);refine be_ 2 #[.int .i64 a0_0,.int .i64 a0_1] 56 ?_;intro gb123 hg w10 hbox hb;refine as4_ (below_step (z3_ HB.out) hb) (hbox) ((z7_ HB.out:w.heap.size≤gb123)) ((z7_ HB.out:w.heap.size≤gb123)) ?_;clear HB;intro HB BK123 GW123 GE123;clear hb hbox hg) | ((with_reducible refine gd_ 3 ?_);refine be_ 3 #[.int .i64 a1_0,.int .i64 a1_1] 56 ?_;intro gb124 hg w11 hbox hb;refine as7_ (blkB_ BK123.out hb) (below_step (z6_ HB.out GE123.out) hb) (hbox) ((z9_ HB.out GE123.out:w.heap.size≤gb124)) ((z9_ HB.out GE123.out:w.heap.size≤gb124)) (neL_ BK123.out hg) (neG_ BK123.out hg) ?_;clear BK123 HB;intro BK123 HB BK124 GW124 GE124 NB123_124 NB124_123;clear hb hbox hg;have hnb12:=NB123_124.out;have hnc12:=NB124_123.out;have ⟨hcz13_0,hcz13_1,hfz13_0,hfz13_1⟩:=cz2_ BK123.out;have ⟨hcz14_0,hcz14_1,hfz14_0,hfz14_1⟩:=cz2_ BK124.out))
   go_ret
   exact ⟨z8_,z4_ HB.out GE123.out GE124.out⟩
  ·rw [if_neg c9] at H
   have c9b0:(a0_0 == a1_0)=false:=beq_eq_false_iff_ne.mpr c9
   have c9b1:(a0_0 != a1_0)=true:=bne_iff_ne.mpr c9
   obtain rfl:=Option.some.inj H
   go_enter Try.func82,Try.ntmps82
   go_wp2_with (first | ((with_reducible refine gd_ 2 ?_);refine be_ 2 #[.int .i64 a0_0,.int .i64 a0_1] 56 ?_;intro gb123 hg w15 hbox hb;refine as4_ (below_step (z3_ HB.out) hb) (hbox) ((z7_ HB.out:w.heap.size≤gb123)) ((z7_ HB.out:w.heap.size≤gb123)) ?_;clear HB;intro HB BK123 GW123 GE123;clear hb hbox hg) | ((with_reducible refine gd_ 3 ?_);refine be_ 3 #[.int .i64 a1_0,.int .i64 a1_1] 56 ?_;intro gb124 hg w16 hbox hb;refine as7_ (blkB_ BK123.out hb) (below_step (z6_ HB.out GE123.out) hb) (hbox) ((z9_ HB.out GE123.out:w.heap.size≤gb124)) ((z9_ HB.out GE123.out:w.heap.size≤gb124)) (neL_ BK123.out hg) (neG_ BK123.out hg) ?_;clear BK123 HB;intro BK123 HB BK124 GW124 GE124 NB123_124 NB124_123;clear hb hbox hg;have hnb17:=NB123_124.out;have hnc17:=NB124_123.out;have ⟨hcz18_0,hcz18_1,hfz18_0,hfz18_1⟩:=cz2_ BK123.out;have ⟨hcz19_0,hcz19_1,hfz19_0,hfz19_1⟩:=cz2_ BK124.out))
   go_ret
   exact ⟨z8_,z4_ HB.out GE123.out GE124.out⟩


/-! ### spec_SetRight: function 51 -/
mutual
def spec_SetRight.j0:Nat→Bool→List (S56)→List (S91)→Option (Bool)
 | 0,_,_,_=>none
 | k+1,x14,x126000,x126001=>if x14=true then (some false) else (spec_SetRight.l0 k 0 x126000 x126001)
def spec_SetRight.l0:Nat→Int→List (S56)→List (S91)→Option (Bool)
 | 0,_,_,_=>none
 | k+1,x3,x126000,x126001=>if x3<(x126001.length:Int) then (if 0≤x3 then ((spec_SeenHas.f k x126000 ((rd_T91 x126001 x3).f0.f0) ((rd_T91 x126001 x3).f0.f1)).bind fun t129=>(if t129=true then (if (((rd_T91 x126001 x3).f2).size:Int)>16 then (some false) else (if (rd_T91 x126001 x3).f1=true then (if ((rd_T91 x126001 x3).f2).toList=([]:List UInt8) then (if x3>0 then (if 0≤(wrap64 (x3-1)) then (if (wrap64 (x3-1))<(x126001.length:Int) then ((spec_l03Less.f ((rd_T91 x126001 (wrap64 (x3-1))).f0.f0) ((rd_T91 x126001 (wrap64 (x3-1))).f0.f1) ((rd_T91 x126001 x3).f0.f0) ((rd_T91 x126001 x3).f0.f1)).bind fun t131=>(if t131=true then (spec_SetRight.l0 k (wrap64 (x3+1)) x126000 x126001) else (some false))) else (none)) else (none)) else (spec_SetRight.l0 k (wrap64 (x3+1)) x126000 x126001)) else (some false)) else (if x3>0 then (if 0≤(wrap64 (x3-1)) then (if (wrap64 (x3-1))<(x126001.length:Int) then ((spec_l03Less.f ((rd_T91 x126001 (wrap64 (x3-1))).f0.f0) ((rd_T91 x126001 (wrap64 (x3-1))).f0.f1) ((rd_T91 x126001 x3).f0.f0) ((rd_T91 x126001 x3).f0.f1)).bind fun t133=>(if t133=true then (spec_SetRight.l0 k (wrap64 (x3+1)) x126000 x126001) else (some false))) else (none)) else (none)) else (spec_SetRight.l0 k (wrap64 (x3+1)) x126000 x126001)))) else (some false))) else (none)) else (some true)
end
def spec_SetRight.f (k:Nat) (l0_0:List (S56)) (l0_1:List (S91)):Option (Bool):=(spec_SeenRight.f k l0_0).bind fun t126=>(if t126=true then (spec_SetRight.j0 k (decide ((l0_1.length:Int)>8)) l0_0 l0_1) else (spec_SetRight.j0 k true l0_0 l0_1))
theorem spec_SetRight.mono_l:∀ k,(∀ y0 y1 y2,LeO (spec_SetRight.j0 k y0 y1 y2) (spec_SetRight.j0 (k+1) y0 y1 y2))∧(∀ y0 y1 y2,LeO (spec_SetRight.l0 k y0 y1 y2) (spec_SetRight.l0 (k+1) y0 y1 y2))
 | 0=>⟨fun _ _ _ r h=>by simp [spec_SetRight.j0] at h,fun _ _ _ r h=>by simp [spec_SetRight.l0] at h⟩
 | k+1=>by
  obtain ⟨ih0,ih1⟩:=spec_SetRight.mono_l k
  refine ⟨?_,?_⟩
  ·intro y0 y1 y2
   unfold spec_SetRight.j0
   repeat' first
   | (with_reducible exact ih0 _ _ _)
   | (with_reducible exact ih1 _ _ _)
   | (with_reducible exact spec_SeenHas.mono _ _ _ _)
   | (with_reducible exact spec_SeenRight.mono _ _)
   | (with_reducible exact LeO.refl _)
   | (with_reducible exact LeO.none _)
   | (with_reducible refine LeO.ite ?_ ?_)
   | (with_reducible refine LeO.bind ?_ (fun _=>?_))
   | exact ih0 _ _ _
   | exact ih1 _ _ _
   | exact spec_SeenHas.mono _ _ _ _
   | exact spec_SeenRight.mono _ _
   | exact LeO.none _
   | refine LeO.ite ?_ ?_
   | refine LeO.bind ?_ (fun _=>?_)
  ·intro y0 y1 y2
   unfold spec_SetRight.l0
   repeat' first
   | (with_reducible exact ih0 _ _ _)
   | (with_reducible exact ih1 _ _ _)
   | (with_reducible exact spec_SeenHas.mono _ _ _ _)
   | (with_reducible exact spec_SeenRight.mono _ _)
   | (with_reducible exact LeO.refl _)
   | (with_reducible exact LeO.none _)
   | (with_reducible refine LeO.ite ?_ ?_)
   | (with_reducible refine LeO.bind ?_ (fun _=>?_))
   | exact ih0 _ _ _
   | exact ih1 _ _ _
   | exact spec_SeenHas.mono _ _ _ _
   | exact spec_SeenRight.mono _ _
   | exact LeO.none _
   | refine LeO.ite ?_ ?_
   | refine LeO.bind ?_ (fun _=>?_)
theorem spec_SetRight.mono:∀ a0 a1 k,LeO (spec_SetRight.f k a0 a1) (spec_SetRight.f (k+1) a0 a1):=by
 intro a0 a1 k
 obtain ⟨ih0,ih1⟩:=spec_SetRight.mono_l k
 unfold spec_SetRight.f
 repeat' first
   | (with_reducible exact ih0 _ _ _)
   | (with_reducible exact ih1 _ _ _)
   | (with_reducible exact spec_SeenHas.mono _ _ _ _)
   | (with_reducible exact spec_SeenRight.mono _ _)
   | (with_reducible exact LeO.refl _)
   | (with_reducible exact LeO.none _)
   | (with_reducible refine LeO.ite ?_ ?_)
   | (with_reducible refine LeO.bind ?_ (fun _=>?_))
   | exact ih0 _ _ _
   | exact ih1 _ _ _
   | exact spec_SeenHas.mono _ _ _ _
   | exact spec_SeenRight.mono _ _
   | exact LeO.none _
   | refine LeO.ite ?_ ?_
   | refine LeO.bind ?_ (fun _=>?_)
def spec_SetRight.T7:Bool × List (List Nat × List Nat):=(true,[([],[]),([0],[0]),([],[]),([2],[2]),([1,3],[1,3]),([4],[4]),([5,4],[5]),([6],[6]),([7,6],[6,7]),([8,6],[6,8]),([9,6],[6,9]),([6,10],[6,10]),([11,6],[11]),([12],[12]),([13,12],[12,13]),([14,12,12],[12,14]),([15],[15]),([16,15],[15,16]),([17,15],[15,17]),([15,18,12],[12,15,18]),([12,19],[12,19]),([20,15],[20]),([21],[21]),([22,21],[21,22]),([23,21,21],[21,23]),([24],[24]),([25,24],[24,25]),([24],[24]),([27,24],[24,27]),([26,28,24],[24,26,28]),([29,24],[24,29]),([30,24],[24,30]),([24],[24]),([32,24],[24,32]),([31,33,24,24],[24,31,33]),([34,24],[24,34]),([24,35,21],[21,24,35]),([21,36],[21,36])])
def spec_SetRight.B7:List Nat:=[0,1,0,4,15,31,63,127,255,511,1023,2047,4095,8191,16383,32767,65535,131071,262143,524287,1048575,2097151,4194303,8388607,16777215,33554431,67108863,33554431,167772159,536870911,1073741823,2147483647,33554431,4328521727,17179869183,34359738367,68719476735,137438953471]
theorem spec_SetRight.tab7:rtab .any (opsOf Try.f51 7)=spec_SetRight.T7:=by kernel_rfl
theorem spec_SetRight.bits7:waitsOk spec_SetRight.T7.2 spec_SetRight.B7=true:=by kernel_rfl
abbrev spec_SetRight.q0:Array Bool:=#[O,O,O,O,O,O,O,O,O,O,O,O,O,O,O,O,O,O,O,O,O,O,O,O,O,O,O,O,O,O,O,O,O,O,O,O,O,O]
abbrev spec_SetRight.q1:Array Bool:=#[I,O,O,O,O,O,O,O,O,O,O,O,O,O,O,O,O,O,O,O,O,O,O,O,O,O,O,O,O,O,O,O,O,O,O,O,O,O]
abbrev spec_SetRight.q2:Array Bool:=#[I,O,I,O,O,O,O,O,O,O,O,O,O,O,O,O,O,O,O,O,O,O,O,O,O,O,O,O,O,O,O,O,O,O,O,O,O,O]
abbrev spec_SetRight.q3:Array Bool:=#[I,I,I,O,O,O,O,O,O,O,O,O,O,O,O,O,O,O,O,O,O,O,O,O,O,O,O,O,O,O,O,O,O,O,O,O,O,O]
abbrev spec_SetRight.q4:Array Bool:=#[I,I,I,I,O,O,O,O,O,O,O,O,O,O,O,O,O,O,O,O,O,O,O,O,O,O,O,O,O,O,O,O,O,O,O,O,O,O]
abbrev spec_SetRight.q5:Array Bool:=#[I,I,I,I,I,O,O,O,O,O,O,O,O,O,O,O,O,O,O,O,O,O,O,O,O,O,O,O,O,O,O,O,O,O,O,O,O,O]
abbrev spec_SetRight.q6:Array Bool:=#[I,I,I,I,I,I,O,O,O,O,O,O,O,O,O,O,O,O,O,O,O,O,O,O,O,O,O,O,O,O,O,O,O,O,O,O,O,O]
abbrev spec_SetRight.q7:Array Bool:=#[I,I,I,I,I,I,I,O,O,O,O,O,O,O,O,O,O,O,O,O,O,O,O,O,O,O,O,O,O,O,O,O,O,O,O,O,O,O]
abbrev spec_SetRight.q8:Array Bool:=#[I,I,I,I,I,I,I,I,O,O,O,O,O,O,O,O,O,O,O,O,O,O,O,O,O,O,O,O,O,O,O,O,O,O,O,O,O,O]
abbrev spec_SetRight.q9:Array Bool:=#[I,I,I,I,I,I,I,I,I,O,O,O,O,O,O,O,O,O,O,O,O,O,O,O,O,O,O,O,O,O,O,O,O,O,O,O,O,O]
abbrev spec_SetRight.q10:Array Bool:=#[I,I,I,I,I,I,I,I,I,I,O,O,O,O,O,O,O,O,O,O,O,O,O,O,O,O,O,O,O,O,O,O,O,O,O,O,O,O]
abbrev spec_SetRight.q11:Array Bool:=#[I,I,I,I,I,I,I,I,I,I,I,O,O,O,O,O,O,O,O,O,O,O,O,O,O,O,O,O,O,O,O,O,O,O,O,O,O,O]
abbrev spec_SetRight.q12:Array Bool:=#[I,I,I,I,I,I,I,I,I,I,I,I,O,O,O,O,O,O,O,O,O,O,O,O,O,O,O,O,O,O,O,O,O,O,O,O,O,O]
abbrev spec_SetRight.q13:Array Bool:=#[I,I,I,I,I,I,I,I,I,I,I,I,I,O,O,O,O,O,O,O,O,O,O,O,O,O,O,O,O,O,O,O,O,O,O,O,O,O]
abbrev spec_SetRight.q14:Array Bool:=#[I,I,I,I,I,I,I,I,I,I,I,I,I,I,O,O,O,O,O,O,O,O,O,O,O,O,O,O,O,O,O,O,O,O,O,O,O,O]
abbrev spec_SetRight.q15:Array Bool:=#[I,I,I,I,I,I,I,I,I,I,I,I,I,I,I,O,O,O,O,O,O,O,O,O,O,O,O,O,O,O,O,O,O,O,O,O,O,O]
abbrev spec_SetRight.q16:Array Bool:=#[I,I,I,I,I,I,I,I,I,I,I,I,I,I,I,I,O,O,O,O,O,O,O,O,O,O,O,O,O,O,O,O,O,O,O,O,O,O]
abbrev spec_SetRight.q17:Array Bool:=#[I,I,I,I,I,I,I,I,I,I,I,I,I,I,I,I,I,O,O,O,O,O,O,O,O,O,O,O,O,O,O,O,O,O,O,O,O,O]
abbrev spec_SetRight.q18:Array Bool:=#[I,I,I,I,I,I,I,I,I,I,I,I,I,I,I,I,I,I,O,O,O,O,O,O,O,O,O,O,O,O,O,O,O,O,O,O,O,O]
abbrev spec_SetRight.q19:Array Bool:=#[I,I,I,I,I,I,I,I,I,I,I,I,I,I,I,I,I,I,I,O,O,O,O,O,O,O,O,O,O,O,O,O,O,O,O,O,O,O]
abbrev spec_SetRight.q20:Array Bool:=#[I,I,I,I,I,I,I,I,I,I,I,I,I,I,I,I,I,I,I,I,O,O,O,O,O,O,O,O,O,O,O,O,O,O,O,O,O,O]
abbrev spec_SetRight.q21:Array Bool:=#[I,I,I,I,I,I,I,I,I,I,I,I,I,I,I,I,I,I,I,I,I,O,O,O,O,O,O,O,O,O,O,O,O,O,O,O,O,O]
abbrev spec_SetRight.q22:Array Bool:=#[I,I,I,I,I,I,I,I,I,I,I,I,I,I,I,I,I,I,I,I,I,I,O,O,O,O,O,O,O,O,O,O,O,O,O,O,O,O]
abbrev spec_SetRight.q23:Array Bool:=#[I,I,I,I,I,I,I,I,I,I,I,I,I,I,I,I,I,I,I,I,I,I,I,O,O,O,O,O,O,O,O,O,O,O,O,O,O,O]
abbrev spec_SetRight.q24:Array Bool:=#[I,I,I,I,I,I,I,I,I,I,I,I,I,I,I,I,I,I,I,I,I,I,I,I,O,O,O,O,O,O,O,O,O,O,O,O,O,O]
abbrev spec_SetRight.q25:Array Bool:=#[I,I,I,I,I,I,I,I,I,I,I,I,I,I,I,I,I,I,I,I,I,I,I,I,I,O,O,O,O,O,O,O,O,O,O,O,O,O]
abbrev spec_SetRight.q26:Array Bool:=#[I,I,I,I,I,I,I,I,I,I,I,I,I,I,I,I,I,I,I,I,I,I,I,I,I,I,O,O,O,O,O,O,O,O,O,O,O,O]
abbrev spec_SetRight.q27:Array Bool:=#[I,I,I,I,I,I,I,I,I,I,I,I,I,I,I,I,I,I,I,I,I,I,I,I,I,I,I,O,O,O,O,O,O,O,O,O,O,O]
abbrev spec_SetRight.q28:Array Bool:=#[I,I,I,I,I,I,I,I,I,I,I,I,I,I,I,I,I,I,I,I,I,I,I,I,I,I,I,I,O,O,O,O,O,O,O,O,O,O]
abbrev spec_SetRight.q29:Array Bool:=#[I,I,I,I,I,I,I,I,I,I,I,I,I,I,I,I,I,I,I,I,I,I,I,I,I,I,I,I,I,O,O,O,O,O,O,O,O,O]
abbrev spec_SetRight.q30:Array Bool:=#[I,I,I,I,I,I,I,I,I,I,I,I,I,I,I,I,I,I,I,I,I,I,I,I,I,I,I,I,I,I,O,O,O,O,O,O,O,O]
abbrev spec_SetRight.q31:Array Bool:=#[I,I,I,I,I,I,I,I,I,I,I,I,I,I,I,I,I,I,I,I,I,I,I,I,I,I,I,I,I,I,I,O,O,O,O,O,O,O]
abbrev spec_SetRight.q32:Array Bool:=#[I,I,I,I,I,I,I,I,I,I,I,I,I,I,I,I,I,I,I,I,I,I,I,I,I,I,I,I,I,I,I,I,O,O,O,O,O,O]
abbrev spec_SetRight.q33:Array Bool:=#[I,I,I,I,I,I,I,I,I,I,I,I,I,I,I,I,I,I,I,I,I,I,I,I,I,I,I,I,I,I,I,I,I,O,O,O,O,O]
abbrev spec_SetRight.q34:Array Bool:=#[I,I,I,I,I,I,I,I,I,I,I,I,I,I,I,I,I,I,I,I,I,I,I,I,I,I,I,I,I,I,I,I,I,I,O,O,O,O]
abbrev spec_SetRight.q35:Array Bool:=#[I,I,I,I,I,I,I,I,I,I,I,I,I,I,I,I,I,I,I,I,I,I,I,I,I,I,I,I,I,I,I,I,I,I,I,O,O,O]
abbrev spec_SetRight.q36:Array Bool:=#[I,I,I,I,I,I,I,I,I,I,I,I,I,I,I,I,I,I,I,I,I,I,I,I,I,I,I,I,I,I,I,I,I,I,I,I,O,O]
abbrev spec_SetRight.q37:Array Bool:=#[I,I,I,I,I,I,I,I,I,I,I,I,I,I,I,I,I,I,I,I,I,I,I,I,I,I,I,I,I,I,I,I,I,I,I,I,I,O]
abbrev spec_SetRight.q38:Array Bool:=#[I,I,I,I,I,I,I,I,I,I,I,I,I,I,I,I,I,I,I,I,I,I,I,I,I,I,I,I,I,I,I,I,I,I,I,I,I,I]
abbrev spec_SetRight.q39:Array Bool:=#[I,I,I,I,I,I,I,I,I,I,I,I,I,I,I,I,I,I,I,I,I,I,I,I,I,I,O,I,O,O,O,O,O,O,O,O,O,O]
abbrev spec_SetRight.q40:Array Bool:=#[I,I,I,I,I,I,I,I,I,I,I,I,I,I,I,I,I,I,I,I,I,I,I,I,I,I,O,I,I,O,O,O,O,O,O,O,O,O]
abbrev spec_SetRight.q41:Array Bool:=#[I,I,I,I,I,I,I,I,I,I,I,I,I,I,I,I,I,I,I,I,I,I,I,I,I,I,O,I,I,O,O,O,I,O,O,O,O,O]
abbrev spec_SetRight.q42:Array Bool:=#[I,I,I,I,I,I,I,I,I,I,I,I,I,I,I,I,I,I,I,I,I,I,I,I,I,I,I,I,I,O,O,O,I,O,O,O,O,O]
abbrev spec_SetRight.q43:Array Bool:=#[I,I,I,I,I,I,I,I,I,I,I,I,I,I,I,I,I,I,I,I,I,I,I,I,I,I,I,I,I,I,O,O,I,O,O,O,O,O]
abbrev spec_SetRight.q44:Array Bool:=#[I,I,I,I,I,I,I,I,I,I,I,I,I,I,I,I,I,I,I,I,I,I,I,I,I,I,I,I,I,I,I,O,I,O,O,O,O,O]
set_option maxHeartbeats 8000000 in
set_option maxRecDepth 100000 in
theorem spec_SetRight.calls (k:Nat) (A0_0:Option Addr) (c0_0:Nat) (l0_0:List (S56)) (A0_1:Option Addr) (c0_1:Nat) (l0_1:List (S91)) (r:Bool) (w:World) (hr0_0:Kd.C k56 w A0_0 l0_0.length l0_0) (hc0_0:l0_0.length≤c0_0) (hr0_1:Kd.C k91 w A0_1 l0_1.length l0_1) (hc0_1:l0_1.length≤c0_1) (h:spec_SetRight.f k l0_0 l0_1=some r) :
  Calls Try.prog 51 #[.agg #[.slice A0_0 l0_0.length c0_0,.slice A0_1 l0_1.length c0_1]] w fun e w'=>e = .returned (.bool r)∧Below w.heap.size w w':=by
 have hu40:=Try.underlying40
 have hu91:=Try.underlying91
 have hu56:=Try.underlying56
 have HR0_0:=Aside0.mk hr0_0
 have HC0_0:=Aside0.mk hc0_0
 clear hr0_0 hc0_0
 have HR0_1:=Aside0.mk hr0_1
 have HC0_1:=Aside0.mk hc0_1
 clear hr0_1 hc0_1
 have HB:=Aside0.mk (Below.refl w.heap.size w)
 have H:((spec_SeenRight.f k l0_0).bind fun t126=>(if t126=true then (spec_SetRight.j0 k (decide ((l0_1.length:Int)>8)) l0_0 l0_1) else (spec_SetRight.j0 k true l0_0 l0_1)))=some r:=h
 clear h
 have HC2:=Aside0.mk H
 clear H
 go_enter Try.func51,Try.ntmps51
 go_upto_region 1 with (first | ((with_reducible refine gd_ 1 ?_);(try (refine gate_guard (by rfl) ?_;dsimp only));refine be_ 1 #[.slice A0_0 l0_0.length c0_0,.slice A0_1 l0_1.length c0_1] 40 ?_;intro gb125 hg w3 hbox hb;refine as4_ (below_step (z3_ HB.out) hb) (hbox) ((z7_ HB.out:w.heap.size≤gb125)) ((z7_ HB.out:w.heap.size≤gb125)) ?_;clear HB;intro HB BK125 GW125 GE125;clear hb hbox hg))
 (try simp only [Act.put,sa_,s0_,ss_])
 go_cut [14] (fun v14 wc=>∃ (kq:Nat) (x14_1:Bool),v14 = .bool x14_1∧Aside0 (spec_SetRight.j0 kq x14_1 l0_0 l0_1=some r)∧Aside0 (kq≤k)∧Aside0 (wc.heap[gb125]? = some (.cells #[(.slice A0_0 l0_0.length c0_0),(.slice A0_1 l0_1.length c0_1)] 40 (0,0)))∧Aside0 (Below w.heap.size w wc))
 case first =>
  have H:=HC2.out
  clear HC2
  replace H:=Option.bind_eq_some_iff.mp H
  obtain ⟨t126,A40,H⟩:=H
  replace H:(if t126=true then (spec_SetRight.j0 k (decide ((l0_1.length:Int)>8)) l0_0 l0_1) else (spec_SetRight.j0 k true l0_0 l0_1))=some r:=H
  have A4:=Aside0.mk A40
  clear A40
  by_cases c5:t126=true
  ·subst c5
   have H1:(spec_SetRight.j0 k (decide ((l0_1.length:Int)>8)) l0_0 l0_1)=some r:=by rw [if_pos rfl] at H;exact H
   clear H
   have H:=H1
   clear H1
   have H':=Aside0.mk H
   clear H
   have ⟨hcz6_0,hcz6_1,hfz6_0,hfz6_1⟩:=cz2_ BK125.out
   go_wp2_with (first | ((with_reducible refine gc_ 68 ?_);refine gl_ (some 7) Try.func68 #[.slice A0_0 l0_0.length c0_0] ?_;(with_reducible refine (spec_SeenRight.calls k _ _ l0_0 true _ ?s1 ?s2 A4.out).mono ?_);(case s1=>repeat (first | exact (Kd.C_below HR0_0.out HB.out) | (with_reducible refine Kd.C_alloc ?_ _) | (with_reducible refine Kd.C_drewN ?_ _) | (with_reducible refine Kd.C_drew ?_)));(case s2=>exact HC0_0.out);rintro e w7 ⟨rfl,hb⟩;refine ⟨_,rfl,?_⟩;refine as2_ (blkB_ BK125.out hb) (below_step (z6_ HB.out GE125.out) hb) ?_;clear BK125 HB;intro BK125 HB;(try clear hb);have ⟨hcz8_0,hcz8_1,hfz8_0,hfz8_1⟩:=cz2_ BK125.out))
   go_meet
   case rel=>exact ⟨_,(decide ((l0_1.length:Int)>8)),(z2_),H',⟨by first | omega | exact Nat.le_refl _⟩,⟨z5_ BK125.out⟩,⟨z6_ HB.out GE125.out⟩⟩
  ·replace c5:=Bool.eq_false_iff.mpr c5
   subst c5
   have H1:(spec_SetRight.j0 k true l0_0 l0_1)=some r:=by rw [if_neg (show ¬ (false=true) by decide)] at H;exact H
   clear H
   have H:=H1
   clear H1
   have H':=Aside0.mk H
   clear H
   have ⟨hcz9_0,hcz9_1,hfz9_0,hfz9_1⟩:=cz2_ BK125.out
   go_wp2_with (first | ((with_reducible refine gc_ 68 ?_);refine gl_ (some 7) Try.func68 #[.slice A0_0 l0_0.length c0_0] ?_;(with_reducible refine (spec_SeenRight.calls k _ _ l0_0 false _ ?s1 ?s2 A4.out).mono ?_);(case s1=>repeat (first | exact (Kd.C_below HR0_0.out HB.out) | (with_reducible refine Kd.C_alloc ?_ _) | (with_reducible refine Kd.C_drewN ?_ _) | (with_reducible refine Kd.C_drew ?_)));(case s2=>exact HC0_0.out);rintro e w10 ⟨rfl,hb⟩;refine ⟨_,rfl,?_⟩;refine as2_ (blkB_ BK125.out hb) (below_step (z6_ HB.out GE125.out) hb) ?_;clear BK125 HB;intro BK125 HB;(try clear hb)))
   go_meet
   case rel=>exact ⟨_,(true),(z2_),H',⟨by first | omega | exact Nat.le_refl _⟩,⟨z5_ BK125.out⟩,⟨z6_ HB.out GE125.out⟩⟩
 case rest =>
  clear HC2
  try clear p2
  try clear c5
  try clear c6
  try clear hcz6_0
  try clear hcz6_1
  try clear hcz8_0
  try clear hcz8_1
  try clear hcz9_0
  try clear hcz9_1
  try clear hfz6_0
  try clear hfz6_1
  try clear hfz8_0
  try clear hfz8_1
  try clear hfz9_0
  try clear hfz9_1
  obtain ⟨kq,x14_1,rfl,HA,HJ1,BK125,HB⟩:=hcut
  cases kq with
  | zero=>exact absurd HA.out (by simp [spec_SetRight.j0])
  | succ kj1 =>
   have H:=HA.out
   clear HA
   simp only [spec_SetRight.j0] at H
   by_cases c11:x14_1=true
   ·subst c11
    have H1:(some false)=some r:=by rw [if_pos rfl] at H;exact H
    clear H
    have H:=H1
    clear H1
    obtain rfl:=Option.some.inj H
    go_wp2
    go_ret
    exact ⟨z8_,z6_ HB.out GE125.out⟩
   ·replace c11:=Bool.eq_false_iff.mpr c11
    subst c11
    have H1:(spec_SetRight.l0 kj1 0 l0_0 l0_1)=some r:=by rw [if_neg (show ¬ (false=true) by decide)] at H;exact H
    clear H
    have H:=H1
    clear H1
    have H':=Aside0.mk H
    clear H
    go_wp2
    go_loopg [3] kj1 (fun kq v3 w'=>∃ (x3_2:Int),v3 = .int .i64 x3_2∧Aside0 (spec_SetRight.l0 kq x3_2 l0_0 l0_1=some r)∧Aside0 (kq≤kj1)∧Aside0 (w'.heap[gb125]? = some (.cells #[(.slice A0_0 l0_0.length c0_0),(.slice A0_1 l0_1.length c0_1)] 40 (0,0)))∧Aside0 (Below w.heap.size w w'))
    case atStart=>exact ⟨(0),(z2_),H',⟨Nat.le_refl _⟩,⟨z5_ BK125.out⟩,⟨z6_ HB.out GE125.out⟩⟩
    case round =>
     clear H'
     try clear c1
     try clear p2
     try clear c5
     try clear c6
     try clear c11
     try clear hcz6_0
     try clear hcz6_1
     try clear hcz8_0
     try clear hcz8_1
     try clear hcz9_0
     try clear hcz9_1
     try clear hfz6_0
     try clear hfz6_1
     try clear hfz8_0
     try clear hfz8_1
     try clear hfz9_0
     try clear hfz9_1
     try clear p2
     obtain ⟨x3_2,rfl,HA,HK2,BK125,HB⟩:=hrel
     cases gk with
     | zero=>exact absurd HA.out (by simp [spec_SetRight.l0])
     | succ k2 =>
      have H:=HA.out
      clear HA
      simp only [spec_SetRight.l0] at H
      by_cases c12:x3_2<(l0_1.length:Int)
      ·rw [if_pos c12] at H
       have c12b0:decide (x3_2<(l0_1.length:Int))=true:=decide_eq_true c12
       clear c12
       by_cases c13:0≤x3_2
       ·rw [if_pos c13] at H
        have c13b0:decide (0≤x3_2)=true:=decide_eq_true c13
        clear c13
        replace H:=Option.bind_eq_some_iff.mp H
        obtain ⟨t129,A140,H⟩:=H
        replace H:(if t129=true then (if (((rd_T91 l0_1 x3_2).f2).size:Int)>16 then (some false) else (if (rd_T91 l0_1 x3_2).f1=true then (if ((rd_T91 l0_1 x3_2).f2).toList=([]:List UInt8) then (if x3_2>0 then (if 0≤(wrap64 (x3_2-1)) then (if (wrap64 (x3_2-1))<(l0_1.length:Int) then ((spec_l03Less.f ((rd_T91 l0_1 (wrap64 (x3_2-1))).f0.f0) ((rd_T91 l0_1 (wrap64 (x3_2-1))).f0.f1) ((rd_T91 l0_1 x3_2).f0.f0) ((rd_T91 l0_1 x3_2).f0.f1)).bind fun t131=>(if t131=true then (spec_SetRight.l0 k2 (wrap64 (x3_2+1)) l0_0 l0_1) else (some false))) else (none)) else (none)) else (spec_SetRight.l0 k2 (wrap64 (x3_2+1)) l0_0 l0_1)) else (some false)) else (if x3_2>0 then (if 0≤(wrap64 (x3_2-1)) then (if (wrap64 (x3_2-1))<(l0_1.length:Int) then ((spec_l03Less.f ((rd_T91 l0_1 (wrap64 (x3_2-1))).f0.f0) ((rd_T91 l0_1 (wrap64 (x3_2-1))).f0.f1) ((rd_T91 l0_1 x3_2).f0.f0) ((rd_T91 l0_1 x3_2).f0.f1)).bind fun t133=>(if t133=true then (spec_SetRight.l0 k2 (wrap64 (x3_2+1)) l0_0 l0_1) else (some false))) else (none)) else (none)) else (spec_SetRight.l0 k2 (wrap64 (x3_2+1)) l0_0 l0_1)))) else (some false))=some r:=H
        have A14:=Aside0.mk A140
        clear A140
        by_cases c15:t129=true
        ·subst c15
         have H1:(if (((rd_T91 l0_1 x3_2).f2).size:Int)>16 then (some false) else (if (rd_T91 l0_1 x3_2).f1=true then (if ((rd_T91 l0_1 x3_2).f2).toList=([]:List UInt8) then (if x3_2>0 then (if 0≤(wrap64 (x3_2-1)) then (if (wrap64 (x3_2-1))<(l0_1.length:Int) then ((spec_l03Less.f ((rd_T91 l0_1 (wrap64 (x3_2-1))).f0.f0) ((rd_T91 l0_1 (wrap64 (x3_2-1))).f0.f1) ((rd_T91 l0_1 x3_2).f0.f0) ((rd_T91 l0_1 x3_2).f0.f1)).bind fun t131=>(if t131=true then (spec_SetRight.l0 k2 (wrap64 (x3_2+1)) l0_0 l0_1) else (some false))) else (none)) else (none)) else (spec_SetRight.l0 k2 (wrap64 (x3_2+1)) l0_0 l0_1)) else (some false)) else (if x3_2>0 then (if 0≤(wrap64 (x3_2-1)) then (if (wrap64 (x3_2-1))<(l0_1.length:Int) then ((spec_l03Less.f ((rd_T91 l0_1 (wrap64 (x3_2-1))).f0.f0) ((rd_T91 l0_1 (wrap64 (x3_2-1))).f0.f1) ((rd_T91 l0_1 x3_2).f0.f0) ((rd_T91 l0_1 x3_2).f0.f1)).bind fun t133=>(if t133=true then (spec_SetRight.l0 k2 (wrap64 (x3_2+1)) l0_0 l0_1) else (some false))) else (none)) else (none)) else (spec_SetRight.l0 k2 (wrap64 (x3_2+1)) l0_0 l0_1))))=some r:=by rw [if_pos rfl] at H;exact H
         clear H
         have H:=H1
         clear H1
         by_cases c16:(((rd_T91 l0_1 x3_2).f2).size:Int)>16
         ·rw [if_pos c16] at H
          have c16b0:decide (16<(((rd_T91 l0_1 x3_2).f2).size:Int))=true:=decide_eq_true c16
          have c16b1:decide (16<((rd_T91 l0_1 x3_2).f2).size)=true:=decide_eq_true (by omega)
          clear c16
          obtain rfl:=Option.some.inj H
          have ⟨hcz17_0,hcz17_1,hfz17_0,hfz17_1⟩:=cz2_ BK125.out
          have p127:0≤(x3_2:Int):=of_decide_eq_true (z1_)
          have q127:x3_2<(l0_1.length:Int):=of_decide_eq_true (z1_)
          obtain ⟨ad127,e127,hx127_0,hx127_1,hx127_2,hx127_3⟩:=at_T91 HR0_1.out x3_2 p127 q127
          cases e127
          replace hx127_0:=(HB.out.cell (World.block_lt_of_cell? w _ hx127_0)).trans hx127_0
          replace hx127_1:=(HB.out.cell (World.block_lt_of_cell? w _ hx127_1)).trans hx127_1
          replace hx127_2:=(HB.out.cell (World.block_lt_of_cell? w _ hx127_2)).trans hx127_2
          replace hx127_3:=(HB.out.cell (World.block_lt_of_cell? w _ hx127_3)).trans hx127_3
          replace p127:=eq_true p127
          replace q127:=eq_true q127
          try go_wp2_with (first | ((with_reducible refine gd_ 4 ?_);(try (refine gate_guard (by rfl) ?_;dsimp only));refine be_ 4 #[.int .i64 0,.int .i64 0,.bool false,.string (⟨#[]⟩:ByteArray)] 91 ?_;intro gb128 hg w18 hbox hb;refine as7_ (blkB_ BK125.out hb) (below_step (z6_ HB.out GE125.out) hb) (hbox) ((z9_ HB.out GE125.out:w.heap.size≤gb128)) ((z9_ HB.out GE125.out:w.heap.size≤gb128)) (neL_ BK125.out hg) (neG_ BK125.out hg) ?_;clear BK125 HB;intro BK125 HB BK128 GW128 GE128 NB125_128 NB128_125;clear hb hbox hg;have hnb19:=NB128_125.out;have hnc19:=NB125_128.out;have ⟨hcz20_0,hcz20_1,hcz20_2,hcz20_3,hfz20_0,hfz20_1,hfz20_2,hfz20_3⟩:=cz4_ BK128.out))
          have n0_:Aside0 (((((w18.setCell ⟨gb128,0,none⟩ (.int .i64 ((rd_T91 l0_1 x3_2).f0.f0))).setCell ⟨gb128,1,none⟩ (.int .i64 ((rd_T91 l0_1 x3_2).f0.f1))).setCell ⟨gb128,2,none⟩ (.bool ((rd_T91 l0_1 x3_2).f1))).setCell ⟨gb128,3,none⟩ (.string ((rd_T91 l0_1 x3_2).f2))).heap[gb125]? = some (.cells #[.slice A0_0 l0_0.length c0_0,.slice (some ad127) l0_1.length c0_1] 40 (0,0))):=⟨z15_ NB125_128.out BK125.out⟩
          have n1_:Aside0 (((((w18.setCell ⟨gb128,0,none⟩ (.int .i64 ((rd_T91 l0_1 x3_2).f0.f0))).setCell ⟨gb128,1,none⟩ (.int .i64 ((rd_T91 l0_1 x3_2).f0.f1))).setCell ⟨gb128,2,none⟩ (.bool ((rd_T91 l0_1 x3_2).f1))).setCell ⟨gb128,3,none⟩ (.string ((rd_T91 l0_1 x3_2).f2))).heap[gb128]? = some (.cells #[.int .i64 ((rd_T91 l0_1 x3_2).f0.f0),.int .i64 ((rd_T91 l0_1 x3_2).f0.f1),.bool ((rd_T91 l0_1 x3_2).f1),.string ((rd_T91 l0_1 x3_2).f2)] 91 (0,0))):=⟨z19_ BK128.out⟩
          have n2_:Aside0 (Below w.heap.size w ((((w18.setCell ⟨gb128,0,none⟩ (.int .i64 ((rd_T91 l0_1 x3_2).f0.f0))).setCell ⟨gb128,1,none⟩ (.int .i64 ((rd_T91 l0_1 x3_2).f0.f1))).setCell ⟨gb128,2,none⟩ (.bool ((rd_T91 l0_1 x3_2).f1))).setCell ⟨gb128,3,none⟩ (.string ((rd_T91 l0_1 x3_2).f2)))):=⟨z4_ HB.out GE125.out GE128.out⟩
          (try clear BK125)
          (try clear BK128)
          (try clear HB)
          generalize ((((w18.setCell ⟨gb128,0,none⟩ (.int .i64 ((rd_T91 l0_1 x3_2).f0.f0))).setCell ⟨gb128,1,none⟩ (.int .i64 ((rd_T91 l0_1 x3_2).f0.f1))).setCell ⟨gb128,2,none⟩ (.bool ((rd_T91 l0_1 x3_2).f1))).setCell ⟨gb128,3,none⟩ (.string ((rd_T91 l0_1 x3_2).f2)))=w21 at n0_ n1_ n2_ ⊢
          have BK125:=n0_
          have BK128:=n1_
          have HB:=n2_
          clear n0_ n1_ n2_
          refine as3_ (blk_drew BK125.out) (blk_drew BK128.out) (below_drew1 HB.out) ?_
          clear BK125 BK128 HB
          intro BK125 BK128 HB
          refine start_ (n:=38) (S:=fun w'=>w'.cell? ⟨gb125,0,none⟩=some (.slice A0_0 l0_0.length c0_0)∧w'.cell? ⟨gb125,1,none⟩=some (.slice (some ad127) l0_1.length c0_1)∧w'.cell? ⟨gb128,0,none⟩=some (.int .i64 ((rd_T91 l0_1 x3_2).f0.f0))∧w'.cell? ⟨gb128,1,none⟩=some (.int .i64 ((rd_T91 l0_1 x3_2).f0.f1))∧w'.cell? ⟨gb128,2,none⟩=some (.bool ((rd_T91 l0_1 x3_2).f1))∧w'.cell? ⟨gb128,3,none⟩=some (.string ((rd_T91 l0_1 x3_2).f2))) (ds:=[]) spec_SetRight.q0 (by kernel_rfl) rfl rfl (cj2_ BK125.out (cc4_ BK128.out)) (fun hHeld=>?_);refine with_tabW spec_SetRight.tab7 spec_SetRight.bits7 (fun HT_ HW_=>?_)
          generalize w21.drew=w22 at BK125 BK128 HB hHeld ⊢
          refine pu_ 0 27 spec_SetRight.q1 HT_.out ?_
          refine pu_ 2 29 spec_SetRight.q2 HT_.out ?_
          refine tk6_ 1 28 spec_SetRight.q3 HT_.out HW_.out hHeld ?_
          refine tk6_ 3 30 spec_SetRight.q4 HT_.out HW_.out hHeld ?_
          refine o1_ 4 31 spec_SetRight.q5 HT_.out (fun K hK=>?_)
          refine gs_ Try.func72 #[.slice A0_0 l0_0.length c0_0,.agg #[.int .i64 ((rd_T91 l0_1 x3_2).f0.f0),.int .i64 ((rd_T91 l0_1 x3_2).f0.f1)]] ?_
          with_reducible refine (spec_SeenHas.calls k2 _ _ l0_0 ((rd_T91 l0_1 x3_2).f0.f0) ((rd_T91 l0_1 x3_2).f0.f1) true _ ?s1 ?s2 A14.out).mono ?_
          (case s1=>repeat (first | exact (Kd.C_below HR0_0.out HB.out) | (with_reducible refine Kd.C_alloc ?_ _) | (with_reducible refine Kd.C_drewN ?_ _) | (with_reducible refine Kd.C_drew ?_)))
          (case s2=>exact HC0_0.out)
          rintro e w23 ⟨rfl,hb⟩
          refine ⟨_,rfl,?_⟩
          refine as3_ (blkB_ BK125.out hb) (blkB_ BK128.out hb) (below_step (z4_ HB.out GE125.out GE128.out) hb) ?_
          clear BK125 BK128 HB
          intro BK125 BK128 HB
          (try clear hb)
          refine hK.out _ _ (cj2_ BK125.out (cc4_ BK128.out)) (fun hHeld=>?_)
          clear hK K
          refine nm_ 31 ?_
          refine pu_ 5 32 spec_SetRight.q6 HT_.out ?_
          refine pu_ 6 33 spec_SetRight.q7 HT_.out ?_
          refine pu_ 7 34 spec_SetRight.q8 HT_.out ?_
          refine tk6_ 8 35 spec_SetRight.q9 HT_.out HW_.out hHeld ?_
          refine pu_ 9 36 spec_SetRight.q10 HT_.out ?_
          refine pu_ 10 37 spec_SetRight.q11 HT_.out ?_
          refine pu_ 11 38 spec_SetRight.q12 HT_.out ?_
          refine pu_ 12 39 spec_SetRight.q13 HT_.out ?_
          refine pn_ 13 40 spec_SetRight.q14 HT_.out ?_
          refine pn_ 14 41 spec_SetRight.q15 HT_.out ?_
          refine pn_ 15 42 spec_SetRight.q16 HT_.out ?_
          refine pn_ 16 43 spec_SetRight.q17 HT_.out ?_
          refine pn_ 17 44 spec_SetRight.q18 HT_.out ?_
          refine pn_ 18 45 spec_SetRight.q19 HT_.out ?_
          refine pn_ 19 46 spec_SetRight.q20 HT_.out ?_
          refine pu_ 20 47 spec_SetRight.q21 HT_.out ?_
          refine pu_ 21 48 spec_SetRight.q22 HT_.out ?_
          refine pn_ 22 49 spec_SetRight.q23 HT_.out ?_
          refine pn_ 23 50 spec_SetRight.q24 HT_.out ?_
          refine pn_ 24 51 spec_SetRight.q25 HT_.out ?_
          refine pn_ 25 52 spec_SetRight.q26 HT_.out ?_
          refine pn_ 26 53 spec_SetRight.q27 HT_.out ?_
          refine pn_ 27 54 spec_SetRight.q28 HT_.out ?_
          refine pn_ 28 55 spec_SetRight.q29 HT_.out ?_
          refine pn_ 29 56 spec_SetRight.q30 HT_.out ?_
          refine pn_ 30 57 spec_SetRight.q31 HT_.out ?_
          refine pn_ 31 58 spec_SetRight.q32 HT_.out ?_
          refine pn_ 32 59 spec_SetRight.q33 HT_.out ?_
          refine pn_ 33 60 spec_SetRight.q34 HT_.out ?_
          refine pn_ 34 61 spec_SetRight.q35 HT_.out ?_
          refine pn_ 35 62 spec_SetRight.q36 HT_.out ?_
          refine pn_ 36 63 spec_SetRight.q37 HT_.out ?_
          refine pu_ 37 64 spec_SetRight.q38 HT_.out ?_
          refine done_ (done_of HT_.out (by kernel_rfl)) ?_
          try go_wp2
          go_ret
          exact ⟨z8_,z4_ HB.out GE125.out GE128.out⟩
         ·rw [if_neg c16] at H
          have c16b0:decide (16<(((rd_T91 l0_1 x3_2).f2).size:Int))=false:=decide_eq_false c16
          have c16b1:decide (16<((rd_T91 l0_1 x3_2).f2).size)=false:=decide_eq_false (by omega)
          clear c16
          obtain ⟨bq24,hbq24⟩:∃ b_:Bool,b_=((rd_T91 l0_1 x3_2).f1):=⟨_,rfl⟩
          replace H:(if bq24=true then (if ((rd_T91 l0_1 x3_2).f2).toList=([]:List UInt8) then (if x3_2>0 then (if 0≤(wrap64 (x3_2-1)) then (if (wrap64 (x3_2-1))<(l0_1.length:Int) then ((spec_l03Less.f ((rd_T91 l0_1 (wrap64 (x3_2-1))).f0.f0) ((rd_T91 l0_1 (wrap64 (x3_2-1))).f0.f1) ((rd_T91 l0_1 x3_2).f0.f0) ((rd_T91 l0_1 x3_2).f0.f1)).bind fun t131=>(if t131=true then (spec_SetRight.l0 k2 (wrap64 (x3_2+1)) l0_0 l0_1) else (some false))) else (none)) else (none)) else (spec_SetRight.l0 k2 (wrap64 (x3_2+1)) l0_0 l0_1)) else (some false)) else (if x3_2>0 then (if 0≤(wrap64 (x3_2-1)) then (if (wrap64 (x3_2-1))<(l0_1.length:Int) then ((spec_l03Less.f ((rd_T91 l0_1 (wrap64 (x3_2-1))).f0.f0) ((rd_T91 l0_1 (wrap64 (x3_2-1))).f0.f1) ((rd_T91 l0_1 x3_2).f0.f0) ((rd_T91 l0_1 x3_2).f0.f1)).bind fun t133=>(if t133=true then (spec_SetRight.l0 k2 (wrap64 (x3_2+1)) l0_0 l0_1) else (some false))) else (none)) else (none)) else (spec_SetRight.l0 k2 (wrap64 (x3_2+1)) l0_0 l0_1)))=some r:=by rw [← hbq24] at H;exact H
          have Nbq24:=Aside0.mk hbq24
          clear hbq24
          by_cases c25:bq24=true
          ·subst c25
           have H1:(if ((rd_T91 l0_1 x3_2).f2).toList=([]:List UInt8) then (if x3_2>0 then (if 0≤(wrap64 (x3_2-1)) then (if (wrap64 (x3_2-1))<(l0_1.length:Int) then ((spec_l03Less.f ((rd_T91 l0_1 (wrap64 (x3_2-1))).f0.f0) ((rd_T91 l0_1 (wrap64 (x3_2-1))).f0.f1) ((rd_T91 l0_1 x3_2).f0.f0) ((rd_T91 l0_1 x3_2).f0.f1)).bind fun t131=>(if t131=true then (spec_SetRight.l0 k2 (wrap64 (x3_2+1)) l0_0 l0_1) else (some false))) else (none)) else (none)) else (spec_SetRight.l0 k2 (wrap64 (x3_2+1)) l0_0 l0_1)) else (some false))=some r:=by rw [if_pos rfl] at H;exact H
           clear H
           have H:=H1
           clear H1
           by_cases c26:((rd_T91 l0_1 x3_2).f2).toList=([]:List UInt8)
           ·rw [if_pos c26] at H
            have c26b0:(((rd_T91 l0_1 x3_2).f2).toList == ([]:List UInt8))=true:=beq_iff_eq.mpr c26
            have c26b1:(((rd_T91 l0_1 x3_2).f2).toList != ([]:List UInt8))=false:=bne_eq_false_iff_eq.mpr c26
            clear c26
            by_cases c27:x3_2>0
            ·rw [if_pos c27] at H
             have c27b0:decide (0<x3_2)=true:=decide_eq_true c27
             clear c27
             obtain ⟨ji28,hji28⟩:∃ j_:Int,(wrap64 (x3_2-1))=j_:=⟨_,rfl⟩
             replace H:(if 0≤(ji28) then (if (ji28)<(l0_1.length:Int) then ((spec_l03Less.f ((rd_T91 l0_1 (ji28)).f0.f0) ((rd_T91 l0_1 (ji28)).f0.f1) ((rd_T91 l0_1 x3_2).f0.f0) ((rd_T91 l0_1 x3_2).f0.f1)).bind fun t131=>(if t131=true then (spec_SetRight.l0 k2 (wrap64 (x3_2+1)) l0_0 l0_1) else (some false))) else (none)) else (none))=some r:=by first | (rw [hji28] at H;exact H) | (simp only [hji28] at H ⊢;exact H)
             (try rw [hji28] at A14)
             have hji28w:(IntKind.i64.wrap (x3_2-1))=ji28:=(i64_w _).trans hji28
             by_cases c29:0≤(ji28)
             ·rw [if_pos c29] at H
              have c29b0:decide (0≤(ji28))=true:=decide_eq_true c29
              clear c29
              by_cases c30:(ji28)<(l0_1.length:Int)
              ·rw [if_pos c30] at H
               have c30b0:decide ((ji28)<(l0_1.length:Int))=true:=decide_eq_true c30
               clear c30
               replace H:=Option.bind_eq_some_iff.mp H
               obtain ⟨t131,A310,H⟩:=H
               replace H:(if t131=true then (spec_SetRight.l0 k2 (wrap64 (x3_2+1)) l0_0 l0_1) else (some false))=some r:=H
               have A31:=Aside0.mk A310
               clear A310
               by_cases c32:t131=true
               ·subst c32
                have H1:(spec_SetRight.l0 k2 (wrap64 (x3_2+1)) l0_0 l0_1)=some r:=by rw [if_pos rfl] at H;exact H
                clear H
                have H:=H1
                clear H1
                have H':=Aside0.mk H
                clear H
                have ⟨hcz33_0,hcz33_1,hfz33_0,hfz33_1⟩:=cz2_ BK125.out
                have p127:0≤(x3_2:Int):=of_decide_eq_true (z1_)
                have q127:x3_2<(l0_1.length:Int):=of_decide_eq_true (z1_)
                obtain ⟨ad127,e127,hx127_0,hx127_1,hx127_2,hx127_3⟩:=at_T91 HR0_1.out x3_2 p127 q127
                (try rw [← Nbq24.out] at hx127_2)
                cases e127
                replace hx127_0:=(HB.out.cell (World.block_lt_of_cell? w _ hx127_0)).trans hx127_0
                replace hx127_1:=(HB.out.cell (World.block_lt_of_cell? w _ hx127_1)).trans hx127_1
                replace hx127_2:=(HB.out.cell (World.block_lt_of_cell? w _ hx127_2)).trans hx127_2
                replace hx127_3:=(HB.out.cell (World.block_lt_of_cell? w _ hx127_3)).trans hx127_3
                replace p127:=eq_true p127
                replace q127:=eq_true q127
                try go_wp2_with (first | ((with_reducible refine gd_ 4 ?_);(try (refine gate_guard (by rfl) ?_;dsimp only));refine be_ 4 #[.int .i64 0,.int .i64 0,.bool false,.string (⟨#[]⟩:ByteArray)] 91 ?_;intro gb128 hg w34 hbox hb;refine as7_ (blkB_ BK125.out hb) (below_step (z6_ HB.out GE125.out) hb) (hbox) ((z9_ HB.out GE125.out:w.heap.size≤gb128)) ((z9_ HB.out GE125.out:w.heap.size≤gb128)) (neL_ BK125.out hg) (neG_ BK125.out hg) ?_;clear BK125 HB;intro BK125 HB BK128 GW128 GE128 NB125_128 NB128_125;clear hb hbox hg;have hnb35:=NB128_125.out;have hnc35:=NB125_128.out;have ⟨hcz36_0,hcz36_1,hcz36_2,hcz36_3,hfz36_0,hfz36_1,hfz36_2,hfz36_3⟩:=cz4_ BK128.out))
                have n0_:Aside0 (((((w34.setCell ⟨gb128,0,none⟩ (.int .i64 ((rd_T91 l0_1 x3_2).f0.f0))).setCell ⟨gb128,1,none⟩ (.int .i64 ((rd_T91 l0_1 x3_2).f0.f1))).setCell ⟨gb128,2,none⟩ (.bool true)).setCell ⟨gb128,3,none⟩ (.string ((rd_T91 l0_1 x3_2).f2))).heap[gb125]? = some (.cells #[.slice A0_0 l0_0.length c0_0,.slice (some ad127) l0_1.length c0_1] 40 (0,0))):=⟨z15_ NB125_128.out BK125.out⟩
                have n1_:Aside0 (((((w34.setCell ⟨gb128,0,none⟩ (.int .i64 ((rd_T91 l0_1 x3_2).f0.f0))).setCell ⟨gb128,1,none⟩ (.int .i64 ((rd_T91 l0_1 x3_2).f0.f1))).setCell ⟨gb128,2,none⟩ (.bool true)).setCell ⟨gb128,3,none⟩ (.string ((rd_T91 l0_1 x3_2).f2))).heap[gb128]? = some (.cells #[.int .i64 ((rd_T91 l0_1 x3_2).f0.f0),.int .i64 ((rd_T91 l0_1 x3_2).f0.f1),.bool true,.string ((rd_T91 l0_1 x3_2).f2)] 91 (0,0))):=⟨z19_ BK128.out⟩
                have n2_:Aside0 (Below w.heap.size w ((((w34.setCell ⟨gb128,0,none⟩ (.int .i64 ((rd_T91 l0_1 x3_2).f0.f0))).setCell ⟨gb128,1,none⟩ (.int .i64 ((rd_T91 l0_1 x3_2).f0.f1))).setCell ⟨gb128,2,none⟩ (.bool true)).setCell ⟨gb128,3,none⟩ (.string ((rd_T91 l0_1 x3_2).f2)))):=⟨z4_ HB.out GE125.out GE128.out⟩
                (try clear BK125)
                (try clear BK128)
                (try clear HB)
                generalize ((((w34.setCell ⟨gb128,0,none⟩ (.int .i64 ((rd_T91 l0_1 x3_2).f0.f0))).setCell ⟨gb128,1,none⟩ (.int .i64 ((rd_T91 l0_1 x3_2).f0.f1))).setCell ⟨gb128,2,none⟩ (.bool true)).setCell ⟨gb128,3,none⟩ (.string ((rd_T91 l0_1 x3_2).f2)))=w37 at n0_ n1_ n2_ ⊢
                have BK125:=n0_
                have BK128:=n1_
                have HB:=n2_
                clear n0_ n1_ n2_
                refine as3_ (blk_drew BK125.out) (blk_drew BK128.out) (below_drew1 HB.out) ?_
                clear BK125 BK128 HB
                intro BK125 BK128 HB
                have p130:0≤((ji28):Int):=of_decide_eq_true (z1_)
                have q130:(ji28)<(l0_1.length:Int):=of_decide_eq_true (z1_)
                obtain ⟨ad130,e130,hx130_0,hx130_1,hx130_2,hx130_3⟩:=at_T91 HR0_1.out (ji28) p130 q130
                have hw130_3:=hx130_3
                have hw130_2:=hx130_2
                have hw130_1:=hx130_1
                have hw130_0:=hx130_0
                (try rw [← Nbq24.out] at hx130_2)
                obtain rfl:ad127=ad130:=(by injection e130)
                replace hx130_0:=(HB.out.cell (World.block_lt_of_cell? w _ hx130_0)).trans hx130_0
                replace hx130_1:=(HB.out.cell (World.block_lt_of_cell? w _ hx130_1)).trans hx130_1
                replace hx130_2:=(HB.out.cell (World.block_lt_of_cell? w _ hx130_2)).trans hx130_2
                replace hx130_3:=(HB.out.cell (World.block_lt_of_cell? w _ hx130_3)).trans hx130_3
                replace p130:=eq_true p130
                replace q130:=eq_true q130
                refine start_ (n:=38) (S:=fun w'=>w'.cell? ⟨gb125,0,none⟩=some (.slice A0_0 l0_0.length c0_0)∧w'.cell? ⟨gb125,1,none⟩=some (.slice (some ad127) l0_1.length c0_1)∧w'.cell? ⟨gb128,0,none⟩=some (.int .i64 ((rd_T91 l0_1 x3_2).f0.f0))∧w'.cell? ⟨gb128,1,none⟩=some (.int .i64 ((rd_T91 l0_1 x3_2).f0.f1))∧w'.cell? ⟨gb128,2,none⟩=some (.bool true)∧w'.cell? ⟨gb128,3,none⟩=some (.string ((rd_T91 l0_1 x3_2).f2))∧w'.cell? (ad127.add (((ji28)).toNat*4))=some (.int .i64 ((rd_T91 l0_1 (ji28)).f0.f0))∧w'.cell? ⟨(ad127.add (((ji28)).toNat*4)).block,(ad127.add (((ji28)).toNat*4)).off+1,none⟩=some (.int .i64 ((rd_T91 l0_1 (ji28)).f0.f1))∧w'.cell? ⟨(ad127.add (((ji28)).toNat*4)).block,(ad127.add (((ji28)).toNat*4)).off+2,none⟩=some (.bool ((rd_T91 l0_1 (ji28)).f1))∧w'.cell? ⟨(ad127.add (((ji28)).toNat*4)).block,(ad127.add (((ji28)).toNat*4)).off+3,none⟩=some (.string ((rd_T91 l0_1 (ji28)).f2))) (ds:=[]) spec_SetRight.q0 (by kernel_rfl) rfl rfl (cj2_ BK125.out (cj4_ BK128.out ⟨((HB.out.cell (World.block_lt_of_cell? w _ hw130_0)).trans hw130_0),⟨((HB.out.cell (World.block_lt_of_cell? w _ hw130_1)).trans hw130_1),⟨((HB.out.cell (World.block_lt_of_cell? w _ hw130_2)).trans hw130_2),((HB.out.cell (World.block_lt_of_cell? w _ hw130_3)).trans hw130_3)⟩⟩⟩)) (fun hHeld=>?_);refine with_tabW spec_SetRight.tab7 spec_SetRight.bits7 (fun HT_ HW_=>?_)
                generalize w37.drew=w38 at BK125 BK128 HB hx130_0 hx130_1 hx130_2 hx130_3 hHeld ⊢
                refine pu_ 0 27 spec_SetRight.q1 HT_.out ?_
                refine pu_ 2 29 spec_SetRight.q2 HT_.out ?_
                refine tk10_ 1 28 spec_SetRight.q3 HT_.out HW_.out hHeld ?_
                refine tk10_ 3 30 spec_SetRight.q4 HT_.out HW_.out hHeld ?_
                refine o1_ 4 31 spec_SetRight.q5 HT_.out (fun K hK=>?_)
                refine gs_ Try.func72 #[.slice A0_0 l0_0.length c0_0,.agg #[.int .i64 ((rd_T91 l0_1 x3_2).f0.f0),.int .i64 ((rd_T91 l0_1 x3_2).f0.f1)]] ?_
                with_reducible refine (spec_SeenHas.calls k2 _ _ l0_0 ((rd_T91 l0_1 x3_2).f0.f0) ((rd_T91 l0_1 x3_2).f0.f1) true _ ?s1 ?s2 A14.out).mono ?_
                (case s1=>repeat (first | exact (Kd.C_below HR0_0.out HB.out) | (with_reducible refine Kd.C_alloc ?_ _) | (with_reducible refine Kd.C_drewN ?_ _) | (with_reducible refine Kd.C_drew ?_)))
                (case s2=>exact HC0_0.out)
                rintro e w39 ⟨rfl,hb⟩
                refine ⟨_,rfl,?_⟩
                refine as3_ (blkB_ BK125.out hb) (blkB_ BK128.out hb) (below_step (z4_ HB.out GE125.out GE128.out) hb) ?_
                clear BK125 BK128 HB
                intro BK125 BK128 HB
                (try clear hb)
                refine hK.out _ _ (cj2_ BK125.out (cj4_ BK128.out ⟨((HB.out.cell (World.block_lt_of_cell? w _ hw130_0)).trans hw130_0),⟨((HB.out.cell (World.block_lt_of_cell? w _ hw130_1)).trans hw130_1),⟨((HB.out.cell (World.block_lt_of_cell? w _ hw130_2)).trans hw130_2),((HB.out.cell (World.block_lt_of_cell? w _ hw130_3)).trans hw130_3)⟩⟩⟩)) (fun hHeld=>?_)
                clear hK K
                refine nm_ 31 ?_
                refine pu_ 5 32 spec_SetRight.q6 HT_.out ?_
                refine pu_ 6 33 spec_SetRight.q7 HT_.out ?_
                refine pu_ 7 34 spec_SetRight.q8 HT_.out ?_
                refine tk10_ 8 35 spec_SetRight.q9 HT_.out HW_.out hHeld ?_
                refine pu_ 9 36 spec_SetRight.q10 HT_.out ?_
                refine pu_ 10 37 spec_SetRight.q11 HT_.out ?_
                refine pu_ 11 38 spec_SetRight.q12 HT_.out ?_
                refine pu_ 12 39 spec_SetRight.q13 HT_.out ?_
                refine pu_ 13 40 spec_SetRight.q14 HT_.out ?_
                refine tk10_ 14 41 spec_SetRight.q15 HT_.out HW_.out hHeld ?_
                refine pu_ 15 42 spec_SetRight.q16 HT_.out ?_
                refine pu_ 16 43 spec_SetRight.q17 HT_.out ?_
                refine tk10_ 17 44 spec_SetRight.q18 HT_.out HW_.out hHeld ?_
                refine pu_ 18 45 spec_SetRight.q19 HT_.out ?_
                refine pu_ 19 46 spec_SetRight.q20 HT_.out ?_
                refine pu_ 20 47 spec_SetRight.q21 HT_.out ?_
                refine pu_ 21 48 spec_SetRight.q22 HT_.out ?_
                refine pu_ 22 49 spec_SetRight.q23 HT_.out ?_
                refine pu_ 23 50 spec_SetRight.q24 HT_.out ?_
                refine pu_ 24 51 spec_SetRight.q25 HT_.out ?_
                refine pu_ 25 52 spec_SetRight.q26 HT_.out ?_
                refine pu_ 27 54 spec_SetRight.q39 HT_.out ?_
                refine pu_ 28 55 spec_SetRight.q40 HT_.out ?_
                refine pu_ 32 59 spec_SetRight.q41 HT_.out ?_
                refine tk10_ 26 53 spec_SetRight.q42 HT_.out HW_.out hHeld ?_
                refine pu_ 29 56 spec_SetRight.q43 HT_.out ?_
                refine pu_ 30 57 spec_SetRight.q44 HT_.out ?_
                refine tk10_ 31 58 spec_SetRight.q33 HT_.out HW_.out hHeld ?_
                refine tk10_ 33 60 spec_SetRight.q34 HT_.out HW_.out hHeld ?_
                refine o1_ 34 61 spec_SetRight.q35 HT_.out (fun K hK=>?_)
                refine goes_ Try.func82 (by kernel_rfl) rfl #[.agg #[.int .i64 ((rd_T91 l0_1 (ji28)).f0.f0),.int .i64 ((rd_T91 l0_1 (ji28)).f0.f1)],.agg #[.int .i64 ((rd_T91 l0_1 x3_2).f0.f0),.int .i64 ((rd_T91 l0_1 x3_2).f0.f1)]] (by rfl) rfl rfl (by (try simp only [List.map_toArray,List.map_cons,List.map_nil]);first | done | (simp only [hji28];rfl) | rfl | (simp only [List.length_drop,List.length_take];rfl)) ?_
                with_reducible refine (spec_l03Less.calls ((rd_T91 l0_1 (ji28)).f0.f0) ((rd_T91 l0_1 (ji28)).f0.f1) ((rd_T91 l0_1 x3_2).f0.f0) ((rd_T91 l0_1 x3_2).f0.f1) true _ A31.out).mono ?_
                rintro e w40 ⟨rfl,hb⟩
                refine ⟨_,rfl,?_⟩
                refine as3_ (blkB_ BK125.out hb) (blkB_ BK128.out hb) (below_step (z4_ HB.out GE125.out GE128.out) hb) ?_
                clear BK125 BK128 HB
                intro BK125 BK128 HB
                (try clear hb)
                refine hK.out _ _ (cj2_ BK125.out (cj4_ BK128.out ⟨((HB.out.cell (World.block_lt_of_cell? w _ hw130_0)).trans hw130_0),⟨((HB.out.cell (World.block_lt_of_cell? w _ hw130_1)).trans hw130_1),⟨((HB.out.cell (World.block_lt_of_cell? w _ hw130_2)).trans hw130_2),((HB.out.cell (World.block_lt_of_cell? w _ hw130_3)).trans hw130_3)⟩⟩⟩)) (fun hHeld=>?_)
                clear hK K
                refine nm_ 61 ?_
                refine pu_ 35 62 spec_SetRight.q36 HT_.out ?_
                refine pu_ 36 63 spec_SetRight.q37 HT_.out ?_
                refine pu_ 37 64 spec_SetRight.q38 HT_.out ?_
                refine done_ (done_of HT_.out (by kernel_rfl)) ?_
                try go_wp2
                go_roundg k2
                case measure=>have:=HJ1.out;have:=HK2.out;omega
                case rel=>exact ⟨(wrap64 (x3_2+1)),(z2_),H',⟨by have:=HJ1.out;have:=HK2.out;omega⟩,⟨z5_ BK125.out⟩,⟨z4_ HB.out GE125.out GE128.out⟩⟩
               ·replace c32:=Bool.eq_false_iff.mpr c32
                subst c32
                have H1:(some false)=some r:=by rw [if_neg (show ¬ (false=true) by decide)] at H;exact H
                clear H
                have H:=H1
                clear H1
                obtain rfl:=Option.some.inj H
                have ⟨hcz41_0,hcz41_1,hfz41_0,hfz41_1⟩:=cz2_ BK125.out
                have p127:0≤(x3_2:Int):=of_decide_eq_true (z1_)
                have q127:x3_2<(l0_1.length:Int):=of_decide_eq_true (z1_)
                obtain ⟨ad127,e127,hx127_0,hx127_1,hx127_2,hx127_3⟩:=at_T91 HR0_1.out x3_2 p127 q127
                (try rw [← Nbq24.out] at hx127_2)
                cases e127
                replace hx127_0:=(HB.out.cell (World.block_lt_of_cell? w _ hx127_0)).trans hx127_0
                replace hx127_1:=(HB.out.cell (World.block_lt_of_cell? w _ hx127_1)).trans hx127_1
                replace hx127_2:=(HB.out.cell (World.block_lt_of_cell? w _ hx127_2)).trans hx127_2
                replace hx127_3:=(HB.out.cell (World.block_lt_of_cell? w _ hx127_3)).trans hx127_3
                replace p127:=eq_true p127
                replace q127:=eq_true q127
                try go_wp2_with (first | ((with_reducible refine gd_ 4 ?_);(try (refine gate_guard (by rfl) ?_;dsimp only));refine be_ 4 #[.int .i64 0,.int .i64 0,.bool false,.string (⟨#[]⟩:ByteArray)] 91 ?_;intro gb128 hg w42 hbox hb;refine as7_ (blkB_ BK125.out hb) (below_step (z6_ HB.out GE125.out) hb) (hbox) ((z9_ HB.out GE125.out:w.heap.size≤gb128)) ((z9_ HB.out GE125.out:w.heap.size≤gb128)) (neL_ BK125.out hg) (neG_ BK125.out hg) ?_;clear BK125 HB;intro BK125 HB BK128 GW128 GE128 NB125_128 NB128_125;clear hb hbox hg;have hnb43:=NB128_125.out;have hnc43:=NB125_128.out;have ⟨hcz44_0,hcz44_1,hcz44_2,hcz44_3,hfz44_0,hfz44_1,hfz44_2,hfz44_3⟩:=cz4_ BK128.out))
                have n0_:Aside0 (((((w42.setCell ⟨gb128,0,none⟩ (.int .i64 ((rd_T91 l0_1 x3_2).f0.f0))).setCell ⟨gb128,1,none⟩ (.int .i64 ((rd_T91 l0_1 x3_2).f0.f1))).setCell ⟨gb128,2,none⟩ (.bool true)).setCell ⟨gb128,3,none⟩ (.string ((rd_T91 l0_1 x3_2).f2))).heap[gb125]? = some (.cells #[.slice A0_0 l0_0.length c0_0,.slice (some ad127) l0_1.length c0_1] 40 (0,0))):=⟨z15_ NB125_128.out BK125.out⟩
                have n1_:Aside0 (((((w42.setCell ⟨gb128,0,none⟩ (.int .i64 ((rd_T91 l0_1 x3_2).f0.f0))).setCell ⟨gb128,1,none⟩ (.int .i64 ((rd_T91 l0_1 x3_2).f0.f1))).setCell ⟨gb128,2,none⟩ (.bool true)).setCell ⟨gb128,3,none⟩ (.string ((rd_T91 l0_1 x3_2).f2))).heap[gb128]? = some (.cells #[.int .i64 ((rd_T91 l0_1 x3_2).f0.f0),.int .i64 ((rd_T91 l0_1 x3_2).f0.f1),.bool true,.string ((rd_T91 l0_1 x3_2).f2)] 91 (0,0))):=⟨z19_ BK128.out⟩
                have n2_:Aside0 (Below w.heap.size w ((((w42.setCell ⟨gb128,0,none⟩ (.int .i64 ((rd_T91 l0_1 x3_2).f0.f0))).setCell ⟨gb128,1,none⟩ (.int .i64 ((rd_T91 l0_1 x3_2).f0.f1))).setCell ⟨gb128,2,none⟩ (.bool true)).setCell ⟨gb128,3,none⟩ (.string ((rd_T91 l0_1 x3_2).f2)))):=⟨z4_ HB.out GE125.out GE128.out⟩
                (try clear BK125)
                (try clear BK128)
                (try clear HB)
                generalize ((((w42.setCell ⟨gb128,0,none⟩ (.int .i64 ((rd_T91 l0_1 x3_2).f0.f0))).setCell ⟨gb128,1,none⟩ (.int .i64 ((rd_T91 l0_1 x3_2).f0.f1))).setCell ⟨gb128,2,none⟩ (.bool true)).setCell ⟨gb128,3,none⟩ (.string ((rd_T91 l0_1 x3_2).f2)))=w45 at n0_ n1_ n2_ ⊢
                have BK125:=n0_
                have BK128:=n1_
                have HB:=n2_
                clear n0_ n1_ n2_
                refine as3_ (blk_drew BK125.out) (blk_drew BK128.out) (below_drew1 HB.out) ?_
                clear BK125 BK128 HB
                intro BK125 BK128 HB
                have p130:0≤((ji28):Int):=of_decide_eq_true (z1_)
                have q130:(ji28)<(l0_1.length:Int):=of_decide_eq_true (z1_)
                obtain ⟨ad130,e130,hx130_0,hx130_1,hx130_2,hx130_3⟩:=at_T91 HR0_1.out (ji28) p130 q130
                have hw130_3:=hx130_3
                have hw130_2:=hx130_2
                have hw130_1:=hx130_1
                have hw130_0:=hx130_0
                (try rw [← Nbq24.out] at hx130_2)
                obtain rfl:ad127=ad130:=(by injection e130)
                replace hx130_0:=(HB.out.cell (World.block_lt_of_cell? w _ hx130_0)).trans hx130_0
                replace hx130_1:=(HB.out.cell (World.block_lt_of_cell? w _ hx130_1)).trans hx130_1
                replace hx130_2:=(HB.out.cell (World.block_lt_of_cell? w _ hx130_2)).trans hx130_2
                replace hx130_3:=(HB.out.cell (World.block_lt_of_cell? w _ hx130_3)).trans hx130_3
                replace p130:=eq_true p130
                replace q130:=eq_true q130
                refine start_ (n:=38) (S:=fun w'=>w'.cell? ⟨gb125,0,none⟩=some (.slice A0_0 l0_0.length c0_0)∧w'.cell? ⟨gb125,1,none⟩=some (.slice (some ad127) l0_1.length c0_1)∧w'.cell? ⟨gb128,0,none⟩=some (.int .i64 ((rd_T91 l0_1 x3_2).f0.f0))∧w'.cell? ⟨gb128,1,none⟩=some (.int .i64 ((rd_T91 l0_1 x3_2).f0.f1))∧w'.cell? ⟨gb128,2,none⟩=some (.bool true)∧w'.cell? ⟨gb128,3,none⟩=some (.string ((rd_T91 l0_1 x3_2).f2))∧w'.cell? (ad127.add (((ji28)).toNat*4))=some (.int .i64 ((rd_T91 l0_1 (ji28)).f0.f0))∧w'.cell? ⟨(ad127.add (((ji28)).toNat*4)).block,(ad127.add (((ji28)).toNat*4)).off+1,none⟩=some (.int .i64 ((rd_T91 l0_1 (ji28)).f0.f1))∧w'.cell? ⟨(ad127.add (((ji28)).toNat*4)).block,(ad127.add (((ji28)).toNat*4)).off+2,none⟩=some (.bool ((rd_T91 l0_1 (ji28)).f1))∧w'.cell? ⟨(ad127.add (((ji28)).toNat*4)).block,(ad127.add (((ji28)).toNat*4)).off+3,none⟩=some (.string ((rd_T91 l0_1 (ji28)).f2))) (ds:=[]) spec_SetRight.q0 (by kernel_rfl) rfl rfl (cj2_ BK125.out (cj4_ BK128.out ⟨((HB.out.cell (World.block_lt_of_cell? w _ hw130_0)).trans hw130_0),⟨((HB.out.cell (World.block_lt_of_cell? w _ hw130_1)).trans hw130_1),⟨((HB.out.cell (World.block_lt_of_cell? w _ hw130_2)).trans hw130_2),((HB.out.cell (World.block_lt_of_cell? w _ hw130_3)).trans hw130_3)⟩⟩⟩)) (fun hHeld=>?_);refine with_tabW spec_SetRight.tab7 spec_SetRight.bits7 (fun HT_ HW_=>?_)
                generalize w45.drew=w46 at BK125 BK128 HB hx130_0 hx130_1 hx130_2 hx130_3 hHeld ⊢
                refine pu_ 0 27 spec_SetRight.q1 HT_.out ?_
                refine pu_ 2 29 spec_SetRight.q2 HT_.out ?_
                refine tk10_ 1 28 spec_SetRight.q3 HT_.out HW_.out hHeld ?_
                refine tk10_ 3 30 spec_SetRight.q4 HT_.out HW_.out hHeld ?_
                refine o1_ 4 31 spec_SetRight.q5 HT_.out (fun K hK=>?_)
                refine gs_ Try.func72 #[.slice A0_0 l0_0.length c0_0,.agg #[.int .i64 ((rd_T91 l0_1 x3_2).f0.f0),.int .i64 ((rd_T91 l0_1 x3_2).f0.f1)]] ?_
                with_reducible refine (spec_SeenHas.calls k2 _ _ l0_0 ((rd_T91 l0_1 x3_2).f0.f0) ((rd_T91 l0_1 x3_2).f0.f1) true _ ?s1 ?s2 A14.out).mono ?_
                (case s1=>repeat (first | exact (Kd.C_below HR0_0.out HB.out) | (with_reducible refine Kd.C_alloc ?_ _) | (with_reducible refine Kd.C_drewN ?_ _) | (with_reducible refine Kd.C_drew ?_)))
                (case s2=>exact HC0_0.out)
                rintro e w47 ⟨rfl,hb⟩
                refine ⟨_,rfl,?_⟩
                refine as3_ (blkB_ BK125.out hb) (blkB_ BK128.out hb) (below_step (z4_ HB.out GE125.out GE128.out) hb) ?_
                clear BK125 BK128 HB
                intro BK125 BK128 HB
                (try clear hb)
                refine hK.out _ _ (cj2_ BK125.out (cj4_ BK128.out ⟨((HB.out.cell (World.block_lt_of_cell? w _ hw130_0)).trans hw130_0),⟨((HB.out.cell (World.block_lt_of_cell? w _ hw130_1)).trans hw130_1),⟨((HB.out.cell (World.block_lt_of_cell? w _ hw130_2)).trans hw130_2),((HB.out.cell (World.block_lt_of_cell? w _ hw130_3)).trans hw130_3)⟩⟩⟩)) (fun hHeld=>?_)
                clear hK K
                refine nm_ 31 ?_
                refine pu_ 5 32 spec_SetRight.q6 HT_.out ?_
                refine pu_ 6 33 spec_SetRight.q7 HT_.out ?_
                refine pu_ 7 34 spec_SetRight.q8 HT_.out ?_
                refine tk10_ 8 35 spec_SetRight.q9 HT_.out HW_.out hHeld ?_
                refine pu_ 9 36 spec_SetRight.q10 HT_.out ?_
                refine pu_ 10 37 spec_SetRight.q11 HT_.out ?_
                refine pu_ 11 38 spec_SetRight.q12 HT_.out ?_
                refine pu_ 12 39 spec_SetRight.q13 HT_.out ?_
                refine pu_ 13 40 spec_SetRight.q14 HT_.out ?_
                refine tk10_ 14 41 spec_SetRight.q15 HT_.out HW_.out hHeld ?_
                refine pu_ 15 42 spec_SetRight.q16 HT_.out ?_
                refine pu_ 16 43 spec_SetRight.q17 HT_.out ?_
                refine tk10_ 17 44 spec_SetRight.q18 HT_.out HW_.out hHeld ?_
                refine pu_ 18 45 spec_SetRight.q19 HT_.out ?_
                refine pu_ 19 46 spec_SetRight.q20 HT_.out ?_
                refine pu_ 20 47 spec_SetRight.q21 HT_.out ?_
                refine pu_ 21 48 spec_SetRight.q22 HT_.out ?_
                refine pu_ 22 49 spec_SetRight.q23 HT_.out ?_
                refine pu_ 23 50 spec_SetRight.q24 HT_.out ?_
                refine pu_ 24 51 spec_SetRight.q25 HT_.out ?_
                refine pu_ 25 52 spec_SetRight.q26 HT_.out ?_
                refine pu_ 27 54 spec_SetRight.q39 HT_.out ?_
                refine pu_ 28 55 spec_SetRight.q40 HT_.out ?_
                refine pu_ 32 59 spec_SetRight.q41 HT_.out ?_
                refine tk10_ 26 53 spec_SetRight.q42 HT_.out HW_.out hHeld ?_
                refine pu_ 29 56 spec_SetRight.q43 HT_.out ?_
                refine pu_ 30 57 spec_SetRight.q44 HT_.out ?_
                refine tk10_ 31 58 spec_SetRight.q33 HT_.out HW_.out hHeld ?_
                refine tk10_ 33 60 spec_SetRight.q34 HT_.out HW_.out hHeld ?_
                refine o1_ 34 61 spec_SetRight.q35 HT_.out (fun K hK=>?_)
                refine goes_ Try.func82 (by kernel_rfl) rfl #[.agg #[.int .i64 ((rd_T91 l0_1 (ji28)).f0.f0),.int .i64 ((rd_T91 l0_1 (ji28)).f0.f1)],.agg #[.int .i64 ((rd_T91 l0_1 x3_2).f0.f0),.int .i64 ((rd_T91 l0_1 x3_2).f0.f1)]] (by rfl) rfl rfl (by (try simp only [List.map_toArray,List.map_cons,List.map_nil]);first | done | (simp only [hji28];rfl) | rfl | (simp only [List.length_drop,List.length_take];rfl)) ?_
                with_reducible refine (spec_l03Less.calls ((rd_T91 l0_1 (ji28)).f0.f0) ((rd_T91 l0_1 (ji28)).f0.f1) ((rd_T91 l0_1 x3_2).f0.f0) ((rd_T91 l0_1 x3_2).f0.f1) false _ A31.out).mono ?_
                rintro e w48 ⟨rfl,hb⟩
                refine ⟨_,rfl,?_⟩
                refine as3_ (blkB_ BK125.out hb) (blkB_ BK128.out hb) (below_step (z4_ HB.out GE125.out GE128.out) hb) ?_
                clear BK125 BK128 HB
                intro BK125 BK128 HB
                (try clear hb)
                refine hK.out _ _ (cj2_ BK125.out (cj4_ BK128.out ⟨((HB.out.cell (World.block_lt_of_cell? w _ hw130_0)).trans hw130_0),⟨((HB.out.cell (World.block_lt_of_cell? w _ hw130_1)).trans hw130_1),⟨((HB.out.cell (World.block_lt_of_cell? w _ hw130_2)).trans hw130_2),((HB.out.cell (World.block_lt_of_cell? w _ hw130_3)).trans hw130_3)⟩⟩⟩)) (fun hHeld=>?_)
                clear hK K
                refine nm_ 61 ?_
                refine pu_ 35 62 spec_SetRight.q36 HT_.out ?_
                refine pu_ 36 63 spec_SetRight.q37 HT_.out ?_
                refine pu_ 37 64 spec_SetRight.q38 HT_.out ?_
                refine done_ (done_of HT_.out (by kernel_rfl)) ?_
                try go_wp2
                go_ret
                exact ⟨by first | rfl | (simp [errW_none,errW_some] <;> rfl) | (simp only [← hji28];first | rfl | (simp [errW_none,errW_some] <;> rfl)) | (simp [*,errW_none,errW_some] <;> rfl),z4_ HB.out GE125.out GE128.out⟩
              ·rw [if_neg c30] at H
               exact absurd H (by simp)
             ·rw [if_neg c29] at H
              exact absurd H (by simp)
            ·rw [if_neg c27] at H
             have c27b0:decide (0<x3_2)=false:=decide_eq_false c27
             clear c27
             have H':=Aside0.mk H
             clear H
             have ⟨hcz49_0,hcz49_1,hfz49_0,hfz49_1⟩:=cz2_ BK125.out
             have p127:0≤(x3_2:Int):=of_decide_eq_true (z1_)
             have q127:x3_2<(l0_1.length:Int):=of_decide_eq_true (z1_)
             obtain ⟨ad127,e127,hx127_0,hx127_1,hx127_2,hx127_3⟩:=at_T91 HR0_1.out x3_2 p127 q127
             (try rw [← Nbq24.out] at hx127_2)
             cases e127
             replace hx127_0:=(HB.out.cell (World.block_lt_of_cell? w _ hx127_0)).trans hx127_0
             replace hx127_1:=(HB.out.cell (World.block_lt_of_cell? w _ hx127_1)).trans hx127_1
             replace hx127_2:=(HB.out.cell (World.block_lt_of_cell? w _ hx127_2)).trans hx127_2
             replace hx127_3:=(HB.out.cell (World.block_lt_of_cell? w _ hx127_3)).trans hx127_3
             replace p127:=eq_true p127
             replace q127:=eq_true q127
             try go_wp2_with (first | ((with_reducible refine gd_ 4 ?_);(try (refine gate_guard (by rfl) ?_;dsimp only));refine be_ 4 #[.int .i64 0,.int .i64 0,.bool false,.string (⟨#[]⟩:ByteArray)] 91 ?_;intro gb128 hg w50 hbox hb;refine as7_ (blkB_ BK125.out hb) (below_step (z6_ HB.out GE125.out) hb) (hbox) ((z9_ HB.out GE125.out:w.heap.size≤gb128)) ((z9_ HB.out GE125.out:w.heap.size≤gb128)) (neL_ BK125.out hg) (neG_ BK125.out hg) ?_;clear BK125 HB;intro BK125 HB BK128 GW128 GE128 NB125_128 NB128_125;clear hb hbox hg;have hnb51:=NB128_125.out;have hnc51:=NB125_128.out;have ⟨hcz52_0,hcz52_1,hcz52_2,hcz52_3,hfz52_0,hfz52_1,hfz52_2,hfz52_3⟩:=cz4_ BK128.out))
             have n0_:Aside0 (((((w50.setCell ⟨gb128,0,none⟩ (.int .i64 ((rd_T91 l0_1 x3_2).f0.f0))).setCell ⟨gb128,1,none⟩ (.int .i64 ((rd_T91 l0_1 x3_2).f0.f1))).setCell ⟨gb128,2,none⟩ (.bool true)).setCell ⟨gb128,3,none⟩ (.string ((rd_T91 l0_1 x3_2).f2))).heap[gb125]? = some (.cells #[.slice A0_0 l0_0.length c0_0,.slice (some ad127) l0_1.length c0_1] 40 (0,0))):=⟨z15_ NB125_128.out BK125.out⟩
             have n1_:Aside0 (((((w50.setCell ⟨gb128,0,none⟩ (.int .i64 ((rd_T91 l0_1 x3_2).f0.f0))).setCell ⟨gb128,1,none⟩ (.int .i64 ((rd_T91 l0_1 x3_2).f0.f1))).setCell ⟨gb128,2,none⟩ (.bool true)).setCell ⟨gb128,3,none⟩ (.string ((rd_T91 l0_1 x3_2).f2))).heap[gb128]? = some (.cells #[.int .i64 ((rd_T91 l0_1 x3_2).f0.f0),.int .i64 ((rd_T91 l0_1 x3_2).f0.f1),.bool true,.string ((rd_T91 l0_1 x3_2).f2)] 91 (0,0))):=⟨z19_ BK128.out⟩
             have n2_:Aside0 (Below w.heap.size w ((((w50.setCell ⟨gb128,0,none⟩ (.int .i64 ((rd_T91 l0_1 x3_2).f0.f0))).setCell ⟨gb128,1,none⟩ (.int .i64 ((rd_T91 l0_1 x3_2).f0.f1))).setCell ⟨gb128,2,none⟩ (.bool true)).setCell ⟨gb128,3,none⟩ (.string ((rd_T91 l0_1 x3_2).f2)))):=⟨z4_ HB.out GE125.out GE128.out⟩
             (try clear BK125)
             (try clear BK128)
             (try clear HB)
             generalize ((((w50.setCell ⟨gb128,0,none⟩ (.int .i64 ((rd_T91 l0_1 x3_2).f0.f0))).setCell ⟨gb128,1,none⟩ (.int .i64 ((rd_T91 l0_1 x3_2).f0.f1))).setCell ⟨gb128,2,none⟩ (.bool true)).setCell ⟨gb128,3,none⟩ (.string ((rd_T91 l0_1 x3_2).f2)))=w53 at n0_ n1_ n2_ ⊢
             have BK125:=n0_
             have BK128:=n1_
             have HB:=n2_
             clear n0_ n1_ n2_
             refine as3_ (blk_drew BK125.out) (blk_drew BK128.out) (below_drew1 HB.out) ?_
             clear BK125 BK128 HB
             intro BK125 BK128 HB
             refine start_ (n:=38) (S:=fun w'=>w'.cell? ⟨gb125,0,none⟩=some (.slice A0_0 l0_0.length c0_0)∧w'.cell? ⟨gb125,1,none⟩=some (.slice (some ad127) l0_1.length c0_1)∧w'.cell? ⟨gb128,0,none⟩=some (.int .i64 ((rd_T91 l0_1 x3_2).f0.f0))∧w'.cell? ⟨gb128,1,none⟩=some (.int .i64 ((rd_T91 l0_1 x3_2).f0.f1))∧w'.cell? ⟨gb128,2,none⟩=some (.bool true)∧w'.cell? ⟨gb128,3,none⟩=some (.string ((rd_T91 l0_1 x3_2).f2))) (ds:=[]) spec_SetRight.q0 (by kernel_rfl) rfl rfl (cj2_ BK125.out (cc4_ BK128.out)) (fun hHeld=>?_);refine with_tabW spec_SetRight.tab7 spec_SetRight.bits7 (fun HT_ HW_=>?_)
             generalize w53.drew=w54 at BK125 BK128 HB hHeld ⊢
             refine pu_ 0 27 spec_SetRight.q1 HT_.out ?_
             refine pu_ 2 29 spec_SetRight.q2 HT_.out ?_
             refine tk6_ 1 28 spec_SetRight.q3 HT_.out HW_.out hHeld ?_
             refine tk6_ 3 30 spec_SetRight.q4 HT_.out HW_.out hHeld ?_
             refine o1_ 4 31 spec_SetRight.q5 HT_.out (fun K hK=>?_)
             refine gs_ Try.func72 #[.slice A0_0 l0_0.length c0_0,.agg #[.int .i64 ((rd_T91 l0_1 x3_2).f0.f0),.int .i64 ((rd_T91 l0_1 x3_2).f0.f1)]] ?_
             with_reducible refine (spec_SeenHas.calls k2 _ _ l0_0 ((rd_T91 l0_1 x3_2).f0.f0) ((rd_T91 l0_1 x3_2).f0.f1) true _ ?s1 ?s2 A14.out).mono ?_
             (case s1=>repeat (first | exact (Kd.C_below HR0_0.out HB.out) | (with_reducible refine Kd.C_alloc ?_ _) | (with_reducible refine Kd.C_drewN ?_ _) | (with_reducible refine Kd.C_drew ?_)))
             (case s2=>exact HC0_0.out)
             rintro e w55 ⟨rfl,hb⟩
             refine ⟨_,rfl,?_⟩
             refine as3_ (blkB_ BK125.out hb) (blkB_ BK128.out hb) (below_step (z4_ HB.out GE125.out GE128.out) hb) ?_
             clear BK125 BK128 HB
             intro BK125 BK128 HB
             (try clear hb)
             refine hK.out _ _ (cj2_ BK125.out (cc4_ BK128.out)) (fun hHeld=>?_)
             clear hK K
             refine nm_ 31 ?_
             refine pu_ 5 32 spec_SetRight.q6 HT_.out ?_
             refine pu_ 6 33 spec_SetRight.q7 HT_.out ?_
             refine pu_ 7 34 spec_SetRight.q8 HT_.out ?_
             refine tk6_ 8 35 spec_SetRight.q9 HT_.out HW_.out hHeld ?_
             refine pu_ 9 36 spec_SetRight.q10 HT_.out ?_
             refine pu_ 10 37 spec_SetRight.q11 HT_.out ?_
             refine pu_ 11 38 spec_SetRight.q12 HT_.out ?_
             refine pu_ 12 39 spec_SetRight.q13 HT_.out ?_
             refine pu_ 13 40 spec_SetRight.q14 HT_.out ?_
             refine tk6_ 14 41 spec_SetRight.q15 HT_.out HW_.out hHeld ?_
             refine pu_ 15 42 spec_SetRight.q16 HT_.out ?_
             refine pu_ 16 43 spec_SetRight.q17 HT_.out ?_
             refine tk6_ 17 44 spec_SetRight.q18 HT_.out HW_.out hHeld ?_
             refine pu_ 18 45 spec_SetRight.q19 HT_.out ?_
             refine pu_ 19 46 spec_SetRight.q20 HT_.out ?_
             refine pu_ 20 47 spec_SetRight.q21 HT_.out ?_
             refine pu_ 21 48 spec_SetRight.q22 HT_.out ?_
             refine pu_ 22 49 spec_SetRight.q23 HT_.out ?_
             refine pu_ 23 50 spec_SetRight.q24 HT_.out ?_
             refine pu_ 24 51 spec_SetRight.q25 HT_.out ?_
             refine pn_ 25 52 spec_SetRight.q26 HT_.out ?_
             refine pn_ 26 53 spec_SetRight.q27 HT_.out ?_
             refine pn_ 27 54 spec_SetRight.q28 HT_.out ?_
             refine pn_ 28 55 spec_SetRight.q29 HT_.out ?_
             refine pn_ 29 56 spec_SetRight.q30 HT_.out ?_
             refine pn_ 30 57 spec_SetRight.q31 HT_.out ?_
             refine pn_ 31 58 spec_SetRight.q32 HT_.out ?_
             refine pn_ 32 59 spec_SetRight.q33 HT_.out ?_
             refine pn_ 33 60 spec_SetRight.q34 HT_.out ?_
             refine pn_ 34 61 spec_SetRight.q35 HT_.out ?_
             refine pn_ 35 62 spec_SetRight.q36 HT_.out ?_
             refine pu_ 36 63 spec_SetRight.q37 HT_.out ?_
             refine pu_ 37 64 spec_SetRight.q38 HT_.out ?_
             refine done_ (done_of HT_.out (by kernel_rfl)) ?_
             try go_wp2
             go_roundg k2
             case measure=>have:=HJ1.out;have:=HK2.out;omega
             case rel=>exact ⟨(wrap64 (x3_2+1)),(z2_),H',⟨by have:=HJ1.out;have:=HK2.out;omega⟩,⟨z5_ BK125.out⟩,⟨z4_ HB.out GE125.out GE128.out⟩⟩
           ·rw [if_neg c26] at H
            have c26b0:(((rd_T91 l0_1 x3_2).f2).toList == ([]:List UInt8))=false:=beq_eq_false_iff_ne.mpr c26
            have c26b1:(((rd_T91 l0_1 x3_2).f2).toList != ([]:List UInt8))=true:=bne_iff_ne.mpr c26
            obtain rfl:=Option.some.inj H
            have ⟨hcz56_0,hcz56_1,hfz56_0,hfz56_1⟩:=cz2_ BK125.out
            have p127:0≤(x3_2:Int):=of_decide_eq_true (z1_)
            have q127:x3_2<(l0_1.length:Int):=of_decide_eq_true (z1_)
            obtain ⟨ad127,e127,hx127_0,hx127_1,hx127_2,hx127_3⟩:=at_T91 HR0_1.out x3_2 p127 q127
            (try rw [← Nbq24.out] at hx127_2)
            cases e127
            replace hx127_0:=(HB.out.cell (World.block_lt_of_cell? w _ hx127_0)).trans hx127_0
            replace hx127_1:=(HB.out.cell (World.block_lt_of_cell? w _ hx127_1)).trans hx127_1
            replace hx127_2:=(HB.out.cell (World.block_lt_of_cell? w _ hx127_2)).trans hx127_2
            replace hx127_3:=(HB.out.cell (World.block_lt_of_cell? w _ hx127_3)).trans hx127_3
            replace p127:=eq_true p127
            replace q127:=eq_true q127
            try go_wp2_with (first | ((with_reducible refine gd_ 4 ?_);(try (refine gate_guard (by rfl) ?_;dsimp only));refine be_ 4 #[.int .i64 0,.int .i64 0,.bool false,.string (⟨#[]⟩:ByteArray)] 91 ?_;intro gb128 hg w57 hbox hb;refine as7_ (blkB_ BK125.out hb) (below_step (z6_ HB.out GE125.out) hb) (hbox) ((z9_ HB.out GE125.out:w.heap.size≤gb128)) ((z9_ HB.out GE125.out:w.heap.size≤gb128)) (neL_ BK125.out hg) (neG_ BK125.out hg) ?_;clear BK125 HB;intro BK125 HB BK128 GW128 GE128 NB125_128 NB128_125;clear hb hbox hg;have hnb58:=NB128_125.out;have hnc58:=NB125_128.out;have ⟨hcz59_0,hcz59_1,hcz59_2,hcz59_3,hfz59_0,hfz59_1,hfz59_2,hfz59_3⟩:=cz4_ BK128.out))
            have n0_:Aside0 (((((w57.setCell ⟨gb128,0,none⟩ (.int .i64 ((rd_T91 l0_1 x3_2).f0.f0))).setCell ⟨gb128,1,none⟩ (.int .i64 ((rd_T91 l0_1 x3_2).f0.f1))).setCell ⟨gb128,2,none⟩ (.bool true)).setCell ⟨gb128,3,none⟩ (.string ((rd_T91 l0_1 x3_2).f2))).heap[gb125]? = some (.cells #[.slice A0_0 l0_0.length c0_0,.slice (some ad127) l0_1.length c0_1] 40 (0,0))):=⟨z15_ NB125_128.out BK125.out⟩
            have n1_:Aside0 (((((w57.setCell ⟨gb128,0,none⟩ (.int .i64 ((rd_T91 l0_1 x3_2).f0.f0))).setCell ⟨gb128,1,none⟩ (.int .i64 ((rd_T91 l0_1 x3_2).f0.f1))).setCell ⟨gb128,2,none⟩ (.bool true)).setCell ⟨gb128,3,none⟩ (.string ((rd_T91 l0_1 x3_2).f2))).heap[gb128]? = some (.cells #[.int .i64 ((rd_T91 l0_1 x3_2).f0.f0),.int .i64 ((rd_T91 l0_1 x3_2).f0.f1),.bool true,.string ((rd_T91 l0_1 x3_2).f2)] 91 (0,0))):=⟨z19_ BK128.out⟩
            have n2_:Aside0 (Below w.heap.size w ((((w57.setCell ⟨gb128,0,none⟩ (.int .i64 ((rd_T91 l0_1 x3_2).f0.f0))).setCell ⟨gb128,1,none⟩ (.int .i64 ((rd_T91 l0_1 x3_2).f0.f1))).setCell ⟨gb128,2,none⟩ (.bool true)).setCell ⟨gb128,3,none⟩ (.string ((rd_T91 l0_1 x3_2).f2)))):=⟨z4_ HB.out GE125.out GE128.out⟩
            (try clear BK125)
            (try clear BK128)
            (try clear HB)
            generalize ((((w57.setCell ⟨gb128,0,none⟩ (.int .i64 ((rd_T91 l0_1 x3_2).f0.f0))).setCell ⟨gb128,1,none⟩ (.int .i64 ((rd_T91 l0_1 x3_2).f0.f1))).setCell ⟨gb128,2,none⟩ (.bool true)).setCell ⟨gb128,3,none⟩ (.string ((rd_T91 l0_1 x3_2).f2)))=w60 at n0_ n1_ n2_ ⊢
            have BK125:=n0_
            have BK128:=n1_
            have HB:=n2_
            clear n0_ n1_ n2_
            refine as3_ (blk_drew BK125.out) (blk_drew BK128.out) (below_drew1 HB.out) ?_
            clear BK125 BK128 HB
            intro BK125 BK128 HB
            refine start_ (n:=38) (S:=fun w'=>w'.cell? ⟨gb125,0,none⟩=some (.slice A0_0 l0_0.length c0_0)∧w'.cell? ⟨gb125,1,none⟩=some (.slice (some ad127) l0_1.length c0_1)∧w'.cell? ⟨gb128,0,none⟩=some (.int .i64 ((rd_T91 l0_1 x3_2).f0.f0))∧w'.cell? ⟨gb128,1,none⟩=some (.int .i64 ((rd_T91 l0_1 x3_2).f0.f1))∧w'.cell? ⟨gb128,2,none⟩=some (.bool true)∧w'.cell? ⟨gb128,3,none⟩=some (.string ((rd_T91 l0_1 x3_2).f2))) (ds:=[]) spec_SetRight.q0 (by kernel_rfl) rfl rfl (cj2_ BK125.out (cc4_ BK128.out)) (fun hHeld=>?_);refine with_tabW spec_SetRight.tab7 spec_SetRight.bits7 (fun HT_ HW_=>?_)
            generalize w60.drew=w61 at BK125 BK128 HB hHeld ⊢
            refine pu_ 0 27 spec_SetRight.q1 HT_.out ?_
            refine pu_ 2 29 spec_SetRight.q2 HT_.out ?_
            refine tk6_ 1 28 spec_SetRight.q3 HT_.out HW_.out hHeld ?_
            refine tk6_ 3 30 spec_SetRight.q4 HT_.out HW_.out hHeld ?_
            refine o1_ 4 31 spec_SetRight.q5 HT_.out (fun K hK=>?_)
            refine gs_ Try.func72 #[.slice A0_0 l0_0.length c0_0,.agg #[.int .i64 ((rd_T91 l0_1 x3_2).f0.f0),.int .i64 ((rd_T91 l0_1 x3_2).f0.f1)]] ?_
            with_reducible refine (spec_SeenHas.calls k2 _ _ l0_0 ((rd_T91 l0_1 x3_2).f0.f0) ((rd_T91 l0_1 x3_2).f0.f1) true _ ?s1 ?s2 A14.out).mono ?_
            (case s1=>repeat (first | exact (Kd.C_below HR0_0.out HB.out) | (with_reducible refine Kd.C_alloc ?_ _) | (with_reducible refine Kd.C_drewN ?_ _) | (with_reducible refine Kd.C_drew ?_)))
            (case s2=>exact HC0_0.out)
            rintro e w62 ⟨rfl,hb⟩
            refine ⟨_,rfl,?_⟩
            refine as3_ (blkB_ BK125.out hb) (blkB_ BK128.out hb) (below_step (z4_ HB.out GE125.out GE128.out) hb) ?_
            clear BK125 BK128 HB
            intro BK125 BK128 HB
            (try clear hb)
            refine hK.out _ _ (cj2_ BK125.out (cc4_ BK128.out)) (fun hHeld=>?_)
            clear hK K
            refine nm_ 31 ?_
            refine pu_ 5 32 spec_SetRight.q6 HT_.out ?_
            refine pu_ 6 33 spec_SetRight.q7 HT_.out ?_
            refine pu_ 7 34 spec_SetRight.q8 HT_.out ?_
            refine tk6_ 8 35 spec_SetRight.q9 HT_.out HW_.out hHeld ?_
            refine pu_ 9 36 spec_SetRight.q10 HT_.out ?_
            refine pu_ 10 37 spec_SetRight.q11 HT_.out ?_
            refine pu_ 11 38 spec_SetRight.q12 HT_.out ?_
            refine pu_ 12 39 spec_SetRight.q13 HT_.out ?_
            refine pu_ 13 40 spec_SetRight.q14 HT_.out ?_
            refine tk6_ 14 41 spec_SetRight.q15 HT_.out HW_.out hHeld ?_
            refine pu_ 15 42 spec_SetRight.q16 HT_.out ?_
            refine pu_ 16 43 spec_SetRight.q17 HT_.out ?_
            refine tk6_ 17 44 spec_SetRight.q18 HT_.out HW_.out hHeld ?_
            refine pu_ 18 45 spec_SetRight.q19 HT_.out ?_
            refine pu_ 19 46 spec_SetRight.q20 HT_.out ?_
            refine pu_ 20 47 spec_SetRight.q21 HT_.out ?_
            refine pu_ 21 48 spec_SetRight.q22 HT_.out ?_
            refine pn_ 22 49 spec_SetRight.q23 HT_.out ?_
            refine pn_ 23 50 spec_SetRight.q24 HT_.out ?_
            refine pn_ 24 51 spec_SetRight.q25 HT_.out ?_
            refine pn_ 25 52 spec_SetRight.q26 HT_.out ?_
            refine pn_ 26 53 spec_SetRight.q27 HT_.out ?_
            refine pn_ 27 54 spec_SetRight.q28 HT_.out ?_
            refine pn_ 28 55 spec_SetRight.q29 HT_.out ?_
            refine pn_ 29 56 spec_SetRight.q30 HT_.out ?_
            refine pn_ 30 57 spec_SetRight.q31 HT_.out ?_
            refine pn_ 31 58 spec_SetRight.q32 HT_.out ?_
            refine pn_ 32 59 spec_SetRight.q33 HT_.out ?_
            refine pn_ 33 60 spec_SetRight.q34 HT_.out ?_
            refine pn_ 34 61 spec_SetRight.q35 HT_.out ?_
            refine pn_ 35 62 spec_SetRight.q36 HT_.out ?_
            refine pn_ 36 63 spec_SetRight.q37 HT_.out ?_
            refine pu_ 37 64 spec_SetRight.q38 HT_.out ?_
            refine done_ (done_of HT_.out (by kernel_rfl)) ?_
            try go_wp2
            go_ret
            exact ⟨z8_,z4_ HB.out GE125.out GE128.out⟩
          ·replace c25:=Bool.eq_false_iff.mpr c25
           subst c25
           have H1:(if x3_2>0 then (if 0≤(wrap64 (x3_2-1)) then (if (wrap64 (x3_2-1))<(l0_1.length:Int) then ((spec_l03Less.f ((rd_T91 l0_1 (wrap64 (x3_2-1))).f0.f0) ((rd_T91 l0_1 (wrap64 (x3_2-1))).f0.f1) ((rd_T91 l0_1 x3_2).f0.f0) ((rd_T91 l0_1 x3_2).f0.f1)).bind fun t133=>(if t133=true then (spec_SetRight.l0 k2 (wrap64 (x3_2+1)) l0_0 l0_1) else (some false))) else (none)) else (none)) else (spec_SetRight.l0 k2 (wrap64 (x3_2+1)) l0_0 l0_1))=some r:=by rw [if_neg (show ¬ (false=true) by decide)] at H;exact H
           clear H
           have H:=H1
           clear H1
           by_cases c63:x3_2>0
           ·rw [if_pos c63] at H
            have c63b0:decide (0<x3_2)=true:=decide_eq_true c63
            clear c63
            obtain ⟨ji64,hji64⟩:∃ j_:Int,(wrap64 (x3_2-1))=j_:=⟨_,rfl⟩
            replace H:(if 0≤(ji64) then (if (ji64)<(l0_1.length:Int) then ((spec_l03Less.f ((rd_T91 l0_1 (ji64)).f0.f0) ((rd_T91 l0_1 (ji64)).f0.f1) ((rd_T91 l0_1 x3_2).f0.f0) ((rd_T91 l0_1 x3_2).f0.f1)).bind fun t133=>(if t133=true then (spec_SetRight.l0 k2 (wrap64 (x3_2+1)) l0_0 l0_1) else (some false))) else (none)) else (none))=some r:=by first | (rw [hji64] at H;exact H) | (simp only [hji64] at H ⊢;exact H)
            (try rw [hji64] at A14)
            have hji64w:(IntKind.i64.wrap (x3_2-1))=ji64:=(i64_w _).trans hji64
            by_cases c65:0≤(ji64)
            ·rw [if_pos c65] at H
             have c65b0:decide (0≤(ji64))=true:=decide_eq_true c65
             clear c65
             by_cases c66:(ji64)<(l0_1.length:Int)
             ·rw [if_pos c66] at H
              have c66b0:decide ((ji64)<(l0_1.length:Int))=true:=decide_eq_true c66
              clear c66
              replace H:=Option.bind_eq_some_iff.mp H
              obtain ⟨t133,A670,H⟩:=H
              replace H:(if t133=true then (spec_SetRight.l0 k2 (wrap64 (x3_2+1)) l0_0 l0_1) else (some false))=some r:=H
              have A67:=Aside0.mk A670
              clear A670
              by_cases c68:t133=true
              ·subst c68
               have H1:(spec_SetRight.l0 k2 (wrap64 (x3_2+1)) l0_0 l0_1)=some r:=by rw [if_pos rfl] at H;exact H
               clear H
               have H:=H1
               clear H1
               have H':=Aside0.mk H
               clear H
               have ⟨hcz69_0,hcz69_1,hfz69_0,hfz69_1⟩:=cz2_ BK125.out
               have p127:0≤(x3_2:Int):=of_decide_eq_true (z1_)
               have q127:x3_2<(l0_1.length:Int):=of_decide_eq_true (z1_)
               obtain ⟨ad127,e127,hx127_0,hx127_1,hx127_2,hx127_3⟩:=at_T91 HR0_1.out x3_2 p127 q127
               (try rw [← Nbq24.out] at hx127_2)
               cases e127
               replace hx127_0:=(HB.out.cell (World.block_lt_of_cell? w _ hx127_0)).trans hx127_0
               replace hx127_1:=(HB.out.cell (World.block_lt_of_cell? w _ hx127_1)).trans hx127_1
               replace hx127_2:=(HB.out.cell (World.block_lt_of_cell? w _ hx127_2)).trans hx127_2
               replace hx127_3:=(HB.out.cell (World.block_lt_of_cell? w _ hx127_3)).trans hx127_3
               replace p127:=eq_true p127
               replace q127:=eq_true q127
               try go_wp2_with (first | ((with_reducible refine gd_ 4 ?_);(try (refine gate_guard (by rfl) ?_;dsimp only));refine be_ 4 #[.int .i64 0,.int .i64 0,.bool false,.string (⟨#[]⟩:ByteArray)] 91 ?_;intro gb128 hg w70 hbox hb;refine as7_ (blkB_ BK125.out hb) (below_step (z6_ HB.out GE125.out) hb) (hbox) ((z9_ HB.out GE125.out:w.heap.size≤gb128)) ((z9_ HB.out GE125.out:w.heap.size≤gb128)) (neL_ BK125.out hg) (neG_ BK125.out hg) ?_;clear BK125 HB;intro BK125 HB BK128 GW128 GE128 NB125_128 NB128_125;clear hb hbox hg;have hnb71:=NB128_125.out;have hnc71:=NB125_128.out;have ⟨hcz72_0,hcz72_1,hcz72_2,hcz72_3,hfz72_0,hfz72_1,hfz72_2,hfz72_3⟩:=cz4_ BK128.out))
               have n0_:Aside0 (((((w70.setCell ⟨gb128,0,none⟩ (.int .i64 ((rd_T91 l0_1 x3_2).f0.f0))).setCell ⟨gb128,1,none⟩ (.int .i64 ((rd_T91 l0_1 x3_2).f0.f1))).setCell ⟨gb128,2,none⟩ (.bool false)).setCell ⟨gb128,3,none⟩ (.string ((rd_T91 l0_1 x3_2).f2))).heap[gb125]? = some (.cells #[.slice A0_0 l0_0.length c0_0,.slice (some ad127) l0_1.length c0_1] 40 (0,0))):=⟨z15_ NB125_128.out BK125.out⟩
               have n1_:Aside0 (((((w70.setCell ⟨gb128,0,none⟩ (.int .i64 ((rd_T91 l0_1 x3_2).f0.f0))).setCell ⟨gb128,1,none⟩ (.int .i64 ((rd_T91 l0_1 x3_2).f0.f1))).setCell ⟨gb128,2,none⟩ (.bool false)).setCell ⟨gb128,3,none⟩ (.string ((rd_T91 l0_1 x3_2).f2))).heap[gb128]? = some (.cells #[.int .i64 ((rd_T91 l0_1 x3_2).f0.f0),.int .i64 ((rd_T91 l0_1 x3_2).f0.f1),.bool false,.string ((rd_T91 l0_1 x3_2).f2)] 91 (0,0))):=⟨z19_ BK128.out⟩
               have n2_:Aside0 (Below w.heap.size w ((((w70.setCell ⟨gb128,0,none⟩ (.int .i64 ((rd_T91 l0_1 x3_2).f0.f0))).setCell ⟨gb128,1,none⟩ (.int .i64 ((rd_T91 l0_1 x3_2).f0.f1))).setCell ⟨gb128,2,none⟩ (.bool false)).setCell ⟨gb128,3,none⟩ (.string ((rd_T91 l0_1 x3_2).f2)))):=⟨z4_ HB.out GE125.out GE128.out⟩
               (try clear BK125)
               (try clear BK128)
               (try clear HB)
               generalize ((((w70.setCell ⟨gb128,0,none⟩ (.int .i64 ((rd_T91 l0_1 x3_2).f0.f0))).setCell ⟨gb128,1,none⟩ (.int .i64 ((rd_T91 l0_1 x3_2).f0.f1))).setCell ⟨gb128,2,none⟩ (.bool false)).setCell ⟨gb128,3,none⟩ (.string ((rd_T91 l0_1 x3_2).f2)))=w73 at n0_ n1_ n2_ ⊢
               have BK125:=n0_
               have BK128:=n1_
               have HB:=n2_
               clear n0_ n1_ n2_
               refine as3_ (blk_drew BK125.out) (blk_drew BK128.out) (below_drew1 HB.out) ?_
               clear BK125 BK128 HB
               intro BK125 BK128 HB
               have p132:0≤((ji64):Int):=of_decide_eq_true (z1_)
               have q132:(ji64)<(l0_1.length:Int):=of_decide_eq_true (z1_)
               obtain ⟨ad132,e132,hx132_0,hx132_1,hx132_2,hx132_3⟩:=at_T91 HR0_1.out (ji64) p132 q132
               have hw132_3:=hx132_3
               have hw132_2:=hx132_2
               have hw132_1:=hx132_1
               have hw132_0:=hx132_0
               (try rw [← Nbq24.out] at hx132_2)
               obtain rfl:ad127=ad132:=(by injection e132)
               replace hx132_0:=(HB.out.cell (World.block_lt_of_cell? w _ hx132_0)).trans hx132_0
               replace hx132_1:=(HB.out.cell (World.block_lt_of_cell? w _ hx132_1)).trans hx132_1
               replace hx132_2:=(HB.out.cell (World.block_lt_of_cell? w _ hx132_2)).trans hx132_2
               replace hx132_3:=(HB.out.cell (World.block_lt_of_cell? w _ hx132_3)).trans hx132_3
               replace p132:=eq_true p132
               replace q132:=eq_true q132
               refine start_ (n:=38) (S:=fun w'=>w'.cell? ⟨gb125,0,none⟩=some (.slice A0_0 l0_0.length c0_0)∧w'.cell? ⟨gb125,1,none⟩=some (.slice (some ad127) l0_1.length c0_1)∧w'.cell? ⟨gb128,0,none⟩=some (.int .i64 ((rd_T91 l0_1 x3_2).f0.f0))∧w'.cell? ⟨gb128,1,none⟩=some (.int .i64 ((rd_T91 l0_1 x3_2).f0.f1))∧w'.cell? ⟨gb128,2,none⟩=some (.bool false)∧w'.cell? ⟨gb128,3,none⟩=some (.string ((rd_T91 l0_1 x3_2).f2))∧w'.cell? (ad127.add (((ji64)).toNat*4))=some (.int .i64 ((rd_T91 l0_1 (ji64)).f0.f0))∧w'.cell? ⟨(ad127.add (((ji64)).toNat*4)).block,(ad127.add (((ji64)).toNat*4)).off+1,none⟩=some (.int .i64 ((rd_T91 l0_1 (ji64)).f0.f1))∧w'.cell? ⟨(ad127.add (((ji64)).toNat*4)).block,(ad127.add (((ji64)).toNat*4)).off+2,none⟩=some (.bool ((rd_T91 l0_1 (ji64)).f1))∧w'.cell? ⟨(ad127.add (((ji64)).toNat*4)).block,(ad127.add (((ji64)).toNat*4)).off+3,none⟩=some (.string ((rd_T91 l0_1 (ji64)).f2))) (ds:=[]) spec_SetRight.q0 (by kernel_rfl) rfl rfl (cj2_ BK125.out (cj4_ BK128.out ⟨((HB.out.cell (World.block_lt_of_cell? w _ hw132_0)).trans hw132_0),⟨((HB.out.cell (World.block_lt_of_cell? w _ hw132_1)).trans hw132_1),⟨((HB.out.cell (World.block_lt_of_cell? w _ hw132_2)).trans hw132_2),((HB.out.cell (World.block_lt_of_cell? w _ hw132_3)).trans hw132_3)⟩⟩⟩)) (fun hHeld=>?_);refine with_tabW spec_SetRight.tab7 spec_SetRight.bits7 (fun HT_ HW_=>?_)
               generalize w73.drew=w74 at BK125 BK128 HB hx132_0 hx132_1 hx132_2 hx132_3 hHeld ⊢
               refine pu_ 0 27 spec_SetRight.q1 HT_.out ?_
               refine pu_ 2 29 spec_SetRight.q2 HT_.out ?_
               refine tk10_ 1 28 spec_SetRight.q3 HT_.out HW_.out hHeld ?_
               refine tk10_ 3 30 spec_SetRight.q4 HT_.out HW_.out hHeld ?_
               refine o1_ 4 31 spec_SetRight.q5 HT_.out (fun K hK=>?_)
               refine gs_ Try.func72 #[.slice A0_0 l0_0.length c0_0,.agg #[.int .i64 ((rd_T91 l0_1 x3_2).f0.f0),.int .i64 ((rd_T91 l0_1 x3_2).f0.f1)]] ?_
               with_reducible refine (spec_SeenHas.calls k2 _ _ l0_0 ((rd_T91 l0_1 x3_2).f0.f0) ((rd_T91 l0_1 x3_2).f0.f1) true _ ?s1 ?s2 A14.out).mono ?_
               (case s1=>repeat (first | exact (Kd.C_below HR0_0.out HB.out) | (with_reducible refine Kd.C_alloc ?_ _) | (with_reducible refine Kd.C_drewN ?_ _) | (with_reducible refine Kd.C_drew ?_)))
               (case s2=>exact HC0_0.out)
               rintro e w75 ⟨rfl,hb⟩
               refine ⟨_,rfl,?_⟩
               refine as3_ (blkB_ BK125.out hb) (blkB_ BK128.out hb) (below_step (z4_ HB.out GE125.out GE128.out) hb) ?_
               clear BK125 BK128 HB
               intro BK125 BK128 HB
               (try clear hb)
               refine hK.out _ _ (cj2_ BK125.out (cj4_ BK128.out ⟨((HB.out.cell (World.block_lt_of_cell? w _ hw132_0)).trans hw132_0),⟨((HB.out.cell (World.block_lt_of_cell? w _ hw132_1)).trans hw132_1),⟨((HB.out.cell (World.block_lt_of_cell? w _ hw132_2)).trans hw132_2),((HB.out.cell (World.block_lt_of_cell? w _ hw132_3)).trans hw132_3)⟩⟩⟩)) (fun hHeld=>?_)
               clear hK K
               refine nm_ 31 ?_
               refine pu_ 5 32 spec_SetRight.q6 HT_.out ?_
               refine pu_ 6 33 spec_SetRight.q7 HT_.out ?_
               refine pu_ 7 34 spec_SetRight.q8 HT_.out ?_
               refine tk10_ 8 35 spec_SetRight.q9 HT_.out HW_.out hHeld ?_
               refine pu_ 9 36 spec_SetRight.q10 HT_.out ?_
               refine pu_ 10 37 spec_SetRight.q11 HT_.out ?_
               refine pu_ 11 38 spec_SetRight.q12 HT_.out ?_
               refine pu_ 12 39 spec_SetRight.q13 HT_.out ?_
               refine pu_ 13 40 spec_SetRight.q14 HT_.out ?_
               refine tk10_ 14 41 spec_SetRight.q15 HT_.out HW_.out hHeld ?_
               refine pu_ 15 42 spec_SetRight.q16 HT_.out ?_
               refine pn_ 16 43 spec_SetRight.q17 HT_.out ?_
               refine pn_ 17 44 spec_SetRight.q18 HT_.out ?_
               refine pn_ 18 45 spec_SetRight.q19 HT_.out ?_
               refine pu_ 19 46 spec_SetRight.q20 HT_.out ?_
               refine pu_ 20 47 spec_SetRight.q21 HT_.out ?_
               refine pu_ 21 48 spec_SetRight.q22 HT_.out ?_
               refine pu_ 22 49 spec_SetRight.q23 HT_.out ?_
               refine pu_ 23 50 spec_SetRight.q24 HT_.out ?_
               refine pu_ 24 51 spec_SetRight.q25 HT_.out ?_
               refine pu_ 25 52 spec_SetRight.q26 HT_.out ?_
               refine pu_ 27 54 spec_SetRight.q39 HT_.out ?_
               refine pu_ 28 55 spec_SetRight.q40 HT_.out ?_
               refine pu_ 32 59 spec_SetRight.q41 HT_.out ?_
               refine tk10_ 26 53 spec_SetRight.q42 HT_.out HW_.out hHeld ?_
               refine pu_ 29 56 spec_SetRight.q43 HT_.out ?_
               refine pu_ 30 57 spec_SetRight.q44 HT_.out ?_
               refine tk10_ 31 58 spec_SetRight.q33 HT_.out HW_.out hHeld ?_
               refine tk10_ 33 60 spec_SetRight.q34 HT_.out HW_.out hHeld ?_
               refine o1_ 34 61 spec_SetRight.q35 HT_.out (fun K hK=>?_)
               refine goes_ Try.func82 (by kernel_rfl) rfl #[.agg #[.int .i64 ((rd_T91 l0_1 (ji64)).f0.f0),.int .i64 ((rd_T91 l0_1 (ji64)).f0.f1)],.agg #[.int .i64 ((rd_T91 l0_1 x3_2).f0.f0),.int .i64 ((rd_T91 l0_1 x3_2).f0.f1)]] (by rfl) rfl rfl (by (try simp only [List.map_toArray,List.map_cons,List.map_nil]);first | done | (simp only [hji64];rfl) | rfl | (simp only [List.length_drop,List.length_take];rfl)) ?_
               with_reducible refine (spec_l03Less.calls ((rd_T91 l0_1 (ji64)).f0.f0) ((rd_T91 l0_1 (ji64)).f0.f1) ((rd_T91 l0_1 x3_2).f0.f0) ((rd_T91 l0_1 x3_2).f0.f1) true _ A67.out).mono ?_
               rintro e w76 ⟨rfl,hb⟩
               refine ⟨_,rfl,?_⟩
               refine as3_ (blkB_ BK125.out hb) (blkB_ BK128.out hb) (below_step (z4_ HB.out GE125.out GE128.out) hb) ?_
               clear BK125 BK128 HB
               intro BK125 BK128 HB
               (try clear hb)
               refine hK.out _ _ (cj2_ BK125.out (cj4_ BK128.out ⟨((HB.out.cell (World.block_lt_of_cell? w _ hw132_0)).trans hw132_0),⟨((HB.out.cell (World.block_lt_of_cell? w _ hw132_1)).trans hw132_1),⟨((HB.out.cell (World.block_lt_of_cell? w _ hw132_2)).trans hw132_2),((HB.out.cell (World.block_lt_of_cell? w _ hw132_3)).trans hw132_3)⟩⟩⟩)) (fun hHeld=>?_)
               clear hK K
               refine nm_ 61 ?_
               refine pu_ 35 62 spec_SetRight.q36 HT_.out ?_
               refine pu_ 36 63 spec_SetRight.q37 HT_.out ?_
               refine pu_ 37 64 spec_SetRight.q38 HT_.out ?_
               refine done_ (done_of HT_.out (by kernel_rfl)) ?_
               try go_wp2
               go_roundg k2
               case measure=>have:=HJ1.out;have:=HK2.out;omega
               case rel=>exact ⟨(wrap64 (x3_2+1)),(z2_),H',⟨by have:=HJ1.out;have:=HK2.out;omega⟩,⟨z5_ BK125.out⟩,⟨z4_ HB.out GE125.out GE128.out⟩⟩
              ·replace c68:=Bool.eq_false_iff.mpr c68
               subst c68
               have H1:(some false)=some r:=by rw [if_neg (show ¬ (false=true) by decide)] at H;exact H
               clear H
               have H:=H1
               clear H1
               obtain rfl:=Option.some.inj H
               have ⟨hcz77_0,hcz77_1,hfz77_0,hfz77_1⟩:=cz2_ BK125.out
               have p127:0≤(x3_2:Int):=of_decide_eq_true (z1_)
               have q127:x3_2<(l0_1.length:Int):=of_decide_eq_true (z1_)
               obtain ⟨ad127,e127,hx127_0,hx127_1,hx127_2,hx127_3⟩:=at_T91 HR0_1.out x3_2 p127 q127
               (try rw [← Nbq24.out] at hx127_2)
               cases e127
               replace hx127_0:=(HB.out.cell (World.block_lt_of_cell? w _ hx127_0)).trans hx127_0
               replace hx127_1:=(HB.out.cell (World.block_lt_of_cell? w _ hx127_1)).trans hx127_1
               replace hx127_2:=(HB.out.cell (World.block_lt_of_cell? w _ hx127_2)).trans hx127_2
               replace hx127_3:=(HB.out.cell (World.block_lt_of_cell? w _ hx127_3)).trans hx127_3
               replace p127:=eq_true p127
               replace q127:=eq_true q127
               try go_wp2_with (first | ((with_reducible refine gd_ 4 ?_);(try (refine gate_guard (by rfl) ?_;dsimp only));refine be_ 4 #[.int .i64 0,.int .i64 0,.bool false,.string (⟨#[]⟩:ByteArray)] 91 ?_;intro gb128 hg w78 hbox hb;refine as7_ (blkB_ BK125.out hb) (below_step (z6_ HB.out GE125.out) hb) (hbox) ((z9_ HB.out GE125.out:w.heap.size≤gb128)) ((z9_ HB.out GE125.out:w.heap.size≤gb128)) (neL_ BK125.out hg) (neG_ BK125.out hg) ?_;clear BK125 HB;intro BK125 HB BK128 GW128 GE128 NB125_128 NB128_125;clear hb hbox hg;have hnb79:=NB128_125.out;have hnc79:=NB125_128.out;have ⟨hcz80_0,hcz80_1,hcz80_2,hcz80_3,hfz80_0,hfz80_1,hfz80_2,hfz80_3⟩:=cz4_ BK128.out))
               have n0_:Aside0 (((((w78.setCell ⟨gb128,0,none⟩ (.int .i64 ((rd_T91 l0_1 x3_2).f0.f0))).setCell ⟨gb128,1,none⟩ (.int .i64 ((rd_T91 l0_1 x3_2).f0.f1))).setCell ⟨gb128,2,none⟩ (.bool false)).setCell ⟨gb128,3,none⟩ (.string ((rd_T91 l0_1 x3_2).f2))).heap[gb125]? = some (.cells #[.slice A0_0 l0_0.length c0_0,.slice (some ad127) l0_1.length c0_1] 40 (0,0))):=⟨z15_ NB125_128.out BK125.out⟩
               have n1_:Aside0 (((((w78.setCell ⟨gb128,0,none⟩ (.int .i64 ((rd_T91 l0_1 x3_2).f0.f0))).setCell ⟨gb128,1,none⟩ (.int .i64 ((rd_T91 l0_1 x3_2).f0.f1))).setCell ⟨gb128,2,none⟩ (.bool false)).setCell ⟨gb128,3,none⟩ (.string ((rd_T91 l0_1 x3_2).f2))).heap[gb128]? = some (.cells #[.int .i64 ((rd_T91 l0_1 x3_2).f0.f0),.int .i64 ((rd_T91 l0_1 x3_2).f0.f1),.bool false,.string ((rd_T91 l0_1 x3_2).f2)] 91 (0,0))):=⟨z19_ BK128.out⟩
               have n2_:Aside0 (Below w.heap.size w ((((w78.setCell ⟨gb128,0,none⟩ (.int .i64 ((rd_T91 l0_1 x3_2).f0.f0))).setCell ⟨gb128,1,none⟩ (.int .i64 ((rd_T91 l0_1 x3_2).f0.f1))).setCell ⟨gb128,2,none⟩ (.bool false)).setCell ⟨gb128,3,none⟩ (.string ((rd_T91 l0_1 x3_2).f2)))):=⟨z4_ HB.out GE125.out GE128.out⟩
               (try clear BK125)
               (try clear BK128)
               (try clear HB)
               generalize ((((w78.setCell ⟨gb128,0,none⟩ (.int .i64 ((rd_T91 l0_1 x3_2).f0.f0))).setCell ⟨gb128,1,none⟩ (.int .i64 ((rd_T91 l0_1 x3_2).f0.f1))).setCell ⟨gb128,2,none⟩ (.bool false)).setCell ⟨gb128,3,none⟩ (.string ((rd_T91 l0_1 x3_2).f2)))=w81 at n0_ n1_ n2_ ⊢
               have BK125:=n0_
               have BK128:=n1_
               have HB:=n2_
               clear n0_ n1_ n2_
               refine as3_ (blk_drew BK125.out) (blk_drew BK128.out) (below_drew1 HB.out) ?_
               clear BK125 BK128 HB
               intro BK125 BK128 HB
               have p132:0≤((ji64):Int):=of_decide_eq_true (z1_)
               have q132:(ji64)<(l0_1.length:Int):=of_decide_eq_true (z1_)
               obtain ⟨ad132,e132,hx132_0,hx132_1,hx132_2,hx132_3⟩:=at_T91 HR0_1.out (ji64) p132 q132
               have hw132_3:=hx132_3
               have hw132_2:=hx132_2
               have hw132_1:=hx132_1
               have hw132_0:=hx132_0
               (try rw [← Nbq24.out] at hx132_2)
               obtain rfl:ad127=ad132:=(by injection e132)
               replace hx132_0:=(HB.out.cell (World.block_lt_of_cell? w _ hx132_0)).trans hx132_0
               replace hx132_1:=(HB.out.cell (World.block_lt_of_cell? w _ hx132_1)).trans hx132_1
               replace hx132_2:=(HB.out.cell (World.block_lt_of_cell? w _ hx132_2)).trans hx132_2
               replace hx132_3:=(HB.out.cell (World.block_lt_of_cell? w _ hx132_3)).trans hx132_3
               replace p132:=eq_true p132
               replace q132:=eq_true q132
               refine start_ (n:=38) (S:=fun w'=>w'.cell? ⟨gb125,0,none⟩=some (.slice A0_0 l0_0.length c0_0)∧w'.cell? ⟨gb125,1,none⟩=some (.slice (some ad127) l0_1.length c0_1)∧w'.cell? ⟨gb128,0,none⟩=some (.int .i64 ((rd_T91 l0_1 x3_2).f0.f0))∧w'.cell? ⟨gb128,1,none⟩=some (.int .i64 ((rd_T91 l0_1 x3_2).f0.f1))∧w'.cell? ⟨gb128,2,none⟩=some (.bool false)∧w'.cell? ⟨gb128,3,none⟩=some (.string ((rd_T91 l0_1 x3_2).f2))∧w'.cell? (ad127.add (((ji64)).toNat*4))=some (.int .i64 ((rd_T91 l0_1 (ji64)).f0.f0))∧w'.cell? ⟨(ad127.add (((ji64)).toNat*4)).block,(ad127.add (((ji64)).toNat*4)).off+1,none⟩=some (.int .i64 ((rd_T91 l0_1 (ji64)).f0.f1))∧w'.cell? ⟨(ad127.add (((ji64)).toNat*4)).block,(ad127.add (((ji64)).toNat*4)).off+2,none⟩=some (.bool ((rd_T91 l0_1 (ji64)).f1))∧w'.cell? ⟨(ad127.add (((ji64)).toNat*4)).block,(ad127.add (((ji64)).toNat*4)).off+3,none⟩=some (.string ((rd_T91 l0_1 (ji64)).f2))) (ds:=[]) spec_SetRight.q0 (by kernel_rfl) rfl rfl (cj2_ BK125.out (cj4_ BK128.out ⟨((HB.out.cell (World.block_lt_of_cell? w _ hw132_0)).trans hw132_0),⟨((HB.out.cell (World.block_lt_of_cell? w _ hw132_1)).trans hw132_1),⟨((HB.out.cell (World.block_lt_of_cell? w _ hw132_2)).trans hw132_2),((HB.out.cell (World.block_lt_of_cell? w _ hw132_3)).trans hw132_3)⟩⟩⟩)) (fun hHeld=>?_);refine with_tabW spec_SetRight.tab7 spec_SetRight.bits7 (fun HT_ HW_=>?_)
               generalize w81.drew=w82 at BK125 BK128 HB hx132_0 hx132_1 hx132_2 hx132_3 hHeld ⊢
               refine pu_ 0 27 spec_SetRight.q1 HT_.out ?_
               refine pu_ 2 29 spec_SetRight.q2 HT_.out ?_
               refine tk10_ 1 28 spec_SetRight.q3 HT_.out HW_.out hHeld ?_
               refine tk10_ 3 30 spec_SetRight.q4 HT_.out HW_.out hHeld ?_
               refine o1_ 4 31 spec_SetRight.q5 HT_.out (fun K hK=>?_)
               refine gs_ Try.func72 #[.slice A0_0 l0_0.length c0_0,.agg #[.int .i64 ((rd_T91 l0_1 x3_2).f0.f0),.int .i64 ((rd_T91 l0_1 x3_2).f0.f1)]] ?_
               with_reducible refine (spec_SeenHas.calls k2 _ _ l0_0 ((rd_T91 l0_1 x3_2).f0.f0) ((rd_T91 l0_1 x3_2).f0.f1) true _ ?s1 ?s2 A14.out).mono ?_
               (case s1=>repeat (first | exact (Kd.C_below HR0_0.out HB.out) | (with_reducible refine Kd.C_alloc ?_ _) | (with_reducible refine Kd.C_drewN ?_ _) | (with_reducible refine Kd.C_drew ?_)))
               (case s2=>exact HC0_0.out)
               rintro e w83 ⟨rfl,hb⟩
               refine ⟨_,rfl,?_⟩
               refine as3_ (blkB_ BK125.out hb) (blkB_ BK128.out hb) (below_step (z4_ HB.out GE125.out GE128.out) hb) ?_
               clear BK125 BK128 HB
               intro BK125 BK128 HB
               (try clear hb)
               refine hK.out _ _ (cj2_ BK125.out (cj4_ BK128.out ⟨((HB.out.cell (World.block_lt_of_cell? w _ hw132_0)).trans hw132_0),⟨((HB.out.cell (World.block_lt_of_cell? w _ hw132_1)).trans hw132_1),⟨((HB.out.cell (World.block_lt_of_cell? w _ hw132_2)).trans hw132_2),((HB.out.cell (World.block_lt_of_cell? w _ hw132_3)).trans hw132_3)⟩⟩⟩)) (fun hHeld=>?_)
               clear hK K
               refine nm_ 31 ?_
               refine pu_ 5 32 spec_SetRight.q6 HT_.out ?_
               refine pu_ 6 33 spec_SetRight.q7 HT_.out ?_
               refine pu_ 7 34 spec_SetRight.q8 HT_.out ?_
               refine tk10_ 8 35 spec_SetRight.q9 HT_.out HW_.out hHeld ?_
               refine pu_ 9 36 spec_SetRight.q10 HT_.out ?_
               refine pu_ 10 37 spec_SetRight.q11 HT_.out ?_
               refine pu_ 11 38 spec_SetRight.q12 HT_.out ?_
               refine pu_ 12 39 spec_SetRight.q13 HT_.out ?_
               refine pu_ 13 40 spec_SetRight.q14 HT_.out ?_
               refine tk10_ 14 41 spec_SetRight.q15 HT_.out HW_.out hHeld ?_
               refine pu_ 15 42 spec_SetRight.q16 HT_.out ?_
               refine pn_ 16 43 spec_SetRight.q17 HT_.out ?_
               refine pn_ 17 44 spec_SetRight.q18 HT_.out ?_
               refine pn_ 18 45 spec_SetRight.q19 HT_.out ?_
               refine pu_ 19 46 spec_SetRight.q20 HT_.out ?_
               refine pu_ 20 47 spec_SetRight.q21 HT_.out ?_
               refine pu_ 21 48 spec_SetRight.q22 HT_.out ?_
               refine pu_ 22 49 spec_SetRight.q23 HT_.out ?_
               refine pu_ 23 50 spec_SetRight.q24 HT_.out ?_
               refine pu_ 24 51 spec_SetRight.q25 HT_.out ?_
               refine pu_ 25 52 spec_SetRight.q26 HT_.out ?_
               refine pu_ 27 54 spec_SetRight.q39 HT_.out ?_
               refine pu_ 28 55 spec_SetRight.q40 HT_.out ?_
               refine pu_ 32 59 spec_SetRight.q41 HT_.out ?_
               refine tk10_ 26 53 spec_SetRight.q42 HT_.out HW_.out hHeld ?_
               refine pu_ 29 56 spec_SetRight.q43 HT_.out ?_
               refine pu_ 30 57 spec_SetRight.q44 HT_.out ?_
               refine tk10_ 31 58 spec_SetRight.q33 HT_.out HW_.out hHeld ?_
               refine tk10_ 33 60 spec_SetRight.q34 HT_.out HW_.out hHeld ?_
               refine o1_ 34 61 spec_SetRight.q35 HT_.out (fun K hK=>?_)
               refine goes_ Try.func82 (by kernel_rfl) rfl #[.agg #[.int .i64 ((rd_T91 l0_1 (ji64)).f0.f0),.int .i64 ((rd_T91 l0_1 (ji64)).f0.f1)],.agg #[.int .i64 ((rd_T91 l0_1 x3_2).f0.f0),.int .i64 ((rd_T91 l0_1 x3_2).f0.f1)]] (by rfl) rfl rfl (by (try simp only [List.map_toArray,List.map_cons,List.map_nil]);first | done | (simp only [hji64];rfl) | rfl | (simp only [List.length_drop,List.length_take];rfl)) ?_
               with_reducible refine (spec_l03Less.calls ((rd_T91 l0_1 (ji64)).f0.f0) ((rd_T91 l0_1 (ji64)).f0.f1) ((rd_T91 l0_1 x3_2).f0.f0) ((rd_T91 l0_1 x3_2).f0.f1) false _ A67.out).mono ?_
               rintro e w84 ⟨rfl,hb⟩
               refine ⟨_,rfl,?_⟩
               refine as3_ (blkB_ BK125.out hb) (blkB_ BK128.out hb) (below_step (z4_ HB.out GE125.out GE128.out) hb) ?_
               clear BK125 BK128 HB
               intro BK125 BK128 HB
               (try clear hb)
               refine hK.out _ _ (cj2_ BK125.out (cj4_ BK128.out ⟨((HB.out.cell (World.block_lt_of_cell? w _ hw132_0)).trans hw132_0),⟨((HB.out.cell (World.block_lt_of_cell? w _ hw132_1)).trans hw132_1),⟨((HB.out.cell (World.block_lt_of_cell? w _ hw132_2)).trans hw132_2),((HB.out.cell (World.block_lt_of_cell? w _ hw132_3)).trans hw132_3)⟩⟩⟩)) (fun hHeld=>?_)
               clear hK K
               refine nm_ 61 ?_
               refine pu_ 35 62 spec_SetRight.q36 HT_.out ?_
               refine pu_ 36 63 spec_SetRight.q37 HT_.out ?_
               refine pu_ 37 64 spec_SetRight.q38 HT_.out ?_
               refine done_ (done_of HT_.out (by kernel_rfl)) ?_
               try go_wp2
               go_ret
               exact ⟨by first | rfl | (simp [errW_none,errW_some] <;> rfl) | (simp only [← hji64];first | rfl | (simp [errW_none,errW_some] <;> rfl)) | (simp [*,errW_none,errW_some] <;> rfl),z4_ HB.out GE125.out GE128.out⟩
             ·rw [if_neg c66] at H
              exact absurd H (by simp)
            ·rw [if_neg c65] at H
             exact absurd H (by simp)
           ·rw [if_neg c63] at H
            have c63b0:decide (0<x3_2)=false:=decide_eq_false c63
            clear c63
            have H':=Aside0.mk H
            clear H
            have ⟨hcz85_0,hcz85_1,hfz85_0,hfz85_1⟩:=cz2_ BK125.out
            have p127:0≤(x3_2:Int):=of_decide_eq_true (z1_)
            have q127:x3_2<(l0_1.length:Int):=of_decide_eq_true (z1_)
            obtain ⟨ad127,e127,hx127_0,hx127_1,hx127_2,hx127_3⟩:=at_T91 HR0_1.out x3_2 p127 q127
            (try rw [← Nbq24.out] at hx127_2)
            cases e127
            replace hx127_0:=(HB.out.cell (World.block_lt_of_cell? w _ hx127_0)).trans hx127_0
            replace hx127_1:=(HB.out.cell (World.block_lt_of_cell? w _ hx127_1)).trans hx127_1
            replace hx127_2:=(HB.out.cell (World.block_lt_of_cell? w _ hx127_2)).trans hx127_2
            replace hx127_3:=(HB.out.cell (World.block_lt_of_cell? w _ hx127_3)).trans hx127_3
            replace p127:=eq_true p127
            replace q127:=eq_true q127
            try go_wp2_with (first | ((with_reducible refine gd_ 4 ?_);(try (refine gate_guard (by rfl) ?_;dsimp only));refine be_ 4 #[.int .i64 0,.int .i64 0,.bool false,.string (⟨#[]⟩:ByteArray)] 91 ?_;intro gb128 hg w86 hbox hb;refine as7_ (blkB_ BK125.out hb) (below_step (z6_ HB.out GE125.out) hb) (hbox) ((z9_ HB.out GE125.out:w.heap.size≤gb128)) ((z9_ HB.out GE125.out:w.heap.size≤gb128)) (neL_ BK125.out hg) (neG_ BK125.out hg) ?_;clear BK125 HB;intro BK125 HB BK128 GW128 GE128 NB125_128 NB128_125;clear hb hbox hg;have hnb87:=NB128_125.out;have hnc87:=NB125_128.out;have ⟨hcz88_0,hcz88_1,hcz88_2,hcz88_3,hfz88_0,hfz88_1,hfz88_2,hfz88_3⟩:=cz4_ BK128.out))
            have n0_:Aside0 (((((w86.setCell ⟨gb128,0,none⟩ (.int .i64 ((rd_T91 l0_1 x3_2).f0.f0))).setCell ⟨gb128,1,none⟩ (.int .i64 ((rd_T91 l0_1 x3_2).f0.f1))).setCell ⟨gb128,2,none⟩ (.bool false)).setCell ⟨gb128,3,none⟩ (.string ((rd_T91 l0_1 x3_2).f2))).heap[gb125]? = some (.cells #[.slice A0_0 l0_0.length c0_0,.slice (some ad127) l0_1.length c0_1] 40 (0,0))):=⟨z15_ NB125_128.out BK125.out⟩
            have n1_:Aside0 (((((w86.setCell ⟨gb128,0,none⟩ (.int .i64 ((rd_T91 l0_1 x3_2).f0.f0))).setCell ⟨gb128,1,none⟩ (.int .i64 ((rd_T91 l0_1 x3_2).f0.f1))).setCell ⟨gb128,2,none⟩ (.bool false)).setCell ⟨gb128,3,none⟩ (.string ((rd_T91 l0_1 x3_2).f2))).heap[gb128]? = some (.cells #[.int .i64 ((rd_T91 l0_1 x3_2).f0.f0),.int .i64 ((rd_T91 l0_1 x3_2).f0.f1),.bool false,.string ((rd_T91 l0_1 x3_2).f2)] 91 (0,0))):=⟨z19_ BK128.out⟩
            have n2_:Aside0 (Below w.heap.size w ((((w86.setCell ⟨gb128,0,none⟩ (.int .i64 ((rd_T91 l0_1 x3_2).f0.f0))).setCell ⟨gb128,1,none⟩ (.int .i64 ((rd_T91 l0_1 x3_2).f0.f1))).setCell ⟨gb128,2,none⟩ (.bool false)).setCell ⟨gb128,3,none⟩ (.string ((rd_T91 l0_1 x3_2).f2)))):=⟨z4_ HB.out GE125.out GE128.out⟩
            (try clear BK125)
            (try clear BK128)
            (try clear HB)
            generalize ((((w86.setCell ⟨gb128,0,none⟩ (.int .i64 ((rd_T91 l0_1 x3_2).f0.f0))).setCell ⟨gb128,1,none⟩ (.int .i64 ((rd_T91 l0_1 x3_2).f0.f1))).setCell ⟨gb128,2,none⟩ (.bool false)).setCell ⟨gb128,3,none⟩ (.string ((rd_T91 l0_1 x3_2).f2)))=w89 at n0_ n1_ n2_ ⊢
            have BK125:=n0_
            have BK128:=n1_
            have HB:=n2_
            clear n0_ n1_ n2_
            refine as3_ (blk_drew BK125.out) (blk_drew BK128.out) (below_drew1 HB.out) ?_
            clear BK125 BK128 HB
            intro BK125 BK128 HB
            refine start_ (n:=38) (S:=fun w'=>w'.cell? ⟨gb125,0,none⟩=some (.slice A0_0 l0_0.length c0_0)∧w'.cell? ⟨gb125,1,none⟩=some (.slice (some ad127) l0_1.length c0_1)∧w'.cell? ⟨gb128,0,none⟩=some (.int .i64 ((rd_T91 l0_1 x3_2).f0.f0))∧w'.cell? ⟨gb128,1,none⟩=some (.int .i64 ((rd_T91 l0_1 x3_2).f0.f1))∧w'.cell? ⟨gb128,2,none⟩=some (.bool false)∧w'.cell? ⟨gb128,3,none⟩=some (.string ((rd_T91 l0_1 x3_2).f2))) (ds:=[]) spec_SetRight.q0 (by kernel_rfl) rfl rfl (cj2_ BK125.out (cc4_ BK128.out)) (fun hHeld=>?_);refine with_tabW spec_SetRight.tab7 spec_SetRight.bits7 (fun HT_ HW_=>?_)
            generalize w89.drew=w90 at BK125 BK128 HB hHeld ⊢
            refine pu_ 0 27 spec_SetRight.q1 HT_.out ?_
            refine pu_ 2 29 spec_SetRight.q2 HT_.out ?_
            refine tk6_ 1 28 spec_SetRight.q3 HT_.out HW_.out hHeld ?_
            refine tk6_ 3 30 spec_SetRight.q4 HT_.out HW_.out hHeld ?_
            refine o1_ 4 31 spec_SetRight.q5 HT_.out (fun K hK=>?_)
            refine gs_ Try.func72 #[.slice A0_0 l0_0.length c0_0,.agg #[.int .i64 ((rd_T91 l0_1 x3_2).f0.f0),.int .i64 ((rd_T91 l0_1 x3_2).f0.f1)]] ?_
            with_reducible refine (spec_SeenHas.calls k2 _ _ l0_0 ((rd_T91 l0_1 x3_2).f0.f0) ((rd_T91 l0_1 x3_2).f0.f1) true _ ?s1 ?s2 A14.out).mono ?_
            (case s1=>repeat (first | exact (Kd.C_below HR0_0.out HB.out) | (with_reducible refine Kd.C_alloc ?_ _) | (with_reducible refine Kd.C_drewN ?_ _) | (with_reducible refine Kd.C_drew ?_)))
            (case s2=>exact HC0_0.out)
            rintro e w91 ⟨rfl,hb⟩
            refine ⟨_,rfl,?_⟩
            refine as3_ (blkB_ BK125.out hb) (blkB_ BK128.out hb) (below_step (z4_ HB.out GE125.out GE128.out) hb) ?_
            clear BK125 BK128 HB
            intro BK125 BK128 HB
            (try clear hb)
            refine hK.out _ _ (cj2_ BK125.out (cc4_ BK128.out)) (fun hHeld=>?_)
            clear hK K
            refine nm_ 31 ?_
            refine pu_ 5 32 spec_SetRight.q6 HT_.out ?_
            refine pu_ 6 33 spec_SetRight.q7 HT_.out ?_
            refine pu_ 7 34 spec_SetRight.q8 HT_.out ?_
            refine tk6_ 8 35 spec_SetRight.q9 HT_.out HW_.out hHeld ?_
            refine pu_ 9 36 spec_SetRight.q10 HT_.out ?_
            refine pu_ 10 37 spec_SetRight.q11 HT_.out ?_
            refine pu_ 11 38 spec_SetRight.q12 HT_.out ?_
            refine pu_ 12 39 spec_SetRight.q13 HT_.out ?_
            refine pu_ 13 40 spec_SetRight.q14 HT_.out ?_
            refine tk6_ 14 41 spec_SetRight.q15 HT_.out HW_.out hHeld ?_
            refine pu_ 15 42 spec_SetRight.q16 HT_.out ?_
            refine pn_ 16 43 spec_SetRight.q17 HT_.out ?_
            refine pn_ 17 44 spec_SetRight.q18 HT_.out ?_
            refine pn_ 18 45 spec_SetRight.q19 HT_.out ?_
            refine pu_ 19 46 spec_SetRight.q20 HT_.out ?_
            refine pu_ 20 47 spec_SetRight.q21 HT_.out ?_
            refine pu_ 21 48 spec_SetRight.q22 HT_.out ?_
            refine pu_ 22 49 spec_SetRight.q23 HT_.out ?_
            refine pu_ 23 50 spec_SetRight.q24 HT_.out ?_
            refine pu_ 24 51 spec_SetRight.q25 HT_.out ?_
            refine pn_ 25 52 spec_SetRight.q26 HT_.out ?_
            refine pn_ 26 53 spec_SetRight.q27 HT_.out ?_
            refine pn_ 27 54 spec_SetRight.q28 HT_.out ?_
            refine pn_ 28 55 spec_SetRight.q29 HT_.out ?_
            refine pn_ 29 56 spec_SetRight.q30 HT_.out ?_
            refine pn_ 30 57 spec_SetRight.q31 HT_.out ?_
            refine pn_ 31 58 spec_SetRight.q32 HT_.out ?_
            refine pn_ 32 59 spec_SetRight.q33 HT_.out ?_
            refine pn_ 33 60 spec_SetRight.q34 HT_.out ?_
            refine pn_ 34 61 spec_SetRight.q35 HT_.out ?_
            refine pn_ 35 62 spec_SetRight.q36 HT_.out ?_
            refine pu_ 36 63 spec_SetRight.q37 HT_.out ?_
            refine pu_ 37 64 spec_SetRight.q38 HT_.out ?_
            refine done_ (done_of HT_.out (by kernel_rfl)) ?_
            try go_wp2
            go_roundg k2
            case measure=>have:=HJ1.out;have:=HK2.out;omega
            case rel=>exact ⟨(wrap64 (x3_2+1)),(z2_),H',⟨by have:=HJ1.out;have:=HK2.out;omega⟩,⟨z5_ BK125.out⟩,⟨z4_ HB.out GE125.out GE128.out⟩⟩
        ·replace c15:=Bool.eq_false_iff.mpr c15
         subst c15
         have H1:(some false)=some r:=by rw [if_neg (show ¬ (false=true) by decide)] at H;exact H
         clear H
         have H:=H1
         clear H1
         obtain rfl:=Option.some.inj H
         have ⟨hcz92_0,hcz92_1,hfz92_0,hfz92_1⟩:=cz2_ BK125.out
         have p127:0≤(x3_2:Int):=of_decide_eq_true (z1_)
         have q127:x3_2<(l0_1.length:Int):=of_decide_eq_true (z1_)
         obtain ⟨ad127,e127,hx127_0,hx127_1,hx127_2,hx127_3⟩:=at_T91 HR0_1.out x3_2 p127 q127
         cases e127
         replace hx127_0:=(HB.out.cell (World.block_lt_of_cell? w _ hx127_0)).trans hx127_0
         replace hx127_1:=(HB.out.cell (World.block_lt_of_cell? w _ hx127_1)).trans hx127_1
         replace hx127_2:=(HB.out.cell (World.block_lt_of_cell? w _ hx127_2)).trans hx127_2
         replace hx127_3:=(HB.out.cell (World.block_lt_of_cell? w _ hx127_3)).trans hx127_3
         replace p127:=eq_true p127
         replace q127:=eq_true q127
         try go_wp2_with (first | ((with_reducible refine gd_ 4 ?_);(try (refine gate_guard (by rfl) ?_;dsimp only));refine be_ 4 #[.int .i64 0,.int .i64 0,.bool false,.string (⟨#[]⟩:ByteArray)] 91 ?_;intro gb128 hg w93 hbox hb;refine as7_ (blkB_ BK125.out hb) (below_step (z6_ HB.out GE125.out) hb) (hbox) ((z9_ HB.out GE125.out:w.heap.size≤gb128)) ((z9_ HB.out GE125.out:w.heap.size≤gb128)) (neL_ BK125.out hg) (neG_ BK125.out hg) ?_;clear BK125 HB;intro BK125 HB BK128 GW128 GE128 NB125_128 NB128_125;clear hb hbox hg;have hnb94:=NB128_125.out;have hnc94:=NB125_128.out;have ⟨hcz95_0,hcz95_1,hcz95_2,hcz95_3,hfz95_0,hfz95_1,hfz95_2,hfz95_3⟩:=cz4_ BK128.out))
         have n0_:Aside0 (((((w93.setCell ⟨gb128,0,none⟩ (.int .i64 ((rd_T91 l0_1 x3_2).f0.f0))).setCell ⟨gb128,1,none⟩ (.int .i64 ((rd_T91 l0_1 x3_2).f0.f1))).setCell ⟨gb128,2,none⟩ (.bool ((rd_T91 l0_1 x3_2).f1))).setCell ⟨gb128,3,none⟩ (.string ((rd_T91 l0_1 x3_2).f2))).heap[gb125]? = some (.cells #[.slice A0_0 l0_0.length c0_0,.slice (some ad127) l0_1.length c0_1] 40 (0,0))):=⟨z15_ NB125_128.out BK125.out⟩
         have n1_:Aside0 (((((w93.setCell ⟨gb128,0,none⟩ (.int .i64 ((rd_T91 l0_1 x3_2).f0.f0))).setCell ⟨gb128,1,none⟩ (.int .i64 ((rd_T91 l0_1 x3_2).f0.f1))).setCell ⟨gb128,2,none⟩ (.bool ((rd_T91 l0_1 x3_2).f1))).setCell ⟨gb128,3,none⟩ (.string ((rd_T91 l0_1 x3_2).f2))).heap[gb128]? = some (.cells #[.int .i64 ((rd_T91 l0_1 x3_2).f0.f0),.int .i64 ((rd_T91 l0_1 x3_2).f0.f1),.bool ((rd_T91 l0_1 x3_2).f1),.string ((rd_T91 l0_1 x3_2).f2)] 91 (0,0))):=⟨z19_ BK128.out⟩
         have n2_:Aside0 (Below w.heap.size w ((((w93.setCell ⟨gb128,0,none⟩ (.int .i64 ((rd_T91 l0_1 x3_2).f0.f0))).setCell ⟨gb128,1,none⟩ (.int .i64 ((rd_T91 l0_1 x3_2).f0.f1))).setCell ⟨gb128,2,none⟩ (.bool ((rd_T91 l0_1 x3_2).f1))).setCell ⟨gb128,3,none⟩ (.string ((rd_T91 l0_1 x3_2).f2)))):=⟨z4_ HB.out GE125.out GE128.out⟩
         (try clear BK125)
         (try clear BK128)
         (try clear HB)
         generalize ((((w93.setCell ⟨gb128,0,none⟩ (.int .i64 ((rd_T91 l0_1 x3_2).f0.f0))).setCell ⟨gb128,1,none⟩ (.int .i64 ((rd_T91 l0_1 x3_2).f0.f1))).setCell ⟨gb128,2,none⟩ (.bool ((rd_T91 l0_1 x3_2).f1))).setCell ⟨gb128,3,none⟩ (.string ((rd_T91 l0_1 x3_2).f2)))=w96 at n0_ n1_ n2_ ⊢
         have BK125:=n0_
         have BK128:=n1_
         have HB:=n2_
         clear n0_ n1_ n2_
         refine as3_ (blk_drew BK125.out) (blk_drew BK128.out) (below_drew1 HB.out) ?_
         clear BK125 BK128 HB
         intro BK125 BK128 HB
         refine start_ (n:=38) (S:=fun w'=>w'.cell? ⟨gb125,0,none⟩=some (.slice A0_0 l0_0.length c0_0)∧w'.cell? ⟨gb125,1,none⟩=some (.slice (some ad127) l0_1.length c0_1)∧w'.cell? ⟨gb128,0,none⟩=some (.int .i64 ((rd_T91 l0_1 x3_2).f0.f0))∧w'.cell? ⟨gb128,1,none⟩=some (.int .i64 ((rd_T91 l0_1 x3_2).f0.f1))∧w'.cell? ⟨gb128,2,none⟩=some (.bool ((rd_T91 l0_1 x3_2).f1))∧w'.cell? ⟨gb128,3,none⟩=some (.string ((rd_T91 l0_1 x3_2).f2))) (ds:=[]) spec_SetRight.q0 (by kernel_rfl) rfl rfl (cj2_ BK125.out (cc4_ BK128.out)) (fun hHeld=>?_);refine with_tabW spec_SetRight.tab7 spec_SetRight.bits7 (fun HT_ HW_=>?_)
         generalize w96.drew=w97 at BK125 BK128 HB hHeld ⊢
         refine pu_ 0 27 spec_SetRight.q1 HT_.out ?_
         refine pu_ 2 29 spec_SetRight.q2 HT_.out ?_
         refine tk6_ 1 28 spec_SetRight.q3 HT_.out HW_.out hHeld ?_
         refine tk6_ 3 30 spec_SetRight.q4 HT_.out HW_.out hHeld ?_
         refine o1_ 4 31 spec_SetRight.q5 HT_.out (fun K hK=>?_)
         refine gs_ Try.func72 #[.slice A0_0 l0_0.length c0_0,.agg #[.int .i64 ((rd_T91 l0_1 x3_2).f0.f0),.int .i64 ((rd_T91 l0_1 x3_2).f0.f1)]] ?_
         with_reducible refine (spec_SeenHas.calls k2 _ _ l0_0 ((rd_T91 l0_1 x3_2).f0.f0) ((rd_T91 l0_1 x3_2).f0.f1) false _ ?s1 ?s2 A14.out).mono ?_
         (case s1=>repeat (first | exact (Kd.C_below HR0_0.out HB.out) | (with_reducible refine Kd.C_alloc ?_ _) | (with_reducible refine Kd.C_drewN ?_ _) | (with_reducible refine Kd.C_drew ?_)))
         (case s2=>exact HC0_0.out)
         rintro e w98 ⟨rfl,hb⟩
         refine ⟨_,rfl,?_⟩
         refine as3_ (blkB_ BK125.out hb) (blkB_ BK128.out hb) (below_step (z4_ HB.out GE125.out GE128.out) hb) ?_
         clear BK125 BK128 HB
         intro BK125 BK128 HB
         (try clear hb)
         refine hK.out _ _ (cj2_ BK125.out (cc4_ BK128.out)) (fun hHeld=>?_)
         clear hK K
         refine nm_ 31 ?_
         refine pu_ 5 32 spec_SetRight.q6 HT_.out ?_
         refine pu_ 6 33 spec_SetRight.q7 HT_.out ?_
         refine pn_ 7 34 spec_SetRight.q8 HT_.out ?_
         refine pn_ 8 35 spec_SetRight.q9 HT_.out ?_
         refine pn_ 9 36 spec_SetRight.q10 HT_.out ?_
         refine pn_ 10 37 spec_SetRight.q11 HT_.out ?_
         refine pu_ 11 38 spec_SetRight.q12 HT_.out ?_
         refine pu_ 12 39 spec_SetRight.q13 HT_.out ?_
         refine pn_ 13 40 spec_SetRight.q14 HT_.out ?_
         refine pn_ 14 41 spec_SetRight.q15 HT_.out ?_
         refine pn_ 15 42 spec_SetRight.q16 HT_.out ?_
         refine pn_ 16 43 spec_SetRight.q17 HT_.out ?_
         refine pn_ 17 44 spec_SetRight.q18 HT_.out ?_
         refine pn_ 18 45 spec_SetRight.q19 HT_.out ?_
         refine pn_ 19 46 spec_SetRight.q20 HT_.out ?_
         refine pu_ 20 47 spec_SetRight.q21 HT_.out ?_
         refine pu_ 21 48 spec_SetRight.q22 HT_.out ?_
         refine pn_ 22 49 spec_SetRight.q23 HT_.out ?_
         refine pn_ 23 50 spec_SetRight.q24 HT_.out ?_
         refine pn_ 24 51 spec_SetRight.q25 HT_.out ?_
         refine pn_ 25 52 spec_SetRight.q26 HT_.out ?_
         refine pn_ 26 53 spec_SetRight.q27 HT_.out ?_
         refine pn_ 27 54 spec_SetRight.q28 HT_.out ?_
         refine pn_ 28 55 spec_SetRight.q29 HT_.out ?_
         refine pn_ 29 56 spec_SetRight.q30 HT_.out ?_
         refine pn_ 30 57 spec_SetRight.q31 HT_.out ?_
         refine pn_ 31 58 spec_SetRight.q32 HT_.out ?_
         refine pn_ 32 59 spec_SetRight.q33 HT_.out ?_
         refine pn_ 33 60 spec_SetRight.q34 HT_.out ?_
         refine pn_ 34 61 spec_SetRight.q35 HT_.out ?_
         refine pn_ 35 62 spec_SetRight.q36 HT_.out ?_
         refine pn_ 36 63 spec_SetRight.q37 HT_.out ?_
         refine pu_ 37 64 spec_SetRight.q38 HT_.out ?_
         refine done_ (done_of HT_.out (by kernel_rfl)) ?_
         try go_wp2
         go_ret
         exact ⟨z8_,z4_ HB.out GE125.out GE128.out⟩
       ·rw [if_neg c13] at H
        exact absurd H (by simp)
      ·rw [if_neg c12] at H
       have c12b0:decide (x3_2<(l0_1.length:Int))=false:=decide_eq_false c12
       clear c12
       obtain rfl:=Option.some.inj H
       have ⟨hcz99_0,hcz99_1,hfz99_0,hfz99_1⟩:=cz2_ BK125.out
       go_wp2
       go_ret
       exact ⟨z8_,z6_ HB.out GE125.out⟩


/-! ### spec_l03Ill: function 60 -/
def spec_l03Ill.f (a0:Int):Option ((List (S56)) × (List (S91)) × Int × Int × Int):=some (([]:List (S56)),([]:List (S91)),0,0,a0)
set_option maxHeartbeats 8000000 in
set_option maxRecDepth 100000 in
theorem spec_l03Ill.calls (a0:Int) (r1:List (S56)) (r2:List (S91)) (r3:Int) (r4:Int) (r5:Int) (w:World) (h:spec_l03Ill.f a0=some (r1,r2,r3,r4,r5)) :
  Calls Try.prog 60 #[.int .i64 a0] w fun e w'=>∃ v0_ v1_:Value,e = .returned (.agg #[v0_,v1_,.int .i64 r3,.int .i64 r4,.int .i64 r5])∧Kd.R k56 56 w' w.heap.size (fun _=>True) v0_ r1∧Kd.R k91 91 w' w.heap.size (fun _=>True) v1_ r2∧Below w.heap.size w w':=by
 have hu58:=Try.underlying58
 have HB:=Aside0.mk (Below.refl w.heap.size w)
 have H:(some (([]:List (S56)),([]:List (S91)),0,0,a0))=some (r1,r2,r3,r4,r5):=h
 clear h
 simp only [Option.some.injEq,Prod.mk.injEq] at H
 obtain ⟨rfl,rfl,rfl,rfl,rfl⟩:=H
 go_enter Try.func60,Try.ntmps60
 go_wp2_with (first | ((with_reducible refine gd_ 2 ?_);refine be_ 2 #[.slice none 0 0,.slice none 0 0,.int .i64 0,.int .i64 0,.int .i64 0] 58 ?_;intro gb511 hg w2 hbox hb;refine as4_ (below_step (z3_ HB.out) hb) (hbox) ((z7_ HB.out:w.heap.size≤gb511)) ((z7_ HB.out:w.heap.size≤gb511)) ?_;clear HB;intro HB BK511 GW511 GE511;clear hb hbox hg;have ⟨hcz3_0,hcz3_1,hcz3_2,hcz3_3,hcz3_4,hfz3_0,hfz3_1,hfz3_2,hfz3_3,hfz3_4⟩:=cz5_ BK511.out))
 refine bodyPost_ret (results_cell_row rfl _ _ gb511 58 #[.slice none 0 0,.slice none 0 0,.int .i64 0,.int .i64 0,.int .i64 a0] (0,0) _ rfl (z24_ BK511.out) Try.underlying58 rfl (by kernel_rfl)) rfl ?_
 exact ⟨_,_,z8_,z26_,z26_,z6_ HB.out GE511.out⟩


/-! ### spec_l01Max: function 102 -/
def spec_l01Max.f (a0:Int) (a1:Int):Option (Int):=if a0>a1 then (some a0) else (some a1)
set_option maxHeartbeats 8000000 in
set_option maxRecDepth 100000 in
theorem spec_l01Max.calls (a0:Int) (a1:Int) (r:Int) (w:World) (h:spec_l01Max.f a0 a1=some r) :
  Calls Try.prog 102 #[.int .i64 a0,.int .i64 a1] w fun e w'=>e = .returned (.int .i64 r)∧Drawn0 w w':=by
 have H:(if a0>a1 then (some a0) else (some a1))=some r:=h
 clear h
 by_cases c3:a0>a1
 ·rw [if_pos c3] at H
  have c3b0:decide (a1<a0)=true:=decide_eq_true c3
  clear c3
  obtain rfl:=Option.some.inj H
  go_enter Try.func102,Try.ntmps102
  go_wp2
  go_ret
  exact ⟨z2_,z11_⟩
 ·rw [if_neg c3] at H
  have c3b0:decide (a1<a0)=false:=decide_eq_false c3
  clear c3
  obtain rfl:=Option.some.inj H
  go_enter Try.func102,Try.ntmps102
  go_wp2
  go_ret
  exact ⟨z2_,z11_⟩


/-! ### spec_l02Join: function 70 -/
def spec_l02Join.l0:Nat→List (S56)→List (S56)→List (S56)→Int→Option ((List (S56)))
 | 0,_,_,_,_=>none
 | k+1,x0,x1,x5,x6=>if x6≤5 then ((spec_l02Of.f k x0 x6).bind fun t515=>((spec_l02Of.f k x1 x6).bind fun t516=>((spec_l01Max.f t515 t516).bind fun t517=>(if t517>0 then (if x5.length<8796093022208 then (spec_l02Join.l0 k x0 x1 (x5 ++ [(⟨x6,t517⟩:S56)]) (wrap64 (x6+1))) else (none)) else (spec_l02Join.l0 k x0 x1 x5 (wrap64 (x6+1))))))) else (some x5)
def spec_l02Join.f (k:Nat) (l0:List (S56)) (l1:List (S56)):Option ((List (S56))):=spec_l02Join.l0 k l0 l1 (([]:List (S56))) 1
theorem spec_l02Join.mono_l:∀ k,(∀ y0 y1 y2 y3,LeO (spec_l02Join.l0 k y0 y1 y2 y3) (spec_l02Join.l0 (k+1) y0 y1 y2 y3))
 | 0=>fun _ _ _ _ r h=>by simp [spec_l02Join.l0] at h
 | k+1=>by
  have ih0:=spec_l02Join.mono_l k
  ·intro y0 y1 y2 y3
   unfold spec_l02Join.l0
   repeat' first
   | (with_reducible exact ih0 _ _ _ _)
   | (with_reducible exact spec_l02Of.mono _ _ _)
   | (with_reducible exact LeO.refl _)
   | (with_reducible exact LeO.none _)
   | (with_reducible refine LeO.ite ?_ ?_)
   | (with_reducible refine LeO.bind ?_ (fun _=>?_))
   | exact ih0 _ _ _ _
   | exact spec_l02Of.mono _ _ _
   | exact LeO.none _
   | refine LeO.ite ?_ ?_
   | refine LeO.bind ?_ (fun _=>?_)
theorem spec_l02Join.mono:∀ a0 a1 k,LeO (spec_l02Join.f k a0 a1) (spec_l02Join.f (k+1) a0 a1):=by
 intro a0 a1 k
 have ih0:=spec_l02Join.mono_l k
 unfold spec_l02Join.f
 repeat' first
   | (with_reducible exact ih0 _ _ _ _)
   | (with_reducible exact spec_l02Of.mono _ _ _)
   | (with_reducible exact LeO.refl _)
   | (with_reducible exact LeO.none _)
   | (with_reducible refine LeO.ite ?_ ?_)
   | (with_reducible refine LeO.bind ?_ (fun _=>?_))
   | exact ih0 _ _ _ _
   | exact spec_l02Of.mono _ _ _
   | exact LeO.none _
   | refine LeO.ite ?_ ?_
   | refine LeO.bind ?_ (fun _=>?_)
set_option maxHeartbeats 8000000 in
set_option maxRecDepth 100000 in
theorem spec_l02Join.calls (k:Nat) (A0:Option Addr) (c0:Nat) (l0:List (S56)) (A1:Option Addr) (c1:Nat) (l1:List (S56)) (r:List (S56)) (w:World) (hr0:Kd.C k56 w A0 l0.length l0) (hc0:l0.length≤c0) (hr1:Kd.C k56 w A1 l1.length l1) (hc1:l1.length≤c1) (h:spec_l02Join.f k l0 l1=some r) :
  Calls Try.prog 70 #[.slice A0 l0.length c0,.slice A1 l1.length c1] w fun e w'=>∃ v0_:Value,e = .returned (v0_)∧Kd.R k56 56 w' w.heap.size (fun _=>True) v0_ r∧Below w.heap.size w w':=by
 have hu56:=Try.underlying56
 have HR0:=Aside0.mk hr0
 have HC0:=Aside0.mk hc0
 clear hr0 hc0
 have HR1:=Aside0.mk hr1
 have HC1:=Aside0.mk hc1
 clear hr1 hc1
 have HB:=Aside0.mk (Below.refl w.heap.size w)
 have H:(spec_l02Join.l0 k l0 l1 (([]:List (S56))) 1)=some r:=h
 clear h
 obtain ⟨y512,hy512⟩:∃ y_:List (S56),y_=(([]:List (S56))):=⟨_,rfl⟩
 replace H:(spec_l02Join.l0 k l0 l1 y512 1)=some r:=by first | (rw [hy512];with_reducible exact H) | (have H2_:=(Option.bind_some _ _).symm.trans H;rw [hy512];with_reducible exact H2_) | (have H2_:=(Option.bind_some _ _).symm.trans H;with_reducible exact H2_) | with_reducible exact H | (rw [hy512];exact H) | exact H
 have Ny512:=Aside0.mk hy512
 clear hy512
 have H':=Aside0.mk H
 clear H
 go_enter Try.func70,Try.ntmps70
 go_wp2_with (first | ((with_reducible refine gd_ 8 ?_);refine Kd.R_lit k56 _ 56 ?hg (N:=8) ?hd (xs:=([]:List (S56))) (inner:=[]) (ok:=fun _=>True) (okp:=fun _=>True) ?hr ?hp (fun _ hk=>hk) trivial (Below.refl _ _) (Nat.le_refl _) (by simp) ?_;(case hd=>rfl);(case hg=>rfl);(case hr=>first | (go_simp;done) | (go_simp;rfl));(case hp=>exact (Reps.none _ _));intro v513 w3 ho4 hb hg_ hnew_;clear hg_ hnew_;(first | rw [← Ny512.out] at ho4 | (simp only [Int.reduceToNat] at ho4;rw [← Ny512.out] at ho4));refine as2_ (Kd.R_lower ho4 (below_size (z3_ HB.out))) (below_step (z3_ HB.out) hb) ?_;clear HB;intro HO514 HB;clear hb ho4))
 go_loopg [5,6] k (fun kq v5 v6 w'=>∃ (x5_1:List (S56)) (x6_1:Int),v6 = .int .i64 x6_1∧Aside0 (spec_l02Join.l0 kq l0 l1 x5_1 x6_1=some r)∧Aside0 (kq≤k)∧Aside0 (Kd.R k56 56 w' w.heap.size (fun _=>True) v5 x5_1)∧Aside0 (Below w.heap.size w w'))
 case atStart=>exact ⟨(y512),(1),(z2_),H',⟨Nat.le_refl _⟩,⟨z0_ HO514.out⟩,⟨z3_ HB.out⟩⟩
 case round =>
  clear H'
  try clear c1
  try clear p2
  obtain ⟨x5_1,x6_1,rfl,HA,HK1,HO_5,HB⟩:=hrel
  cases gk with
  | zero=>exact absurd HA.out (by simp [spec_l02Join.l0])
  | succ k1 =>
   have H:=HA.out
   clear HA
   simp only [spec_l02Join.l0] at H
   by_cases c5:x6_1≤5
   ·rw [if_pos c5] at H
    have c5b0:decide (x6_1≤5)=true:=decide_eq_true c5
    clear c5
    replace H:=Option.bind_eq_some_iff.mp H
    obtain ⟨t515,A60,H⟩:=H
    replace H:((spec_l02Of.f k1 l1 x6_1).bind fun t516=>((spec_l01Max.f t515 t516).bind fun t517=>(if t517>0 then (if x5_1.length<8796093022208 then (spec_l02Join.l0 k1 l0 l1 (x5_1 ++ [(⟨x6_1,t517⟩:S56)]) (wrap64 (x6_1+1))) else (none)) else (spec_l02Join.l0 k1 l0 l1 x5_1 (wrap64 (x6_1+1))))))=some r:=H
    have A6:=Aside0.mk A60
    clear A60
    replace H:=Option.bind_eq_some_iff.mp H
    obtain ⟨t516,A70,H⟩:=H
    replace H:((spec_l01Max.f t515 t516).bind fun t517=>(if t517>0 then (if x5_1.length<8796093022208 then (spec_l02Join.l0 k1 l0 l1 (x5_1 ++ [(⟨x6_1,t517⟩:S56)]) (wrap64 (x6_1+1))) else (none)) else (spec_l02Join.l0 k1 l0 l1 x5_1 (wrap64 (x6_1+1)))))=some r:=H
    have A7:=Aside0.mk A70
    clear A70
    replace H:=Option.bind_eq_some_iff.mp H
    obtain ⟨t517,A80,H⟩:=H
    replace H:(if t517>0 then (if x5_1.length<8796093022208 then (spec_l02Join.l0 k1 l0 l1 (x5_1 ++ [(⟨x6_1,t517⟩:S56)]) (wrap64 (x6_1+1))) else (none)) else (spec_l02Join.l0 k1 l0 l1 x5_1 (wrap64 (x6_1+1))))=some r:=H
    have A8:=Aside0.mk A80
    clear A80
    by_cases c9:t517>0
    ·rw [if_pos c9] at H
     have c9b0:decide (0<t517)=true:=decide_eq_true c9
     clear c9
     by_cases c10:x5_1.length<8796093022208
     ·rw [if_pos c10] at H
      have LMc10:=Aside0.mk c10
      clear c10
      obtain ⟨y518,hy518⟩:∃ y_:List (S56),y_=(x5_1 ++ [(⟨x6_1,t517⟩:S56)]):=⟨_,rfl⟩
      replace H:(spec_l02Join.l0 k1 l0 l1 y518 (wrap64 (x6_1+1)))=some r:=by first | (rw [hy518];with_reducible exact H) | (have H2_:=(Option.bind_some _ _).symm.trans H;rw [hy518];with_reducible exact H2_) | (have H2_:=(Option.bind_some _ _).symm.trans H;with_reducible exact H2_) | with_reducible exact H | (rw [hy518];exact H) | exact H
      have Ny518:=Aside0.mk hy518
      clear hy518
      have H':=Aside0.mk H
      clear H
      go_wp2_with (first | ((with_reducible refine gc_ 71 ?_);refine gl_ (some 15) Try.func71 #[.slice A0 l0.length c0,.int .i64 x6_1] ?_;(with_reducible refine (spec_l02Of.calls k1 _ _ l0 x6_1 t515 _ ?s1 ?s2 A6.out).mono ?_);(case s1=>repeat (first | exact (Kd.C_below HR0.out HB.out) | (with_reducible refine Kd.C_alloc ?_ _) | (with_reducible refine Kd.C_drewN ?_ _) | (with_reducible refine Kd.C_drew ?_)));(case s2=>exact HC0.out);rintro e w' ⟨rfl,⟨nd,rfl⟩⟩;refine ⟨_,rfl,?_⟩) | ((with_reducible refine gc_ 71 ?_);refine gl_ (some 18) Try.func71 #[.slice A1 l1.length c1,.int .i64 x6_1] ?_;(with_reducible refine (spec_l02Of.calls k1 _ _ l1 x6_1 t516 _ ?s1 ?s2 A7.out).mono ?_);(case s1=>repeat (first | exact (Kd.C_below HR1.out (z3_ HB.out)) | (with_reducible refine Kd.C_alloc ?_ _) | (with_reducible refine Kd.C_drewN ?_ _) | (with_reducible refine Kd.C_drew ?_)));(case s2=>exact HC1.out);rintro e w' ⟨rfl,⟨nd,rfl⟩⟩;refine ⟨_,rfl,?_⟩) | ((with_reducible refine gc_ 102 ?_);refine gl_ (some 19) Try.func102 #[.int .i64 t515,.int .i64 t516] ?_;(with_reducible refine (spec_l01Max.calls t515 t516 t517 _ A8.out).mono ?_);rintro e w' ⟨rfl,⟨nd,rfl⟩⟩;refine ⟨_,rfl,?_⟩) | ((with_reducible refine gate_builtin (b:=.append) (xs:=#[.tmp 22,.tmp 26]) rfl ?_);at_builtin;refine Kd.R_append k56 (w0:=w) w.heap.size rfl (.tmp 22) (.tmp 26) 37 56 (.agg #[(.int .i64 0),(.int .i64 0)]) 16 rfl Try.underlying37 info56 rfl (by decide) (by omega) u5 x5_1 (⟨x6_1,t517⟩:S56) [.int .i64 x6_1,.int .i64 t517] (fun _=>True) (fun _=>False) rfl rfl ?aP (fun _ hk=>hk.elim) ?aF ?aO ?aB ?aS ?aL ?_;(case aP=>exact k56_mkM _ _ _ (⟨x6_1,t517⟩:S56));(case aB=>exact (z3_ HB.out));(case aF=>exact (fun _ _=>trivial));(case aO=>exact (z0_ HO_5.out));(case aS=>exact (below_size (z3_ HB.out)));(case aL=>have:=LMc10.out;omega);intro v519 w11 ho hb hg hat;rw [← Ny518.out] at ho;refine as2_ (hb) (ho) ?_;clear HB HO_5;intro HB HO520;clear ho hb hg hat))
      go_roundg k1
      case measure=>have:=HK1.out;omega
      case rel=>exact ⟨(y518),(wrap64 (x6_1+1)),(z2_),H',⟨by have:=HK1.out;omega⟩,⟨z0_ HO520.out⟩,⟨z3_ HB.out⟩⟩
     ·rw [if_neg c10] at H
      exact absurd H (by simp)
    ·rw [if_neg c9] at H
     have c9b0:decide (0<t517)=false:=decide_eq_false c9
     clear c9
     have H':=Aside0.mk H
     clear H
     go_wp2_with (first | ((with_reducible refine gc_ 71 ?_);refine gl_ (some 15) Try.func71 #[.slice A0 l0.length c0,.int .i64 x6_1] ?_;(with_reducible refine (spec_l02Of.calls k1 _ _ l0 x6_1 t515 _ ?s1 ?s2 A6.out).mono ?_);(case s1=>repeat (first | exact (Kd.C_below HR0.out HB.out) | (with_reducible refine Kd.C_alloc ?_ _) | (with_reducible refine Kd.C_drewN ?_ _) | (with_reducible refine Kd.C_drew ?_)));(case s2=>exact HC0.out);rintro e w' ⟨rfl,⟨nd,rfl⟩⟩;refine ⟨_,rfl,?_⟩) | ((with_reducible refine gc_ 71 ?_);refine gl_ (some 18) Try.func71 #[.slice A1 l1.length c1,.int .i64 x6_1] ?_;(with_reducible refine (spec_l02Of.calls k1 _ _ l1 x6_1 t516 _ ?s1 ?s2 A7.out).mono ?_);(case s1=>repeat (first | exact (Kd.C_below HR1.out (z3_ HB.out)) | (with_reducible refine Kd.C_alloc ?_ _) | (with_reducible refine Kd.C_drewN ?_ _) | (with_reducible refine Kd.C_drew ?_)));(case s2=>exact HC1.out);rintro e w' ⟨rfl,⟨nd,rfl⟩⟩;refine ⟨_,rfl,?_⟩) | ((with_reducible refine gc_ 102 ?_);refine gl_ (some 19) Try.func102 #[.int .i64 t515,.int .i64 t516] ?_;(with_reducible refine (spec_l01Max.calls t515 t516 t517 _ A8.out).mono ?_);rintro e w' ⟨rfl,⟨nd,rfl⟩⟩;refine ⟨_,rfl,?_⟩))
     go_roundg k1
     case measure=>have:=HK1.out;omega
     case rel=>exact ⟨(x5_1),(wrap64 (x6_1+1)),(z2_),H',⟨by have:=HK1.out;omega⟩,⟨z0_ HO_5.out⟩,⟨z3_ HB.out⟩⟩
   ·rw [if_neg c5] at H
    have c5b0:decide (x6_1≤5)=false:=decide_eq_false c5
    clear c5
    obtain rfl:=Option.some.inj H
    go_wp2
    go_ret
    exact ⟨_,z8_,z0_ HO_5.out,z3_ HB.out⟩


/-! ### spec_l03In: function 73 -/
mutual
def spec_l03In.l0:Nat→List (S91)→Int→Int→Int→Bool→ByteArray→Option ((List (S91)))
 | 0,_,_,_,_,_,_=>none
 | k+1,x0,x5,x522000,x522001,x522002,x522003=>if x5<(x0.length:Int) then (if 0≤x5 then ((spec_l03Less.f ((rd_T91 x0 x5).f0.f0) ((rd_T91 x0 x5).f0.f1) x522000 x522001).bind fun t523=>(spec_l03In.j1 k x0 x5 t523 x522000 x522001 x522002 x522003)) else (none)) else (spec_l03In.j1 k x0 x5 false x522000 x522001 x522002 x522003)
def spec_l03In.j1:Nat→List (S91)→Int→Bool→Int→Int→Bool→ByteArray→Option ((List (S91)))
 | 0,_,_,_,_,_,_,_=>none
 | k+1,x0,x5,x20,x522000,x522001,x522002,x522003=>if x20=true then (spec_l03In.l0 k x0 (wrap64 (x5+1)) x522000 x522001 x522002 x522003) else ((some (([]:List (S91)):List (S91))).bind fun y524=>(if 0≤x5 then (if x5≤(x0.length:Int) then ((some (x0.take (x5:Int).toNat:List (S91))).bind fun y527=>(if y524.length+y527.length<3518437208883 then ((some (y524 ++ y527:List (S91))).bind fun y531=>(if y531.length<3518437208883 then ((some (y531 ++ [(⟨(⟨x522000,x522001⟩:S56),x522002,x522003⟩:S91)]:List (S91))).bind fun y534=>((some (x0.drop (x5:Int).toNat:List (S91))).bind fun y537=>(if y534.length+y537.length<3518437208883 then (some (y534 ++ y537)) else (none)))) else (none))) else (none))) else (none)) else (none)))
end
def spec_l03In.f (k:Nat) (l0:List (S91)) (a1_0:Int) (a1_1:Int) (a1_2:Bool) (a1_3:ByteArray):Option ((List (S91))):=spec_l03In.l0 k l0 0 a1_0 a1_1 a1_2 a1_3
theorem spec_l03In.mono_l:∀ k,(∀ y0 y1 y2 y3 y4 y5,LeO (spec_l03In.l0 k y0 y1 y2 y3 y4 y5) (spec_l03In.l0 (k+1) y0 y1 y2 y3 y4 y5))∧(∀ y0 y1 y2 y3 y4 y5 y6,LeO (spec_l03In.j1 k y0 y1 y2 y3 y4 y5 y6) (spec_l03In.j1 (k+1) y0 y1 y2 y3 y4 y5 y6))
 | 0=>⟨fun _ _ _ _ _ _ r h=>by simp [spec_l03In.l0] at h,fun _ _ _ _ _ _ _ r h=>by simp [spec_l03In.j1] at h⟩
 | k+1=>by
  obtain ⟨ih0,ih1⟩:=spec_l03In.mono_l k
  refine ⟨?_,?_⟩
  ·intro y0 y1 y2 y3 y4 y5
   unfold spec_l03In.l0
   repeat' first
   | (with_reducible exact ih0 _ _ _ _ _ _)
   | (with_reducible exact ih1 _ _ _ _ _ _ _)
   | (with_reducible exact LeO.refl _)
   | (with_reducible exact LeO.none _)
   | (with_reducible refine LeO.ite ?_ ?_)
   | (with_reducible refine LeO.bind ?_ (fun _=>?_))
   | exact ih0 _ _ _ _ _ _
   | exact ih1 _ _ _ _ _ _ _
   | exact LeO.none _
   | refine LeO.ite ?_ ?_
   | refine LeO.bind ?_ (fun _=>?_)
  ·intro y0 y1 y2 y3 y4 y5 y6
   unfold spec_l03In.j1
   repeat' first
   | (with_reducible exact ih0 _ _ _ _ _ _)
   | (with_reducible exact ih1 _ _ _ _ _ _ _)
   | (with_reducible exact LeO.refl _)
   | (with_reducible exact LeO.none _)
   | (with_reducible refine LeO.ite ?_ ?_)
   | (with_reducible refine LeO.bind ?_ (fun _=>?_))
   | exact ih0 _ _ _ _ _ _
   | exact ih1 _ _ _ _ _ _ _
   | exact LeO.none _
   | refine LeO.ite ?_ ?_
   | refine LeO.bind ?_ (fun _=>?_)
theorem spec_l03In.mono:∀ a0 a1 a2 a3 a4 k,LeO (spec_l03In.f k a0 a1 a2 a3 a4) (spec_l03In.f (k+1) a0 a1 a2 a3 a4):=by
 intro a0 a1 a2 a3 a4 k
 obtain ⟨ih0,ih1⟩:=spec_l03In.mono_l k
 unfold spec_l03In.f
 repeat' first
   | (with_reducible exact ih0 _ _ _ _ _ _)
   | (with_reducible exact ih1 _ _ _ _ _ _ _)
   | (with_reducible exact LeO.refl _)
   | (with_reducible exact LeO.none _)
   | (with_reducible refine LeO.ite ?_ ?_)
   | (with_reducible refine LeO.bind ?_ (fun _=>?_))
   | exact ih0 _ _ _ _ _ _
   | exact ih1 _ _ _ _ _ _ _
   | exact LeO.none _
   | refine LeO.ite ?_ ?_
   | refine LeO.bind ?_ (fun _=>?_)
def spec_l03In.T2:Bool × List (List Nat × List Nat):=(true,[([],[]),([],[]),([1],[1]),([0,2],[0,2]),([3],[3]),([4],[4]),([4],[4]),([5,6,4],[4,5,6]),([7,4],[4,7]),([8,4],[4,8]),([4],[4]),([10,4],[4,10]),([9,11,4,4],[4,9,11]),([4,12],[4,12])])
def spec_l03In.B2:List Nat:=[0,0,2,7,15,31,31,127,255,511,31,1055,4095,8191]
theorem spec_l03In.tab2:rtab .any (opsOf Try.f73 2)=spec_l03In.T2:=by kernel_rfl
theorem spec_l03In.bits2:waitsOk spec_l03In.T2.2 spec_l03In.B2=true:=by kernel_rfl
abbrev spec_l03In.q0:Array Bool:=#[O,O,O,O,O,O,O,O,O,O,O,O,O,O]
abbrev spec_l03In.q1:Array Bool:=#[I,O,O,O,O,O,O,O,O,O,O,O,O,O]
abbrev spec_l03In.q2:Array Bool:=#[I,I,O,O,O,O,O,O,O,O,O,O,O,O]
abbrev spec_l03In.q3:Array Bool:=#[I,I,I,O,O,O,O,O,O,O,O,O,O,O]
abbrev spec_l03In.q4:Array Bool:=#[I,I,I,I,O,O,O,O,O,O,O,O,O,O]
abbrev spec_l03In.q5:Array Bool:=#[I,I,I,I,I,O,O,O,O,O,O,O,O,O]
abbrev spec_l03In.q6:Array Bool:=#[I,I,I,I,I,I,O,O,O,O,O,O,O,O]
abbrev spec_l03In.q7:Array Bool:=#[I,I,I,I,I,I,I,O,O,O,O,O,O,O]
abbrev spec_l03In.q8:Array Bool:=#[I,I,I,I,I,I,I,I,O,O,O,O,O,O]
abbrev spec_l03In.q9:Array Bool:=#[I,I,I,I,I,I,I,I,I,O,O,O,O,O]
abbrev spec_l03In.q10:Array Bool:=#[I,I,I,I,I,I,I,I,I,I,I,O,O,O]
abbrev spec_l03In.q11:Array Bool:=#[I,I,I,I,I,I,I,I,I,I,I,I,O,O]
abbrev spec_l03In.q12:Array Bool:=#[I,I,I,I,I,I,I,I,I,I,I,I,I,O]
abbrev spec_l03In.q13:Array Bool:=#[I,I,I,I,I,I,I,I,I,I,I,I,I,I]
set_option maxHeartbeats 8000000 in
set_option maxRecDepth 100000 in
theorem spec_l03In.calls (k:Nat) (A0:Option Addr) (c0:Nat) (l0:List (S91)) (a1_0:Int) (a1_1:Int) (a1_2:Bool) (a1_3:ByteArray) (r:List (S91)) (w:World) (hr0:Kd.C k91 w A0 l0.length l0) (hc0:l0.length≤c0) (h:spec_l03In.f k l0 a1_0 a1_1 a1_2 a1_3=some r) :
  Calls Try.prog 73 #[.slice A0 l0.length c0,.agg #[.int .i64 a1_0,.int .i64 a1_1,.bool a1_2,.string a1_3]] w fun e w'=>∃ v0_:Value,e = .returned (v0_)∧Kd.R k91 91 w' w.heap.size (fun _=>True) v0_ r∧Below w.heap.size w w':=by
 have hu91:=Try.underlying91
 have hu56:=Try.underlying56
 have HR0:=Aside0.mk hr0
 have HC0:=Aside0.mk hc0
 clear hr0 hc0
 have HB:=Aside0.mk (Below.refl w.heap.size w)
 have H:(spec_l03In.l0 k l0 0 a1_0 a1_1 a1_2 a1_3)=some r:=h
 clear h
 have H':=Aside0.mk H
 clear H
 go_enter Try.func73,Try.ntmps73
 go_wp2_with (first | ((with_reducible refine gd_ 3 ?_);refine be_ 3 #[.int .i64 a1_0,.int .i64 a1_1,.bool a1_2,.string a1_3] 91 ?_;intro gb521 hg w3 hbox hb;refine as4_ (below_step (z3_ HB.out) hb) (hbox) ((z7_ HB.out:w.heap.size≤gb521)) ((z7_ HB.out:w.heap.size≤gb521)) ?_;clear HB;intro HB BK521 GW521 GE521;clear hb hbox hg))
 go_loopg [5] k (fun kq v5 w'=>∃ (x5_1:Int),v5 = .int .i64 x5_1∧Aside0 (spec_l03In.l0 kq l0 x5_1 a1_0 a1_1 a1_2 a1_3=some r)∧Aside0 (kq≤k)∧Aside0 (w'.heap[gb521]? = some (.cells #[.int .i64 a1_0,.int .i64 a1_1,.bool a1_2,.string a1_3] 91 (0,0)))∧Aside0 (Below w.heap.size w w'))
 case atStart=>exact ⟨(0),(z2_),H',⟨Nat.le_refl _⟩,⟨z5_ BK521.out⟩,⟨z6_ HB.out GE521.out⟩⟩
 case round =>
  clear H'
  try clear p2
  obtain ⟨x5_1,rfl,HA,HK1,BK521,HB⟩:=hrel
  cases gk with
  | zero=>exact absurd HA.out (by simp [spec_l03In.l0])
  | succ k1 =>
   have H:=HA.out
   clear HA
   simp only [spec_l03In.l0] at H
   have HC4:=Aside0.mk H
   clear H
   go_upto_region 2 with (fail)
   go_cut [20] (fun v20 wc=>∃ (kq:Nat) (x20_3:Bool),v20 = .bool x20_3∧Aside0 (spec_l03In.j1 kq l0 x5_1 x20_3 a1_0 a1_1 a1_2 a1_3=some r)∧Aside0 (kq≤k1)∧Aside0 (wc.heap[gb521]? = some (.cells #[.int .i64 a1_0,.int .i64 a1_1,.bool a1_2,.string a1_3] 91 (0,0)))∧Aside0 (Below w.heap.size w wc))
   case first =>
    have H:=HC4.out
    clear HC4
    by_cases c5:x5_1<(l0.length:Int)
    ·rw [if_pos c5] at H
     have c5b0:decide (x5_1<(l0.length:Int))=true:=decide_eq_true c5
     clear c5
     (first | rw [c5b0] | (simp only [i64_w,i32_w];rw [c5b0]) | skip)
     by_cases c6:0≤x5_1
     ·rw [if_pos c6] at H
      have c6b0:decide (0≤x5_1)=true:=decide_eq_true c6
      clear c6
      replace H:=Option.bind_eq_some_iff.mp H
      obtain ⟨t523,A70,H⟩:=H
      replace H:(spec_l03In.j1 k1 l0 x5_1 t523 a1_0 a1_1 a1_2 a1_3)=some r:=H
      have A7:=Aside0.mk A70
      clear A70
      have H':=Aside0.mk H
      clear H
      try go_wp2
      refine as2_ (blk_drew BK521.out) (below_drew1 HB.out) ?_
      clear BK521 HB
      intro BK521 HB
      have p522:0≤(x5_1:Int):=of_decide_eq_true (z1_)
      have q522:x5_1<(l0.length:Int):=of_decide_eq_true (z1_)
      obtain ⟨ad522,e522,hx522_0,hx522_1,hx522_2,hx522_3⟩:=at_T91 HR0.out x5_1 p522 q522
      have hw522_3:=hx522_3
      have hw522_2:=hx522_2
      have hw522_1:=hx522_1
      have hw522_0:=hx522_0
      cases e522
      replace hx522_0:=(HB.out.cell (World.block_lt_of_cell? w _ hx522_0)).trans hx522_0
      replace hx522_1:=(HB.out.cell (World.block_lt_of_cell? w _ hx522_1)).trans hx522_1
      replace hx522_2:=(HB.out.cell (World.block_lt_of_cell? w _ hx522_2)).trans hx522_2
      replace hx522_3:=(HB.out.cell (World.block_lt_of_cell? w _ hx522_3)).trans hx522_3
      replace p522:=eq_true p522
      replace q522:=eq_true q522
      refine start_ (n:=14) (S:=fun w'=>w'.cell? ⟨gb521,0,none⟩=some (.int .i64 a1_0)∧w'.cell? ⟨gb521,1,none⟩=some (.int .i64 a1_1)∧w'.cell? ⟨gb521,2,none⟩=some (.bool a1_2)∧w'.cell? ⟨gb521,3,none⟩=some (.string a1_3)∧w'.cell? (ad522.add ((x5_1).toNat*4))=some (.int .i64 ((rd_T91 l0 x5_1).f0.f0))∧w'.cell? ⟨(ad522.add ((x5_1).toNat*4)).block,(ad522.add ((x5_1).toNat*4)).off+1,none⟩=some (.int .i64 ((rd_T91 l0 x5_1).f0.f1))∧w'.cell? ⟨(ad522.add ((x5_1).toNat*4)).block,(ad522.add ((x5_1).toNat*4)).off+2,none⟩=some (.bool ((rd_T91 l0 x5_1).f1))∧w'.cell? ⟨(ad522.add ((x5_1).toNat*4)).block,(ad522.add ((x5_1).toNat*4)).off+3,none⟩=some (.string ((rd_T91 l0 x5_1).f2))) (ds:=[]) spec_l03In.q0 (by kernel_rfl) rfl rfl (cj4_ BK521.out ⟨((HB.out.cell (World.block_lt_of_cell? w _ hw522_0)).trans hw522_0),⟨((HB.out.cell (World.block_lt_of_cell? w _ hw522_1)).trans hw522_1),⟨((HB.out.cell (World.block_lt_of_cell? w _ hw522_2)).trans hw522_2),((HB.out.cell (World.block_lt_of_cell? w _ hw522_3)).trans hw522_3)⟩⟩⟩) (fun hHeld=>?_);refine with_tabW spec_l03In.tab2 spec_l03In.bits2 (fun HT_ HW_=>?_)
      generalize wr.drew=w8 at BK521 HB hx522_0 hx522_1 hx522_2 hx522_3 hHeld ⊢
      refine pu_ 0 7 spec_l03In.q1 HT_.out ?_
      refine pu_ 1 8 spec_l03In.q2 HT_.out ?_
      refine pu_ 2 9 spec_l03In.q3 HT_.out ?_
      refine pu_ 3 10 spec_l03In.q4 HT_.out ?_
      refine pu_ 4 11 spec_l03In.q5 HT_.out ?_
      refine pu_ 5 12 spec_l03In.q6 HT_.out ?_
      refine pu_ 6 13 spec_l03In.q7 HT_.out ?_
      refine pu_ 7 14 spec_l03In.q8 HT_.out ?_
      refine pu_ 8 15 spec_l03In.q9 HT_.out ?_
      refine pu_ 10 17 #[I,I,I,I,I,I,I,I,I,O,I,O,O,O] HT_.out ?_
      refine tk8_ 9 16 spec_l03In.q10 HT_.out HW_.out hHeld ?_
      refine tk8_ 11 18 spec_l03In.q11 HT_.out HW_.out hHeld ?_
      refine o1_ 12 19 spec_l03In.q12 HT_.out (fun K hK=>?_)
      refine gs_ Try.func82 #[.agg #[.int .i64 ((rd_T91 l0 x5_1).f0.f0),.int .i64 ((rd_T91 l0 x5_1).f0.f1)],.agg #[.int .i64 a1_0,.int .i64 a1_1]] ?_
      with_reducible refine (spec_l03Less.calls ((rd_T91 l0 x5_1).f0.f0) ((rd_T91 l0 x5_1).f0.f1) a1_0 a1_1 t523 _ A7.out).mono ?_
      rintro e w9 ⟨rfl,hb⟩
      refine ⟨_,rfl,?_⟩
      refine as2_ (blkB_ BK521.out hb) (below_step (z6_ HB.out GE521.out) hb) ?_
      clear BK521 HB
      intro BK521 HB
      (try clear hb)
      refine hK.out _ _ (cj4_ BK521.out ⟨((HB.out.cell (World.block_lt_of_cell? w _ hw522_0)).trans hw522_0),⟨((HB.out.cell (World.block_lt_of_cell? w _ hw522_1)).trans hw522_1),⟨((HB.out.cell (World.block_lt_of_cell? w _ hw522_2)).trans hw522_2),((HB.out.cell (World.block_lt_of_cell? w _ hw522_3)).trans hw522_3)⟩⟩⟩) (fun hHeld=>?_)
      clear hK K
      refine nm_ 19 ?_
      refine pu_ 13 20 spec_l03In.q13 HT_.out ?_
      refine done_ (done_of HT_.out (by kernel_rfl)) ?_
      try go_wp2
      go_meet
      case rel=>exact ⟨_,(t523),(z2_),H',⟨z23_ HK1.out⟩,⟨z5_ BK521.out⟩,⟨z6_ HB.out GE521.out⟩⟩
     ·rw [if_neg c6] at H
      exact absurd H (by simp)
    ·rw [if_neg c5] at H
     have c5b0:decide (x5_1<(l0.length:Int))=false:=decide_eq_false c5
     clear c5
     (first | rw [c5b0] | (simp only [i64_w,i32_w];rw [c5b0]) | skip)
     have H':=Aside0.mk H
     clear H
     try go_wp2
     refine as2_ (blk_drew BK521.out) (below_drew1 HB.out) ?_
     clear BK521 HB
     intro BK521 HB
     refine start_ (n:=14) (S:=fun w'=>True) (ds:=[]) spec_l03In.q0 (by kernel_rfl) rfl rfl trivial (fun hHeld=>?_);refine with_tabW spec_l03In.tab2 spec_l03In.bits2 (fun HT_ HW_=>?_)
     generalize wr.drew=w10 at BK521 HB hHeld ⊢
     refine pu_ 0 7 spec_l03In.q1 HT_.out ?_
     refine pu_ 1 8 spec_l03In.q2 HT_.out ?_
     refine pu_ 2 9 spec_l03In.q3 HT_.out ?_
     refine pu_ 3 10 spec_l03In.q4 HT_.out ?_
     refine pu_ 4 11 spec_l03In.q5 HT_.out ?_
     refine pn_ 5 12 spec_l03In.q6 HT_.out ?_
     refine pn_ 6 13 spec_l03In.q7 HT_.out ?_
     refine pn_ 7 14 spec_l03In.q8 HT_.out ?_
     refine pn_ 8 15 spec_l03In.q9 HT_.out ?_
     refine pn_ 9 16 #[I,I,I,I,I,I,I,I,I,I,O,O,O,O] HT_.out ?_
     refine pn_ 10 17 spec_l03In.q10 HT_.out ?_
     refine pn_ 11 18 spec_l03In.q11 HT_.out ?_
     refine pn_ 12 19 spec_l03In.q12 HT_.out ?_
     refine pu_ 13 20 spec_l03In.q13 HT_.out ?_
     refine done_ (done_of HT_.out (by kernel_rfl)) ?_
     try go_wp2
     go_meet
     case rel=>exact ⟨_,(false),(z2_),H',⟨z23_ HK1.out⟩,⟨z5_ BK521.out⟩,⟨z6_ HB.out GE521.out⟩⟩
   case rest =>
    clear HC4
    try clear p2
    try clear c5
    try clear c5b0
    try clear p5
    try clear q5
    try clear hx5
    try clear c6
    try clear c6b0
    try clear c7
    try clear c8
    try clear hx522_0
    try clear hx522_1
    try clear hx522_2
    try clear hx522_3
    try clear p2
    try clear p522
    try clear q522
    obtain ⟨kq,x20_3,rfl,HA,HJ3,BK521,HB⟩:=hcut
    cases kq with
    | zero=>exact absurd HA.out (by simp [spec_l03In.j1])
    | succ kj3 =>
     have H:=HA.out
     clear HA
     simp only [spec_l03In.j1] at H
     by_cases c11:x20_3=true
     ·subst c11
      have H1:(spec_l03In.l0 kj3 l0 (wrap64 (x5_1+1)) a1_0 a1_1 a1_2 a1_3)=some r:=by rw [if_pos rfl] at H;exact H
      clear H
      have H:=H1
      clear H1
      have H':=Aside0.mk H
      clear H
      go_wp2
      go_roundg kj3
      case measure=>have:=HK1.out;have:=HJ3.out;omega
      case rel=>exact ⟨(wrap64 (x5_1+1)),(z2_),H',⟨by have:=HK1.out;have:=HJ3.out;omega⟩,⟨z5_ BK521.out⟩,⟨z6_ HB.out GE521.out⟩⟩
     ·replace c11:=Bool.eq_false_iff.mpr c11
      subst c11
      have H1:((some (([]:List (S91)):List (S91))).bind fun y524=>(if 0≤x5_1 then (if x5_1≤(l0.length:Int) then ((some (l0.take (x5_1:Int).toNat:List (S91))).bind fun y527=>(if y524.length+y527.length<3518437208883 then ((some (y524 ++ y527:List (S91))).bind fun y531=>(if y531.length<3518437208883 then ((some (y531 ++ [(⟨(⟨a1_0,a1_1⟩:S56),a1_2,a1_3⟩:S91)]:List (S91))).bind fun y534=>((some (l0.drop (x5_1:Int).toNat:List (S91))).bind fun y537=>(if y534.length+y537.length<3518437208883 then (some (y534 ++ y537)) else (none)))) else (none))) else (none))) else (none)) else (none)))=some r:=by rw [if_neg (show ¬ (false=true) by decide)] at H;exact H
      clear H
      have H:=H1
      clear H1
      obtain ⟨y524,hy524⟩:∃ y_:List (S91),y_=(([]:List (S91))):=⟨_,rfl⟩
      replace H:(if 0≤x5_1 then (if x5_1≤(l0.length:Int) then ((some (l0.take (x5_1:Int).toNat:List (S91))).bind fun y527=>(if y524.length+y527.length<3518437208883 then ((some (y524 ++ y527:List (S91))).bind fun y531=>(if y531.length<3518437208883 then ((some (y531 ++ [(⟨(⟨a1_0,a1_1⟩:S56),a1_2,a1_3⟩:S91)]:List (S91))).bind fun y534=>((some (l0.drop (x5_1:Int).toNat:List (S91))).bind fun y537=>(if y534.length+y537.length<3518437208883 then (some (y534 ++ y537)) else (none)))) else (none))) else (none))) else (none)) else (none))=some r:=by first | (rw [hy524];with_reducible exact H) | (have H2_:=(Option.bind_some _ _).symm.trans H;rw [hy524];with_reducible exact H2_) | (have H2_:=(Option.bind_some _ _).symm.trans H;with_reducible exact H2_) | with_reducible exact H | (rw [hy524];exact H) | exact H
      have Ny524:=Aside0.mk hy524
      clear hy524
      by_cases c12:0≤x5_1
      ·rw [if_pos c12] at H
       have c12b0:=eq_true c12
       have c12b1:decide (0≤x5_1)=true:=decide_eq_true c12
       clear c12
       by_cases c13:x5_1≤(l0.length:Int)
       ·rw [if_pos c13] at H
        have c13b0:=eq_true c13
        have c13b1:decide (x5_1≤(l0.length:Int))=true:=decide_eq_true c13
        clear c13
        obtain ⟨y527,hy527⟩:∃ y_:List (S91),y_=(l0.take (x5_1:Int).toNat):=⟨_,rfl⟩
        replace H:(if y524.length+y527.length<3518437208883 then ((some (y524 ++ y527:List (S91))).bind fun y531=>(if y531.length<3518437208883 then ((some (y531 ++ [(⟨(⟨a1_0,a1_1⟩:S56),a1_2,a1_3⟩:S91)]:List (S91))).bind fun y534=>((some (l0.drop (x5_1:Int).toNat:List (S91))).bind fun y537=>(if y534.length+y537.length<3518437208883 then (some (y534 ++ y537)) else (none)))) else (none))) else (none))=some r:=by first | (rw [hy527];with_reducible exact H) | (have H2_:=(Option.bind_some _ _).symm.trans H;rw [hy527];with_reducible exact H2_) | (have H2_:=(Option.bind_some _ _).symm.trans H;with_reducible exact H2_) | with_reducible exact H | (rw [hy527];exact H) | exact H
        have Ny527:=Aside0.mk hy527
        clear hy527
        by_cases c14:y524.length+y527.length<3518437208883
        ·rw [if_pos c14] at H
         have LMc14:=Aside0.mk c14
         clear c14
         obtain ⟨y531,hy531⟩:∃ y_:List (S91),y_=(y524 ++ y527):=⟨_,rfl⟩
         replace H:(if y531.length<3518437208883 then ((some (y531 ++ [(⟨(⟨a1_0,a1_1⟩:S56),a1_2,a1_3⟩:S91)]:List (S91))).bind fun y534=>((some (l0.drop (x5_1:Int).toNat:List (S91))).bind fun y537=>(if y534.length+y537.length<3518437208883 then (some (y534 ++ y537)) else (none)))) else (none))=some r:=by first | (rw [hy531];with_reducible exact H) | (have H2_:=(Option.bind_some _ _).symm.trans H;rw [hy531];with_reducible exact H2_) | (have H2_:=(Option.bind_some _ _).symm.trans H;with_reducible exact H2_) | with_reducible exact H | (rw [hy531];exact H) | exact H
         have Ny531:=Aside0.mk hy531
         clear hy531
         by_cases c15:y531.length<3518437208883
         ·rw [if_pos c15] at H
          have LMc15:=Aside0.mk c15
          clear c15
          obtain ⟨y534,hy534⟩:∃ y_:List (S91),y_=(y531 ++ [(⟨(⟨a1_0,a1_1⟩:S56),a1_2,a1_3⟩:S91)]):=⟨_,rfl⟩
          replace H:((some (l0.drop (x5_1:Int).toNat:List (S91))).bind fun y537=>(if y534.length+y537.length<3518437208883 then (some (y534 ++ y537)) else (none)))=some r:=by first | (rw [hy534];with_reducible exact H) | (have H2_:=(Option.bind_some _ _).symm.trans H;rw [hy534];with_reducible exact H2_) | (have H2_:=(Option.bind_some _ _).symm.trans H;with_reducible exact H2_) | with_reducible exact H | (rw [hy534];exact H) | exact H
          have Ny534:=Aside0.mk hy534
          clear hy534
          have c16b0:=eq_true (of_decide_eq_true (z1_):0≤x5_1)
          have c17b0:=eq_true (of_decide_eq_true (z1_):x5_1≤(l0.length:Int))
          obtain ⟨y537,hy537⟩:∃ y_:List (S91),y_=(l0.drop (x5_1:Int).toNat):=⟨_,rfl⟩
          replace H:(if y534.length+y537.length<3518437208883 then (some (y534 ++ y537)) else (none))=some r:=by first | (rw [hy537];with_reducible exact H) | (have H2_:=(Option.bind_some _ _).symm.trans H;rw [hy537];with_reducible exact H2_) | (have H2_:=(Option.bind_some _ _).symm.trans H;with_reducible exact H2_) | with_reducible exact H | (rw [hy537];exact H) | exact H
          have Ny537:=Aside0.mk hy537
          clear hy537
          by_cases c18:y534.length+y537.length<3518437208883
          ·rw [if_pos c18] at H
           have LMc18:=Aside0.mk c18
           clear c18
           obtain ⟨y541,hy541⟩:∃ y_:List (S91),y_=(y534 ++ y537):=⟨_,rfl⟩
           replace H:(some y541)=some r:=by first | (rw [hy541];with_reducible exact H) | (have H2_:=(Option.bind_some _ _).symm.trans H;rw [hy541];with_reducible exact H2_) | (have H2_:=(Option.bind_some _ _).symm.trans H;with_reducible exact H2_) | with_reducible exact H | (rw [hy541];exact H) | exact H
           have Ny541:=Aside0.mk hy541
           clear hy541
           obtain rfl:=Option.some.inj H
           go_wp2_with (first | ((with_reducible refine gd_ 23 ?_);refine Kd.R_lit k91 _ 91 ?hg (N:=23) ?hd (xs:=([]:List (S91))) (inner:=[]) (ok:=fun _=>True) (okp:=fun _=>True) ?hr ?hp (fun _ hk=>hk) trivial (Below.refl _ _) (Nat.le_refl _) (by simp) ?_;(case hd=>rfl);(case hg=>rfl);(case hr=>first | (go_simp;done) | (go_simp;rfl));(case hp=>exact (Reps.none _ _));intro v525 w19 ho20 hb hg_ hnew_;clear hg_ hnew_;(first | rw [← Ny524.out] at ho20 | (simp only [Int.reduceToNat] at ho20;rw [← Ny524.out] at ho20));refine as3_ (Kd.R_lower (Kd.R_newB ho20 (g:=gb521) (o:=.cells #[.int .i64 a1_0,.int .i64 a1_1,.bool a1_2,.string a1_3] 91 (0,0)) (z5_ BK521.out)) (below_size (z6_ HB.out GE521.out))) (blkB_ BK521.out hb) (below_step (z6_ HB.out GE521.out) hb) ?_;clear BK521 HB;intro HO526 BK521 HB;clear hb ho20;have q21:(x5_1:Int)≤((l0.length:Int):Int):=of_decide_eq_true (z1_);obtain ⟨i021,hi021,_,hsz21,_⟩:=info_parts info91;have hroom21:l0.length≤c0:=HC0.out;have hC21:Kd.C k91 _ A0 l0.length l0:=HR0.out;have hcut21:=cut_to (P:=Try.prog) 38 91 .i64 Try.underlying38 hi021 A0 l0.length c0 x5_1 (of_decide_eq_true (z1_)) q21 hroom21;have hr21:=Kd.C_take (m:=(x5_1:Int).toNat) hC21 (by omega);have hy21:y527.length=(x5_1:Int).toNat:=(by rw [Ny527.out,List.length_take];omega);rw [← Ny527.out] at hr21;rw [← hy21] at hcut21;have HR530:=Aside0.mk hr21;have HC530:=Aside0.mk (show y527.length≤c0 from by omega);clear hr21 hC21 hroom21 hi021 hsz21;have KY21:=Aside0.mk hy21;clear hy21;replace q21:=eq_true q21) | ((with_reducible refine gate_builtin (b:=.append) (xs:=#[.tmp 23,.tmp 26]) rfl ?_);at_builtin;refine Kd.R_append_rows k91 (w0:=w) w.heap.size rfl (.tmp 23) (.tmp 26) 38 91 (.agg #[(.int .i64 0),(.int .i64 0),(.bool false),(.string ⟨#[]⟩)]) 40 rfl Try.underlying38 info91 rfl (by decide) (by omega) v525 y524 y527 _ _ _ (fun k_=>k_≠gb521) (fun _=>False) rfl rfl ?aO ?aR (fun _ _ h=>h) (fun _ h=>h.elim) ?aF ?aB ?aS ?aL ?_;(case aR=>repeat (first | exact (Kd.C_below HR530.out HB.out) | (with_reducible refine Kd.C_alloc ?_ _) | (with_reducible refine Kd.C_drewN ?_ _) | (with_reducible refine Kd.C_drew ?_)));(case aB=>exact (z6_ HB.out GE521.out));(case aF=>exact (fun k_ hk=>Kd.freshB (g:=gb521) (o:=.cells #[.int .i64 a1_0,.int .i64 a1_1,.bool a1_2,.string a1_3] 91 (0,0)) (z5_ BK521.out) k_ hk));(case aO=>exact (by (with_reducible repeat (first | apply Kd.R_alloc | apply Kd.R_drewN | apply Kd.R_drew));exact Kd.R_mono HO526.out (fun _ hk=>hk.2)));(case aS=>exact (below_size (z6_ HB.out GE521.out)));(case aL=>have:=LMc14.out;omega);intro v532 w22 ho hb hg hat;rw [← Ny531.out] at ho;refine as3_ (blk_grown (g:=gb521) (o:=.cells #[.int .i64 a1_0,.int .i64 a1_1,.bool a1_2,.string a1_3] 91 (0,0)) (z5_ BK521.out) hg (Kd.R_away HO526.out (fun _ hk=>hk.2))) (hb) (ho) ?_;clear BK521 HB HO526;intro BK521 HB HO533;clear ho hb hg hat;have ⟨hcz23_0,hcz23_1,hcz23_2,hcz23_3,hfz23_0,hfz23_1,hfz23_2,hfz23_3⟩:=cz4_ BK521.out) | ((with_reducible refine gate_builtin (b:=.append) (xs:=#[.tmp 28,.tmp 30]) rfl ?_);at_builtin;refine Kd.R_append k91 (w0:=w) w.heap.size rfl (.tmp 28) (.tmp 30) 38 91 (.agg #[(.int .i64 0),(.int .i64 0),(.bool false),(.string ⟨#[]⟩)]) 40 rfl Try.underlying38 info91 rfl (by decide) (by omega) v532 y531 (⟨(⟨a1_0,a1_1⟩:S56),a1_2,a1_3⟩:S91) [.int .i64 a1_0,.int .i64 a1_1,.bool a1_2,.string a1_3] (fun k_=>k_≠gb521) (fun _=>False) rfl rfl ?aP (fun _ hk=>hk.elim) ?aF ?aO ?aB ?aS ?aL ?_;(case aP=>exact k91_mkM _ _ _ (⟨(⟨a1_0,a1_1⟩:S56),a1_2,a1_3⟩:S91));(case aB=>exact (z6_ HB.out GE521.out));(case aF=>exact (fun k_ hk=>Kd.freshB (g:=gb521) (o:=.cells #[.int .i64 a1_0,.int .i64 a1_1,.bool a1_2,.string a1_3] 91 (0,0)) (z5_ BK521.out) k_ hk));(case aO=>exact (z0_ HO533.out));(case aS=>exact (below_size (z6_ HB.out GE521.out)));(case aL=>have:=LMc15.out;omega);intro v535 w24 ho hb hg hat;rw [← Ny534.out] at ho;refine as3_ (blk_grown (g:=gb521) (o:=.cells #[.int .i64 a1_0,.int .i64 a1_1,.bool a1_2,.string a1_3] 91 (0,0)) (z5_ BK521.out) hg (Kd.R_away HO533.out (fun _ hk=>hk))) (hb) (ho) ?_;clear BK521 HB HO533;intro BK521 HB HO536;clear ho hb hg hat;have q25:(x5_1:Int)≤((l0.length:Int):Int):=of_decide_eq_true (z1_);obtain ⟨i025,hi025,_,hsz25,_⟩:=info_parts info91;have hroom25:l0.length≤c0:=HC0.out;have hC25:Kd.C k91 _ A0 l0.length l0:=HR0.out;have q025:(0:Int)≤(x5_1:Int):=of_decide_eq_true (z1_);have hcut25:=cut_from (P:=Try.prog) 38 91 .i64 Try.underlying38 hi025 4 hsz25 A0 l0.length c0 x5_1 q025 q25;have hr25:=Kd.C_drop (m:=(x5_1:Int).toNat) (c:=c0) hC25 (by omega) hroom25;obtain ⟨A25,hA25⟩:∃ A1,A1=(if c0=(x5_1:Int).toNat then A0 else (A0:Option Addr).map (·.add ((x5_1:Int).toNat*4))):=⟨_,rfl⟩;obtain ⟨c25,hc25⟩:∃ c1,c1=c0-(x5_1:Int).toNat:=⟨_,rfl⟩;have hy25:y537.length=l0.length-(x5_1:Int).toNat:=(by rw [Ny537.out,List.length_drop] <;> omega);rw [show (l0).drop (x5_1:Int).toNat=y537 from Ny537.out.symm] at hr25;replace hr25:Kd.C k91 _ A25 y537.length y537:=(by rw [hA25];exact hr25);rw [← hy25,← hA25,← hc25] at hcut25;have HR540:=Aside0.mk hr25;have HC540:=Aside0.mk (show y537.length≤c25 from by rw [hy25,hc25];exact Nat.sub_le_sub_right hroom25 _);clear hr25 hC25 hroom25 hi025 hsz25 hc25;have KY25:=Aside0.mk hy25;have KA25:=Aside0.mk hA25;clear hy25 hA25;replace q25:=eq_true q25) | ((with_reducible refine gate_builtin (b:=.append) (xs:=#[.tmp 32,.tmp 35]) rfl ?_);at_builtin;refine Kd.R_append_rows k91 (w0:=w) w.heap.size rfl (.tmp 32) (.tmp 35) 38 91 (.agg #[(.int .i64 0),(.int .i64 0),(.bool false),(.string ⟨#[]⟩)]) 40 rfl Try.underlying38 info91 rfl (by decide) (by omega) v535 y534 y537 _ _ _ (fun k_=>k_≠gb521) (fun _=>False) rfl rfl ?aO ?aR (fun _ _ h=>h) (fun _ h=>h.elim) ?aF ?aB ?aS ?aL ?_;(case aR=>repeat (first | exact (Kd.C_below HR540.out HB.out) | (with_reducible refine Kd.C_alloc ?_ _) | (with_reducible refine Kd.C_drewN ?_ _) | (with_reducible refine Kd.C_drew ?_)));(case aB=>exact (z6_ HB.out GE521.out));(case aF=>exact (fun k_ hk=>Kd.freshB (g:=gb521) (o:=.cells #[.int .i64 a1_0,.int .i64 a1_1,.bool a1_2,.string a1_3] 91 (0,0)) (z5_ BK521.out) k_ hk));(case aO=>exact (z0_ HO536.out));(case aS=>exact (below_size (z6_ HB.out GE521.out)));(case aL=>have:=LMc18.out;omega);intro v542 w26 ho hb hg hat;rw [← Ny541.out] at ho;refine as3_ (blk_grown (g:=gb521) (o:=.cells #[.int .i64 a1_0,.int .i64 a1_1,.bool a1_2,.string a1_3] 91 (0,0)) (z5_ BK521.out) hg (Kd.R_away HO536.out (fun _ hk=>hk))) (hb) (ho) ?_;clear BK521 HB HO536;intro BK521 HB HO543;clear ho hb hg hat))
           go_ret
           exact ⟨_,z8_,by (with_reducible repeat (first | apply Kd.R_alloc | apply Kd.R_drewN | apply Kd.R_drew));exact Kd.R_mono HO543.out (fun _ hk=>trivial),z6_ HB.out GE521.out⟩
          ·rw [if_neg c18] at H
           exact absurd H (by simp)
         ·rw [if_neg c15] at H
          exact absurd H (by simp)
        ·rw [if_neg c14] at H
         exact absurd H (by simp)
       ·rw [if_neg c13] at H
        exact absurd H (by simp)
      ·rw [if_neg c12] at H
       exact absurd H (by simp)


/-! ### spec_SetPut: function 30 -/
mutual
def spec_SetPut.j0:Nat→List (S56)→Int→ByteArray→Bool→Bool→List (S56)→List (S91)→Option ((List (S56)) × (List (S91)) × Int × Int × Int)
 | 0,_,_,_,_,_,_,_=>none
 | k+1,x1,x2,x3,x4,x22,x764000,x764001=>if x22=true then ((spec_l03Ill.f 2).bind fun bt765=>(some (bt765.1,bt765.2.1,bt765.2.2.1,bt765.2.2.2.1,bt765.2.2.2.2))) else ((spec_SetRight.f k x764000 x764001).bind fun t774=>(if t774=true then ((spec_SeenRight.f k x1).bind fun t775=>(if t775=true then ((spec_l02Node.f x2).bind fun t776=>(if t776=true then (if (x3.size:Int)>16 then (spec_SetPut.j1 k x1 x2 x3 x4 true x764000 x764001) else (if x4=true then (spec_SetPut.j1 k x1 x2 x3 x4 (x3.toList != ([]:List UInt8)) x764000 x764001) else (spec_SetPut.j1 k x1 x2 x3 x4 false x764000 x764001))) else (spec_SetPut.j1 k x1 x2 x3 x4 true x764000 x764001))) else (spec_SetPut.j1 k x1 x2 x3 x4 true x764000 x764001))) else (spec_SetPut.j1 k x1 x2 x3 x4 true x764000 x764001)))
def spec_SetPut.j1:Nat→List (S56)→Int→ByteArray→Bool→Bool→List (S56)→List (S91)→Option ((List (S56)) × (List (S91)) × Int × Int × Int)
 | 0,_,_,_,_,_,_,_=>none
 | k+1,x1,x2,x3,x4,x48,x764000,x764001=>if x48=true then ((spec_l03Ill.f 1).bind fun bt777=>(some (bt777.1,bt777.2.1,bt777.2.2.1,bt777.2.2.2.1,bt777.2.2.2.2))) else ((spec_l02Join.f k x764000 x1).bind fun t786=>((spec_l02Of.f k t786 x2).bind fun t790=>(if t790≥1000000 then ((spec_l03Ill.f 9).bind fun bt791=>(some (bt791.1,bt791.2.1,bt791.2.2.1,bt791.2.2.2.1,bt791.2.2.2.2))) else (spec_SetPut.l0 k x1 x2 x3 x4 t790 0 x764000 x764001 t786 ([]:List (S91))))))
def spec_SetPut.l0:Nat→List (S56)→Int→ByteArray→Bool→Int→Int→List (S56)→List (S91)→List (S56)→List (S91)→Option ((List (S56)) × (List (S91)) × Int × Int × Int)
 | 0,_,_,_,_,_,_,_,_,_,_=>none
 | k+1,x1,x2,x3,x4,x12,x13,x764000,x764001,x790000,x790001=>if x13<(x764001.length:Int) then (if 0≤x13 then ((spec_SeenHas.f k x1 ((rd_T91 x764001 x13).f0.f0) ((rd_T91 x764001 x13).f0.f1)).bind fun t801=>(if t801=true then (spec_SetPut.l0 k x1 x2 x3 x4 x12 (wrap64 (x13+1)) x764000 x764001 x790000 x790001) else (if x790001.length<3518437208883 then (spec_SetPut.l0 k x1 x2 x3 x4 x12 (wrap64 (x13+1)) x764000 x764001 x790000 (x790001 ++ [(⟨(⟨(rd_T91 x764001 x13).f0.f0,(rd_T91 x764001 x13).f0.f1⟩:S56),(rd_T91 x764001 x13).f1,(rd_T91 x764001 x13).f2⟩:S91)])) else (none)))) else (none)) else ((spec_l02Join.f k x790000 (([(⟨x2,wrap64 (x12+1)⟩:S56)]:List (S56)))).bind fun t810=>((spec_l03In.f k x790001 x2 (wrap64 (x12+1)) x4 x3).bind fun t813=>(if (t813.length:Int)>8 then ((spec_l03Ill.f 9).bind fun bt816=>(some (bt816.1,bt816.2.1,bt816.2.2.1,bt816.2.2.2.1,bt816.2.2.2.2))) else (some (t810,t813,x2,wrap64 (x12+1),0)))))
end
def spec_SetPut.f (k:Nat) (l0_0:List (S56)) (l0_1:List (S91)) (l1:List (S56)) (a2:Int) (a3:ByteArray) (a4:Bool):Option ((List (S56)) × (List (S91)) × Int × Int × Int):=if (l1.length:Int)>400 then (spec_SetPut.j0 k l1 a2 a3 a4 true l0_0 l0_1) else (spec_SetPut.j0 k l1 a2 a3 a4 (decide ((a3.size:Int)>8000)) l0_0 l0_1)
theorem spec_SetPut.mono_l:∀ k,(∀ y0 y1 y2 y3 y4 y5 y6,LeO (spec_SetPut.j0 k y0 y1 y2 y3 y4 y5 y6) (spec_SetPut.j0 (k+1) y0 y1 y2 y3 y4 y5 y6))∧(∀ y0 y1 y2 y3 y4 y5 y6,LeO (spec_SetPut.j1 k y0 y1 y2 y3 y4 y5 y6) (spec_SetPut.j1 (k+1) y0 y1 y2 y3 y4 y5 y6))∧(∀ y0 y1 y2 y3 y4 y5 y6 y7 y8 y9,LeO (spec_SetPut.l0 k y0 y1 y2 y3 y4 y5 y6 y7 y8 y9) (spec_SetPut.l0 (k+1) y0 y1 y2 y3 y4 y5 y6 y7 y8 y9))
 | 0=>⟨fun _ _ _ _ _ _ _ r h=>by simp [spec_SetPut.j0] at h,fun _ _ _ _ _ _ _ r h=>by simp [spec_SetPut.j1] at h,fun _ _ _ _ _ _ _ _ _ _ r h=>by simp [spec_SetPut.l0] at h⟩
 | k+1=>by
  obtain ⟨ih0,ih1,ih2⟩:=spec_SetPut.mono_l k
  refine ⟨?_,?_,?_⟩
  ·intro y0 y1 y2 y3 y4 y5 y6
   unfold spec_SetPut.j0
   repeat' first
   | (with_reducible exact ih0 _ _ _ _ _ _ _)
   | (with_reducible exact ih1 _ _ _ _ _ _ _)
   | (with_reducible exact ih2 _ _ _ _ _ _ _ _ _ _)
   | (with_reducible exact spec_SeenHas.mono _ _ _ _)
   | (with_reducible exact spec_SeenRight.mono _ _)
   | (with_reducible exact spec_SetRight.mono _ _ _)
   | (with_reducible exact spec_l02Join.mono _ _ _)
   | (with_reducible exact spec_l02Of.mono _ _ _)
   | (with_reducible exact spec_l03In.mono _ _ _ _ _ _)
   | (with_reducible exact LeO.refl _)
   | (with_reducible exact LeO.none _)
   | (with_reducible refine LeO.ite ?_ ?_)
   | (with_reducible refine LeO.bind ?_ (fun _=>?_))
   | exact ih0 _ _ _ _ _ _ _
   | exact ih1 _ _ _ _ _ _ _
   | exact ih2 _ _ _ _ _ _ _ _ _ _
   | exact spec_SeenHas.mono _ _ _ _
   | exact spec_SeenRight.mono _ _
   | exact spec_SetRight.mono _ _ _
   | exact spec_l02Join.mono _ _ _
   | exact spec_l02Of.mono _ _ _
   | exact spec_l03In.mono _ _ _ _ _ _
   | exact LeO.none _
   | refine LeO.ite ?_ ?_
   | refine LeO.bind ?_ (fun _=>?_)
  ·intro y0 y1 y2 y3 y4 y5 y6
   unfold spec_SetPut.j1
   repeat' first
   | (with_reducible exact ih0 _ _ _ _ _ _ _)
   | (with_reducible exact ih1 _ _ _ _ _ _ _)
   | (with_reducible exact ih2 _ _ _ _ _ _ _ _ _ _)
   | (with_reducible exact spec_SeenHas.mono _ _ _ _)
   | (with_reducible exact spec_SeenRight.mono _ _)
   | (with_reducible exact spec_SetRight.mono _ _ _)
   | (with_reducible exact spec_l02Join.mono _ _ _)
   | (with_reducible exact spec_l02Of.mono _ _ _)
   | (with_reducible exact spec_l03In.mono _ _ _ _ _ _)
   | (with_reducible exact LeO.refl _)
   | (with_reducible exact LeO.none _)
   | (with_reducible refine LeO.ite ?_ ?_)
   | (with_reducible refine LeO.bind ?_ (fun _=>?_))
   | exact ih0 _ _ _ _ _ _ _
   | exact ih1 _ _ _ _ _ _ _
   | exact ih2 _ _ _ _ _ _ _ _ _ _
   | exact spec_SeenHas.mono _ _ _ _
   | exact spec_SeenRight.mono _ _
   | exact spec_SetRight.mono _ _ _
   | exact spec_l02Join.mono _ _ _
   | exact spec_l02Of.mono _ _ _
   | exact spec_l03In.mono _ _ _ _ _ _
   | exact LeO.none _
   | refine LeO.ite ?_ ?_
   | refine LeO.bind ?_ (fun _=>?_)
  ·intro y0 y1 y2 y3 y4 y5 y6 y7 y8 y9
   unfold spec_SetPut.l0
   repeat' first
   | (with_reducible exact ih0 _ _ _ _ _ _ _)
   | (with_reducible exact ih1 _ _ _ _ _ _ _)
   | (with_reducible exact ih2 _ _ _ _ _ _ _ _ _ _)
   | (with_reducible exact spec_SeenHas.mono _ _ _ _)
   | (with_reducible exact spec_SeenRight.mono _ _)
   | (with_reducible exact spec_SetRight.mono _ _ _)
   | (with_reducible exact spec_l02Join.mono _ _ _)
   | (with_reducible exact spec_l02Of.mono _ _ _)
   | (with_reducible exact spec_l03In.mono _ _ _ _ _ _)
   | (with_reducible exact LeO.refl _)
   | (with_reducible exact LeO.none _)
   | (with_reducible refine LeO.ite ?_ ?_)
   | (with_reducible refine LeO.bind ?_ (fun _=>?_))
   | exact ih0 _ _ _ _ _ _ _
   | exact ih1 _ _ _ _ _ _ _
   | exact ih2 _ _ _ _ _ _ _ _ _ _
   | exact spec_SeenHas.mono _ _ _ _
   | exact spec_SeenRight.mono _ _
   | exact spec_SetRight.mono _ _ _
   | exact spec_l02Join.mono _ _ _
   | exact spec_l02Of.mono _ _ _
   | exact spec_l03In.mono _ _ _ _ _ _
   | exact LeO.none _
   | refine LeO.ite ?_ ?_
   | refine LeO.bind ?_ (fun _=>?_)
theorem spec_SetPut.mono:∀ a0 a1 a2 a3 a4 a5 k,LeO (spec_SetPut.f k a0 a1 a2 a3 a4 a5) (spec_SetPut.f (k+1) a0 a1 a2 a3 a4 a5):=by
 intro a0 a1 a2 a3 a4 a5 k
 obtain ⟨ih0,ih1,ih2⟩:=spec_SetPut.mono_l k
 unfold spec_SetPut.f
 repeat' first
   | (with_reducible exact ih0 _ _ _ _ _ _ _)
   | (with_reducible exact ih1 _ _ _ _ _ _ _)
   | (with_reducible exact ih2 _ _ _ _ _ _ _ _ _ _)
   | (with_reducible exact spec_SeenHas.mono _ _ _ _)
   | (with_reducible exact spec_SeenRight.mono _ _)
   | (with_reducible exact spec_SetRight.mono _ _ _)
   | (with_reducible exact spec_l02Join.mono _ _ _)
   | (with_reducible exact spec_l02Of.mono _ _ _)
   | (with_reducible exact spec_l03In.mono _ _ _ _ _ _)
   | (with_reducible exact LeO.refl _)
   | (with_reducible exact LeO.none _)
   | (with_reducible refine LeO.ite ?_ ?_)
   | (with_reducible refine LeO.bind ?_ (fun _=>?_))
   | exact ih0 _ _ _ _ _ _ _
   | exact ih1 _ _ _ _ _ _ _
   | exact ih2 _ _ _ _ _ _ _ _ _ _
   | exact spec_SeenHas.mono _ _ _ _
   | exact spec_SeenRight.mono _ _
   | exact spec_SetRight.mono _ _ _
   | exact spec_l02Join.mono _ _ _
   | exact spec_l02Of.mono _ _ _
   | exact spec_l03In.mono _ _ _ _ _ _
   | exact LeO.none _
   | refine LeO.ite ?_ ?_
   | refine LeO.bind ?_ (fun _=>?_)
def spec_SetPut.T13:Bool × List (List Nat × List Nat):=(true,[([],[]),([0],[0]),([],[]),([2],[2]),([],[]),([3,4],[3,4]),([5],[5]),([6],[6]),([1,7],[1,7]),([0,1,2,3,4,5,6,7,8],[]),([9,8,8,0,1,2,3,4,5,6,7,8],[8,9])])
def spec_SetPut.B13:List Nat:=[0,1,0,4,0,28,60,124,255,511,1023]
theorem spec_SetPut.tab13:rtab .any (opsOf Try.f30 13)=spec_SetPut.T13:=by kernel_rfl
theorem spec_SetPut.bits13:waitsOk spec_SetPut.T13.2 spec_SetPut.B13=true:=by kernel_rfl
set_option maxHeartbeats 8000000 in
set_option maxRecDepth 100000 in
theorem spec_SetPut.calls (k:Nat) (A0_0:Option Addr) (c0_0:Nat) (l0_0:List (S56)) (A0_1:Option Addr) (c0_1:Nat) (l0_1:List (S91)) (A1:Option Addr) (c1:Nat) (l1:List (S56)) (a2:Int) (a3:ByteArray) (a4:Bool) (r1:List (S56)) (r2:List (S91)) (r3:Int) (r4:Int) (r5:Int) (w:World) (hr0_0:Kd.C k56 w A0_0 l0_0.length l0_0) (hc0_0:l0_0.length≤c0_0) (hr0_1:Kd.C k91 w A0_1 l0_1.length l0_1) (hc0_1:l0_1.length≤c0_1) (hr1:Kd.C k56 w A1 l1.length l1) (hc1:l1.length≤c1) (h:spec_SetPut.f k l0_0 l0_1 l1 a2 a3 a4=some (r1,r2,r3,r4,r5)) :
  Calls Try.prog 30 #[.agg #[.slice A0_0 l0_0.length c0_0,.slice A0_1 l0_1.length c0_1],.slice A1 l1.length c1,.int .i64 a2,.string a3,.bool a4] w fun e w'=>∃ v0_ v1_:Value,e = .returned (.agg #[v0_,v1_,.int .i64 r3,.int .i64 r4,.int .i64 r5])∧Kd.R k56 56 w' w.heap.size (fun _=>True) v0_ r1∧Kd.R k91 91 w' w.heap.size (fun _=>True) v1_ r2∧Below w.heap.size w w':=by
 have hu40:=Try.underlying40
 have hu58:=Try.underlying58
 have hu56:=Try.underlying56
 have hu91:=Try.underlying91
 have HR0_0:=Aside0.mk hr0_0
 have HC0_0:=Aside0.mk hc0_0
 clear hr0_0 hc0_0
 have HR0_1:=Aside0.mk hr0_1
 have HC0_1:=Aside0.mk hc0_1
 clear hr0_1 hc0_1
 have HR1:=Aside0.mk hr1
 have HC1:=Aside0.mk hc1
 clear hr1 hc1
 have HB:=Aside0.mk (Below.refl w.heap.size w)
 have H:(if (l1.length:Int)>400 then (spec_SetPut.j0 k l1 a2 a3 a4 true l0_0 l0_1) else (spec_SetPut.j0 k l1 a2 a3 a4 (decide ((a3.size:Int)>8000)) l0_0 l0_1))=some (r1,r2,r3,r4,r5):=h
 clear h
 have HC6:=Aside0.mk H
 clear H
 go_enter Try.func30,Try.ntmps30
 go_upto_region 1 with (first | ((with_reducible refine gd_ 5 ?_);(try (refine gate_guard (by rfl) ?_;dsimp only));refine be_ 5 #[.slice A0_0 l0_0.length c0_0,.slice A0_1 l0_1.length c0_1] 40 ?_;intro gb763 hg w7 hbox hb;refine as4_ (below_step (z3_ HB.out) hb) (hbox) ((z7_ HB.out:w.heap.size≤gb763)) ((z7_ HB.out:w.heap.size≤gb763)) ?_;clear HB;intro HB BK763 GW763 GE763;clear hb hbox hg) | ((with_reducible refine gd_ 10 ?_);(try (refine gate_guard (by rfl) ?_;dsimp only));refine be_ 10 #[.slice none 0 0,.slice none 0 0,.int .i64 0,.int .i64 0,.int .i64 0] 58 ?_;intro gb764 hg w8 hbox hb;refine as7_ (blkB_ BK763.out hb) (below_step (z6_ HB.out GE763.out) hb) (hbox) ((z9_ HB.out GE763.out:w.heap.size≤gb764)) ((z9_ HB.out GE763.out:w.heap.size≤gb764)) (neL_ BK763.out hg) (neG_ BK763.out hg) ?_;clear BK763 HB;intro BK763 HB BK764 GW764 GE764 NB763_764 NB764_763;clear hb hbox hg))
 (try simp only [Act.put,sa_,s0_,ss_])
 go_cut [22] (fun v22 wc=>∃ (kq:Nat) (x22_5:Bool),v22 = .bool x22_5∧Aside0 (spec_SetPut.j0 kq l1 a2 a3 a4 x22_5 l0_0 l0_1=some (r1,r2,r3,r4,r5))∧Aside0 (kq≤k)∧Aside0 (wc.heap[gb763]? = some (.cells #[(.slice A0_0 l0_0.length c0_0),(.slice A0_1 l0_1.length c0_1)] 40 (0,0)))∧Aside0 (wc.heap[gb764]? = some (.cells #[(.slice none 0 0),(.slice none 0 0),.int .i64 0,.int .i64 0,.int .i64 0] 58 (0,0)))∧Aside0 (Below w.heap.size w wc))
 case first =>
  have H:=HC6.out
  clear HC6
  by_cases c9:(l1.length:Int)>400
  ·rw [if_pos c9] at H
   have c9b0:decide (400<(l1.length:Int))=true:=decide_eq_true c9
   have c9b1:decide (400<l1.length)=true:=decide_eq_true (by omega)
   clear c9
   (first | rw [c9b0] | (simp only [i64_w,i32_w];rw [c9b0]) | skip)
   have H':=Aside0.mk H
   clear H
   go_wp2
   go_meet
   case rel=>exact ⟨_,(true),(z2_),H',⟨by first | omega | exact Nat.le_refl _⟩,⟨z5_ BK763.out⟩,⟨z5_ BK764.out⟩,⟨z4_ HB.out GE763.out GE764.out⟩⟩
  ·rw [if_neg c9] at H
   have c9b0:decide (400<(l1.length:Int))=false:=decide_eq_false c9
   have c9b1:decide (400<l1.length)=false:=decide_eq_false (by omega)
   clear c9
   (first | rw [c9b0] | (simp only [i64_w,i32_w];rw [c9b0]) | skip)
   have H':=Aside0.mk H
   clear H
   go_wp2
   go_meet
   case rel=>exact ⟨_,(decide ((a3.size:Int)>8000)),(z2_),H',⟨by first | omega | exact Nat.le_refl _⟩,⟨z5_ BK763.out⟩,⟨z5_ BK764.out⟩,⟨z4_ HB.out GE763.out GE764.out⟩⟩
 case rest =>
  clear HC6
  try clear c1
  try clear p2
  try clear c3
  try clear c9
  try clear c9b0
  try clear c9b1
  obtain ⟨kq,x22_5,rfl,HA,HJ5,BK763,BK764,HB⟩:=hcut
  cases kq with
  | zero=>exact absurd HA.out (by simp [spec_SetPut.j0])
  | succ kj5 =>
   have H:=HA.out
   clear HA
   simp only [spec_SetPut.j0] at H
   by_cases c10:x22_5=true
   ·subst c10
    have H1:((spec_l03Ill.f 2).bind fun bt765=>(some (bt765.1,bt765.2.1,bt765.2.2.1,bt765.2.2.2.1,bt765.2.2.2.2)))=some (r1,r2,r3,r4,r5):=by rw [if_pos rfl] at H;exact H
    clear H
    have H:=H1
    clear H1
    replace H:=Option.bind_eq_some_iff.mp H
    obtain ⟨⟨t765,t768,t771,t772,t773⟩,A110,H⟩:=H
    replace H:(some (t765,t768,t771,t772,t773))=some (r1,r2,r3,r4,r5):=H
    have A11:=Aside0.mk A110
    clear A110
    simp only [Option.some.injEq,Prod.mk.injEq] at H
    obtain ⟨rfl,rfl,rfl,rfl,rfl⟩:=H
    go_wp2_with (first | ((with_reducible refine gc_ 60 ?_);refine gl_ (some 23) Try.func60 #[.int .i64 2] ?_;(with_reducible refine (spec_l03Ill.calls 2 t765 t768 t771 t772 t773 _ A11.out).mono ?_);rintro e w12 ⟨v766,v769,rfl,ho0,ho1,hb⟩;refine ⟨_,rfl,?_⟩;refine as5_ (Kd.R_lower ho0 (below_size (z4_ HB.out GE763.out GE764.out))) (Kd.R_lower ho1 (below_size (z4_ HB.out GE763.out GE764.out))) (blkB_ BK763.out hb) (blkB_ BK764.out hb) (below_step (z4_ HB.out GE763.out GE764.out) hb) ?_;clear BK763 BK764 HB;intro HO767 HO770 BK763 BK764 HB;(try clear hb);(try clear ho0);(try clear ho1);obtain ⟨Ao13,co13,eo13⟩:=Kd.R_slice HO767.out;subst eo13;have hnb14:=NB764_763.out;have hnc14:=NB763_764.out;have ⟨hcz15_0,hcz15_1,hcz15_2,hcz15_3,hcz15_4,hfz15_0,hfz15_1,hfz15_2,hfz15_3,hfz15_4⟩:=cz5_ BK764.out;obtain ⟨Ao16,co16,eo16⟩:=Kd.R_slice HO770.out;subst eo16))
    refine bodyPost_ret (results_cell_row rfl _ _ gb764 58 #[.slice Ao13 t765.length co13,.slice Ao16 t768.length co16,.int .i64 t771,.int .i64 t772,.int .i64 t773] (0,0) _ rfl (z24_ BK764.out) Try.underlying58 rfl (by kernel_rfl)) rfl ?_
    exact ⟨_,_,z8_,z27_ HO767.out BK764.out,z27_ HO770.out BK764.out,z4_ HB.out GE763.out GE764.out⟩
   ·replace c10:=Bool.eq_false_iff.mpr c10
    subst c10
    have H1:((spec_SetRight.f kj5 l0_0 l0_1).bind fun t774=>(if t774=true then ((spec_SeenRight.f kj5 l1).bind fun t775=>(if t775=true then ((spec_l02Node.f a2).bind fun t776=>(if t776=true then (if (a3.size:Int)>16 then (spec_SetPut.j1 kj5 l1 a2 a3 a4 true l0_0 l0_1) else (if a4=true then (spec_SetPut.j1 kj5 l1 a2 a3 a4 (a3.toList != ([]:List UInt8)) l0_0 l0_1) else (spec_SetPut.j1 kj5 l1 a2 a3 a4 false l0_0 l0_1))) else (spec_SetPut.j1 kj5 l1 a2 a3 a4 true l0_0 l0_1))) else (spec_SetPut.j1 kj5 l1 a2 a3 a4 true l0_0 l0_1))) else (spec_SetPut.j1 kj5 l1 a2 a3 a4 true l0_0 l0_1)))=some (r1,r2,r3,r4,r5):=by rw [if_neg (show ¬ (false=true) by decide)] at H;exact H
    clear H
    have H:=H1
    clear H1
    have HC17:=Aside0.mk H
    clear H
    go_upto_region 3 with (fail)
    go_cut [48] (fun v48 wc=>∃ (kq:Nat) (x48_16:Bool),v48 = .bool x48_16∧Aside0 (spec_SetPut.j1 kq l1 a2 a3 a4 x48_16 l0_0 l0_1=some (r1,r2,r3,r4,r5))∧Aside0 (kq≤kj5)∧Aside0 (wc.heap[gb763]? = some (.cells #[(.slice A0_0 l0_0.length c0_0),(.slice A0_1 l0_1.length c0_1)] 40 (0,0)))∧Aside0 (wc.heap[gb764]? = some (.cells #[(.slice none 0 0),(.slice none 0 0),.int .i64 0,.int .i64 0,.int .i64 0] 58 (0,0)))∧Aside0 (Below w.heap.size w wc))
    case first =>
     have H:=HC17.out
     clear HC17
     replace H:=Option.bind_eq_some_iff.mp H
     obtain ⟨t774,A180,H⟩:=H
     replace H:(if t774=true then ((spec_SeenRight.f kj5 l1).bind fun t775=>(if t775=true then ((spec_l02Node.f a2).bind fun t776=>(if t776=true then (if (a3.size:Int)>16 then (spec_SetPut.j1 kj5 l1 a2 a3 a4 true l0_0 l0_1) else (if a4=true then (spec_SetPut.j1 kj5 l1 a2 a3 a4 (a3.toList != ([]:List UInt8)) l0_0 l0_1) else (spec_SetPut.j1 kj5 l1 a2 a3 a4 false l0_0 l0_1))) else (spec_SetPut.j1 kj5 l1 a2 a3 a4 true l0_0 l0_1))) else (spec_SetPut.j1 kj5 l1 a2 a3 a4 true l0_0 l0_1))) else (spec_SetPut.j1 kj5 l1 a2 a3 a4 true l0_0 l0_1))=some (r1,r2,r3,r4,r5):=H
     have A18:=Aside0.mk A180
     clear A180
     by_cases c19:t774=true
     ·subst c19
      have H1:((spec_SeenRight.f kj5 l1).bind fun t775=>(if t775=true then ((spec_l02Node.f a2).bind fun t776=>(if t776=true then (if (a3.size:Int)>16 then (spec_SetPut.j1 kj5 l1 a2 a3 a4 true l0_0 l0_1) else (if a4=true then (spec_SetPut.j1 kj5 l1 a2 a3 a4 (a3.toList != ([]:List UInt8)) l0_0 l0_1) else (spec_SetPut.j1 kj5 l1 a2 a3 a4 false l0_0 l0_1))) else (spec_SetPut.j1 kj5 l1 a2 a3 a4 true l0_0 l0_1))) else (spec_SetPut.j1 kj5 l1 a2 a3 a4 true l0_0 l0_1)))=some (r1,r2,r3,r4,r5):=by rw [if_pos rfl] at H;exact H
      clear H
      have H:=H1
      clear H1
      replace H:=Option.bind_eq_some_iff.mp H
      obtain ⟨t775,A200,H⟩:=H
      replace H:(if t775=true then ((spec_l02Node.f a2).bind fun t776=>(if t776=true then (if (a3.size:Int)>16 then (spec_SetPut.j1 kj5 l1 a2 a3 a4 true l0_0 l0_1) else (if a4=true then (spec_SetPut.j1 kj5 l1 a2 a3 a4 (a3.toList != ([]:List UInt8)) l0_0 l0_1) else (spec_SetPut.j1 kj5 l1 a2 a3 a4 false l0_0 l0_1))) else (spec_SetPut.j1 kj5 l1 a2 a3 a4 true l0_0 l0_1))) else (spec_SetPut.j1 kj5 l1 a2 a3 a4 true l0_0 l0_1))=some (r1,r2,r3,r4,r5):=H
      have A20:=Aside0.mk A200
      clear A200
      by_cases c21:t775=true
      ·subst c21
       have H1:((spec_l02Node.f a2).bind fun t776=>(if t776=true then (if (a3.size:Int)>16 then (spec_SetPut.j1 kj5 l1 a2 a3 a4 true l0_0 l0_1) else (if a4=true then (spec_SetPut.j1 kj5 l1 a2 a3 a4 (a3.toList != ([]:List UInt8)) l0_0 l0_1) else (spec_SetPut.j1 kj5 l1 a2 a3 a4 false l0_0 l0_1))) else (spec_SetPut.j1 kj5 l1 a2 a3 a4 true l0_0 l0_1)))=some (r1,r2,r3,r4,r5):=by rw [if_pos rfl] at H;exact H
       clear H
       have H:=H1
       clear H1
       replace H:=Option.bind_eq_some_iff.mp H
       obtain ⟨t776,A220,H⟩:=H
       replace H:(if t776=true then (if (a3.size:Int)>16 then (spec_SetPut.j1 kj5 l1 a2 a3 a4 true l0_0 l0_1) else (if a4=true then (spec_SetPut.j1 kj5 l1 a2 a3 a4 (a3.toList != ([]:List UInt8)) l0_0 l0_1) else (spec_SetPut.j1 kj5 l1 a2 a3 a4 false l0_0 l0_1))) else (spec_SetPut.j1 kj5 l1 a2 a3 a4 true l0_0 l0_1))=some (r1,r2,r3,r4,r5):=H
       have A22:=Aside0.mk A220
       clear A220
       by_cases c23:t776=true
       ·subst c23
        have H1:(if (a3.size:Int)>16 then (spec_SetPut.j1 kj5 l1 a2 a3 a4 true l0_0 l0_1) else (if a4=true then (spec_SetPut.j1 kj5 l1 a2 a3 a4 (a3.toList != ([]:List UInt8)) l0_0 l0_1) else (spec_SetPut.j1 kj5 l1 a2 a3 a4 false l0_0 l0_1)))=some (r1,r2,r3,r4,r5):=by rw [if_pos rfl] at H;exact H
        clear H
        have H:=H1
        clear H1
        by_cases c24:(a3.size:Int)>16
        ·rw [if_pos c24] at H
         have c24b0:decide (16<(a3.size:Int))=true:=decide_eq_true c24
         have c24b1:decide (16<a3.size)=true:=decide_eq_true (by omega)
         clear c24
         (first | rw [c24b0] | (simp only [i64_w,i32_w];rw [c24b0]) | skip)
         have H':=Aside0.mk H
         clear H
         have hnb25:=NB763_764.out
         have hnc25:=NB764_763.out
         have ⟨hcz26_0,hcz26_1,hfz26_0,hfz26_1⟩:=cz2_ BK763.out
         go_wp2_with (first | ((with_reducible refine gc_ 51 ?_);refine gl_ (some 25) Try.func51 #[.agg #[.slice A0_0 l0_0.length c0_0,.slice A0_1 l0_1.length c0_1]] ?_;(with_reducible refine (spec_SetRight.calls kj5 _ _ l0_0 _ _ l0_1 true _ ?s1 ?s2 ?s3 ?s4 A18.out).mono ?_);(case s1=>repeat (first | exact (Kd.C_below HR0_0.out HB.out) | (with_reducible refine Kd.C_alloc ?_ _) | (with_reducible refine Kd.C_drewN ?_ _) | (with_reducible refine Kd.C_drew ?_)));(case s2=>exact HC0_0.out);(case s3=>repeat (first | exact (Kd.C_below HR0_1.out HB.out) | (with_reducible refine Kd.C_alloc ?_ _) | (with_reducible refine Kd.C_drewN ?_ _) | (with_reducible refine Kd.C_drew ?_)));(case s4=>exact HC0_1.out);rintro e w27 ⟨rfl,hb⟩;refine ⟨_,rfl,?_⟩;refine as3_ (blkB_ BK763.out hb) (blkB_ BK764.out hb) (below_step (z4_ HB.out GE763.out GE764.out) hb) ?_;clear BK763 BK764 HB;intro BK763 BK764 HB;(try clear hb)) | (go_at_call 68;(with_reducible refine (spec_SeenRight.calls kj5 _ _ l1 true _ ?s1 ?s2 A20.out).mono ?_);(case s1=>repeat (first | exact (Kd.C_below HR1.out HB.out) | (with_reducible refine Kd.C_alloc ?_ _) | (with_reducible refine Kd.C_drewN ?_ _) | (with_reducible refine Kd.C_drew ?_)));(case s2=>exact HC1.out);rintro e w28 ⟨rfl,hb⟩;refine as3_ (blkB_ BK763.out hb) (blkB_ BK764.out hb) (below_step (z4_ HB.out GE763.out GE764.out) hb) ?_;clear BK763 BK764 HB;intro BK763 BK764 HB;(try clear hb)) | (go_at_call 69;(with_reducible refine (spec_l02Node.calls a2 true _ A22.out).mono ?_);rintro e w' ⟨rfl,⟨nd,rfl⟩⟩))
         go_meet
         case rel=>exact ⟨_,(true),(z2_),H',⟨z23_ HJ5.out⟩,⟨z5_ BK763.out⟩,⟨z5_ BK764.out⟩,⟨z4_ HB.out GE763.out GE764.out⟩⟩
        ·rw [if_neg c24] at H
         have c24b0:decide (16<(a3.size:Int))=false:=decide_eq_false c24
         have c24b1:decide (16<a3.size)=false:=decide_eq_false (by omega)
         clear c24
         (first | rw [c24b0] | (simp only [i64_w,i32_w];rw [c24b0]) | skip)
         by_cases c29:a4=true
         ·subst c29
          have H1:(spec_SetPut.j1 kj5 l1 a2 a3 true (a3.toList != ([]:List UInt8)) l0_0 l0_1)=some (r1,r2,r3,r4,r5):=by rw [if_pos rfl] at H;exact H
          clear H
          have H:=H1
          clear H1
          have H':=Aside0.mk H
          clear H
          have hnb30:=NB763_764.out
          have hnc30:=NB764_763.out
          have ⟨hcz31_0,hcz31_1,hfz31_0,hfz31_1⟩:=cz2_ BK763.out
          go_wp2_with (first | ((with_reducible refine gc_ 51 ?_);refine gl_ (some 25) Try.func51 #[.agg #[.slice A0_0 l0_0.length c0_0,.slice A0_1 l0_1.length c0_1]] ?_;(with_reducible refine (spec_SetRight.calls kj5 _ _ l0_0 _ _ l0_1 true _ ?s1 ?s2 ?s3 ?s4 A18.out).mono ?_);(case s1=>repeat (first | exact (Kd.C_below HR0_0.out HB.out) | (with_reducible refine Kd.C_alloc ?_ _) | (with_reducible refine Kd.C_drewN ?_ _) | (with_reducible refine Kd.C_drew ?_)));(case s2=>exact HC0_0.out);(case s3=>repeat (first | exact (Kd.C_below HR0_1.out HB.out) | (with_reducible refine Kd.C_alloc ?_ _) | (with_reducible refine Kd.C_drewN ?_ _) | (with_reducible refine Kd.C_drew ?_)));(case s4=>exact HC0_1.out);rintro e w32 ⟨rfl,hb⟩;refine ⟨_,rfl,?_⟩;refine as3_ (blkB_ BK763.out hb) (blkB_ BK764.out hb) (below_step (z4_ HB.out GE763.out GE764.out) hb) ?_;clear BK763 BK764 HB;intro BK763 BK764 HB;(try clear hb)) | (go_at_call 68;(with_reducible refine (spec_SeenRight.calls kj5 _ _ l1 true _ ?s1 ?s2 A20.out).mono ?_);(case s1=>repeat (first | exact (Kd.C_below HR1.out HB.out) | (with_reducible refine Kd.C_alloc ?_ _) | (with_reducible refine Kd.C_drewN ?_ _) | (with_reducible refine Kd.C_drew ?_)));(case s2=>exact HC1.out);rintro e w33 ⟨rfl,hb⟩;refine as3_ (blkB_ BK763.out hb) (blkB_ BK764.out hb) (below_step (z4_ HB.out GE763.out GE764.out) hb) ?_;clear BK763 BK764 HB;intro BK763 BK764 HB;(try clear hb)) | (go_at_call 69;(with_reducible refine (spec_l02Node.calls a2 true _ A22.out).mono ?_);rintro e w' ⟨rfl,⟨nd,rfl⟩⟩))
          go_meet
          case rel=>exact ⟨_,((a3.toList != ([]:List UInt8))),(z2_),H',⟨z23_ HJ5.out⟩,⟨z5_ BK763.out⟩,⟨z5_ BK764.out⟩,⟨z4_ HB.out GE763.out GE764.out⟩⟩
         ·replace c29:=Bool.eq_false_iff.mpr c29
          subst c29
          have H1:(spec_SetPut.j1 kj5 l1 a2 a3 false false l0_0 l0_1)=some (r1,r2,r3,r4,r5):=by rw [if_neg (show ¬ (false=true) by decide)] at H;exact H
          clear H
          have H:=H1
          clear H1
          have H':=Aside0.mk H
          clear H
          have hnb34:=NB763_764.out
          have hnc34:=NB764_763.out
          have ⟨hcz35_0,hcz35_1,hfz35_0,hfz35_1⟩:=cz2_ BK763.out
          go_wp2_with (first | ((with_reducible refine gc_ 51 ?_);refine gl_ (some 25) Try.func51 #[.agg #[.slice A0_0 l0_0.length c0_0,.slice A0_1 l0_1.length c0_1]] ?_;(with_reducible refine (spec_SetRight.calls kj5 _ _ l0_0 _ _ l0_1 true _ ?s1 ?s2 ?s3 ?s4 A18.out).mono ?_);(case s1=>repeat (first | exact (Kd.C_below HR0_0.out HB.out) | (with_reducible refine Kd.C_alloc ?_ _) | (with_reducible refine Kd.C_drewN ?_ _) | (with_reducible refine Kd.C_drew ?_)));(case s2=>exact HC0_0.out);(case s3=>repeat (first | exact (Kd.C_below HR0_1.out HB.out) | (with_reducible refine Kd.C_alloc ?_ _) | (with_reducible refine Kd.C_drewN ?_ _) | (with_reducible refine Kd.C_drew ?_)));(case s4=>exact HC0_1.out);rintro e w36 ⟨rfl,hb⟩;refine ⟨_,rfl,?_⟩;refine as3_ (blkB_ BK763.out hb) (blkB_ BK764.out hb) (below_step (z4_ HB.out GE763.out GE764.out) hb) ?_;clear BK763 BK764 HB;intro BK763 BK764 HB;(try clear hb)) | (go_at_call 68;(with_reducible refine (spec_SeenRight.calls kj5 _ _ l1 true _ ?s1 ?s2 A20.out).mono ?_);(case s1=>repeat (first | exact (Kd.C_below HR1.out HB.out) | (with_reducible refine Kd.C_alloc ?_ _) | (with_reducible refine Kd.C_drewN ?_ _) | (with_reducible refine Kd.C_drew ?_)));(case s2=>exact HC1.out);rintro e w37 ⟨rfl,hb⟩;refine as3_ (blkB_ BK763.out hb) (blkB_ BK764.out hb) (below_step (z4_ HB.out GE763.out GE764.out) hb) ?_;clear BK763 BK764 HB;intro BK763 BK764 HB;(try clear hb)) | (go_at_call 69;(with_reducible refine (spec_l02Node.calls a2 true _ A22.out).mono ?_);rintro e w' ⟨rfl,⟨nd,rfl⟩⟩))
          go_meet
          case rel=>exact ⟨_,(false),(z2_),H',⟨z23_ HJ5.out⟩,⟨z5_ BK763.out⟩,⟨z5_ BK764.out⟩,⟨z4_ HB.out GE763.out GE764.out⟩⟩
       ·replace c23:=Bool.eq_false_iff.mpr c23
        subst c23
        have H1:(spec_SetPut.j1 kj5 l1 a2 a3 a4 true l0_0 l0_1)=some (r1,r2,r3,r4,r5):=by rw [if_neg (show ¬ (false=true) by decide)] at H;exact H
        clear H
        have H:=H1
        clear H1
        have H':=Aside0.mk H
        clear H
        have hnb38:=NB763_764.out
        have hnc38:=NB764_763.out
        have ⟨hcz39_0,hcz39_1,hfz39_0,hfz39_1⟩:=cz2_ BK763.out
        go_wp2_with (first | ((with_reducible refine gc_ 51 ?_);refine gl_ (some 25) Try.func51 #[.agg #[.slice A0_0 l0_0.length c0_0,.slice A0_1 l0_1.length c0_1]] ?_;(with_reducible refine (spec_SetRight.calls kj5 _ _ l0_0 _ _ l0_1 true _ ?s1 ?s2 ?s3 ?s4 A18.out).mono ?_);(case s1=>repeat (first | exact (Kd.C_below HR0_0.out HB.out) | (with_reducible refine Kd.C_alloc ?_ _) | (with_reducible refine Kd.C_drewN ?_ _) | (with_reducible refine Kd.C_drew ?_)));(case s2=>exact HC0_0.out);(case s3=>repeat (first | exact (Kd.C_below HR0_1.out HB.out) | (with_reducible refine Kd.C_alloc ?_ _) | (with_reducible refine Kd.C_drewN ?_ _) | (with_reducible refine Kd.C_drew ?_)));(case s4=>exact HC0_1.out);rintro e w40 ⟨rfl,hb⟩;refine ⟨_,rfl,?_⟩;refine as3_ (blkB_ BK763.out hb) (blkB_ BK764.out hb) (below_step (z4_ HB.out GE763.out GE764.out) hb) ?_;clear BK763 BK764 HB;intro BK763 BK764 HB;(try clear hb)) | (go_at_call 68;(with_reducible refine (spec_SeenRight.calls kj5 _ _ l1 true _ ?s1 ?s2 A20.out).mono ?_);(case s1=>repeat (first | exact (Kd.C_below HR1.out HB.out) | (with_reducible refine Kd.C_alloc ?_ _) | (with_reducible refine Kd.C_drewN ?_ _) | (with_reducible refine Kd.C_drew ?_)));(case s2=>exact HC1.out);rintro e w41 ⟨rfl,hb⟩;refine as3_ (blkB_ BK763.out hb) (blkB_ BK764.out hb) (below_step (z4_ HB.out GE763.out GE764.out) hb) ?_;clear BK763 BK764 HB;intro BK763 BK764 HB;(try clear hb)) | (go_at_call 69;(with_reducible refine (spec_l02Node.calls a2 false _ A22.out).mono ?_);rintro e w' ⟨rfl,⟨nd,rfl⟩⟩))
        go_meet
        case rel=>exact ⟨_,(true),(z2_),H',⟨z23_ HJ5.out⟩,⟨z5_ BK763.out⟩,⟨z5_ BK764.out⟩,⟨z4_ HB.out GE763.out GE764.out⟩⟩
      ·replace c21:=Bool.eq_false_iff.mpr c21
       subst c21
       have H1:(spec_SetPut.j1 kj5 l1 a2 a3 a4 true l0_0 l0_1)=some (r1,r2,r3,r4,r5):=by rw [if_neg (show ¬ (false=true) by decide)] at H;exact H
       clear H
       have H:=H1
       clear H1
       have H':=Aside0.mk H
       clear H
       have hnb42:=NB763_764.out
       have hnc42:=NB764_763.out
       have ⟨hcz43_0,hcz43_1,hfz43_0,hfz43_1⟩:=cz2_ BK763.out
       go_wp2_with (first | ((with_reducible refine gc_ 51 ?_);refine gl_ (some 25) Try.func51 #[.agg #[.slice A0_0 l0_0.length c0_0,.slice A0_1 l0_1.length c0_1]] ?_;(with_reducible refine (spec_SetRight.calls kj5 _ _ l0_0 _ _ l0_1 true _ ?s1 ?s2 ?s3 ?s4 A18.out).mono ?_);(case s1=>repeat (first | exact (Kd.C_below HR0_0.out HB.out) | (with_reducible refine Kd.C_alloc ?_ _) | (with_reducible refine Kd.C_drewN ?_ _) | (with_reducible refine Kd.C_drew ?_)));(case s2=>exact HC0_0.out);(case s3=>repeat (first | exact (Kd.C_below HR0_1.out HB.out) | (with_reducible refine Kd.C_alloc ?_ _) | (with_reducible refine Kd.C_drewN ?_ _) | (with_reducible refine Kd.C_drew ?_)));(case s4=>exact HC0_1.out);rintro e w44 ⟨rfl,hb⟩;refine ⟨_,rfl,?_⟩;refine as3_ (blkB_ BK763.out hb) (blkB_ BK764.out hb) (below_step (z4_ HB.out GE763.out GE764.out) hb) ?_;clear BK763 BK764 HB;intro BK763 BK764 HB;(try clear hb)) | (go_at_call 68;(with_reducible refine (spec_SeenRight.calls kj5 _ _ l1 false _ ?s1 ?s2 A20.out).mono ?_);(case s1=>repeat (first | exact (Kd.C_below HR1.out HB.out) | (with_reducible refine Kd.C_alloc ?_ _) | (with_reducible refine Kd.C_drewN ?_ _) | (with_reducible refine Kd.C_drew ?_)));(case s2=>exact HC1.out);rintro e w45 ⟨rfl,hb⟩;refine as3_ (blkB_ BK763.out hb) (blkB_ BK764.out hb) (below_step (z4_ HB.out GE763.out GE764.out) hb) ?_;clear BK763 BK764 HB;intro BK763 BK764 HB;(try clear hb)))
       go_meet
       case rel=>exact ⟨_,(true),(z2_),H',⟨z23_ HJ5.out⟩,⟨z5_ BK763.out⟩,⟨z5_ BK764.out⟩,⟨z4_ HB.out GE763.out GE764.out⟩⟩
     ·replace c19:=Bool.eq_false_iff.mpr c19
      subst c19
      have H1:(spec_SetPut.j1 kj5 l1 a2 a3 a4 true l0_0 l0_1)=some (r1,r2,r3,r4,r5):=by rw [if_neg (show ¬ (false=true) by decide)] at H;exact H
      clear H
      have H:=H1
      clear H1
      have H':=Aside0.mk H
      clear H
      have hnb46:=NB763_764.out
      have hnc46:=NB764_763.out
      have ⟨hcz47_0,hcz47_1,hfz47_0,hfz47_1⟩:=cz2_ BK763.out
      go_wp2_with (first | ((with_reducible refine gc_ 51 ?_);refine gl_ (some 25) Try.func51 #[.agg #[.slice A0_0 l0_0.length c0_0,.slice A0_1 l0_1.length c0_1]] ?_;(with_reducible refine (spec_SetRight.calls kj5 _ _ l0_0 _ _ l0_1 false _ ?s1 ?s2 ?s3 ?s4 A18.out).mono ?_);(case s1=>repeat (first | exact (Kd.C_below HR0_0.out HB.out) | (with_reducible refine Kd.C_alloc ?_ _) | (with_reducible refine Kd.C_drewN ?_ _) | (with_reducible refine Kd.C_drew ?_)));(case s2=>exact HC0_0.out);(case s3=>repeat (first | exact (Kd.C_below HR0_1.out HB.out) | (with_reducible refine Kd.C_alloc ?_ _) | (with_reducible refine Kd.C_drewN ?_ _) | (with_reducible refine Kd.C_drew ?_)));(case s4=>exact HC0_1.out);rintro e w48 ⟨rfl,hb⟩;refine ⟨_,rfl,?_⟩;refine as3_ (blkB_ BK763.out hb) (blkB_ BK764.out hb) (below_step (z4_ HB.out GE763.out GE764.out) hb) ?_;clear BK763 BK764 HB;intro BK763 BK764 HB;(try clear hb)))
      go_meet
      case rel=>exact ⟨_,(true),(z2_),H',⟨z23_ HJ5.out⟩,⟨z5_ BK763.out⟩,⟨z5_ BK764.out⟩,⟨z4_ HB.out GE763.out GE764.out⟩⟩
    case rest =>
     clear HC17
     try clear c1
     try clear c2
     try clear p2
     try clear c3
     try clear c4
     try clear c5
     try clear c6
     try clear c9
     try clear c9b0
     try clear c9b1
     try clear c10
     try clear c14
     try clear c19
     try clear c21
     try clear c23
     try clear c24
     try clear c24b0
     try clear c24b1
     try clear c25
     try clear c29
     try clear c30
     try clear c34
     try clear c38
     try clear c42
     try clear c46
     try clear hcz15_0
     try clear hcz15_1
     try clear hcz15_2
     try clear hcz15_3
     try clear hcz15_4
     try clear hcz26_0
     try clear hcz26_1
     try clear hcz31_0
     try clear hcz31_1
     try clear hcz35_0
     try clear hcz35_1
     try clear hcz39_0
     try clear hcz39_1
     try clear hcz43_0
     try clear hcz43_1
     try clear hcz47_0
     try clear hcz47_1
     try clear hfz15_0
     try clear hfz15_1
     try clear hfz15_2
     try clear hfz15_3
     try clear hfz15_4
     try clear hfz26_0
     try clear hfz26_1
     try clear hfz31_0
     try clear hfz31_1
     try clear hfz35_0
     try clear hfz35_1
     try clear hfz39_0
     try clear hfz39_1
     try clear hfz43_0
     try clear hfz43_1
     try clear hfz47_0
     try clear hfz47_1
     try clear p2
     obtain ⟨kq,x48_16,rfl,HA,HJ16,BK763,BK764,HB⟩:=hcut
     cases kq with
     | zero=>exact absurd HA.out (by simp [spec_SetPut.j1])
     | succ kj16 =>
      have H:=HA.out
      clear HA
      simp only [spec_SetPut.j1] at H
      by_cases c49:x48_16=true
      ·subst c49
       have H1:((spec_l03Ill.f 1).bind fun bt777=>(some (bt777.1,bt777.2.1,bt777.2.2.1,bt777.2.2.2.1,bt777.2.2.2.2)))=some (r1,r2,r3,r4,r5):=by rw [if_pos rfl] at H;exact H
       clear H
       have H:=H1
       clear H1
       replace H:=Option.bind_eq_some_iff.mp H
       obtain ⟨⟨t777,t780,t783,t784,t785⟩,A500,H⟩:=H
       replace H:(some (t777,t780,t783,t784,t785))=some (r1,r2,r3,r4,r5):=H
       have A50:=Aside0.mk A500
       clear A500
       simp only [Option.some.injEq,Prod.mk.injEq] at H
       obtain ⟨rfl,rfl,rfl,rfl,rfl⟩:=H
       go_wp2_with (first | ((with_reducible refine gc_ 60 ?_);refine gl_ (some 49) Try.func60 #[.int .i64 1] ?_;(with_reducible refine (spec_l03Ill.calls 1 t777 t780 t783 t784 t785 _ A50.out).mono ?_);rintro e w51 ⟨v778,v781,rfl,ho0,ho1,hb⟩;refine ⟨_,rfl,?_⟩;refine as5_ (Kd.R_lower ho0 (below_size (z4_ HB.out GE763.out GE764.out))) (Kd.R_lower ho1 (below_size (z4_ HB.out GE763.out GE764.out))) (blkB_ BK763.out hb) (blkB_ BK764.out hb) (below_step (z4_ HB.out GE763.out GE764.out) hb) ?_;clear BK763 BK764 HB;intro HO779 HO782 BK763 BK764 HB;(try clear hb);(try clear ho0);(try clear ho1);obtain ⟨Ao52,co52,eo52⟩:=Kd.R_slice HO779.out;subst eo52;have hnb53:=NB764_763.out;have hnc53:=NB763_764.out;have ⟨hcz54_0,hcz54_1,hcz54_2,hcz54_3,hcz54_4,hfz54_0,hfz54_1,hfz54_2,hfz54_3,hfz54_4⟩:=cz5_ BK764.out;obtain ⟨Ao55,co55,eo55⟩:=Kd.R_slice HO782.out;subst eo55))
       refine bodyPost_ret (results_cell_row rfl _ _ gb764 58 #[.slice Ao52 t777.length co52,.slice Ao55 t780.length co55,.int .i64 t783,.int .i64 t784,.int .i64 t785] (0,0) _ rfl (z24_ BK764.out) Try.underlying58 rfl (by kernel_rfl)) rfl ?_
       exact ⟨_,_,z8_,z27_ HO779.out BK764.out,z27_ HO782.out BK764.out,z4_ HB.out GE763.out GE764.out⟩
      ·replace c49:=Bool.eq_false_iff.mpr c49
       subst c49
       have H1:((spec_l02Join.f kj16 l0_0 l1).bind fun t786=>((spec_l02Of.f kj16 t786 a2).bind fun t790=>(if t790≥1000000 then ((spec_l03Ill.f 9).bind fun bt791=>(some (bt791.1,bt791.2.1,bt791.2.2.1,bt791.2.2.2.1,bt791.2.2.2.2))) else (spec_SetPut.l0 kj16 l1 a2 a3 a4 t790 0 l0_0 l0_1 t786 ([]:List (S91))))))=some (r1,r2,r3,r4,r5):=by rw [if_neg (show ¬ (false=true) by decide)] at H;exact H
       clear H
       have H:=H1
       clear H1
       replace H:=Option.bind_eq_some_iff.mp H
       obtain ⟨t786,A560,H⟩:=H
       replace H:((spec_l02Of.f kj16 t786 a2).bind fun t790=>(if t790≥1000000 then ((spec_l03Ill.f 9).bind fun bt791=>(some (bt791.1,bt791.2.1,bt791.2.2.1,bt791.2.2.2.1,bt791.2.2.2.2))) else (spec_SetPut.l0 kj16 l1 a2 a3 a4 t790 0 l0_0 l0_1 t786 ([]:List (S91)))))=some (r1,r2,r3,r4,r5):=H
       have A56:=Aside0.mk A560
       clear A560
       replace H:=Option.bind_eq_some_iff.mp H
       obtain ⟨t790,A570,H⟩:=H
       replace H:(if t790≥1000000 then ((spec_l03Ill.f 9).bind fun bt791=>(some (bt791.1,bt791.2.1,bt791.2.2.1,bt791.2.2.2.1,bt791.2.2.2.2))) else (spec_SetPut.l0 kj16 l1 a2 a3 a4 t790 0 l0_0 l0_1 t786 ([]:List (S91))))=some (r1,r2,r3,r4,r5):=H
       have A57:=Aside0.mk A570
       clear A570
       by_cases c58:t790≥1000000
       ·rw [if_pos c58] at H
        have c58b0:decide (1000000≤t790)=true:=decide_eq_true c58
        clear c58
        replace H:=Option.bind_eq_some_iff.mp H
        obtain ⟨⟨t791,t794,t797,t798,t799⟩,A590,H⟩:=H
        replace H:(some (t791,t794,t797,t798,t799))=some (r1,r2,r3,r4,r5):=H
        have A59:=Aside0.mk A590
        clear A590
        simp only [Option.some.injEq,Prod.mk.injEq] at H
        obtain ⟨rfl,rfl,rfl,rfl,rfl⟩:=H
        have hnb60:=NB763_764.out
        have hnc60:=NB764_763.out
        have ⟨hcz61_0,hcz61_1,hfz61_0,hfz61_1⟩:=cz2_ BK763.out
        go_wp2_with (first | ((with_reducible refine gc_ 70 ?_);refine gl_ (some 53) Try.func70 #[.slice A0_0 l0_0.length c0_0,.slice A1 l1.length c1] ?_;(with_reducible refine (spec_l02Join.calls kj16 _ _ l0_0 _ _ l1 t786 _ ?s1 ?s2 ?s3 ?s4 A56.out).mono ?_);(case s1=>repeat (first | exact (Kd.C_below HR0_0.out HB.out) | (with_reducible refine Kd.C_alloc ?_ _) | (with_reducible refine Kd.C_drewN ?_ _) | (with_reducible refine Kd.C_drew ?_)));(case s2=>exact HC0_0.out);(case s3=>repeat (first | exact (Kd.C_below HR1.out HB.out) | (with_reducible refine Kd.C_alloc ?_ _) | (with_reducible refine Kd.C_drewN ?_ _) | (with_reducible refine Kd.C_drew ?_)));(case s4=>exact HC1.out);rintro e w62 ⟨v787,rfl,ho0,hb⟩;refine ⟨_,rfl,?_⟩;refine as4_ (Kd.R_lower ho0 (below_size (z4_ HB.out GE763.out GE764.out))) (blkB_ BK763.out hb) (blkB_ BK764.out hb) (below_step (z4_ HB.out GE763.out GE764.out) hb) ?_;clear BK763 BK764 HB;intro HO788 BK763 BK764 HB;(try clear hb);(try clear ho0);obtain ⟨Ao63,co63,eo63⟩:=Kd.R_slice HO788.out;subst eo63) | ((with_reducible refine gd_ 11 ?_);(try (refine gate_guard (by rfl) ?_;dsimp only));refine be_ 11 #[.slice none 0 0,.slice none 0 0] 40 ?_;intro gb789 hg w64 hbox hb;refine as11_ (Kd.R_below (z0_ HO788.out) hb) (blkB_ BK763.out hb) (blkB_ BK764.out hb) (below_step (z4_ HB.out GE763.out GE764.out) hb) (hbox) ((z20_ HB.out GE763.out GE764.out:w.heap.size≤gb789)) ((z20_ HB.out GE763.out GE764.out:w.heap.size≤gb789)) (neL_ BK763.out hg) (neG_ BK763.out hg) (neL_ BK764.out hg) (neG_ BK764.out hg) ?_;clear HO788 BK763 BK764 HB;intro HO788 BK763 BK764 HB BK789 GW789 GE789 NB763_789 NB789_763 NB764_789 NB789_764;clear hb hbox hg;have hnb65:=NB789_763.out;have hnc65:=NB763_789.out;have hnb66:=NB789_764.out;have hnc66:=NB764_789.out;have ⟨hcz67_0,hcz67_1,hfz67_0,hfz67_1⟩:=cz2_ BK789.out) | ((with_reducible refine gc_ 71 ?_);refine gl_ (some 58) Try.func71 #[.slice Ao63 t786.length co63,.int .i64 a2] ?_;(with_reducible refine (spec_l02Of.calls kj16 _ _ t786 a2 t790 _ ?s1 ?s2 A57.out).mono ?_);(case s1=>refine (Kd.R_reads' (e:=56) (base:=w.heap.size) (ok:=fun k_=>True) (n:=t786.length) (c:=co63) ?_).2.2;exact (z17_ HO788.out BK789.out));(case s2=>exact (Kd.R_reads' HO788.out).2.1);rintro e w' ⟨rfl,⟨nd,rfl⟩⟩;refine ⟨_,rfl,?_⟩) | ((with_reducible refine gc_ 60 ?_);refine gl_ (some 61) Try.func60 #[.int .i64 9] ?_;(with_reducible refine (spec_l03Ill.calls 9 t791 t794 t797 t798 t799 _ A59.out).mono ?_);rintro e w68 ⟨v792,v795,rfl,ho0,ho1,hb⟩;refine ⟨_,rfl,?_⟩;refine as7_ (Kd.R_elder' (z17_ HO788.out BK789.out) (Kd.R_base ho0) hb) (Kd.R_lower (Kd.R_new' ho0 (Kd.R_lt (z17_ HO788.out BK789.out))) (below_size (z13_ HB.out GE763.out GE764.out GE789.out))) (Kd.R_lower ho1 (below_size (z13_ HB.out GE763.out GE764.out GE789.out))) (blk_below (g:=gb763) (o:=.cells #[.slice A0_0 l0_0.length c0_0,.slice A0_1 l0_1.length c0_1] 40 (0,0)) (z18_ NB763_789.out BK763.out) hb) (blk_below (g:=gb764) (o:=.cells #[.slice none 0 0,.slice none 0 0,.int .i64 0,.int .i64 0,.int .i64 0] 58 (0,0)) (z18_ NB764_789.out BK764.out) hb) (blk_below (g:=gb789) (o:=.cells #[.slice Ao63 t786.length co63,.slice none 0 0] 40 (0,0)) (z21_ BK789.out) hb) (below_step (z13_ HB.out GE763.out GE764.out GE789.out) hb) ?_;clear HO788 BK763 BK764 BK789 HB;intro HO788 HO793 HO796 BK763 BK764 BK789 HB;(try clear hb);(try clear hk);(try clear ho0);(try clear ho1);obtain ⟨Ao69,co69,eo69⟩:=Kd.R_slice HO793.out;subst eo69;have ⟨hcz70_0,hcz70_1,hcz70_2,hcz70_3,hcz70_4,hfz70_0,hfz70_1,hfz70_2,hfz70_3,hfz70_4⟩:=cz5_ BK764.out;obtain ⟨Ao71,co71,eo71⟩:=Kd.R_slice HO796.out;subst eo71))
        refine bodyPost_ret (results_cell_row rfl _ _ gb764 58 #[.slice Ao69 t791.length co69,.slice Ao71 t794.length co71,.int .i64 t797,.int .i64 t798,.int .i64 t799] (0,0) _ rfl (z24_ BK764.out) Try.underlying58 rfl (by kernel_rfl)) rfl ?_
        exact ⟨_,_,z8_,z27_ HO793.out BK764.out,z27_ HO796.out BK764.out,z13_ HB.out GE763.out GE764.out GE789.out⟩
       ·rw [if_neg c58] at H
        have c58b0:decide (1000000≤t790)=false:=decide_eq_false c58
        clear c58
        have H':=Aside0.mk H
        clear H
        have hnb72:=NB763_764.out
        have hnc72:=NB764_763.out
        have ⟨hcz73_0,hcz73_1,hfz73_0,hfz73_1⟩:=cz2_ BK763.out
        go_wp2_with (first | ((with_reducible refine gc_ 70 ?_);refine gl_ (some 53) Try.func70 #[.slice A0_0 l0_0.length c0_0,.slice A1 l1.length c1] ?_;(with_reducible refine (spec_l02Join.calls kj16 _ _ l0_0 _ _ l1 t786 _ ?s1 ?s2 ?s3 ?s4 A56.out).mono ?_);(case s1=>repeat (first | exact (Kd.C_below HR0_0.out HB.out) | (with_reducible refine Kd.C_alloc ?_ _) | (with_reducible refine Kd.C_drewN ?_ _) | (with_reducible refine Kd.C_drew ?_)));(case s2=>exact HC0_0.out);(case s3=>repeat (first | exact (Kd.C_below HR1.out HB.out) | (with_reducible refine Kd.C_alloc ?_ _) | (with_reducible refine Kd.C_drewN ?_ _) | (with_reducible refine Kd.C_drew ?_)));(case s4=>exact HC1.out);rintro e w74 ⟨v787,rfl,ho0,hb⟩;refine ⟨_,rfl,?_⟩;refine as4_ (Kd.R_lower ho0 (below_size (z4_ HB.out GE763.out GE764.out))) (blkB_ BK763.out hb) (blkB_ BK764.out hb) (below_step (z4_ HB.out GE763.out GE764.out) hb) ?_;clear BK763 BK764 HB;intro HO788 BK763 BK764 HB;(try clear hb);(try clear ho0);obtain ⟨Ao75,co75,eo75⟩:=Kd.R_slice HO788.out;subst eo75) | ((with_reducible refine gd_ 11 ?_);(try (refine gate_guard (by rfl) ?_;dsimp only));refine be_ 11 #[.slice none 0 0,.slice none 0 0] 40 ?_;intro gb789 hg w76 hbox hb;refine as11_ (Kd.R_below (z0_ HO788.out) hb) (blkB_ BK763.out hb) (blkB_ BK764.out hb) (below_step (z4_ HB.out GE763.out GE764.out) hb) (hbox) ((z20_ HB.out GE763.out GE764.out:w.heap.size≤gb789)) ((z20_ HB.out GE763.out GE764.out:w.heap.size≤gb789)) (neL_ BK763.out hg) (neG_ BK763.out hg) (neL_ BK764.out hg) (neG_ BK764.out hg) ?_;clear HO788 BK763 BK764 HB;intro HO788 BK763 BK764 HB BK789 GW789 GE789 NB763_789 NB789_763 NB764_789 NB789_764;clear hb hbox hg;have hnb77:=NB789_763.out;have hnc77:=NB763_789.out;have hnb78:=NB789_764.out;have hnc78:=NB764_789.out;have ⟨hcz79_0,hcz79_1,hfz79_0,hfz79_1⟩:=cz2_ BK789.out) | ((with_reducible refine gc_ 71 ?_);refine gl_ (some 58) Try.func71 #[.slice Ao75 t786.length co75,.int .i64 a2] ?_;(with_reducible refine (spec_l02Of.calls kj16 _ _ t786 a2 t790 _ ?s1 ?s2 A57.out).mono ?_);(case s1=>refine (Kd.R_reads' (e:=56) (base:=w.heap.size) (ok:=fun k_=>True) (n:=t786.length) (c:=co75) ?_).2.2;exact (z17_ HO788.out BK789.out));(case s2=>exact (Kd.R_reads' HO788.out).2.1);rintro e w' ⟨rfl,⟨nd,rfl⟩⟩;refine ⟨_,rfl,?_⟩))
        go_loopg [13] kj16 (fun kq v13 w'=>∃ (x13_3:Int) (x790001_3:List (S91)) (u790001:Value),v13 = .int .i64 x13_3∧Aside0 (spec_SetPut.l0 kq l1 a2 a3 a4 t790 x13_3 l0_0 l0_1 t786 x790001_3=some (r1,r2,r3,r4,r5))∧Aside0 (kq≤kj16)∧Aside0 (Kd.R k56 56 w' w.heap.size (fun _=>True) (.slice Ao75 t786.length co75) t786)∧Aside0 (Kd.R k91 91 w' w.heap.size (fun _=>True) u790001 x790001_3)∧Aside0 (w'.heap[gb763]? = some (.cells #[(.slice A0_0 l0_0.length c0_0),(.slice A0_1 l0_1.length c0_1)] 40 (0,0)))∧Aside0 (w'.heap[gb764]? = some (.cells #[(.slice none 0 0),(.slice none 0 0),.int .i64 0,.int .i64 0,.int .i64 0] 58 (0,0)))∧Aside0 (w'.heap[gb789]? = some (.cells #[(.slice Ao75 t786.length co75),u790001] 40 (0,0)))∧Aside0 (Below w.heap.size w w'))
        case atStart=>exact ⟨(0),(([]:List (S91))),(.slice none 0 0),(z2_),H',⟨Nat.le_refl _⟩,⟨by (with_reducible repeat (first | apply Kd.R_alloc | apply Kd.R_drewN | apply Kd.R_drew));exact Kd.R_mono (rf2_ (Kd.R_types HO788.out BK789.out (by decide)) (fun _ hk=>hk.2)) (fun _ hk=>trivial)⟩,⟨z26_⟩,⟨z18_ NB763_789.out BK763.out⟩,⟨z18_ NB764_789.out BK764.out⟩,⟨z21_ BK789.out⟩,⟨z13_ HB.out GE763.out GE764.out GE789.out⟩⟩
        case round =>
         clear H'
         try clear c1
         try clear c2
         try clear p2
         try clear c3
         try clear c4
         try clear c5
         try clear c6
         try clear c7
         try clear c9
         try clear c9b0
         try clear c9b1
         try clear c10
         try clear c14
         try clear c19
         try clear c21
         try clear c23
         try clear c24
         try clear c24b0
         try clear c24b1
         try clear c25
         try clear c29
         try clear c30
         try clear c34
         try clear c38
         try clear c42
         try clear c46
         try clear c49
         try clear c51
         try clear c53
         try clear c58
         try clear c58b0
         try clear c60
         try clear c65
         try clear c66
         try clear c70
         try clear c71
         try clear c72
         try clear c77
         try clear c78
         try clear hcz15_0
         try clear hcz15_1
         try clear hcz15_2
         try clear hcz15_3
         try clear hcz15_4
         try clear hcz26_0
         try clear hcz26_1
         try clear hcz31_0
         try clear hcz31_1
         try clear hcz35_0
         try clear hcz35_1
         try clear hcz39_0
         try clear hcz39_1
         try clear hcz43_0
         try clear hcz43_1
         try clear hcz47_0
         try clear hcz47_1
         try clear hcz54_0
         try clear hcz54_1
         try clear hcz54_2
         try clear hcz54_3
         try clear hcz54_4
         try clear hcz61_0
         try clear hcz61_1
         try clear hcz67_0
         try clear hcz67_1
         try clear hcz70_0
         try clear hcz70_1
         try clear hcz70_2
         try clear hcz70_3
         try clear hcz70_4
         try clear hcz73_0
         try clear hcz73_1
         try clear hcz79_0
         try clear hcz79_1
         try clear hfz15_0
         try clear hfz15_1
         try clear hfz15_2
         try clear hfz15_3
         try clear hfz15_4
         try clear hfz26_0
         try clear hfz26_1
         try clear hfz31_0
         try clear hfz31_1
         try clear hfz35_0
         try clear hfz35_1
         try clear hfz39_0
         try clear hfz39_1
         try clear hfz43_0
         try clear hfz43_1
         try clear hfz47_0
         try clear hfz47_1
         try clear hfz54_0
         try clear hfz54_1
         try clear hfz54_2
         try clear hfz54_3
         try clear hfz54_4
         try clear hfz61_0
         try clear hfz61_1
         try clear hfz67_0
         try clear hfz67_1
         try clear hfz70_0
         try clear hfz70_1
         try clear hfz70_2
         try clear hfz70_3
         try clear hfz70_4
         try clear hfz73_0
         try clear hfz73_1
         try clear hfz79_0
         try clear hfz79_1
         try clear p2
         obtain ⟨x13_3,x790001_3,u790001,rfl,HA,HK3,HO_790000,HO_790001,BK763,BK764,BK789,HB⟩:=hrel
         cases gk with
         | zero=>exact absurd HA.out (by simp [spec_SetPut.l0])
         | succ k3 =>
          have H:=HA.out
          clear HA
          simp only [spec_SetPut.l0] at H
          by_cases c80:x13_3<(l0_1.length:Int)
          ·rw [if_pos c80] at H
           have c80b0:decide (x13_3<(l0_1.length:Int))=true:=decide_eq_true c80
           clear c80
           by_cases c81:0≤x13_3
           ·rw [if_pos c81] at H
            have c81b0:decide (0≤x13_3)=true:=decide_eq_true c81
            clear c81
            replace H:=Option.bind_eq_some_iff.mp H
            obtain ⟨t801,A820,H⟩:=H
            replace H:(if t801=true then (spec_SetPut.l0 k3 l1 a2 a3 a4 t790 (wrap64 (x13_3+1)) l0_0 l0_1 t786 x790001_3) else (if x790001_3.length<3518437208883 then (spec_SetPut.l0 k3 l1 a2 a3 a4 t790 (wrap64 (x13_3+1)) l0_0 l0_1 t786 (x790001_3 ++ [(⟨(⟨(rd_T91 l0_1 x13_3).f0.f0,(rd_T91 l0_1 x13_3).f0.f1⟩:S56),(rd_T91 l0_1 x13_3).f1,(rd_T91 l0_1 x13_3).f2⟩:S91)])) else (none)))=some (r1,r2,r3,r4,r5):=H
            have A82:=Aside0.mk A820
            clear A820
            by_cases c83:t801=true
            ·subst c83
             have H1:(spec_SetPut.l0 k3 l1 a2 a3 a4 t790 (wrap64 (x13_3+1)) l0_0 l0_1 t786 x790001_3)=some (r1,r2,r3,r4,r5):=by rw [if_pos rfl] at H;exact H
             clear H
             have H:=H1
             clear H1
             have H':=Aside0.mk H
             clear H
             have hnb84:=NB763_764.out
             have hnc84:=NB764_763.out
             have hnb85:=NB763_789.out
             have hnc85:=NB789_763.out
             have ⟨hcz86_0,hcz86_1,hfz86_0,hfz86_1⟩:=cz2_ BK763.out
             have p800:0≤(x13_3:Int):=of_decide_eq_true (z1_)
             have q800:x13_3<(l0_1.length:Int):=of_decide_eq_true (z1_)
             obtain ⟨ad800,e800,hx800_0,hx800_1,hx800_2,hx800_3⟩:=at_T91 HR0_1.out x13_3 p800 q800
             cases e800
             replace hx800_0:=(HB.out.cell (World.block_lt_of_cell? w _ hx800_0)).trans hx800_0
             replace hx800_1:=(HB.out.cell (World.block_lt_of_cell? w _ hx800_1)).trans hx800_1
             replace hx800_2:=(HB.out.cell (World.block_lt_of_cell? w _ hx800_2)).trans hx800_2
             replace hx800_3:=(HB.out.cell (World.block_lt_of_cell? w _ hx800_3)).trans hx800_3
             replace p800:=eq_true p800
             replace q800:=eq_true q800
             go_wp2_with (first | ((with_reducible refine gc_ 72 ?_);refine gl_ (some 76) Try.func72 #[.slice A1 l1.length c1,.agg #[.int .i64 ((rd_T91 l0_1 x13_3).f0.f0),.int .i64 ((rd_T91 l0_1 x13_3).f0.f1)]] ?_;(with_reducible refine (spec_SeenHas.calls k3 _ _ l1 ((rd_T91 l0_1 x13_3).f0.f0) ((rd_T91 l0_1 x13_3).f0.f1) true _ ?s1 ?s2 A82.out).mono ?_);(case s1=>repeat (first | exact (Kd.C_below HR1.out HB.out) | (with_reducible refine Kd.C_alloc ?_ _) | (with_reducible refine Kd.C_drewN ?_ _) | (with_reducible refine Kd.C_drew ?_)));(case s2=>exact HC1.out);rintro e w87 ⟨rfl,hb⟩;refine ⟨_,rfl,?_⟩;refine as6_ (Kd.R_below (z0_ HO_790000.out) hb) (Kd.R_below (z0_ HO_790001.out) hb) (blkB_ BK763.out hb) (blkB_ BK764.out hb) (blkB_ BK789.out hb) (below_step (z13_ HB.out GE763.out GE764.out GE789.out) hb) ?_;clear HO_790000 HO_790001 BK763 BK764 BK789 HB;intro HO_790000 HO_790001 BK763 BK764 BK789 HB;(try clear hb)))
             go_roundg k3
             case measure=>have:=HJ5.out;have:=HJ16.out;have:=HK3.out;omega
             case rel=>exact ⟨(wrap64 (x13_3+1)),(x790001_3),(u790001),(z2_),H',⟨by have:=HJ5.out;have:=HJ16.out;have:=HK3.out;omega⟩,⟨z0_ HO_790000.out⟩,⟨z0_ HO_790001.out⟩,⟨z5_ BK763.out⟩,⟨z5_ BK764.out⟩,⟨z5_ BK789.out⟩,⟨z13_ HB.out GE763.out GE764.out GE789.out⟩⟩
            ·replace c83:=Bool.eq_false_iff.mpr c83
             subst c83
             have H1:(if x790001_3.length<3518437208883 then (spec_SetPut.l0 k3 l1 a2 a3 a4 t790 (wrap64 (x13_3+1)) l0_0 l0_1 t786 (x790001_3 ++ [(⟨(⟨(rd_T91 l0_1 x13_3).f0.f0,(rd_T91 l0_1 x13_3).f0.f1⟩:S56),(rd_T91 l0_1 x13_3).f1,(rd_T91 l0_1 x13_3).f2⟩:S91)])) else (none))=some (r1,r2,r3,r4,r5):=by rw [if_neg (show ¬ (false=true) by decide)] at H;exact H
             clear H
             have H:=H1
             clear H1
             by_cases c88:x790001_3.length<3518437208883
             ·rw [if_pos c88] at H
              have LMc88:=Aside0.mk c88
              clear c88
              obtain ⟨y803,hy803⟩:∃ y_:List (S91),y_=(x790001_3 ++ [(⟨(⟨(rd_T91 l0_1 x13_3).f0.f0,(rd_T91 l0_1 x13_3).f0.f1⟩:S56),(rd_T91 l0_1 x13_3).f1,(rd_T91 l0_1 x13_3).f2⟩:S91)]):=⟨_,rfl⟩
              replace H:(spec_SetPut.l0 k3 l1 a2 a3 a4 t790 (wrap64 (x13_3+1)) l0_0 l0_1 t786 y803)=some (r1,r2,r3,r4,r5):=by first | (rw [hy803];with_reducible exact H) | (have H2_:=(Option.bind_some _ _).symm.trans H;rw [hy803];with_reducible exact H2_) | (have H2_:=(Option.bind_some _ _).symm.trans H;with_reducible exact H2_) | with_reducible exact H | (rw [hy803];exact H) | exact H
              have Ny803:=Aside0.mk hy803
              clear hy803
              have H':=Aside0.mk H
              clear H
              have hnb89:=NB763_764.out
              have hnc89:=NB764_763.out
              have hnb90:=NB763_789.out
              have hnc90:=NB789_763.out
              have ⟨hcz91_0,hcz91_1,hfz91_0,hfz91_1⟩:=cz2_ BK763.out
              have p800:0≤(x13_3:Int):=of_decide_eq_true (z1_)
              have q800:x13_3<(l0_1.length:Int):=of_decide_eq_true (z1_)
              obtain ⟨ad800,e800,hx800_0,hx800_1,hx800_2,hx800_3⟩:=at_T91 HR0_1.out x13_3 p800 q800
              cases e800
              replace hx800_0:=(HB.out.cell (World.block_lt_of_cell? w _ hx800_0)).trans hx800_0
              replace hx800_1:=(HB.out.cell (World.block_lt_of_cell? w _ hx800_1)).trans hx800_1
              replace hx800_2:=(HB.out.cell (World.block_lt_of_cell? w _ hx800_2)).trans hx800_2
              replace hx800_3:=(HB.out.cell (World.block_lt_of_cell? w _ hx800_3)).trans hx800_3
              replace p800:=eq_true p800
              replace q800:=eq_true q800
              try go_wp2_with (first | ((with_reducible refine gc_ 72 ?_);refine gl_ (some 76) Try.func72 #[.slice A1 l1.length c1,.agg #[.int .i64 ((rd_T91 l0_1 x13_3).f0.f0),.int .i64 ((rd_T91 l0_1 x13_3).f0.f1)]] ?_;(with_reducible refine (spec_SeenHas.calls k3 _ _ l1 ((rd_T91 l0_1 x13_3).f0.f0) ((rd_T91 l0_1 x13_3).f0.f1) false _ ?s1 ?s2 A82.out).mono ?_);(case s1=>repeat (first | exact (Kd.C_below HR1.out HB.out) | (with_reducible refine Kd.C_alloc ?_ _) | (with_reducible refine Kd.C_drewN ?_ _) | (with_reducible refine Kd.C_drew ?_)));(case s2=>exact HC1.out);rintro e w92 ⟨rfl,hb⟩;refine ⟨_,rfl,?_⟩;refine as6_ (Kd.R_below (z0_ HO_790000.out) hb) (Kd.R_below (z0_ HO_790001.out) hb) (blkB_ BK763.out hb) (blkB_ BK764.out hb) (blkB_ BK789.out hb) (below_step (z13_ HB.out GE763.out GE764.out GE789.out) hb) ?_;clear HO_790000 HO_790001 BK763 BK764 BK789 HB;intro HO_790000 HO_790001 BK763 BK764 BK789 HB;(try clear hb)))
              refine as6_ (Kd.R_drew HO_790000.out) (Kd.R_drew HO_790001.out) (blk_drew BK763.out) (blk_drew BK764.out) (blk_drew BK789.out) (below_drew1 HB.out) ?_
              clear HO_790000 HO_790001 BK763 BK764 BK789 HB
              intro HO_790000 HO_790001 BK763 BK764 BK789 HB
              have p802:0≤(x13_3:Int):=of_decide_eq_true (z1_)
              have q802:x13_3<(l0_1.length:Int):=of_decide_eq_true (z1_)
              obtain ⟨ad802,e802,hx802_0,hx802_1,hx802_2,hx802_3⟩:=at_T91 HR0_1.out x13_3 p802 q802
              have hw802_3:=hx802_3
              have hw802_2:=hx802_2
              have hw802_1:=hx802_1
              have hw802_0:=hx802_0
              obtain rfl:ad800=ad802:=(by injection e802)
              replace hx802_0:=(HB.out.cell (World.block_lt_of_cell? w _ hx802_0)).trans hx802_0
              replace hx802_1:=(HB.out.cell (World.block_lt_of_cell? w _ hx802_1)).trans hx802_1
              replace hx802_2:=(HB.out.cell (World.block_lt_of_cell? w _ hx802_2)).trans hx802_2
              replace hx802_3:=(HB.out.cell (World.block_lt_of_cell? w _ hx802_3)).trans hx802_3
              replace p802:=eq_true p802
              replace q802:=eq_true q802
              refine start_ (n:=11) (S:=fun w'=>w'.cell? ⟨gb789,0,none⟩=some (.slice Ao75 t786.length co75)∧w'.cell? ⟨gb789,1,none⟩=some (u790001)∧w'.cell? ⟨gb763,0,none⟩=some (.slice A0_0 l0_0.length c0_0)∧w'.cell? ⟨gb763,1,none⟩=some (.slice (some ad800) l0_1.length c0_1)∧w'.cell? (ad800.add ((x13_3).toNat*4))=some (.int .i64 ((rd_T91 l0_1 x13_3).f0.f0))∧w'.cell? ⟨(ad800.add ((x13_3).toNat*4)).block,(ad800.add ((x13_3).toNat*4)).off+1,none⟩=some (.int .i64 ((rd_T91 l0_1 x13_3).f0.f1))∧w'.cell? ⟨(ad800.add ((x13_3).toNat*4)).block,(ad800.add ((x13_3).toNat*4)).off+2,none⟩=some (.bool ((rd_T91 l0_1 x13_3).f1))∧w'.cell? ⟨(ad800.add ((x13_3).toNat*4)).block,(ad800.add ((x13_3).toNat*4)).off+3,none⟩=some (.string ((rd_T91 l0_1 x13_3).f2))) (ds:=[10]) #[O,O,O,O,O,O,O,O,O,O,O] (by kernel_rfl) rfl rfl (cj2_ BK789.out (cj2_ BK763.out ⟨((HB.out.cell (World.block_lt_of_cell? w _ hw802_0)).trans hw802_0),⟨((HB.out.cell (World.block_lt_of_cell? w _ hw802_1)).trans hw802_1),⟨((HB.out.cell (World.block_lt_of_cell? w _ hw802_2)).trans hw802_2),((HB.out.cell (World.block_lt_of_cell? w _ hw802_3)).trans hw802_3)⟩⟩⟩)) (fun hHeld=>?_);refine with_tabW spec_SetPut.tab13 spec_SetPut.bits13 (fun HT_ HW_=>?_)
              generalize w92.drew=w93 at HO_790000 HO_790001 BK763 BK764 BK789 HB hx802_0 hx802_1 hx802_2 hx802_3 hHeld ⊢
              refine pu_ 0 78 #[I,O,O,O,O,O,O,O,O,O,O] HT_.out ?_
              refine pu_ 2 80 #[I,O,I,O,O,O,O,O,O,O,O] HT_.out ?_
              refine pu_ 4 82 #[I,O,I,O,I,O,O,O,O,O,O] HT_.out ?_
              refine tk8_ 1 79 #[I,I,I,O,I,O,O,O,O,O,O] HT_.out HW_.out hHeld ?_
              refine tk8_ 3 81 #[I,I,I,I,I,O,O,O,O,O,O] HT_.out HW_.out hHeld ?_
              refine pu_ 5 83 #[I,I,I,I,I,I,O,O,O,O,O] HT_.out ?_
              refine tk8_ 6 84 #[I,I,I,I,I,I,I,O,O,O,O] HT_.out HW_.out hHeld ?_
              refine o1_ 7 85 #[I,I,I,I,I,I,I,I,O,O,O] HT_.out (fun K hK=>?_)
              refine value_ (w1:=?_) (v:=?_) (by rfl) rfl ?_ ?_
              rotate_left 2
              ·go_simp
               constructor
               ·rfl
               ·rfl
              refine hK.out _ _ (cj2_ (blk_alloc BK789.out _) (cj2_ (blk_alloc BK763.out _) ⟨(World.cell?_alloc_lt _ _ _ (World.block_lt_of_cell? _ _ (((HB.out.cell (World.block_lt_of_cell? w _ hw802_0)).trans hw802_0)))).trans (((HB.out.cell (World.block_lt_of_cell? w _ hw802_0)).trans hw802_0)),⟨(World.cell?_alloc_lt _ _ _ (World.block_lt_of_cell? _ _ (((HB.out.cell (World.block_lt_of_cell? w _ hw802_1)).trans hw802_1)))).trans (((HB.out.cell (World.block_lt_of_cell? w _ hw802_1)).trans hw802_1)),⟨(World.cell?_alloc_lt _ _ _ (World.block_lt_of_cell? _ _ (((HB.out.cell (World.block_lt_of_cell? w _ hw802_2)).trans hw802_2)))).trans (((HB.out.cell (World.block_lt_of_cell? w _ hw802_2)).trans hw802_2)),(World.cell?_alloc_lt _ _ _ (World.block_lt_of_cell? _ _ (((HB.out.cell (World.block_lt_of_cell? w _ hw802_3)).trans hw802_3)))).trans (((HB.out.cell (World.block_lt_of_cell? w _ hw802_3)).trans hw802_3))⟩⟩⟩)) (fun hHeld=>?_)
              clear hK K
              refine nm_ 85 ?_
              refine o1_ 8 86 #[I,I,I,I,I,I,I,I,I,O,O] HT_.out (fun K hK=>?_)
              refine Kd.R_append_step k91 (w0:=w) w.heap.size (by rfl) (.tmp 79) (.tmp 85) 38 91 (.agg #[(.int .i64 0),(.int .i64 0),(.bool false),(.string ⟨#[]⟩)]) 40 rfl Try.underlying38 info91 rfl (by decide) (by omega) u790001 x790001_3 (⟨(⟨(rd_T91 l0_1 x13_3).f0.f0,(rd_T91 l0_1 x13_3).f0.f1⟩:S56),(rd_T91 l0_1 x13_3).f1,(rd_T91 l0_1 x13_3).f2⟩:S91) [.int .i64 ((rd_T91 l0_1 x13_3).f0.f0),.int .i64 ((rd_T91 l0_1 x13_3).f0.f1),.bool ((rd_T91 l0_1 x13_3).f1),.string ((rd_T91 l0_1 x13_3).f2)] (fun _=>True) (fun _=>False) rfl rfl ?aP (fun _ hk=>hk.elim) ?aF ?aO ?aB ?aS ?aL ?_
              (case aP=>exact k91_mkM _ _ _ (⟨(⟨(rd_T91 l0_1 x13_3).f0.f0,(rd_T91 l0_1 x13_3).f0.f1⟩:S56),(rd_T91 l0_1 x13_3).f1,(rd_T91 l0_1 x13_3).f2⟩:S91))
              (case aB=>exact (z13_ HB.out GE763.out GE764.out GE789.out))
              (case aF=>exact (fun _ _=>trivial))
              (case aO=>exact (z0_ HO_790001.out))
              (case aS=>exact (below_size (z13_ HB.out GE763.out GE764.out GE789.out)))
              (case aL=>have:=LMc88.out;omega)
              intro v804 w94 ho hb hg hat
              rw [← Ny803.out] at ho
              refine as6_ (Kd.R_over' (z0_ HO_790000.out) (Kd.R_typed (z0_ HO_790001.out)) (by decide) hg) (blk_grown (g:=gb763) (o:=.cells #[.slice A0_0 l0_0.length c0_0,.slice (some ad800) l0_1.length c0_1] 40 (0,0)) (z5_ BK763.out) hg (Kd.R_ne HO_790001.out BK763.out (by decide))) (blk_grown (g:=gb764) (o:=.cells #[.slice none 0 0,.slice none 0 0,.int .i64 0,.int .i64 0,.int .i64 0] 58 (0,0)) (z5_ BK764.out) hg (Kd.R_ne HO_790001.out BK764.out (by decide))) (blk_grown (g:=gb789) (o:=.cells #[.slice Ao75 t786.length co75,u790001] 40 (0,0)) (z5_ BK789.out) hg (Kd.R_ne HO_790001.out BK789.out (by decide))) (hb) (ho) ?_
              clear HO_790000 BK763 BK764 BK789 HB HO_790001
              intro HO_790000 BK763 BK764 BK789 HB HO805
              clear ho hb hg hat
              obtain ⟨Ao95,co95,eo95⟩:=Kd.R_slice HO805.out
              (first | subst eo95 | (injection eo95 with f1_ f2_ f3_;have f4_:=f1_.symm;have f5_:=f3_.symm;clear f1_ f2_ f3_;subst f4_;subst f5_))
              refine hK.out _ _ (cj2_ BK789.out (cj2_ BK763.out ⟨((HB.out.cell (World.block_lt_of_cell? w _ hw802_0)).trans hw802_0),⟨((HB.out.cell (World.block_lt_of_cell? w _ hw802_1)).trans hw802_1),⟨((HB.out.cell (World.block_lt_of_cell? w _ hw802_2)).trans hw802_2),((HB.out.cell (World.block_lt_of_cell? w _ hw802_3)).trans hw802_3)⟩⟩⟩)) (fun hHeld=>?_)
              clear hK K
              refine nm_ 86 ?_
              refine pu_ 9 87 #[I,I,I,I,I,I,I,I,I,I,O] HT_.out ?_
              refine last_ (i:=10) (N:=none) #[I,I,I,I,I,I,I,I,I,I,I] rfl rfl (one_of HT_.out (by kernel_rfl)) (by decide) (fun K hK=>?_)
              have hs96:w94.cell? ⟨gb789,1,none⟩=some (u790001):=(blk_cell BK789.out 1).trans rfl
              have hfs96:=blk_frozen BK789.out 1
              have hns96_0:=NB763_789.out
              have hns96_1:=NB764_789.out
              have hms96_0:=NB789_763.out
              have hms96_1:=NB789_764.out
              refine skip_ (w1:=?_) (by rfl) rfl ?_ ?_
              rotate_left
              ·go_simp
               rfl
              refine hK.out _ _ ?_
              clear hK K
              refine done_ (done_of HT_.out (by kernel_rfl)) ?_
              try go_wp2
              go_roundg k3
              case measure=>have:=HJ5.out;have:=HJ16.out;have:=HK3.out;omega
              case rel=>exact ⟨(wrap64 (x13_3+1)),(y803),(.slice Ao95 y803.length co95),(z2_),H',⟨by have:=HJ5.out;have:=HJ16.out;have:=HK3.out;omega⟩,⟨by (with_reducible repeat (first | apply Kd.R_alloc | apply Kd.R_drewN | apply Kd.R_drew));exact Kd.R_mono (Kd.R_far (p:=⟨gb789,1,none⟩) (Kd.R_types HO_790000.out BK789.out (by decide)) (fun _ hk=>hk.2) (.slice Ao95 y803.length co95)) (fun _ hk=>trivial)⟩,⟨by (with_reducible repeat (first | apply Kd.R_alloc | apply Kd.R_drewN | apply Kd.R_drew));exact Kd.R_mono (Kd.R_far (p:=⟨gb789,1,none⟩) (Kd.R_types HO805.out BK789.out (by decide)) (fun _ hk=>hk.2) (.slice Ao95 y803.length co95)) (fun _ hk=>trivial)⟩,⟨z16_ NB763_789.out BK763.out⟩,⟨z16_ NB764_789.out BK764.out⟩,⟨by (with_reducible repeat (first | refine blk_drewN ?_ _ | refine blk_drew ?_ | refine blk_alloc ?_ _));refine blk_put (cs:=#[.slice Ao75 t786.length co75,u790001]) ?_ 1 _ rfl;(with_reducible repeat (first | refine blk_drewN ?_ _ | refine blk_drew ?_ | refine blk_alloc ?_ _));exact BK789.out⟩,⟨z13_ HB.out GE763.out GE764.out GE789.out⟩⟩
             ·rw [if_neg c88] at H
              exact absurd H (by simp)
           ·rw [if_neg c81] at H
            exact absurd H (by simp)
          ·rw [if_neg c80] at H
           have c80b0:decide (x13_3<(l0_1.length:Int))=false:=decide_eq_false c80
           clear c80
           obtain ⟨y807,hy807⟩:∃ y_:List (S56),y_=(([(⟨a2,wrap64 (t790+1)⟩:S56)]:List (S56))):=⟨_,rfl⟩
           replace H:((spec_l02Join.f k3 t786 y807).bind fun t810=>((spec_l03In.f k3 x790001_3 a2 (wrap64 (t790+1)) a4 a3).bind fun t813=>(if (t813.length:Int)>8 then ((spec_l03Ill.f 9).bind fun bt816=>(some (bt816.1,bt816.2.1,bt816.2.2.1,bt816.2.2.2.1,bt816.2.2.2.2))) else (some (t810,t813,a2,wrap64 (t790+1),0)))))=some (r1,r2,r3,r4,r5):=by first | (rw [hy807];with_reducible exact H) | (have H2_:=(Option.bind_some _ _).symm.trans H;rw [hy807];with_reducible exact H2_) | (have H2_:=(Option.bind_some _ _).symm.trans H;with_reducible exact H2_) | with_reducible exact H | (rw [hy807];exact H) | exact H
           have Ny807:=Aside0.mk hy807
           clear hy807
           replace H:=Option.bind_eq_some_iff.mp H
           obtain ⟨t810,A970,H⟩:=H
           replace H:((spec_l03In.f k3 x790001_3 a2 (wrap64 (t790+1)) a4 a3).bind fun t813=>(if (t813.length:Int)>8 then ((spec_l03Ill.f 9).bind fun bt816=>(some (bt816.1,bt816.2.1,bt816.2.2.1,bt816.2.2.2.1,bt816.2.2.2.2))) else (some (t810,t813,a2,wrap64 (t790+1),0))))=some (r1,r2,r3,r4,r5):=H
           have A97:=Aside0.mk A970
           clear A970
           replace H:=Option.bind_eq_some_iff.mp H
           obtain ⟨t813,A980,H⟩:=H
           replace H:(if (t813.length:Int)>8 then ((spec_l03Ill.f 9).bind fun bt816=>(some (bt816.1,bt816.2.1,bt816.2.2.1,bt816.2.2.2.1,bt816.2.2.2.2))) else (some (t810,t813,a2,wrap64 (t790+1),0)))=some (r1,r2,r3,r4,r5):=H
           have A98:=Aside0.mk A980
           clear A980
           by_cases c99:(t813.length:Int)>8
           ·rw [if_pos c99] at H
            have c99b0:decide (8<(t813.length:Int))=true:=decide_eq_true c99
            have c99b1:decide (8<t813.length)=true:=decide_eq_true (by omega)
            clear c99
            replace H:=Option.bind_eq_some_iff.mp H
            obtain ⟨⟨t816,t819,t822,t823,t824⟩,A1000,H⟩:=H
            replace H:(some (t816,t819,t822,t823,t824))=some (r1,r2,r3,r4,r5):=H
            have A100:=Aside0.mk A1000
            clear A1000
            simp only [Option.some.injEq,Prod.mk.injEq] at H
            obtain ⟨rfl,rfl,rfl,rfl,rfl⟩:=H
            have hnb101:=NB763_764.out
            have hnc101:=NB764_763.out
            have hnb102:=NB763_789.out
            have hnc102:=NB789_763.out
            have ⟨hcz103_0,hcz103_1,hfz103_0,hfz103_1⟩:=cz2_ BK763.out
            go_wp2_with (first | ((with_reducible refine gd_ 14 ?_);(try (refine gate_guard (by rfl) ?_;dsimp only));refine be_ 14 #[.int .i64 0,.int .i64 0] 56 ?_;intro gb806 hg w104 hbox hb;refine as15_ (Kd.R_below (Kd.R_elderB (z0_ HO_790000.out) gb806 (Nat.le_of_eq hg.symm)) hb) (Kd.R_below (z0_ HO_790001.out) hb) (blkB_ BK763.out hb) (blkB_ BK764.out hb) (blkB_ BK789.out hb) (below_step (z13_ HB.out GE763.out GE764.out GE789.out) hb) (hbox) ((z30_ HB.out GE763.out GE764.out GE789.out:w.heap.size≤gb806)) ((z30_ HB.out GE763.out GE764.out GE789.out:w.heap.size≤gb806)) (neL_ BK763.out hg) (neG_ BK763.out hg) (neL_ BK764.out hg) (neG_ BK764.out hg) (neL_ BK789.out hg) (neG_ BK789.out hg) ?_;clear HO_790000 HO_790001 BK763 BK764 BK789 HB;intro HO_790000 HO_790001 BK763 BK764 BK789 HB BK806 GW806 GE806 NB763_806 NB806_763 NB764_806 NB806_764 NB789_806 NB806_789;clear hb hbox hg;have hnb105:=NB806_763.out;have hnc105:=NB763_806.out;have hnb106:=NB806_764.out;have hnc106:=NB764_806.out;have hnb107:=NB806_789.out;have hnc107:=NB789_806.out;have ⟨hcz108_0,hcz108_1,hfz108_0,hfz108_1⟩:=cz2_ BK806.out;have hnb109:=NB789_764.out;have hnc109:=NB764_789.out;have ⟨hcz110_0,hcz110_1,hfz110_0,hfz110_1⟩:=cz2_ BK789.out) | ((with_reducible refine gd_ 95 ?_);(try (refine gate_guard (by rfl) ?_;dsimp only));refine Kd.R_lit k56 _ 56 ?hg (N:=95) ?hd (xs:=([(⟨a2,wrap64 (t790+1)⟩:S56)]:List (S56))) (inner:=[.int .i64 a2,.int .i64 (wrap64 (t790+1))]) (ok:=fun _=>True) (okp:=fun _=>True) ?hr ?hp (fun _ hk=>hk) trivial (Below.refl _ _) (Nat.le_refl _) (by simp) ?_;(case hd=>rfl);(case hg=>rfl);(case hr=>first | (go_simp;done) | (go_simp;rfl));(case hp=>exact (Reps.c2 (show Kd.M k56 _ _ _ (⟨a2,wrap64 (t790+1)⟩:S56) [.int .i64 a2,.int .i64 (wrap64 (t790+1))] from (k56_mkM _ _ _ (⟨a2,wrap64 (t790+1)⟩:S56) )) (Reps.none _ _)));intro v808 w111 ho112 hb hg_ hnew_;clear hg_ hnew_;(first | rw [← Ny807.out] at ho112 | (simp only [Int.reduceToNat] at ho112;rw [← Ny807.out] at ho112));refine as8_ (Kd.R_elder' (z38_ HO_790000.out) (Kd.R_base ho112) hb) (Kd.R_below (z17_ HO_790001.out BK806.out) hb) (Kd.R_lower (Kd.R_newB (Kd.R_new' ho112 (Kd.R_lt (z38_ HO_790000.out))) (g:=gb806) (o:=.cells #[.int .i64 a2,.int .i64 (wrap64 (t790+1))] 56 (0,0)) (z21_ BK806.out)) (below_size (z10_ HB.out GE763.out GE764.out GE789.out GE806.out))) (blk_below (g:=gb763) (o:=.cells #[.slice A0_0 l0_0.length c0_0,.slice A0_1 l0_1.length c0_1] 40 (0,0)) (z18_ NB763_806.out BK763.out) hb) (blk_below (g:=gb764) (o:=.cells #[.slice none 0 0,.slice none 0 0,.int .i64 0,.int .i64 0,.int .i64 0] 58 (0,0)) (z18_ NB764_806.out BK764.out) hb) (blk_below (g:=gb789) (o:=.cells #[.slice Ao75 t786.length co75,u790001] 40 (0,0)) (z18_ NB789_806.out BK789.out) hb) (blk_below (g:=gb806) (o:=.cells #[.int .i64 a2,.int .i64 (wrap64 (t790+1))] 56 (0,0)) (z21_ BK806.out) hb) (below_step (z10_ HB.out GE763.out GE764.out GE789.out GE806.out) hb) ?_;clear HO_790000 HO_790001 BK763 BK764 BK789 BK806 HB;intro HO_790000 HO_790001 HO809 BK763 BK764 BK789 BK806 HB;clear hb ho112;obtain ⟨Ao113,co113,eo113⟩:=Kd.R_slice HO809.out;subst eo113) | ((with_reducible refine gc_ 70 ?_);refine gl_ (some 96) Try.func70 #[.slice Ao75 t786.length co75,.slice Ao113 y807.length co113] ?_;(with_reducible refine (spec_l02Join.calls k3 _ _ t786 _ _ y807 t810 _ ?s1 ?s2 ?s3 ?s4 A97.out).mono ?_);(case s1=>repeat (first | exact (Kd.R_reads' HO_790000.out).2.2 | (with_reducible refine Kd.C_alloc ?_ _) | (with_reducible refine Kd.C_drewN ?_ _) | (with_reducible refine Kd.C_drew ?_)));(case s2=>exact (Kd.R_reads' HO_790000.out).2.1);(case s3=>repeat (first | exact (Kd.R_reads' HO809.out).2.2 | (with_reducible refine Kd.C_alloc ?_ _) | (with_reducible refine Kd.C_drewN ?_ _) | (with_reducible refine Kd.C_drew ?_)));(case s4=>exact (Kd.R_reads' HO809.out).2.1);rintro e w114 ⟨v811,rfl,ho0,hb⟩;refine ⟨_,rfl,?_⟩;refine as9_ (Kd.R_elder' (z0_ HO_790000.out) (Kd.R_base ho0) hb) (Kd.R_below (z0_ HO_790001.out) hb) (Kd.R_elder' (z0_ HO809.out) (Kd.R_base ho0) hb) (Kd.R_lower (Kd.R_newB (Kd.R_new' (Kd.R_new' ho0 (Kd.R_lt (z0_ HO_790000.out))) (Kd.R_lt (z0_ HO809.out))) (g:=gb806) (o:=.cells #[.int .i64 a2,.int .i64 (wrap64 (t790+1))] 56 (0,0)) (z5_ BK806.out)) (below_size (z10_ HB.out GE763.out GE764.out GE789.out GE806.out))) (blkB_ BK763.out hb) (blkB_ BK764.out hb) (blkB_ BK789.out hb) (blkB_ BK806.out hb) (below_step (z10_ HB.out GE763.out GE764.out GE789.out GE806.out) hb) ?_;clear HO_790000 HO_790001 HO809 BK763 BK764 BK789 BK806 HB;intro HO_790000 HO_790001 HO809 HO812 BK763 BK764 BK789 BK806 HB;(try clear hb);(try clear ho0);obtain ⟨Ao115,co115,eo115⟩:=Kd.R_slice HO812.out;subst eo115;have ⟨hcz116_0,hcz116_1,hfz116_0,hfz116_1⟩:=cz2_ BK789.out;have ⟨hcz117_0,hcz117_1,hfz117_0,hfz117_1⟩:=cz2_ BK806.out;obtain ⟨Ao118,co118,eo118⟩:=Kd.R_slice HO_790001.out;subst eo118) | ((with_reducible refine gc_ 73 ?_);refine gl_ (some 104) Try.func73 #[.slice Ao118 x790001_3.length co118,.agg #[.int .i64 a2,.int .i64 (wrap64 (t790+1)),.bool a4,.string a3]] ?_;(with_reducible refine (spec_l03In.calls k3 _ _ x790001_3 a2 (wrap64 (t790+1)) a4 a3 t813 _ ?s1 ?s2 A98.out).mono ?_);(case s1=>refine (Kd.R_reads' (e:=91) (base:=w.heap.size) (ok:=fun k_=>True) (n:=x790001_3.length) (c:=co118) ?_).2.2;exact (z32_ HO_790001.out BK789.out));(case s2=>exact (Kd.R_reads' HO_790001.out).2.1);rintro e w119 ⟨v814,rfl,ho0,hb⟩;refine ⟨_,rfl,?_⟩;refine as10_ (Kd.R_below (z32_ HO_790000.out BK789.out) hb) (Kd.R_elder' (z32_ HO_790001.out BK789.out) (Kd.R_base ho0) hb) (Kd.R_below (z32_ HO809.out BK789.out) hb) (Kd.R_below (z32_ HO812.out BK789.out) hb) (Kd.R_lower (Kd.R_new' ho0 (Kd.R_lt (z32_ HO_790001.out BK789.out))) (below_size (z10_ HB.out GE763.out GE764.out GE789.out GE806.out))) (blk_below (g:=gb763) (o:=.cells #[.slice A0_0 l0_0.length c0_0,.slice A0_1 l0_1.length c0_1] 40 (0,0)) (z16_ NB763_789.out BK763.out) hb) (blk_below (g:=gb764) (o:=.cells #[.slice none 0 0,.slice none 0 0,.int .i64 0,.int .i64 0,.int .i64 0] 58 (0,0)) (z16_ NB764_789.out BK764.out) hb) (blk_below (g:=gb789) (o:=.cells #[.slice Ao115 t810.length co115,.slice Ao118 x790001_3.length co118] 40 (0,0)) (by (with_reducible repeat (first | refine blk_drewN ?_ _ | refine blk_drew ?_ | refine blk_alloc ?_ _));refine blk_put (cs:=#[.slice Ao75 t786.length co75,.slice Ao118 x790001_3.length co118]) ?_ 0 _ rfl;(with_reducible repeat (first | refine blk_drewN ?_ _ | refine blk_drew ?_ | refine blk_alloc ?_ _));exact BK789.out) hb) (blk_below (g:=gb806) (o:=.cells #[.int .i64 a2,.int .i64 (wrap64 (t790+1))] 56 (0,0)) (z16_ NB806_789.out BK806.out) hb) (below_step (z10_ HB.out GE763.out GE764.out GE789.out GE806.out) hb) ?_;clear HO_790000 HO_790001 HO809 HO812 BK763 BK764 BK789 BK806 HB;intro HO_790000 HO_790001 HO809 HO812 HO815 BK763 BK764 BK789 BK806 HB;(try clear hb);(try clear hk);(try clear ho0);obtain ⟨Ao120,co120,eo120⟩:=Kd.R_slice HO815.out;subst eo120;have ⟨hcz121_0,hcz121_1,hfz121_0,hfz121_1⟩:=cz2_ BK789.out) | ((with_reducible refine gc_ 60 ?_);refine gl_ (some 110) Try.func60 #[.int .i64 9] ?_;(with_reducible refine (spec_l03Ill.calls 9 t816 t819 t822 t823 t824 _ A100.out).mono ?_);rintro e w122 ⟨v817,v820,rfl,ho0,ho1,hb⟩;refine ⟨_,rfl,?_⟩;refine as12_ (Kd.R_elder' (z28_ HO_790000.out BK789.out) (Kd.R_base ho0) hb) (Kd.R_elder' (z28_ HO_790001.out BK789.out) (Kd.R_base ho1) hb) (Kd.R_elder' (z28_ HO809.out BK789.out) (Kd.R_base ho0) hb) (Kd.R_elder' (z28_ HO812.out BK789.out) (Kd.R_base ho0) hb) (Kd.R_elder' (z28_ HO815.out BK789.out) (Kd.R_base ho1) hb) (Kd.R_lower (Kd.R_newB (Kd.R_new' (Kd.R_new' (Kd.R_new' ho0 (Kd.R_lt (z28_ HO_790000.out BK789.out))) (Kd.R_lt (z28_ HO809.out BK789.out))) (Kd.R_lt (z28_ HO812.out BK789.out))) (g:=gb806) (o:=.cells #[.int .i64 a2,.int .i64 (wrap64 (t790+1))] 56 (0,0)) (z16_ NB806_789.out BK806.out)) (below_size (z10_ HB.out GE763.out GE764.out GE789.out GE806.out))) (Kd.R_lower (Kd.R_new' (Kd.R_new' ho1 (Kd.R_lt (z28_ HO_790001.out BK789.out))) (Kd.R_lt (z28_ HO815.out BK789.out))) (below_size (z10_ HB.out GE763.out GE764.out GE789.out GE806.out))) (blk_below (g:=gb763) (o:=.cells #[.slice A0_0 l0_0.length c0_0,.slice A0_1 l0_1.length c0_1] 40 (0,0)) (z16_ NB763_789.out BK763.out) hb) (blk_below (g:=gb764) (o:=.cells #[.slice none 0 0,.slice none 0 0,.int .i64 0,.int .i64 0,.int .i64 0] 58 (0,0)) (z16_ NB764_789.out BK764.out) hb) (blk_below (g:=gb789) (o:=.cells #[.slice Ao115 t810.length co115,.slice Ao120 t813.length co120] 40 (0,0)) (by (with_reducible repeat (first | refine blk_drewN ?_ _ | refine blk_drew ?_ | refine blk_alloc ?_ _));refine blk_put (cs:=#[.slice Ao115 t810.length co115,.slice Ao118 x790001_3.length co118]) ?_ 1 _ rfl;(with_reducible repeat (first | refine blk_drewN ?_ _ | refine blk_drew ?_ | refine blk_alloc ?_ _));exact BK789.out) hb) (blk_below (g:=gb806) (o:=.cells #[.int .i64 a2,.int .i64 (wrap64 (t790+1))] 56 (0,0)) (z16_ NB806_789.out BK806.out) hb) (below_step (z10_ HB.out GE763.out GE764.out GE789.out GE806.out) hb) ?_;clear HO_790000 HO_790001 HO809 HO812 HO815 BK763 BK764 BK789 BK806 HB;intro HO_790000 HO_790001 HO809 HO812 HO815 HO818 HO821 BK763 BK764 BK789 BK806 HB;(try clear hb);(try clear hb2);(try clear hk);(try clear hi);(try clear ho0);(try clear ho1);obtain ⟨Ao123,co123,eo123⟩:=Kd.R_slice HO818.out;subst eo123;have ⟨hcz124_0,hcz124_1,hcz124_2,hcz124_3,hcz124_4,hfz124_0,hfz124_1,hfz124_2,hfz124_3,hfz124_4⟩:=cz5_ BK764.out;obtain ⟨Ao125,co125,eo125⟩:=Kd.R_slice HO821.out;subst eo125))
            refine bodyPost_ret (results_cell_row rfl _ _ gb764 58 #[.slice Ao123 t816.length co123,.slice Ao125 t819.length co125,.int .i64 t822,.int .i64 t823,.int .i64 t824] (0,0) _ rfl (z24_ BK764.out) Try.underlying58 rfl (by kernel_rfl)) rfl ?_
            exact ⟨_,_,z8_,z27_ HO818.out BK764.out,z27_ HO821.out BK764.out,z10_ HB.out GE763.out GE764.out GE789.out GE806.out⟩
           ·rw [if_neg c99] at H
            have c99b0:decide (8<(t813.length:Int))=false:=decide_eq_false c99
            have c99b1:decide (8<t813.length)=false:=decide_eq_false (by omega)
            clear c99
            simp only [Option.some.injEq,Prod.mk.injEq] at H
            obtain ⟨rfl,rfl,rfl,rfl,rfl⟩:=H
            have hnb126:=NB763_764.out
            have hnc126:=NB764_763.out
            have hnb127:=NB763_789.out
            have hnc127:=NB789_763.out
            have ⟨hcz128_0,hcz128_1,hfz128_0,hfz128_1⟩:=cz2_ BK763.out
            go_wp2_with (first | ((with_reducible refine gd_ 14 ?_);(try (refine gate_guard (by rfl) ?_;dsimp only));refine be_ 14 #[.int .i64 0,.int .i64 0] 56 ?_;intro gb806 hg w129 hbox hb;refine as15_ (Kd.R_below (Kd.R_elderB (z0_ HO_790000.out) gb806 (Nat.le_of_eq hg.symm)) hb) (Kd.R_below (z0_ HO_790001.out) hb) (blkB_ BK763.out hb) (blkB_ BK764.out hb) (blkB_ BK789.out hb) (below_step (z13_ HB.out GE763.out GE764.out GE789.out) hb) (hbox) ((z30_ HB.out GE763.out GE764.out GE789.out:w.heap.size≤gb806)) ((z30_ HB.out GE763.out GE764.out GE789.out:w.heap.size≤gb806)) (neL_ BK763.out hg) (neG_ BK763.out hg) (neL_ BK764.out hg) (neG_ BK764.out hg) (neL_ BK789.out hg) (neG_ BK789.out hg) ?_;clear HO_790000 HO_790001 BK763 BK764 BK789 HB;intro HO_790000 HO_790001 BK763 BK764 BK789 HB BK806 GW806 GE806 NB763_806 NB806_763 NB764_806 NB806_764 NB789_806 NB806_789;clear hb hbox hg;have hnb130:=NB806_763.out;have hnc130:=NB763_806.out;have hnb131:=NB806_764.out;have hnc131:=NB764_806.out;have hnb132:=NB806_789.out;have hnc132:=NB789_806.out;have ⟨hcz133_0,hcz133_1,hfz133_0,hfz133_1⟩:=cz2_ BK806.out;have hnb134:=NB789_764.out;have hnc134:=NB764_789.out;have ⟨hcz135_0,hcz135_1,hfz135_0,hfz135_1⟩:=cz2_ BK789.out) | ((with_reducible refine gd_ 95 ?_);(try (refine gate_guard (by rfl) ?_;dsimp only));refine Kd.R_lit k56 _ 56 ?hg (N:=95) ?hd (xs:=([(⟨a2,wrap64 (t790+1)⟩:S56)]:List (S56))) (inner:=[.int .i64 a2,.int .i64 (wrap64 (t790+1))]) (ok:=fun _=>True) (okp:=fun _=>True) ?hr ?hp (fun _ hk=>hk) trivial (Below.refl _ _) (Nat.le_refl _) (by simp) ?_;(case hd=>rfl);(case hg=>rfl);(case hr=>first | (go_simp;done) | (go_simp;rfl));(case hp=>exact (Reps.c2 (show Kd.M k56 _ _ _ (⟨a2,wrap64 (t790+1)⟩:S56) [.int .i64 a2,.int .i64 (wrap64 (t790+1))] from (k56_mkM _ _ _ (⟨a2,wrap64 (t790+1)⟩:S56) )) (Reps.none _ _)));intro v808 w136 ho137 hb hg_ hnew_;clear hg_ hnew_;(first | rw [← Ny807.out] at ho137 | (simp only [Int.reduceToNat] at ho137;rw [← Ny807.out] at ho137));refine as8_ (Kd.R_elder' (z38_ HO_790000.out) (Kd.R_base ho137) hb) (Kd.R_below (z17_ HO_790001.out BK806.out) hb) (Kd.R_lower (Kd.R_newB (Kd.R_new' ho137 (Kd.R_lt (z38_ HO_790000.out))) (g:=gb806) (o:=.cells #[.int .i64 a2,.int .i64 (wrap64 (t790+1))] 56 (0,0)) (z21_ BK806.out)) (below_size (z10_ HB.out GE763.out GE764.out GE789.out GE806.out))) (blk_below (g:=gb763) (o:=.cells #[.slice A0_0 l0_0.length c0_0,.slice A0_1 l0_1.length c0_1] 40 (0,0)) (z18_ NB763_806.out BK763.out) hb) (blk_below (g:=gb764) (o:=.cells #[.slice none 0 0,.slice none 0 0,.int .i64 0,.int .i64 0,.int .i64 0] 58 (0,0)) (z18_ NB764_806.out BK764.out) hb) (blk_below (g:=gb789) (o:=.cells #[.slice Ao75 t786.length co75,u790001] 40 (0,0)) (z18_ NB789_806.out BK789.out) hb) (blk_below (g:=gb806) (o:=.cells #[.int .i64 a2,.int .i64 (wrap64 (t790+1))] 56 (0,0)) (z21_ BK806.out) hb) (below_step (z10_ HB.out GE763.out GE764.out GE789.out GE806.out) hb) ?_;clear HO_790000 HO_790001 BK763 BK764 BK789 BK806 HB;intro HO_790000 HO_790001 HO809 BK763 BK764 BK789 BK806 HB;clear hb ho137;obtain ⟨Ao138,co138,eo138⟩:=Kd.R_slice HO809.out;subst eo138) | ((with_reducible refine gc_ 70 ?_);refine gl_ (some 96) Try.func70 #[.slice Ao75 t786.length co75,.slice Ao138 y807.length co138] ?_;(with_reducible refine (spec_l02Join.calls k3 _ _ t786 _ _ y807 t810 _ ?s1 ?s2 ?s3 ?s4 A97.out).mono ?_);(case s1=>repeat (first | exact (Kd.R_reads' HO_790000.out).2.2 | (with_reducible refine Kd.C_alloc ?_ _) | (with_reducible refine Kd.C_drewN ?_ _) | (with_reducible refine Kd.C_drew ?_)));(case s2=>exact (Kd.R_reads' HO_790000.out).2.1);(case s3=>repeat (first | exact (Kd.R_reads' HO809.out).2.2 | (with_reducible refine Kd.C_alloc ?_ _) | (with_reducible refine Kd.C_drewN ?_ _) | (with_reducible refine Kd.C_drew ?_)));(case s4=>exact (Kd.R_reads' HO809.out).2.1);rintro e w139 ⟨v811,rfl,ho0,hb⟩;refine ⟨_,rfl,?_⟩;refine as9_ (Kd.R_elder' (z0_ HO_790000.out) (Kd.R_base ho0) hb) (Kd.R_below (z0_ HO_790001.out) hb) (Kd.R_elder' (z0_ HO809.out) (Kd.R_base ho0) hb) (Kd.R_lower (Kd.R_newB (Kd.R_new' (Kd.R_new' ho0 (Kd.R_lt (z0_ HO_790000.out))) (Kd.R_lt (z0_ HO809.out))) (g:=gb806) (o:=.cells #[.int .i64 a2,.int .i64 (wrap64 (t790+1))] 56 (0,0)) (z5_ BK806.out)) (below_size (z10_ HB.out GE763.out GE764.out GE789.out GE806.out))) (blkB_ BK763.out hb) (blkB_ BK764.out hb) (blkB_ BK789.out hb) (blkB_ BK806.out hb) (below_step (z10_ HB.out GE763.out GE764.out GE789.out GE806.out) hb) ?_;clear HO_790000 HO_790001 HO809 BK763 BK764 BK789 BK806 HB;intro HO_790000 HO_790001 HO809 HO812 BK763 BK764 BK789 BK806 HB;(try clear hb);(try clear ho0);obtain ⟨Ao140,co140,eo140⟩:=Kd.R_slice HO812.out;subst eo140;have ⟨hcz141_0,hcz141_1,hfz141_0,hfz141_1⟩:=cz2_ BK789.out;have ⟨hcz142_0,hcz142_1,hfz142_0,hfz142_1⟩:=cz2_ BK806.out;obtain ⟨Ao143,co143,eo143⟩:=Kd.R_slice HO_790001.out;subst eo143) | ((with_reducible refine gc_ 73 ?_);refine gl_ (some 104) Try.func73 #[.slice Ao143 x790001_3.length co143,.agg #[.int .i64 a2,.int .i64 (wrap64 (t790+1)),.bool a4,.string a3]] ?_;(with_reducible refine (spec_l03In.calls k3 _ _ x790001_3 a2 (wrap64 (t790+1)) a4 a3 t813 _ ?s1 ?s2 A98.out).mono ?_);(case s1=>refine (Kd.R_reads' (e:=91) (base:=w.heap.size) (ok:=fun k_=>True) (n:=x790001_3.length) (c:=co143) ?_).2.2;exact (z33_ HO_790001.out BK789.out));(case s2=>exact (Kd.R_reads' HO_790001.out).2.1);rintro e w144 ⟨v814,rfl,ho0,hb⟩;refine ⟨_,rfl,?_⟩;refine as10_ (Kd.R_below (z33_ HO_790000.out BK789.out) hb) (Kd.R_elder' (z33_ HO_790001.out BK789.out) (Kd.R_base ho0) hb) (Kd.R_below (z33_ HO809.out BK789.out) hb) (Kd.R_below (z33_ HO812.out BK789.out) hb) (Kd.R_lower (Kd.R_new' ho0 (Kd.R_lt (z33_ HO_790001.out BK789.out))) (below_size (z10_ HB.out GE763.out GE764.out GE789.out GE806.out))) (blk_below (g:=gb763) (o:=.cells #[.slice A0_0 l0_0.length c0_0,.slice A0_1 l0_1.length c0_1] 40 (0,0)) (z16_ NB763_789.out BK763.out) hb) (blk_below (g:=gb764) (o:=.cells #[.slice none 0 0,.slice none 0 0,.int .i64 0,.int .i64 0,.int .i64 0] 58 (0,0)) (z16_ NB764_789.out BK764.out) hb) (blk_below (g:=gb789) (o:=.cells #[.slice Ao140 t810.length co140,.slice Ao143 x790001_3.length co143] 40 (0,0)) (by (with_reducible repeat (first | refine blk_drewN ?_ _ | refine blk_drew ?_ | refine blk_alloc ?_ _));refine blk_put (cs:=#[.slice Ao75 t786.length co75,.slice Ao143 x790001_3.length co143]) ?_ 0 _ rfl;(with_reducible repeat (first | refine blk_drewN ?_ _ | refine blk_drew ?_ | refine blk_alloc ?_ _));exact BK789.out) hb) (blk_below (g:=gb806) (o:=.cells #[.int .i64 a2,.int .i64 (wrap64 (t790+1))] 56 (0,0)) (z16_ NB806_789.out BK806.out) hb) (below_step (z10_ HB.out GE763.out GE764.out GE789.out GE806.out) hb) ?_;clear HO_790000 HO_790001 HO809 HO812 BK763 BK764 BK789 BK806 HB;intro HO_790000 HO_790001 HO809 HO812 HO815 BK763 BK764 BK789 BK806 HB;(try clear hb);(try clear hk);(try clear ho0);obtain ⟨Ao145,co145,eo145⟩:=Kd.R_slice HO815.out;subst eo145;have ⟨hcz146_0,hcz146_1,hfz146_0,hfz146_1⟩:=cz2_ BK789.out;have ⟨hcz147_0,hcz147_1,hfz147_0,hfz147_1⟩:=cz2_ BK806.out;have ⟨hcz148_0,hcz148_1,hcz148_2,hcz148_3,hcz148_4,hfz148_0,hfz148_1,hfz148_2,hfz148_3,hfz148_4⟩:=cz5_ BK764.out))
            refine bodyPost_ret (results_cell_row rfl _ _ gb764 58 #[.slice Ao140 t810.length co140,.slice Ao145 t813.length co145,.int .i64 a2,.int .i64 (wrap64 (t790+1)),.int .i64 0] (0,0) _ rfl (by (with_reducible repeat (first | refine blk_drewN ?_ _ | refine blk_drew ?_ | refine blk_alloc ?_ _));apply put5_;(with_reducible repeat (first | refine blk_drewN ?_ _ | refine blk_drew ?_ | refine blk_alloc ?_ _));refine blk_far ?_ NB764_789.out _;(with_reducible repeat (first | refine blk_drewN ?_ _ | refine blk_drew ?_ | refine blk_alloc ?_ _));exact BK764.out) Try.underlying58 rfl (by kernel_rfl)) rfl ?_
            exact ⟨_,_,z8_,by (with_reducible repeat (first | apply Kd.R_alloc | apply Kd.R_drewN | apply Kd.R_drew));exact Kd.R_mono (rf5_ (Kd.R_far (p:=⟨gb789,1,none⟩) (Kd.R_types (Kd.R_types HO812.out BK789.out (by decide)) BK764.out (by decide)) (fun _ hk=>hk.1.2) (.slice Ao145 t813.length co145)) (fun _ hk=>hk.2)) (fun _ hk=>trivial),by (with_reducible repeat (first | apply Kd.R_alloc | apply Kd.R_drewN | apply Kd.R_drew));exact Kd.R_mono (rf5_ (Kd.R_far (p:=⟨gb789,1,none⟩) (Kd.R_types (Kd.R_types HO815.out BK789.out (by decide)) BK764.out (by decide)) (fun _ hk=>hk.1.2) (.slice Ao145 t813.length co145)) (fun _ hk=>hk.2)) (fun _ hk=>trivial),z10_ HB.out GE763.out GE764.out GE789.out GE806.out⟩


/-! ### impl_isMany_impl_Mark: function 75 -/
def impl_isMany_impl_Mark.f (l0:List (S56)):Option (Bool):=some (decide ((l0.length:Int)>400))
set_option maxHeartbeats 8000000 in
set_option maxRecDepth 100000 in
theorem impl_isMany_impl_Mark.calls (A0:Option Addr) (c0:Nat) (l0:List (S56)) (r:Bool) (w:World) (hr0:Kd.C k56 w A0 l0.length l0) (hc0:l0.length≤c0) (h:impl_isMany_impl_Mark.f l0=some r) :
  Calls Try.prog 75 #[.slice A0 l0.length c0] w fun e w'=>e = .returned (.bool r)∧Drawn0 w w':=by
 have HR0:=Aside0.mk hr0
 have HC0:=Aside0.mk hc0
 clear hr0 hc0
 have H:(some (decide ((l0.length:Int)>400)))=some r:=h
 clear h
 obtain rfl:=Option.some.inj H
 go_enter Try.func75,Try.ntmps75
 go_wp2
 go_ret
 exact ⟨z2_,z11_⟩


/-! ### impl_isLong_1: function 104 -/
def impl_isLong_1.f (a0:ByteArray):Option (Bool):=some (decide ((a0.size:Int)>8000))
set_option maxHeartbeats 8000000 in
set_option maxRecDepth 100000 in
theorem impl_isLong_1.calls (a0:ByteArray) (r:Bool) (w:World) (h:impl_isLong_1.f a0=some r) :
  Calls Try.prog 104 #[.string a0] w fun e w'=>e = .returned (.bool r)∧Drawn0 w w':=by
 have H:(some (decide ((a0.size:Int)>8000)))=some r:=h
 clear h
 obtain rfl:=Option.some.inj H
 go_enter Try.func104,Try.ntmps104
 go_wp2
 go_ret
 exact ⟨z2_,z11_⟩


/-! ### slices_IndexFunc_string_string_impl_isLong_1: function 112 -/
def slices_IndexFunc_string_string_impl_isLong_1.l0:Nat→List ByteArray→Int→Int→Option (Int)
 | 0,_,_,_=>none
 | k+1,x0,x7,x8=>if x8<x7 then (if 0≤x8 then (if x8<(x0.length:Int) then ((impl_isLong_1.f (rdOf ByteArray.empty x0 x8)).bind fun t826=>(if t826=true then (some x8) else (slices_IndexFunc_string_string_impl_isLong_1.l0 k x0 x7 (wrap64 (x8+1))))) else (none)) else (none)) else (some (-1))
def slices_IndexFunc_string_string_impl_isLong_1.f (k:Nat) (l0:List ByteArray)  : Option (Int):=slices_IndexFunc_string_string_impl_isLong_1.l0 k l0 (l0.length:Int) 0
theorem slices_IndexFunc_string_string_impl_isLong_1.mono_l:∀ k,(∀ y0 y1 y2,LeO (slices_IndexFunc_string_string_impl_isLong_1.l0 k y0 y1 y2) (slices_IndexFunc_string_string_impl_isLong_1.l0 (k+1) y0 y1 y2))
 | 0=>fun _ _ _ r h=>by simp [slices_IndexFunc_string_string_impl_isLong_1.l0] at h
 | k+1=>by
  have ih0:=slices_IndexFunc_string_string_impl_isLong_1.mono_l k
  ·intro y0 y1 y2
   unfold slices_IndexFunc_string_string_impl_isLong_1.l0
   repeat' first
   | (with_reducible exact ih0 _ _ _)
   | (with_reducible exact LeO.refl _)
   | (with_reducible exact LeO.none _)
   | (with_reducible refine LeO.ite ?_ ?_)
   | (with_reducible refine LeO.bind ?_ (fun _=>?_))
   | exact ih0 _ _ _
   | exact LeO.none _
   | refine LeO.ite ?_ ?_
   | refine LeO.bind ?_ (fun _=>?_)
theorem slices_IndexFunc_string_string_impl_isLong_1.mono:∀ a0 k,LeO (slices_IndexFunc_string_string_impl_isLong_1.f k a0) (slices_IndexFunc_string_string_impl_isLong_1.f (k+1) a0):=by
 intro a0 k
 have ih0:=slices_IndexFunc_string_string_impl_isLong_1.mono_l k
 unfold slices_IndexFunc_string_string_impl_isLong_1.f
 repeat' first
   | (with_reducible exact ih0 _ _ _)
   | (with_reducible exact LeO.refl _)
   | (with_reducible exact LeO.none _)
   | (with_reducible refine LeO.ite ?_ ?_)
   | (with_reducible refine LeO.bind ?_ (fun _=>?_))
   | exact ih0 _ _ _
   | exact LeO.none _
   | refine LeO.ite ?_ ?_
   | refine LeO.bind ?_ (fun _=>?_)
set_option maxHeartbeats 8000000 in
set_option maxRecDepth 100000 in
theorem slices_IndexFunc_string_string_impl_isLong_1.calls (k:Nat) (A0:Option Addr) (c0:Nat) (l0:List ByteArray)  (r:Int) (w:World) (hr0:Kd.C Kd.string w A0 l0.length l0) (hc0:l0.length≤c0) (h:slices_IndexFunc_string_string_impl_isLong_1.f k l0=some r) :
  Calls Try.prog 112 #[.slice A0 l0.length c0,.func (.func 104) #[] #[]] w fun e w'=>e = .returned (.int .i64 r)∧Drawn0 w w':=by
 have HR0:=Aside0.mk hr0
 have HC0:=Aside0.mk hc0
 clear hr0 hc0
 have H:(slices_IndexFunc_string_string_impl_isLong_1.l0 k l0 (l0.length:Int) 0)=some r:=h
 clear h
 have H':=Aside0.mk H
 clear H
 go_enter Try.func112,Try.ntmps112
 go_wp2
 go_loopg [8] k (fun kq v8 w'=>∃ (x8_1:Int),v8 = .int .i64 x8_1∧Aside0 (slices_IndexFunc_string_string_impl_isLong_1.l0 kq l0 (l0.length:Int) x8_1=some r)∧Aside0 (kq≤k)∧Drawn0 w w')
 case atStart=>exact ⟨(0),(z2_),H',⟨Nat.le_refl _⟩,z11_⟩
 case round =>
  clear H'
  try clear p2
  obtain ⟨x8_1,rfl,HA,HK1,⟨m1,rfl⟩⟩:=hrel
  cases gk with
  | zero=>exact absurd HA.out (by simp [slices_IndexFunc_string_string_impl_isLong_1.l0])
  | succ k1 =>
   have H:=HA.out
   clear HA
   simp only [slices_IndexFunc_string_string_impl_isLong_1.l0] at H
   by_cases c3:x8_1<(l0.length:Int)
   ·rw [if_pos c3] at H
    have c3b0:decide (x8_1<(l0.length:Int))=true:=decide_eq_true c3
    clear c3
    by_cases c4:0≤x8_1
    ·rw [if_pos c4] at H
     have c4b0:decide (0≤x8_1)=true:=decide_eq_true c4
     clear c4
     by_cases c5:x8_1<(l0.length:Int)
     ·rw [if_pos c5] at H
      have c5b0:decide (x8_1<(l0.length:Int))=true:=decide_eq_true c5
      clear c5
      replace H:=Option.bind_eq_some_iff.mp H
      obtain ⟨t826,A60,H⟩:=H
      replace H:(if t826=true then (some x8_1) else (slices_IndexFunc_string_string_impl_isLong_1.l0 k1 l0 (l0.length:Int) (wrap64 (x8_1+1))))=some r:=H
      have A6:=Aside0.mk A60
      clear A60
      by_cases c7:t826=true
      ·subst c7
       have H1:(some x8_1)=some r:=by rw [if_pos rfl] at H;exact H
       clear H
       have H:=H1
       clear H1
       obtain rfl:=Option.some.inj H
       have p825:0≤(x8_1:Int):=of_decide_eq_true (z1_)
       have q825:x8_1<(l0.length:Int):=of_decide_eq_true (z1_)
       obtain ⟨ad825,e825,hx825_0⟩:=Kd.at_string HR0.out x8_1 p825 q825
       cases e825
       replace p825:=eq_true p825
       replace q825:=eq_true q825
       go_wp2_with (first | (go_at_call 104;(with_reducible refine (impl_isLong_1.calls (rdOf ByteArray.empty l0 x8_1) true _ A6.out).mono ?_);rintro e w' ⟨rfl,⟨nd,rfl⟩⟩))
       go_ret
       exact ⟨z2_,z11_⟩
      ·replace c7:=Bool.eq_false_iff.mpr c7
       subst c7
       have H1:(slices_IndexFunc_string_string_impl_isLong_1.l0 k1 l0 (l0.length:Int) (wrap64 (x8_1+1)))=some r:=by rw [if_neg (show ¬ (false=true) by decide)] at H;exact H
       clear H
       have H:=H1
       clear H1
       have H':=Aside0.mk H
       clear H
       have p825:0≤(x8_1:Int):=of_decide_eq_true (z1_)
       have q825:x8_1<(l0.length:Int):=of_decide_eq_true (z1_)
       obtain ⟨ad825,e825,hx825_0⟩:=Kd.at_string HR0.out x8_1 p825 q825
       cases e825
       replace p825:=eq_true p825
       replace q825:=eq_true q825
       go_wp2_with (first | (go_at_call 104;(with_reducible refine (impl_isLong_1.calls (rdOf ByteArray.empty l0 x8_1) false _ A6.out).mono ?_);rintro e w' ⟨rfl,⟨nd,rfl⟩⟩))
       go_roundg k1
       case measure=>have:=HK1.out;omega
       case rel=>exact ⟨(wrap64 (x8_1+1)),(z2_),H',⟨by have:=HK1.out;omega⟩,z11_⟩
     ·rw [if_neg c5] at H
      exact absurd H (by simp)
    ·rw [if_neg c4] at H
     exact absurd H (by simp)
   ·rw [if_neg c3] at H
    have c3b0:decide (x8_1<(l0.length:Int))=false:=decide_eq_false c3
    clear c3
    obtain rfl:=Option.some.inj H
    go_wp2
    go_ret
    exact ⟨z2_,z11_⟩


/-! ### slices_ContainsFunc_string_string_impl_isLong_1: function 103 -/
def slices_ContainsFunc_string_string_impl_isLong_1.f (k:Nat) (l0:List ByteArray)  : Option (Bool):=(slices_IndexFunc_string_string_impl_isLong_1.f k l0).bind fun t827=>(some (decide (t827≥0)))
theorem slices_ContainsFunc_string_string_impl_isLong_1.mono:∀ a0 k,LeO (slices_ContainsFunc_string_string_impl_isLong_1.f k a0) (slices_ContainsFunc_string_string_impl_isLong_1.f (k+1) a0):=by
 intro a0 k
 unfold slices_ContainsFunc_string_string_impl_isLong_1.f
 repeat' first
   | (with_reducible exact slices_IndexFunc_string_string_impl_isLong_1.mono _ _)
   | (with_reducible exact LeO.refl _)
   | (with_reducible exact LeO.none _)
   | (with_reducible refine LeO.ite ?_ ?_)
   | (with_reducible refine LeO.bind ?_ (fun _=>?_))
   | exact slices_IndexFunc_string_string_impl_isLong_1.mono _ _
   | exact LeO.none _
   | refine LeO.ite ?_ ?_
   | refine LeO.bind ?_ (fun _=>?_)
set_option maxHeartbeats 8000000 in
set_option maxRecDepth 100000 in
theorem slices_ContainsFunc_string_string_impl_isLong_1.calls (k:Nat) (A0:Option Addr) (c0:Nat) (l0:List ByteArray)  (r:Bool) (w:World) (hr0:Kd.C Kd.string w A0 l0.length l0) (hc0:l0.length≤c0) (h:slices_ContainsFunc_string_string_impl_isLong_1.f k l0=some r) :
  Calls Try.prog 103 #[.slice A0 l0.length c0,.func (.func 104) #[] #[]] w fun e w'=>e = .returned (.bool r)∧Drawn0 w w':=by
 have HR0:=Aside0.mk hr0
 have HC0:=Aside0.mk hc0
 clear hr0 hc0
 have H:((slices_IndexFunc_string_string_impl_isLong_1.f k l0).bind fun t827=>(some (decide (t827≥0))))=some r:=h
 clear h
 replace H:=Option.bind_eq_some_iff.mp H
 obtain ⟨t827,A30,H⟩:=H
 replace H:(some (decide (t827≥0)))=some r:=H
 have A3:=Aside0.mk A30
 clear A30
 obtain rfl:=Option.some.inj H
 go_enter Try.func103,Try.ntmps103
 go_wp2_with (first | ((with_reducible refine gc_ 112 ?_);refine gl_ (some 7) Try.func112 #[.slice A0 l0.length c0,.func (.func 104) #[] #[]] ?_;(with_reducible refine (slices_IndexFunc_string_string_impl_isLong_1.calls k _ _ l0  t827 _ ?s1 ?s2 A3.out).mono ?_);(case s1=>repeat (first | exact HR0.out | (with_reducible refine Kd.C_alloc ?_ _) | (with_reducible refine Kd.C_drewN ?_ _) | (with_reducible refine Kd.C_drew ?_)));(case s2=>exact HC0.out);rintro e w' ⟨rfl,⟨nd,rfl⟩⟩;refine ⟨_,rfl,?_⟩))
 go_ret
 exact ⟨z2_,z11_⟩


/-! ### impl_isLong: function 76 -/
def impl_isLong.f (k:Nat) (l0:List ByteArray):Option (Bool):=(slices_ContainsFunc_string_string_impl_isLong_1.f k l0).bind fun t828=>(some t828)
theorem impl_isLong.mono:∀ a0 k,LeO (impl_isLong.f k a0) (impl_isLong.f (k+1) a0):=by
 intro a0 k
 unfold impl_isLong.f
 repeat' first
   | (with_reducible exact slices_ContainsFunc_string_string_impl_isLong_1.mono _ _)
   | (with_reducible exact LeO.refl _)
   | (with_reducible exact LeO.none _)
   | (with_reducible refine LeO.ite ?_ ?_)
   | (with_reducible refine LeO.bind ?_ (fun _=>?_))
   | exact slices_ContainsFunc_string_string_impl_isLong_1.mono _ _
   | exact LeO.none _
   | refine LeO.ite ?_ ?_
   | refine LeO.bind ?_ (fun _=>?_)
set_option maxHeartbeats 8000000 in
set_option maxRecDepth 100000 in
theorem impl_isLong.calls (k:Nat) (A0:Option Addr) (c0:Nat) (l0:List ByteArray) (r:Bool) (w:World) (hr0:Kd.C Kd.string w A0 l0.length l0) (hc0:l0.length≤c0) (h:impl_isLong.f k l0=some r) :
  Calls Try.prog 76 #[.slice A0 l0.length c0] w fun e w'=>e = .returned (.bool r)∧Drawn0 w w':=by
 have HR0:=Aside0.mk hr0
 have HC0:=Aside0.mk hc0
 clear hr0 hc0
 have H:((slices_ContainsFunc_string_string_impl_isLong_1.f k l0).bind fun t828=>(some t828))=some r:=h
 clear h
 replace H:=Option.bind_eq_some_iff.mp H
 obtain ⟨t828,A20,H⟩:=H
 replace H:(some t828)=some r:=H
 have A2:=Aside0.mk A20
 clear A20
 obtain rfl:=Option.some.inj H
 go_enter Try.func76,Try.ntmps76
 go_wp2_with (first | ((with_reducible refine gc_ 103 ?_);refine gl_ (some 4) Try.func103 #[.slice A0 l0.length c0,.func (.func 104) #[] #[]] ?_;(with_reducible refine (slices_ContainsFunc_string_string_impl_isLong_1.calls k _ _ l0  t828 _ ?s1 ?s2 A2.out).mono ?_);(case s1=>repeat (first | exact HR0.out | (with_reducible refine Kd.C_alloc ?_ _) | (with_reducible refine Kd.C_drewN ?_ _) | (with_reducible refine Kd.C_drew ?_)));(case s2=>exact HC0.out);rintro e w' ⟨rfl,⟨nd,rfl⟩⟩;refine ⟨_,rfl,?_⟩))
 go_ret
 exact ⟨z2_,z11_⟩


/-! ### impl_seenOf: function 94 -/
def impl_seenOf.l0:Nat→Int→List (S56)→Int→Int→Option (Int)
 | 0,_,_,_,_=>none
 | k+1,x1,x7,x8,x9=>if x9<x8 then (if 0≤x9 then (if x9<(x7.length:Int) then (if ((rd_T56 x7 x9).f0)=x1 then (some ((rd_T56 x7 x9).f1)) else (impl_seenOf.l0 k x1 x7 x8 (wrap64 (x9+1)))) else (none)) else (none)) else (some 0)
def impl_seenOf.f (k:Nat) (l0:List (S56)) (a1:Int):Option (Int):=impl_seenOf.l0 k a1 l0 (l0.length:Int) 0
theorem impl_seenOf.mono_l:∀ k,(∀ y0 y1 y2 y3,LeO (impl_seenOf.l0 k y0 y1 y2 y3) (impl_seenOf.l0 (k+1) y0 y1 y2 y3))
 | 0=>fun _ _ _ _ r h=>by simp [impl_seenOf.l0] at h
 | k+1=>by
  have ih0:=impl_seenOf.mono_l k
  ·intro y0 y1 y2 y3
   unfold impl_seenOf.l0
   repeat' first
   | (with_reducible exact ih0 _ _ _ _)
   | (with_reducible exact LeO.refl _)
   | (with_reducible exact LeO.none _)
   | (with_reducible refine LeO.ite ?_ ?_)
   | (with_reducible refine LeO.bind ?_ (fun _=>?_))
   | exact ih0 _ _ _ _
   | exact LeO.none _
   | refine LeO.ite ?_ ?_
   | refine LeO.bind ?_ (fun _=>?_)
theorem impl_seenOf.mono:∀ a0 a1 k,LeO (impl_seenOf.f k a0 a1) (impl_seenOf.f (k+1) a0 a1):=by
 intro a0 a1 k
 have ih0:=impl_seenOf.mono_l k
 unfold impl_seenOf.f
 repeat' first
   | (with_reducible exact ih0 _ _ _ _)
   | (with_reducible exact LeO.refl _)
   | (with_reducible exact LeO.none _)
   | (with_reducible refine LeO.ite ?_ ?_)
   | (with_reducible refine LeO.bind ?_ (fun _=>?_))
   | exact ih0 _ _ _ _
   | exact LeO.none _
   | refine LeO.ite ?_ ?_
   | refine LeO.bind ?_ (fun _=>?_)
set_option maxHeartbeats 8000000 in
set_option maxRecDepth 100000 in
theorem impl_seenOf.calls (k:Nat) (A0:Option Addr) (c0:Nat) (l0:List (S56)) (a1:Int) (r:Int) (w:World) (hr0:Kd.C k56 w A0 l0.length l0) (hc0:l0.length≤c0) (h:impl_seenOf.f k l0 a1=some r) :
  Calls Try.prog 94 #[.slice A0 l0.length c0,.int .i64 a1] w fun e w'=>e = .returned (.int .i64 r)∧Below w.heap.size w w':=by
 have hu56:=Try.underlying56
 have HR0:=Aside0.mk hr0
 have HC0:=Aside0.mk hc0
 clear hr0 hc0
 have HB:=Aside0.mk (Below.refl w.heap.size w)
 have H:(impl_seenOf.l0 k a1 l0 (l0.length:Int) 0)=some r:=h
 clear h
 have H':=Aside0.mk H
 clear H
 go_enter Try.func94,Try.ntmps94
 go_wp2
 go_loopg [9] k (fun kq v9 w'=>∃ (x9_1:Int),v9 = .int .i64 x9_1∧Aside0 (impl_seenOf.l0 kq a1 l0 (l0.length:Int) x9_1=some r)∧Aside0 (kq≤k)∧Aside0 (Below w.heap.size w w'))
 case atStart=>exact ⟨(0),(z2_),H',⟨Nat.le_refl _⟩,⟨z3_ HB.out⟩⟩
 case round =>
  clear H'
  try clear p2
  obtain ⟨x9_1,rfl,HA,HK1,HB⟩:=hrel
  cases gk with
  | zero=>exact absurd HA.out (by simp [impl_seenOf.l0])
  | succ k1 =>
   have H:=HA.out
   clear HA
   simp only [impl_seenOf.l0] at H
   by_cases c3:x9_1<(l0.length:Int)
   ·rw [if_pos c3] at H
    have c3b0:decide (x9_1<(l0.length:Int))=true:=decide_eq_true c3
    clear c3
    by_cases c4:0≤x9_1
    ·rw [if_pos c4] at H
     have c4b0:decide (0≤x9_1)=true:=decide_eq_true c4
     clear c4
     by_cases c5:x9_1<(l0.length:Int)
     ·rw [if_pos c5] at H
      have c5b0:decide (x9_1<(l0.length:Int))=true:=decide_eq_true c5
      clear c5
      by_cases c6:((rd_T56 l0 x9_1).f0)=a1
      ·rw [if_pos c6] at H
       have c6b0:(((rd_T56 l0 x9_1).f0) == a1)=true:=beq_iff_eq.mpr c6
       have c6b1:(((rd_T56 l0 x9_1).f0) != a1)=false:=bne_eq_false_iff_eq.mpr c6
       clear c6
       obtain rfl:=Option.some.inj H
       have p258:0≤(x9_1:Int):=of_decide_eq_true (z1_)
       have q258:x9_1<(l0.length:Int):=of_decide_eq_true (z1_)
       obtain ⟨ad258,e258,hx258_0,hx258_1⟩:=at_T56 HR0.out x9_1 p258 q258
       cases e258
       replace hx258_0:=(HB.out.cell (World.block_lt_of_cell? w _ hx258_0)).trans hx258_0
       replace hx258_1:=(HB.out.cell (World.block_lt_of_cell? w _ hx258_1)).trans hx258_1
       replace p258:=eq_true p258
       replace q258:=eq_true q258
       go_wp2_with (first | ((with_reducible refine gd_ 6 ?_);refine be_ 6 #[.int .i64 0,.int .i64 0] 56 ?_;intro gb259 hg w7 hbox hb;refine as4_ (below_step (z3_ HB.out) hb) (hbox) ((z7_ HB.out:w.heap.size≤gb259)) ((z7_ HB.out:w.heap.size≤gb259)) ?_;clear HB;intro HB BK259 GW259 GE259;clear hb hbox hg;have ⟨hcz8_0,hcz8_1,hfz8_0,hfz8_1⟩:=cz2_ BK259.out))
       go_ret
       exact ⟨z8_,z6_ HB.out GE259.out⟩
      ·rw [if_neg c6] at H
       have c6b0:(((rd_T56 l0 x9_1).f0) == a1)=false:=beq_eq_false_iff_ne.mpr c6
       have c6b1:(((rd_T56 l0 x9_1).f0) != a1)=true:=bne_iff_ne.mpr c6
       have H':=Aside0.mk H
       clear H
       have p258:0≤(x9_1:Int):=of_decide_eq_true (z1_)
       have q258:x9_1<(l0.length:Int):=of_decide_eq_true (z1_)
       obtain ⟨ad258,e258,hx258_0,hx258_1⟩:=at_T56 HR0.out x9_1 p258 q258
       cases e258
       replace hx258_0:=(HB.out.cell (World.block_lt_of_cell? w _ hx258_0)).trans hx258_0
       replace hx258_1:=(HB.out.cell (World.block_lt_of_cell? w _ hx258_1)).trans hx258_1
       replace p258:=eq_true p258
       replace q258:=eq_true q258
       go_wp2_with (first | ((with_reducible refine gd_ 6 ?_);refine be_ 6 #[.int .i64 0,.int .i64 0] 56 ?_;intro gb259 hg w9 hbox hb;refine as4_ (below_step (z3_ HB.out) hb) (hbox) ((z7_ HB.out:w.heap.size≤gb259)) ((z7_ HB.out:w.heap.size≤gb259)) ?_;clear HB;intro HB BK259 GW259 GE259;clear hb hbox hg;have ⟨hcz10_0,hcz10_1,hfz10_0,hfz10_1⟩:=cz2_ BK259.out))
       go_roundg k1
       case measure=>have:=HK1.out;omega
       case rel=>exact ⟨(wrap64 (x9_1+1)),(z2_),H',⟨by have:=HK1.out;omega⟩,⟨z6_ HB.out GE259.out⟩⟩
     ·rw [if_neg c5] at H
      exact absurd H (by simp)
    ·rw [if_neg c4] at H
     exact absurd H (by simp)
   ·rw [if_neg c3] at H
    have c3b0:decide (x9_1<(l0.length:Int))=false:=decide_eq_false c3
    clear c3
    obtain rfl:=Option.some.inj H
    go_wp2
    go_ret
    exact ⟨z8_,z3_ HB.out⟩


/-! ### impl_seenHas: function 64 -/
def impl_seenHas.f (k:Nat) (l0:List (S56)) (a1_0:Int) (a1_1:Int):Option (Bool):=(impl_seenOf.f k l0 a1_0).bind fun t261=>(some (decide (a1_1≤t261)))
theorem impl_seenHas.mono:∀ a0 a1 a2 k,LeO (impl_seenHas.f k a0 a1 a2) (impl_seenHas.f (k+1) a0 a1 a2):=by
 intro a0 a1 a2 k
 unfold impl_seenHas.f
 repeat' first
   | (with_reducible exact impl_seenOf.mono _ _ _)
   | (with_reducible exact LeO.refl _)
   | (with_reducible exact LeO.none _)
   | (with_reducible refine LeO.ite ?_ ?_)
   | (with_reducible refine LeO.bind ?_ (fun _=>?_))
   | exact impl_seenOf.mono _ _ _
   | exact LeO.none _
   | refine LeO.ite ?_ ?_
   | refine LeO.bind ?_ (fun _=>?_)
def impl_seenHas.T1:Bool × List (List Nat × List Nat):=(true,[([],[]),([0],[0]),([],[]),([],[]),([3],[3]),([2,4],[2,4]),([1,5],[1,5]),([6,5,0,1,2,3,4,5,6],[6])])
def impl_seenHas.B1:List Nat:=[0,1,0,0,8,28,63,127]
theorem impl_seenHas.tab1:rtab .any (opsOf Try.f64 1)=impl_seenHas.T1:=by kernel_rfl
theorem impl_seenHas.bits1:waitsOk impl_seenHas.T1.2 impl_seenHas.B1=true:=by kernel_rfl
set_option maxHeartbeats 8000000 in
set_option maxRecDepth 100000 in
theorem impl_seenHas.calls (k:Nat) (A0:Option Addr) (c0:Nat) (l0:List (S56)) (a1_0:Int) (a1_1:Int) (r:Bool) (w:World) (hr0:Kd.C k56 w A0 l0.length l0) (hc0:l0.length≤c0) (h:impl_seenHas.f k l0 a1_0 a1_1=some r) :
  Calls Try.prog 64 #[.slice A0 l0.length c0,.agg #[.int .i64 a1_0,.int .i64 a1_1]] w fun e w'=>e = .returned (.bool r)∧Below w.heap.size w w':=by
 have hu56:=Try.underlying56
 have HR0:=Aside0.mk hr0
 have HC0:=Aside0.mk hc0
 clear hr0 hc0
 have HB:=Aside0.mk (Below.refl w.heap.size w)
 have H:((impl_seenOf.f k l0 a1_0).bind fun t261=>(some (decide (a1_1≤t261))))=some r:=h
 clear h
 replace H:=Option.bind_eq_some_iff.mp H
 obtain ⟨t261,A30,H⟩:=H
 replace H:(some (decide (a1_1≤t261)))=some r:=H
 have A3:=Aside0.mk A30
 clear A30
 obtain rfl:=Option.some.inj H
 go_enter Try.func64,Try.ntmps64
 try go_wp2_with (first | ((with_reducible refine gd_ 3 ?_);refine be_ 3 #[.int .i64 a1_0,.int .i64 a1_1] 56 ?_;intro gb260 hg w4 hbox hb;refine as4_ (below_step (z3_ HB.out) hb) (hbox) ((z7_ HB.out:w.heap.size≤gb260)) ((z7_ HB.out:w.heap.size≤gb260)) ?_;clear HB;intro HB BK260 GW260 GE260;clear hb hbox hg))
 refine as2_ (blk_drew BK260.out) (below_drew1 HB.out) ?_
 clear BK260 HB
 intro BK260 HB
 refine start_ (n:=8) (S:=fun w'=>w'.cell? ⟨gb260,0,none⟩=some (.int .i64 a1_0)∧w'.cell? ⟨gb260,1,none⟩=some (.int .i64 a1_1)) (ds:=[]) #[O,O,O,O,O,O,O,O] (by kernel_rfl) rfl rfl (cc2_ BK260.out) (fun hHeld=>?_);refine with_tabW impl_seenHas.tab1 impl_seenHas.bits1 (fun HT_ HW_=>?_)
 generalize w4.drew=w5 at BK260 HB hHeld ⊢
 refine pu_ 0 5 #[I,O,O,O,O,O,O,O] HT_.out ?_
 refine pu_ 2 7 #[I,O,I,O,O,O,O,O] HT_.out ?_
 refine pu_ 3 8 #[I,O,I,I,O,O,O,O] HT_.out ?_
 refine tk2_ 1 6 #[I,I,I,I,O,O,O,O] HT_.out HW_.out hHeld ?_
 refine tk2_ 4 9 #[I,I,I,I,I,O,O,O] HT_.out HW_.out hHeld ?_
 refine o1_ 5 10 #[I,I,I,I,I,I,O,O] HT_.out (fun K hK=>?_)
 refine gs_ Try.func94 #[.slice A0 l0.length c0,.int .i64 a1_0] ?_
 with_reducible refine (impl_seenOf.calls k _ _ l0 a1_0 t261 _ ?s1 ?s2 A3.out).mono ?_
 (case s1=>repeat (first | exact (Kd.C_below HR0.out HB.out) | (with_reducible refine Kd.C_alloc ?_ _) | (with_reducible refine Kd.C_drewN ?_ _) | (with_reducible refine Kd.C_drew ?_)))
 (case s2=>exact HC0.out)
 rintro e w6 ⟨rfl,hb⟩
 refine ⟨_,rfl,?_⟩
 refine as2_ (blkB_ BK260.out hb) (below_step (z6_ HB.out GE260.out) hb) ?_
 clear BK260 HB
 intro BK260 HB
 (try clear hb)
 refine hK.out _ _ (cc2_ BK260.out) (fun hHeld=>?_)
 clear hK K
 refine nm_ 10 ?_
 refine pu_ 6 11 #[I,I,I,I,I,I,I,O] HT_.out ?_
 refine pu_ 7 4 #[I,I,I,I,I,I,I,I] HT_.out ?_
 refine done_ (done_of HT_.out (by kernel_rfl)) ?_
 try go_wp2
 go_ret
 exact ⟨z8_,z6_ HB.out GE260.out⟩


/-! ### impl_within: function 41 -/
def impl_within.f (a0:Int) (a1:Int) (a2:Int):Option (Bool):=if a1≤a0 then (some (decide (a0≤a2))) else (some false)
set_option maxHeartbeats 8000000 in
set_option maxRecDepth 100000 in
theorem impl_within.calls (a0:Int) (a1:Int) (a2:Int) (r:Bool) (w:World) (h:impl_within.f a0 a1 a2=some r) :
  Calls Try.prog 41 #[.int .i64 a0,.int .i64 a1,.int .i64 a2] w fun e w'=>e = .returned (.bool r)∧Drawn0 w w':=by
 have H:(if a1≤a0 then (some (decide (a0≤a2))) else (some false))=some r:=h
 clear h
 by_cases c4:a1≤a0
 ·rw [if_pos c4] at H
  have c4b0:decide (a1≤a0)=true:=decide_eq_true c4
  clear c4
  obtain rfl:=Option.some.inj H
  go_enter Try.func41,Try.ntmps41
  go_wp2
  go_ret
  exact ⟨z2_,z11_⟩
 ·rw [if_neg c4] at H
  have c4b0:decide (a1≤a0)=false:=decide_eq_false c4
  clear c4
  obtain rfl:=Option.some.inj H
  go_enter Try.func41,Try.ntmps41
  go_wp2
  go_ret
  exact ⟨z2_,z11_⟩

end Go.Proofs.Ytphbgcfpcadabaa.P
