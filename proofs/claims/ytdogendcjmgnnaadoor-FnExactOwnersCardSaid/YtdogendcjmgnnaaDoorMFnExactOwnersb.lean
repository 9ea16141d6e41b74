/- For all rings, keys and numbers the program's Owners and the reference's return the same, of memory of its own, and the ring stays as it was. No condition. (Part 2 of 4: written by programs of this workplace and by hand, merged.) -/
import Derived.Test.YtdogendcjmgnnaaDoorMFnExactOwnersa
set_option linter.unusedVariables false
set_option linter.unusedSimpArgs false

namespace Go.Proofs.YtdogendcjmgnnaaDoor.P
open Go.RowKit Go.Proofs.YtdogendcjmgnnaaDoorW.PrintWords Go.Proofs.YtdogendcjmgnnaaDoorW.PrintLast Go.Proofs.YtdogendcjmgnnaaDoorW.PrintMore
attribute [local go_sem] max2_int min2_int max_two min_two max_three min_three max_four min_four   -- for this text's walks alone
set_option linter.unusedVariables false
set_option linter.unusedSimpArgs false

/-! ### spec_l04Owners: function 51 -/
def spec_l04Owners.f (k:Nat) (a0_0:Int) (l0_1:List (S57)) (a1:ByteArray) (a2:Int):Option (List Int):=(spec_l04Order.f k a0_0 l0_1 a1).bind fun t516=>((spec_l01Min.f a2 (t516.length:Int)).bind fun t519=>(if 0≤t519 then (if t519≤(t516.length:Int) then (some (t516.take (t519:Int).toNat)) else (none)) else (none)))
theorem spec_l04Owners.mono:∀ a0 a1 a2 a3 k,LeO (spec_l04Owners.f k a0 a1 a2 a3) (spec_l04Owners.f (k+1) a0 a1 a2 a3):=by
 intro a0 a1 a2 a3 k
 unfold spec_l04Owners.f
 repeat' first
   | (with_reducible exact spec_l04Order.mono _ _ _ _)
   | (with_reducible exact LeO.refl _)
   | (with_reducible exact LeO.none _)
   | (with_reducible refine LeO.ite ?_ ?_)
   | (with_reducible refine LeO.bind ?_ (fun _=>?_))
   | exact spec_l04Order.mono _ _ _ _
   | exact LeO.none _
   | refine LeO.ite ?_ ?_
   | refine LeO.bind ?_ (fun _=>?_)
set_option maxHeartbeats 8000000 in
set_option maxRecDepth 100000 in
theorem spec_l04Owners.calls (k:Nat) (a0_0:Int) (A0_1:Option Addr) (c0_1:Nat) (l0_1:List (S57)) (a1:ByteArray) (a2:Int) (r:List Int) (w:World) (hr0_1:Kd.C k57 w A0_1 l0_1.length l0_1) (hc0_1:l0_1.length≤c0_1) (h:spec_l04Owners.f k a0_0 l0_1 a1 a2=some r) :
  Calls Tryd.prog 51 #[.agg #[.int .i64 a0_0,.slice A0_1 l0_1.length c0_1],.string a1,.int .i64 a2] w fun e w'=>∃ v0_:Value,e = .returned (v0_)∧Kd.R (Kd.int .i64) 2 w' w.heap.size (fun _=>True) v0_ r∧Below w.heap.size w w':=by
 have hu29:=Tryd.underlying29
 have HR0_1:=Aside0.mk hr0_1
 have HC0_1:=Aside0.mk hc0_1
 clear hr0_1 hc0_1
 have HB:=Aside0.mk (Below.refl w.heap.size w)
 have H:((spec_l04Order.f k a0_0 l0_1 a1).bind fun t516=>((spec_l01Min.f a2 (t516.length:Int)).bind fun t519=>(if 0≤t519 then (if t519≤(t516.length:Int) then (some (t516.take (t519:Int).toNat)) else (none)) else (none))))=some r:=h
 clear h
 replace H:=Option.bind_eq_some_iff.mp H
 obtain ⟨t516,A40,H⟩:=H
 replace H:((spec_l01Min.f a2 (t516.length:Int)).bind fun t519=>(if 0≤t519 then (if t519≤(t516.length:Int) then (some (t516.take (t519:Int).toNat)) else (none)) else (none)))=some r:=H
 have A4:=Aside0.mk A40
 clear A40
 replace H:=Option.bind_eq_some_iff.mp H
 obtain ⟨t519,A50,H⟩:=H
 replace H:(if 0≤t519 then (if t519≤(t516.length:Int) then (some (t516.take (t519:Int).toNat)) else (none)) else (none))=some r:=H
 have A5:=Aside0.mk A50
 clear A50
 by_cases c6:0≤t519
 ·rw [if_pos c6] at H
  have c6b0:=eq_true c6
  have c6b1:decide (0≤t519)=true:=decide_eq_true c6
  clear c6
  by_cases c7:t519≤(t516.length:Int)
  ·rw [if_pos c7] at H
   have c7b0:=eq_true c7
   have c7b1:decide (t519≤(t516.length:Int))=true:=decide_eq_true c7
   clear c7
   obtain ⟨y520,hy520⟩:∃ y_:List Int,y_=(t516.take (t519:Int).toNat):=⟨_,rfl⟩
   replace H:(some y520)=some r:=by first | (rw [hy520];with_reducible exact H) | (have H2_:=(Option.bind_some _ _).symm.trans H;rw [hy520];with_reducible exact H2_) | (have H2_:=(Option.bind_some _ _).symm.trans H;with_reducible exact H2_) | with_reducible exact H | (rw [hy520];exact H) | exact H
   have Ny520:=Aside0.mk hy520
   clear hy520
   obtain rfl:=Option.some.inj H
   go_enter Tryd.func51,Tryd.ntmps51
   go_wp2_with (first | ((with_reducible refine gd_ 3 ?_);refine be_ 3 #[.int .i64 a0_0,.slice A0_1 l0_1.length c0_1] 29 ?_;intro gb515 hg w8 hbox hb;refine as4_ (below_step (z3_ HB.out) hb) (hbox) ((z8_ HB.out:w.heap.size≤gb515)) ((z8_ HB.out:w.heap.size≤gb515)) ?_;clear HB;intro HB BK515 GW515 GE515;clear hb hbox hg;have ⟨hcz9_0,hcz9_1,hfz9_0,hfz9_1⟩:=cz2_ BK515.out) | ((with_reducible refine gc_ 48 ?_);refine gl_ (some 10) Tryd.func48 #[.agg #[.int .i64 a0_0,.slice A0_1 l0_1.length c0_1],.string a1] ?_;(with_reducible refine (spec_l04Order.calls k a0_0 _ _ l0_1 a1 t516 _ ?s1 ?s2 A4.out).mono ?_);(case s1=>repeat (first | exact (Kd.C_below HR0_1.out HB.out) | (with_reducible refine Kd.C_alloc ?_ _) | (with_reducible refine Kd.C_drewN ?_ _) | (with_reducible refine Kd.C_drew ?_)));(case s2=>exact HC0_1.out);rintro e w10 ⟨v517,rfl,ho0,hb⟩;refine ⟨_,rfl,?_⟩;refine as3_ (Kd.R_lower ho0 (below_size (z5_ HB.out GE515.out))) (blkB_ BK515.out hb) (below_step (z5_ HB.out GE515.out) hb) ?_;clear BK515 HB;intro HO518 BK515 HB;(try clear hb);(try clear ho0);obtain ⟨Ao11,co11,eo11⟩:=Kd.R_slice HO518.out;subst eo11) | ((with_reducible refine gc_ 77 ?_);refine gl_ (some 15) Tryd.func77 #[.int .i64 a2,.int .i64 (t516.length:Int)] ?_;(with_reducible refine (spec_l01Min.calls a2 (t516.length:Int) t519 _ A5.out).mono ?_);rintro e w' ⟨rfl,⟨nd,rfl⟩⟩;refine ⟨_,rfl,?_⟩;have q12:(t519:Int)≤((t516.length:Int):Int):=of_decide_eq_true (z0_);obtain ⟨i012,hi012,_,hsz12,_⟩:=info_parts info2;have hcut12:=cut_to (P:=Tryd.prog) 41 2 .i64 Tryd.underlying41 hi012 Ao11 t516.length co11 t519 (of_decide_eq_true (z0_)) q12 (Kd.R_reads' HO518.out).2.1;have hr12:=Kd.R_take (m:=(t519:Int).toNat) HO518.out (by omega);have hy12:y520.length=(t519:Int).toNat:=(by rw [Ny520.out,List.length_take];omega);rw [← Ny520.out] at hr12;rw [← hy12] at hr12 hcut12;clear hy12 hi012 hsz12 HO518;have HO522:=Aside0.mk hr12;clear hr12;replace q12:=eq_true q12))
   go_ret
   exact ⟨_,z10_,z2_ HO522.out,z5_ HB.out GE515.out⟩
  ·rw [if_neg c7] at H
   exact absurd H (by simp)
 ·rw [if_neg c6] at H
  exact absurd H (by simp)


/-! ### spec_Owners: function 28 -/
def spec_Owners.j0:Nat→ByteArray→Int→Bool→Int→List (S57)→Option (List Int)
 | 0,_,_,_,_,_=>none
 | k+1,x1,x2,x19,x524000,x524001=>if x19=true then (some (([]:List Int))) else ((some (([]:List Int):List Int)).bind fun y530=>((spec_l04Owners.f k x524000 x524001 x1 x2).bind fun t533=>(if y530.length+t533.length<17592186044416 then (some (y530 ++ t533)) else (none))))
def spec_Owners.f (k:Nat) (a0_0:Int) (l0_1:List (S57)) (a1:ByteArray) (a2:Int):Option (List Int):=(spec_RingRight.f k a0_0 l0_1).bind fun t524=>(if t524=true then ((spec_NameRight.f k a1).bind fun t525=>(if t525=true then ((spec_l02Node.f a2).bind fun t526=>(spec_Owners.j0 k a1 a2 (!t526) a0_0 l0_1)) else (spec_Owners.j0 k a1 a2 true a0_0 l0_1))) else (spec_Owners.j0 k a1 a2 true a0_0 l0_1))
theorem spec_Owners.mono_l:∀ k,(∀ y0 y1 y2 y3 y4,LeO (spec_Owners.j0 k y0 y1 y2 y3 y4) (spec_Owners.j0 (k+1) y0 y1 y2 y3 y4))
 | 0=>fun _ _ _ _ _ r h=>by simp [spec_Owners.j0] at h
 | k+1=>by
  have ih0:=spec_Owners.mono_l k
  ·intro y0 y1 y2 y3 y4
   unfold spec_Owners.j0
   repeat' first
   | (with_reducible exact ih0 _ _ _ _ _)
   | (with_reducible exact spec_NameRight.mono _ _)
   | (with_reducible exact spec_RingRight.mono _ _ _)
   | (with_reducible exact spec_l04Owners.mono _ _ _ _ _)
   | (with_reducible exact LeO.refl _)
   | (with_reducible exact LeO.none _)
   | (with_reducible refine LeO.ite ?_ ?_)
   | (with_reducible refine LeO.bind ?_ (fun _=>?_))
   | exact ih0 _ _ _ _ _
   | exact spec_NameRight.mono _ _
   | exact spec_RingRight.mono _ _ _
   | exact spec_l04Owners.mono _ _ _ _ _
   | exact LeO.none _
   | refine LeO.ite ?_ ?_
   | refine LeO.bind ?_ (fun _=>?_)
theorem spec_Owners.mono:∀ a0 a1 a2 a3 k,LeO (spec_Owners.f k a0 a1 a2 a3) (spec_Owners.f (k+1) a0 a1 a2 a3):=by
 intro a0 a1 a2 a3 k
 have ih0:=spec_Owners.mono_l k
 unfold spec_Owners.f
 repeat' first
   | (with_reducible exact ih0 _ _ _ _ _)
   | (with_reducible exact spec_NameRight.mono _ _)
   | (with_reducible exact spec_RingRight.mono _ _ _)
   | (with_reducible exact spec_l04Owners.mono _ _ _ _ _)
   | (with_reducible exact LeO.refl _)
   | (with_reducible exact LeO.none _)
   | (with_reducible refine LeO.ite ?_ ?_)
   | (with_reducible refine LeO.bind ?_ (fun _=>?_))
   | exact ih0 _ _ _ _ _
   | exact spec_NameRight.mono _ _
   | exact spec_RingRight.mono _ _ _
   | exact spec_l04Owners.mono _ _ _ _ _
   | exact LeO.none _
   | refine LeO.ite ?_ ?_
   | refine LeO.bind ?_ (fun _=>?_)
set_option maxHeartbeats 8000000 in
set_option maxRecDepth 100000 in
theorem spec_Owners.calls (k:Nat) (a0_0:Int) (A0_1:Option Addr) (c0_1:Nat) (l0_1:List (S57)) (a1:ByteArray) (a2:Int) (r:List Int) (w:World) (hr0_1:Kd.C k57 w A0_1 l0_1.length l0_1) (hc0_1:l0_1.length≤c0_1) (h:spec_Owners.f k a0_0 l0_1 a1 a2=some r) :
  Calls Tryd.prog 28 #[.agg #[.int .i64 a0_0,.slice A0_1 l0_1.length c0_1],.string a1,.int .i64 a2] w fun e w'=>∃ v0_:Value,e = .returned (v0_)∧Kd.R (Kd.int .i64) 2 w' w.heap.size (fun _=>True) v0_ r∧Below w.heap.size w w':=by
 have hu29:=Tryd.underlying29
 have HR0_1:=Aside0.mk hr0_1
 have HC0_1:=Aside0.mk hc0_1
 clear hr0_1 hc0_1
 have HB:=Aside0.mk (Below.refl w.heap.size w)
 have H:((spec_RingRight.f k a0_0 l0_1).bind fun t524=>(if t524=true then ((spec_NameRight.f k a1).bind fun t525=>(if t525=true then ((spec_l02Node.f a2).bind fun t526=>(spec_Owners.j0 k a1 a2 (!t526) a0_0 l0_1)) else (spec_Owners.j0 k a1 a2 true a0_0 l0_1))) else (spec_Owners.j0 k a1 a2 true a0_0 l0_1)))=some r:=h
 clear h
 have HC4:=Aside0.mk H
 clear H
 go_enter Tryd.func28,Tryd.ntmps28
 go_upto_region 1 with (first | ((with_reducible refine gd_ 3 ?_);refine be_ 3 #[.int .i64 a0_0,.slice A0_1 l0_1.length c0_1] 29 ?_;intro gb523 hg w5 hbox hb;refine as4_ (below_step (z3_ HB.out) hb) (hbox) ((z8_ HB.out:w.heap.size≤gb523)) ((z8_ HB.out:w.heap.size≤gb523)) ?_;clear HB;intro HB BK523 GW523 GE523;clear hb hbox hg))
 (try simp only [Act.put,sa_,s0_,ss_])
 go_cut [19] (fun v19 wc=>∃ (kq:Nat) (x19_3:Bool),v19 = .bool x19_3∧Aside0 (spec_Owners.j0 kq a1 a2 x19_3 a0_0 l0_1=some r)∧Aside0 (kq≤k)∧Aside0 (wc.heap[gb523]? = some (.cells #[.int .i64 a0_0,(.slice A0_1 l0_1.length c0_1)] 29 (0,0)))∧Aside0 (Below w.heap.size w wc))
 case first =>
  have H:=HC4.out
  clear HC4
  replace H:=Option.bind_eq_some_iff.mp H
  obtain ⟨t524,A60,H⟩:=H
  replace H:(if t524=true then ((spec_NameRight.f k a1).bind fun t525=>(if t525=true then ((spec_l02Node.f a2).bind fun t526=>(spec_Owners.j0 k a1 a2 (!t526) a0_0 l0_1)) else (spec_Owners.j0 k a1 a2 true a0_0 l0_1))) else (spec_Owners.j0 k a1 a2 true a0_0 l0_1))=some r:=H
  have A6:=Aside0.mk A60
  clear A60
  by_cases c7:t524=true
  ·subst c7
   have H1:((spec_NameRight.f k a1).bind fun t525=>(if t525=true then ((spec_l02Node.f a2).bind fun t526=>(spec_Owners.j0 k a1 a2 (!t526) a0_0 l0_1)) else (spec_Owners.j0 k a1 a2 true a0_0 l0_1)))=some r:=by rw [if_pos rfl] at H;exact H
   clear H
   have H:=H1
   clear H1
   replace H:=Option.bind_eq_some_iff.mp H
   obtain ⟨t525,A80,H⟩:=H
   replace H:(if t525=true then ((spec_l02Node.f a2).bind fun t526=>(spec_Owners.j0 k a1 a2 (!t526) a0_0 l0_1)) else (spec_Owners.j0 k a1 a2 true a0_0 l0_1))=some r:=H
   have A8:=Aside0.mk A80
   clear A80
   by_cases c9:t525=true
   ·subst c9
    have H1:((spec_l02Node.f a2).bind fun t526=>(spec_Owners.j0 k a1 a2 (!t526) a0_0 l0_1))=some r:=by rw [if_pos rfl] at H;exact H
    clear H
    have H:=H1
    clear H1
    replace H:=Option.bind_eq_some_iff.mp H
    obtain ⟨t526,A100,H⟩:=H
    replace H:(spec_Owners.j0 k a1 a2 (!t526) a0_0 l0_1)=some r:=H
    have A10:=Aside0.mk A100
    clear A100
    have H':=Aside0.mk H
    clear H
    have ⟨hcz11_0,hcz11_1,hfz11_0,hfz11_1⟩:=cz2_ BK523.out
    go_wp2_with (first | ((with_reducible refine gc_ 11 ?_);refine gl_ (some 8) Tryd.func11 #[.agg #[.int .i64 a0_0,.slice A0_1 l0_1.length c0_1]] ?_;(with_reducible refine (spec_RingRight.calls k a0_0 _ _ l0_1 true _ ?s1 ?s2 A6.out).mono ?_);(case s1=>repeat (first | exact (Kd.C_below HR0_1.out HB.out) | (with_reducible refine Kd.C_alloc ?_ _) | (with_reducible refine Kd.C_drewN ?_ _) | (with_reducible refine Kd.C_drew ?_)));(case s2=>exact HC0_1.out);rintro e w12 ⟨rfl,hb⟩;refine ⟨_,rfl,?_⟩;refine as2_ (blkB_ BK523.out hb) (below_step (z5_ HB.out GE523.out) hb) ?_;clear BK523 HB;intro BK523 HB;(try clear hb)) | (go_at_call 47;(with_reducible refine (spec_NameRight.calls k a1 true _ A8.out).mono ?_);rintro e w' ⟨rfl,⟨nd,rfl⟩⟩) | (go_at_call 36;(with_reducible refine (spec_l02Node.calls a2 t526 _ A10.out).mono ?_);rintro e w' ⟨rfl,⟨nd,rfl⟩⟩))
    go_meet
    case rel=>exact ⟨_,(!t526),(z1_),H',⟨by first | omega | exact Nat.le_refl _⟩,⟨z4_ BK523.out⟩,⟨z5_ HB.out GE523.out⟩⟩
   ·replace c9:=Bool.eq_false_iff.mpr c9
    subst c9
    have H1:(spec_Owners.j0 k a1 a2 true a0_0 l0_1)=some r:=by rw [if_neg (show ¬ (false=true) by decide)] at H;exact H
    clear H
    have H:=H1
    clear H1
    have H':=Aside0.mk H
    clear H
    have ⟨hcz13_0,hcz13_1,hfz13_0,hfz13_1⟩:=cz2_ BK523.out
    go_wp2_with (first | ((with_reducible refine gc_ 11 ?_);refine gl_ (some 8) Tryd.func11 #[.agg #[.int .i64 a0_0,.slice A0_1 l0_1.length c0_1]] ?_;(with_reducible refine (spec_RingRight.calls k a0_0 _ _ l0_1 true _ ?s1 ?s2 A6.out).mono ?_);(case s1=>repeat (first | exact (Kd.C_below HR0_1.out HB.out) | (with_reducible refine Kd.C_alloc ?_ _) | (with_reducible refine Kd.C_drewN ?_ _) | (with_reducible refine Kd.C_drew ?_)));(case s2=>exact HC0_1.out);rintro e w14 ⟨rfl,hb⟩;refine ⟨_,rfl,?_⟩;refine as2_ (blkB_ BK523.out hb) (below_step (z5_ HB.out GE523.out) hb) ?_;clear BK523 HB;intro BK523 HB;(try clear hb)) | (go_at_call 47;(with_reducible refine (spec_NameRight.calls k a1 false _ A8.out).mono ?_);rintro e w' ⟨rfl,⟨nd,rfl⟩⟩))
    go_meet
    case rel=>exact ⟨_,(true),(z1_),H',⟨by first | omega | exact Nat.le_refl _⟩,⟨z4_ BK523.out⟩,⟨z5_ HB.out GE523.out⟩⟩
  ·replace c7:=Bool.eq_false_iff.mpr c7
   subst c7
   have H1:(spec_Owners.j0 k a1 a2 true a0_0 l0_1)=some r:=by rw [if_neg (show ¬ (false=true) by decide)] at H;exact H
   clear H
   have H:=H1
   clear H1
   have H':=Aside0.mk H
   clear H
   have ⟨hcz15_0,hcz15_1,hfz15_0,hfz15_1⟩:=cz2_ BK523.out
   go_wp2_with (first | ((with_reducible refine gc_ 11 ?_);refine gl_ (some 8) Tryd.func11 #[.agg #[.int .i64 a0_0,.slice A0_1 l0_1.length c0_1]] ?_;(with_reducible refine (spec_RingRight.calls k a0_0 _ _ l0_1 false _ ?s1 ?s2 A6.out).mono ?_);(case s1=>repeat (first | exact (Kd.C_below HR0_1.out HB.out) | (with_reducible refine Kd.C_alloc ?_ _) | (with_reducible refine Kd.C_drewN ?_ _) | (with_reducible refine Kd.C_drew ?_)));(case s2=>exact HC0_1.out);rintro e w16 ⟨rfl,hb⟩;refine ⟨_,rfl,?_⟩;refine as2_ (blkB_ BK523.out hb) (below_step (z5_ HB.out GE523.out) hb) ?_;clear BK523 HB;intro BK523 HB;(try clear hb)))
   go_meet
   case rel=>exact ⟨_,(true),(z1_),H',⟨by first | omega | exact Nat.le_refl _⟩,⟨z4_ BK523.out⟩,⟨z5_ HB.out GE523.out⟩⟩
 case rest =>
  clear HC4
  try clear c1
  try clear c2
  try clear p2
  try clear c7
  try clear c9
  try clear c11
  try clear hcz11_0
  try clear hcz11_1
  try clear hcz13_0
  try clear hcz13_1
  try clear hcz15_0
  try clear hcz15_1
  try clear hfz11_0
  try clear hfz11_1
  try clear hfz13_0
  try clear hfz13_1
  try clear hfz15_0
  try clear hfz15_1
  obtain ⟨kq,x19_3,rfl,HA,HJ3,BK523,HB⟩:=hcut
  cases kq with
  | zero=>exact absurd HA.out (by simp [spec_Owners.j0])
  | succ kj3 =>
   have H:=HA.out
   clear HA
   simp only [spec_Owners.j0] at H
   by_cases c17:x19_3=true
   ·subst c17
    have H1:(some (([]:List Int)))=some r:=by rw [if_pos rfl] at H;exact H
    clear H
    have H:=H1
    clear H1
    obtain ⟨y527,hy527⟩:∃ y_:List Int,y_=(([]:List Int)):=⟨_,rfl⟩
    replace H:(some y527)=some r:=by first | (rw [hy527];with_reducible exact H) | (have H2_:=(Option.bind_some _ _).symm.trans H;rw [hy527];with_reducible exact H2_) | (have H2_:=(Option.bind_some _ _).symm.trans H;with_reducible exact H2_) | with_reducible exact H | (rw [hy527];exact H) | exact H
    have Ny527:=Aside0.mk hy527
    clear hy527
    obtain rfl:=Option.some.inj H
    go_wp2_with (first | ((with_reducible refine gd_ 20 ?_);refine Kd.R_lit (Kd.int .i64) _ 2 ?hg (N:=20) ?hd (xs:=([]:List Int)) (inner:=[]) (ok:=fun _=>True) (okp:=fun _=>True) ?hr ?hp (fun _ hk=>hk) trivial (Below.refl _ _) (Nat.le_refl _) (by simp) ?_;(case hd=>rfl);(case hg=>rfl);(case hr=>first | (go_simp;done) | (go_simp;rfl));(case hp=>exact (Reps.none _ _));intro v528 w18 ho19 hb hg_ hnew_;clear hg_ hnew_;(first | rw [← Ny527.out] at ho19 | (simp only [Int.reduceToNat] at ho19;rw [← Ny527.out] at ho19));refine as3_ (Kd.R_lower ho19 (below_size (z5_ HB.out GE523.out))) (blkB_ BK523.out hb) (below_step (z5_ HB.out GE523.out) hb) ?_;clear BK523 HB;intro HO529 BK523 HB;clear hb ho19))
    go_ret
    exact ⟨_,z10_,z2_ HO529.out,z5_ HB.out GE523.out⟩
   ·replace c17:=Bool.eq_false_iff.mpr c17
    subst c17
    have H1:((some (([]:List Int):List Int)).bind fun y530=>((spec_l04Owners.f kj3 a0_0 l0_1 a1 a2).bind fun t533=>(if y530.length+t533.length<17592186044416 then (some (y530 ++ t533)) else (none))))=some r:=by rw [if_neg (show ¬ (false=true) by decide)] at H;exact H
    clear H
    have H:=H1
    clear H1
    obtain ⟨y530,hy530⟩:∃ y_:List Int,y_=(([]:List Int)):=⟨_,rfl⟩
    replace H:((spec_l04Owners.f kj3 a0_0 l0_1 a1 a2).bind fun t533=>(if y530.length+t533.length<17592186044416 then (some (y530 ++ t533)) else (none)))=some r:=by first | (rw [hy530];with_reducible exact H) | (have H2_:=(Option.bind_some _ _).symm.trans H;rw [hy530];with_reducible exact H2_) | (have H2_:=(Option.bind_some _ _).symm.trans H;with_reducible exact H2_) | with_reducible exact H | (rw [hy530];exact H) | exact H
    have Ny530:=Aside0.mk hy530
    clear hy530
    replace H:=Option.bind_eq_some_iff.mp H
    obtain ⟨t533,A200,H⟩:=H
    replace H:(if y530.length+t533.length<17592186044416 then (some (y530 ++ t533)) else (none))=some r:=H
    have A20:=Aside0.mk A200
    clear A200
    by_cases c21:y530.length+t533.length<17592186044416
    ·rw [if_pos c21] at H
     have LMc21:=Aside0.mk c21
     clear c21
     obtain ⟨y536,hy536⟩:∃ y_:List Int,y_=(y530 ++ t533):=⟨_,rfl⟩
     replace H:(some y536)=some r:=by first | (rw [hy536];with_reducible exact H) | (have H2_:=(Option.bind_some _ _).symm.trans H;rw [hy536];with_reducible exact H2_) | (have H2_:=(Option.bind_some _ _).symm.trans H;with_reducible exact H2_) | with_reducible exact H | (rw [hy536];exact H) | exact H
     have Ny536:=Aside0.mk hy536
     clear hy536
     obtain rfl:=Option.some.inj H
     go_wp2_with (first | ((with_reducible refine gd_ 21 ?_);refine Kd.R_lit (Kd.int .i64) _ 2 ?hg (N:=21) ?hd (xs:=([]:List Int)) (inner:=[]) (ok:=fun _=>True) (okp:=fun _=>True) ?hr ?hp (fun _ hk=>hk) trivial (Below.refl _ _) (Nat.le_refl _) (by simp) ?_;(case hd=>rfl);(case hg=>rfl);(case hr=>first | (go_simp;done) | (go_simp;rfl));(case hp=>exact (Reps.none _ _));intro v531 w22 ho23 hb hg_ hnew_;clear hg_ hnew_;(first | rw [← Ny530.out] at ho23 | (simp only [Int.reduceToNat] at ho23;rw [← Ny530.out] at ho23));refine as3_ (Kd.R_lower ho23 (below_size (z5_ HB.out GE523.out))) (blkB_ BK523.out hb) (below_step (z5_ HB.out GE523.out) hb) ?_;clear BK523 HB;intro HO532 BK523 HB;clear hb ho23;have ⟨hcz24_0,hcz24_1,hfz24_0,hfz24_1⟩:=cz2_ BK523.out) | ((with_reducible refine gc_ 51 ?_);refine gl_ (some 25) Tryd.func51 #[.agg #[.int .i64 a0_0,.slice A0_1 l0_1.length c0_1],.string a1,.int .i64 a2] ?_;(with_reducible refine (spec_l04Owners.calls kj3 a0_0 _ _ l0_1 a1 a2 t533 _ ?s1 ?s2 A20.out).mono ?_);(case s1=>repeat (first | exact (Kd.C_below HR0_1.out HB.out) | (with_reducible refine Kd.C_alloc ?_ _) | (with_reducible refine Kd.C_drewN ?_ _) | (with_reducible refine Kd.C_drew ?_)));(case s2=>exact HC0_1.out);rintro e w25 ⟨v534,rfl,ho0,hb⟩;refine ⟨_,rfl,?_⟩;refine as4_ (Kd.R_elder' (z2_ HO532.out) (Kd.R_base ho0) hb) (Kd.R_lower (Kd.R_new' ho0 (Kd.R_lt (z2_ HO532.out))) (below_size (z5_ HB.out GE523.out))) (blkB_ BK523.out hb) (below_step (z5_ HB.out GE523.out) hb) ?_;clear HO532 BK523 HB;intro HO532 HO535 BK523 HB;(try clear hb);(try clear ho0);obtain ⟨Ao27,co27,eo27⟩:=Kd.R_slice HO535.out;subst eo27) | ((with_reducible refine gate_builtin (b:=.append) (xs:=#[.tmp 21,.tmp 25]) rfl ?_);at_builtin;refine Kd.R_append_rows (Kd.int .i64) (w0:=w) w.heap.size rfl (.tmp 21) (.tmp 25) 41 2 (.int .i64 0) 8 rfl Tryd.underlying41 info2 rfl (by decide) (by omega) v531 y530 t533 _ _ _ (fun k_=>some k_≠(.slice Ao27 t533.length co27:Value).ownBlock) (fun _=>False) rfl rfl ?aO ?aR (fun _ _ h=>h) (fun _ h=>h.elim) ?aF ?aB ?aS ?aL ?_;(case aR=>repeat (first | exact (Kd.R_reads' HO535.out).2.2 | (with_reducible refine Kd.C_alloc ?_ _) | (with_reducible refine Kd.C_drewN ?_ _) | (with_reducible refine Kd.C_drew ?_)));(case aB=>exact (z5_ HB.out GE523.out));(case aF=>exact (fun k_ hk=>Kd.fresh' (Kd.R_lt (z2_ HO535.out)) k_ hk));(case aO=>exact (by (with_reducible repeat (first | apply Kd.R_alloc | apply Kd.R_drewN | apply Kd.R_drew));exact Kd.R_mono HO532.out (fun _ hk=>hk.2)));(case aS=>exact (below_size (z5_ HB.out GE523.out)));(case aL=>have:=LMc21.out;omega);intro v537 w26 ho hb hg hat;rw [← Ny536.out] at ho;refine as4_ (blk_grown (g:=gb523) (o:=.cells #[.int .i64 a0_0,.slice A0_1 l0_1.length c0_1] 29 (0,0)) (z4_ BK523.out) hg (Kd.R_ne HO532.out BK523.out (by decide))) (Kd.R_after (ok:=(fun _=>True)) (z2_ HO535.out) hg hat) (hb) (ho) ?_;clear BK523 HO535 HB HO532;intro BK523 HO535 HB HO538;clear ho hb hg hat))
     go_ret
     exact ⟨_,z10_,z32_ HO538.out,z5_ HB.out GE523.out⟩
    ·rw [if_neg c21] at H
     exact absurd H (by simp)


/-! ### impl_within: function 40 -/
def impl_within.f (a0:Int) (a1:Int) (a2:Int):Option (Bool):=if a1≤a0 then (some (decide (a0≤a2))) else (some false)
set_option maxHeartbeats 8000000 in
set_option maxRecDepth 100000 in
theorem impl_within.calls (a0:Int) (a1:Int) (a2:Int) (r:Bool) (w:World) (h:impl_within.f a0 a1 a2=some r) :
  Calls Tryd.prog 40 #[.int .i64 a0,.int .i64 a1,.int .i64 a2] w fun e w'=>e = .returned (.bool r)∧Drawn0 w w':=by
 have H:(if a1≤a0 then (some (decide (a0≤a2))) else (some false))=some r:=h
 clear h
 by_cases c4:a1≤a0
 ·rw [if_pos c4] at H
  have c4b0:decide (a1≤a0)=true:=decide_eq_true c4
  clear c4
  obtain rfl:=Option.some.inj H
  go_enter Tryd.func40,Tryd.ntmps40
  go_wp2
  go_ret
  exact ⟨z1_,z6_⟩
 ·rw [if_neg c4] at H
  have c4b0:decide (a1≤a0)=false:=decide_eq_false c4
  clear c4
  obtain rfl:=Option.some.inj H
  go_enter Tryd.func40,Tryd.ntmps40
  go_wp2
  go_ret
  exact ⟨z1_,z6_⟩


/-! ### impl_isNode: function 39 -/
def impl_isNode.f (a0:Int):Option (Bool):=(impl_within.f a0 1 5).bind fun t164=>(some t164)
set_option maxHeartbeats 8000000 in
set_option maxRecDepth 100000 in
theorem impl_isNode.calls (a0:Int) (r:Bool) (w:World) (h:impl_isNode.f a0=some r) :
  Calls Tryd.prog 39 #[.int .i64 a0] w fun e w'=>e = .returned (.bool r)∧Drawn0 w w':=by
 have H:((impl_within.f a0 1 5).bind fun t164=>(some t164))=some r:=h
 clear h
 replace H:=Option.bind_eq_some_iff.mp H
 obtain ⟨t164,A20,H⟩:=H
 replace H:(some t164)=some r:=H
 have A2:=Aside0.mk A20
 clear A20
 obtain rfl:=Option.some.inj H
 go_enter Tryd.func39,Tryd.ntmps39
 go_wp2_with (first | ((with_reducible refine gc_ 40 ?_);refine gl_ (some 4) Tryd.func40 #[.int .i64 a0,.int .i64 1,.int .i64 5] ?_;(with_reducible refine (impl_within.calls a0 1 5 t164 _ A2.out).mono ?_);rintro e w' ⟨rfl,⟨nd,rfl⟩⟩;refine ⟨_,rfl,?_⟩))
 go_ret
 exact ⟨z1_,z6_⟩


/-! ### impl_fnv: function 64 -/
def impl_fnv.l0:Nat→ByteArray→Int→Int→Int→Option (Int)
 | 0,_,_,_,_=>none
 | k+1,x0,x3,x6,x7=>if x7<x6 then (if 0≤x7 then (if x7<(x0.size:Int) then (impl_fnv.l0 k x0 (((Go.bits .xor .u32 x3 ((bt x0 x7) % 4294967296))*16777619) % 4294967296) x6 (wrap64 (x7+1))) else (none)) else (none)) else (some (wrap64 (x3)))
def impl_fnv.f (k:Nat) (a0:ByteArray):Option (Int):=impl_fnv.l0 k a0 2166136261 (a0.size:Int) 0
theorem impl_fnv.mono_l:∀ k,(∀ y0 y1 y2 y3,LeO (impl_fnv.l0 k y0 y1 y2 y3) (impl_fnv.l0 (k+1) y0 y1 y2 y3))
 | 0=>fun _ _ _ _ r h=>by simp [impl_fnv.l0] at h
 | k+1=>by
  have ih0:=impl_fnv.mono_l k
  ·intro y0 y1 y2 y3
   unfold impl_fnv.l0
   repeat' first
   | (with_reducible exact ih0 _ _ _ _)
   | (with_reducible exact LeO.refl _)
   | (with_reducible exact LeO.none _)
   | (with_reducible refine LeO.ite ?_ ?_)
   | (with_reducible refine LeO.bind ?_ (fun _=>?_))
   | exact ih0 _ _ _ _
   | exact LeO.none _
   | refine LeO.ite ?_ ?_
   | refine LeO.bind ?_ (fun _=>?_)
theorem impl_fnv.mono:∀ a0 k,LeO (impl_fnv.f k a0) (impl_fnv.f (k+1) a0):=by
 intro a0 k
 have ih0:=impl_fnv.mono_l k
 unfold impl_fnv.f
 repeat' first
   | (with_reducible exact ih0 _ _ _ _)
   | (with_reducible exact LeO.refl _)
   | (with_reducible exact LeO.none _)
   | (with_reducible refine LeO.ite ?_ ?_)
   | (with_reducible refine LeO.bind ?_ (fun _=>?_))
   | exact ih0 _ _ _ _
   | exact LeO.none _
   | refine LeO.ite ?_ ?_
   | refine LeO.bind ?_ (fun _=>?_)
set_option maxHeartbeats 8000000 in
set_option maxRecDepth 100000 in
theorem impl_fnv.calls (k:Nat) (a0:ByteArray) (r:Int) (w:World) (h:impl_fnv.f k a0=some r) :
  Calls Tryd.prog 64 #[.string a0] w fun e w'=>e = .returned (.int .i64 r)∧Drawn0 w w':=by
 have H:(impl_fnv.l0 k a0 2166136261 (a0.size:Int) 0)=some r:=h
 clear h
 have H':=Aside0.mk H
 clear H
 go_enter Tryd.func64,Tryd.ntmps64
 go_wp2
 go_loopg [3,7] k (fun kq v3 v7 w'=>∃ (x3_1:Int) (x7_1:Int),v3 = .int .u32 x3_1∧v7 = .int .i64 x7_1∧Aside0 (impl_fnv.l0 kq a0 x3_1 (a0.size:Int) x7_1=some r)∧Aside0 (kq≤k)∧Drawn0 w w')
 case atStart=>exact ⟨(2166136261),(0),(z1_),(z1_),H',⟨Nat.le_refl _⟩,z6_⟩
 case round =>
  clear H'
  obtain ⟨x3_1,x7_1,rfl,rfl,HA,HK1,⟨m1,rfl⟩⟩:=hrel
  cases gk with
  | zero=>exact absurd HA.out (by simp [impl_fnv.l0])
  | succ k1 =>
   have H:=HA.out
   clear HA
   simp only [impl_fnv.l0] at H
   by_cases c2:x7_1<(a0.size:Int)
   ·rw [if_pos c2] at H
    have c2b0:decide (x7_1<(a0.size:Int))=true:=decide_eq_true c2
    clear c2
    by_cases c3:0≤x7_1
    ·rw [if_pos c3] at H
     have c3b0:decide (0≤x7_1)=true:=decide_eq_true c3
     clear c3
     by_cases c4:x7_1<(a0.size:Int)
     ·rw [if_pos c4] at H
      have c4b0:decide (x7_1<(a0.size:Int))=true:=decide_eq_true c4
      clear c4
      have H':=Aside0.mk H
      clear H
      have p5:0≤(x7_1:Int):=of_decide_eq_true (z0_)
      have q5:x7_1<(a0.size:Int):=of_decide_eq_true (z0_)
      have hx5:=bt_at a0 x7_1
      replace p5:=eq_true p5
      replace q5:=eq_true q5
      go_wp2
      go_roundg k1
      case measure=>have:=HK1.out;omega
      case rel=>exact ⟨(((Go.bits .xor .u32 x3_1 ((bt a0 x7_1) % 4294967296))*16777619) % 4294967296),(wrap64 (x7_1+1)),(z1_),(z1_),H',⟨by have:=HK1.out;omega⟩,z6_⟩
     ·rw [if_neg c4] at H
      exact absurd H (by simp)
    ·rw [if_neg c3] at H
     exact absurd H (by simp)
   ·rw [if_neg c2] at H
    have c2b0:decide (x7_1<(a0.size:Int))=false:=decide_eq_false c2
    clear c2
    obtain rfl:=Option.some.inj H
    go_wp2
    go_ret
    exact ⟨z1_,z6_⟩


/-! ### strconv_small: function 102 -/
def strconv_small.f (a0:Int):Option (ByteArray):=if a0<10 then (if 0≤a0 then (if a0≤(wrap64 (a0+1)) then (if (wrap64 (a0+1))≤36 then (some ((⟨#[48,49,50,51,52,53,54,55,56,57,97,98,99,100,101,102,103,104,105,106,107,108,109,110,111,112,113,114,115,116,117,118,119,120,121,122]⟩:ByteArray).extract (a0:Int).toNat ((wrap64 (a0+1)):Int).toNat)) else (none)) else (none)) else (none)) else (if 0≤(wrap64 (a0*2)) then (if (wrap64 (a0*2))≤(wrap64 ((wrap64 (a0*2))+2)) then (if (wrap64 ((wrap64 (a0*2))+2))≤200 then (some ((⟨#[48,48,48,49,48,50,48,51,48,52,48,53,48,54,48,55,48,56,48,57,49,48,49,49,49,50,49,51,49,52,49,53,49,54,49,55,49,56,49,57,50,48,50,49,50,50,50,51,50,52,50,53,50,54,50,55,50,56,50,57,51,48,51,49,51,50,51,51,51,52,51,53,51,54,51,55,51,56,51,57,52,48,52,49,52,50,52,51,52,52,52,53,52,54,52,55,52,56,52,57,53,48,53,49,53,50,53,51,53,52,53,53,53,54,53,55,53,56,53,57,54,48,54,49,54,50,54,51,54,52,54,53,54,54,54,55,54,56,54,57,55,48,55,49,55,50,55,51,55,52,55,53,55,54,55,55,55,56,55,57,56,48,56,49,56,50,56,51,56,52,56,53,56,54,56,55,56,56,56,57,57,48,57,49,57,50,57,51,57,52,57,53,57,54,57,55,57,56,57,57]⟩:ByteArray).extract ((wrap64 (a0*2)):Int).toNat ((wrap64 ((wrap64 (a0*2))+2)):Int).toNat)) else (none)) else (none)) else (none))
set_option maxHeartbeats 8000000 in
set_option maxRecDepth 100000 in
theorem strconv_small.calls (a0:Int) (r:ByteArray) (w:World) (h:strconv_small.f a0=some r) :
  Calls Tryd.prog 102 #[.int .i64 a0] w fun e w'=>e = .returned (.string r)∧Drawn0 w w':=by
 have H:(if a0<10 then (if 0≤a0 then (if a0≤(wrap64 (a0+1)) then (if (wrap64 (a0+1))≤36 then (some ((⟨#[48,49,50,51,52,53,54,55,56,57,97,98,99,100,101,102,103,104,105,106,107,108,109,110,111,112,113,114,115,116,117,118,119,120,121,122]⟩:ByteArray).extract (a0:Int).toNat ((wrap64 (a0+1)):Int).toNat)) else (none)) else (none)) else (none)) else (if 0≤(wrap64 (a0*2)) then (if (wrap64 (a0*2))≤(wrap64 ((wrap64 (a0*2))+2)) then (if (wrap64 ((wrap64 (a0*2))+2))≤200 then (some ((⟨#[48,48,48,49,48,50,48,51,48,52,48,53,48,54,48,55,48,56,48,57,49,48,49,49,49,50,49,51,49,52,49,53,49,54,49,55,49,56,49,57,50,48,50,49,50,50,50,51,50,52,50,53,50,54,50,55,50,56,50,57,51,48,51,49,51,50,51,51,51,52,51,53,51,54,51,55,51,56,51,57,52,48,52,49,52,50,52,51,52,52,52,53,52,54,52,55,52,56,52,57,53,48,53,49,53,50,53,51,53,52,53,53,53,54,53,55,53,56,53,57,54,48,54,49,54,50,54,51,54,52,54,53,54,54,54,55,54,56,54,57,55,48,55,49,55,50,55,51,55,52,55,53,55,54,55,55,55,56,55,57,56,48,56,49,56,50,56,51,56,52,56,53,56,54,56,55,56,56,56,57,57,48,57,49,57,50,57,51,57,52,57,53,57,54,57,55,57,56,57,57]⟩:ByteArray).extract ((wrap64 (a0*2)):Int).toNat ((wrap64 ((wrap64 (a0*2))+2)):Int).toNat)) else (none)) else (none)) else (none)))=some r:=h
 clear h
 by_cases c2:a0<10
 ·rw [if_pos c2] at H
  have c2b0:decide (a0<10)=true:=decide_eq_true c2
  clear c2
  by_cases c3:0≤a0
  ·rw [if_pos c3] at H
   have c3b0:=eq_true c3
   have c3b1:decide (0≤a0)=true:=decide_eq_true c3
   clear c3
   by_cases c4:a0≤(wrap64 (a0+1))
   ·rw [if_pos c4] at H
    have c4b0:=eq_true c4
    have c4b1:decide (a0≤(wrap64 (a0+1)))=true:=decide_eq_true c4
    by_cases c5:(wrap64 (a0+1))≤36
    ·rw [if_pos c5] at H
     have c5b0:=eq_true c5
     have c5b1:decide ((wrap64 (a0+1))≤36)=true:=decide_eq_true c5
     obtain rfl:=Option.some.inj H
     go_enter Tryd.func102,Tryd.ntmps102
     go_wp2
     go_ret
     exact ⟨z1_,z6_⟩
    ·rw [if_neg c5] at H
     exact absurd H (by simp)
   ·rw [if_neg c4] at H
    exact absurd H (by simp)
  ·rw [if_neg c3] at H
   exact absurd H (by simp)
 ·rw [if_neg c2] at H
  have c2b0:decide (a0<10)=false:=decide_eq_false c2
  clear c2
  obtain ⟨ji6,hji6⟩:∃ j_:Int,(wrap64 (a0*2))=j_:=⟨_,rfl⟩
  replace H:(if 0≤(ji6) then (if (ji6)≤(wrap64 ((ji6)+2)) then (if (wrap64 ((ji6)+2))≤200 then (some ((⟨#[48,48,48,49,48,50,48,51,48,52,48,53,48,54,48,55,48,56,48,57,49,48,49,49,49,50,49,51,49,52,49,53,49,54,49,55,49,56,49,57,50,48,50,49,50,50,50,51,50,52,50,53,50,54,50,55,50,56,50,57,51,48,51,49,51,50,51,51,51,52,51,53,51,54,51,55,51,56,51,57,52,48,52,49,52,50,52,51,52,52,52,53,52,54,52,55,52,56,52,57,53,48,53,49,53,50,53,51,53,52,53,53,53,54,53,55,53,56,53,57,54,48,54,49,54,50,54,51,54,52,54,53,54,54,54,55,54,56,54,57,55,48,55,49,55,50,55,51,55,52,55,53,55,54,55,55,55,56,55,57,56,48,56,49,56,50,56,51,56,52,56,53,56,54,56,55,56,56,56,57,57,48,57,49,57,50,57,51,57,52,57,53,57,54,57,55,57,56,57,57]⟩:ByteArray).extract ((ji6):Int).toNat ((wrap64 ((ji6)+2)):Int).toNat)) else (none)) else (none)) else (none))=some r:=by first | (rw [hji6] at H;exact H) | (simp only [hji6] at H ⊢;exact H)
  have hji6w:(IntKind.i64.wrap (a0*2))=ji6:=(i64_w _).trans hji6
  by_cases c7:0≤(ji6)
  ·rw [if_pos c7] at H
   have c7b0:=eq_true c7
   have c7b1:decide (0≤(ji6))=true:=decide_eq_true c7
   clear c7
   by_cases c8:(ji6)≤(wrap64 ((ji6)+2))
   ·rw [if_pos c8] at H
    have c8b0:=eq_true c8
    have c8b1:decide ((ji6)≤(wrap64 ((ji6)+2)))=true:=decide_eq_true c8
    by_cases c9:(wrap64 ((ji6)+2))≤200
    ·rw [if_pos c9] at H
     have c9b0:=eq_true c9
     have c9b1:decide ((wrap64 ((ji6)+2))≤200)=true:=decide_eq_true c9
     obtain rfl:=Option.some.inj H
     go_enter Tryd.func102,Tryd.ntmps102
     go_wp2
     go_ret
     exact ⟨by first | rfl | (simp;done) | (simp only [← hji6] <;> (first | rfl | simp)) | (simp [*];done),z6_⟩
    ·rw [if_neg c9] at H
     exact absurd H (by simp)
   ·rw [if_neg c8] at H
    exact absurd H (by simp)
  ·rw [if_neg c7] at H
   exact absurd H (by simp)


/-! ### strconv_FormatInt_90: function 90 -/
def strconv_FormatInt_90.j0:Nat→Int→Bool→Option (ByteArray)
 | 0,_,_=>none
 | k+1,x0,x17=>if x17=true then ((strconv_small.f x0).bind fun t167=>(some t167)) else (none)
def strconv_FormatInt_90.f (k:Nat) (a0:Int) (a1:Int):Option (ByteArray):=if a1=10 then (if 0≤a0 then (strconv_FormatInt_90.j0 k a0 (decide (a0<100))) else (strconv_FormatInt_90.j0 k a0 false)) else (none)
theorem strconv_FormatInt_90.mono_l:∀ k,(∀ y0 y1,LeO (strconv_FormatInt_90.j0 k y0 y1) (strconv_FormatInt_90.j0 (k+1) y0 y1))
 | 0=>fun _ _ r h=>by simp [strconv_FormatInt_90.j0] at h
 | k+1=>by
  have ih0:=strconv_FormatInt_90.mono_l k
  ·intro y0 y1
   unfold strconv_FormatInt_90.j0
   repeat' first
   | (with_reducible exact ih0 _ _)
   | (with_reducible exact LeO.refl _)
   | (with_reducible exact LeO.none _)
   | (with_reducible refine LeO.ite ?_ ?_)
   | (with_reducible refine LeO.bind ?_ (fun _=>?_))
   | exact ih0 _ _
   | exact LeO.none _
   | refine LeO.ite ?_ ?_
   | refine LeO.bind ?_ (fun _=>?_)
theorem strconv_FormatInt_90.mono:∀ a0 a1 k,LeO (strconv_FormatInt_90.f k a0 a1) (strconv_FormatInt_90.f (k+1) a0 a1):=by
 intro a0 a1 k
 have ih0:=strconv_FormatInt_90.mono_l k
 unfold strconv_FormatInt_90.f
 repeat' first
   | (with_reducible exact ih0 _ _)
   | (with_reducible exact LeO.refl _)
   | (with_reducible exact LeO.none _)
   | (with_reducible refine LeO.ite ?_ ?_)
   | (with_reducible refine LeO.bind ?_ (fun _=>?_))
   | exact ih0 _ _
   | exact LeO.none _
   | refine LeO.ite ?_ ?_
   | refine LeO.bind ?_ (fun _=>?_)
set_option maxHeartbeats 8000000 in
set_option maxRecDepth 100000 in
theorem strconv_FormatInt_90.calls (k:Nat) (a0:Int) (a1:Int) (r:ByteArray) (w:World) (h:strconv_FormatInt_90.f k a0 a1=some r) :
  Calls Tryd.prog 90 #[.int .i64 a0,.int .i64 a1] w fun e w'=>e = .returned (.string r)∧Drawn0 w w':=by
 have H:(if a1=10 then (if 0≤a0 then (strconv_FormatInt_90.j0 k a0 (decide (a0<100))) else (strconv_FormatInt_90.j0 k a0 false)) else (none))=some r:=h
 clear h
 by_cases c3:a1=10
 ·rw [if_pos c3] at H
  have c3b0:(a1 == 10)=true:=beq_iff_eq.mpr c3
  have c3b1:(a1 != 10)=false:=bne_eq_false_iff_eq.mpr c3
  clear c3
  have HC4:=Aside0.mk H
  clear H
  go_enter Tryd.func90,Tryd.ntmps90
  go_upto_region 2 with (fail)
  go_cut [17] (fun v17 wc=>∃ (kq:Nat) (x17_3:Bool),v17 = .bool x17_3∧Aside0 (strconv_FormatInt_90.j0 kq a0 x17_3=some r)∧Aside0 (kq≤k)∧Drawn0 w wc)
  case first =>
   have H:=HC4.out
   clear HC4
   by_cases c5:0≤a0
   ·rw [if_pos c5] at H
    have c5b0:decide (0≤a0)=true:=decide_eq_true c5
    clear c5
    (first | rw [c5b0] | (simp only [i64_w,i32_w];rw [c5b0]) | skip)
    have H':=Aside0.mk H
    clear H
    go_wp2
    go_meet
    case rel=>exact ⟨_,(decide (a0<100)),(z1_),H',⟨by first | omega | exact Nat.le_refl _⟩,z6_⟩
   ·rw [if_neg c5] at H
    have c5b0:decide (0≤a0)=false:=decide_eq_false c5
    clear c5
    (first | rw [c5b0] | (simp only [i64_w,i32_w];rw [c5b0]) | skip)
    have H':=Aside0.mk H
    clear H
    go_wp2
    go_meet
    case rel=>exact ⟨_,(false),(z1_),H',⟨by first | omega | exact Nat.le_refl _⟩,z6_⟩
  case rest =>
   clear HC4
   try clear p2
   try clear c3
   try clear c3b0
   try clear c3b1
   try clear c5
   try clear c5b0
   obtain ⟨kq,x17_3,rfl,HA,HJ3,⟨mc3,rfl⟩⟩:=hcut
   cases kq with
   | zero=>exact absurd HA.out (by simp [strconv_FormatInt_90.j0])
   | succ kj3 =>
    have H:=HA.out
    clear HA
    simp only [strconv_FormatInt_90.j0] at H
    by_cases c6:x17_3=true
    ·subst c6
     have H1:((strconv_small.f a0).bind fun t167=>(some t167))=some r:=by rw [if_pos rfl] at H;exact H
     clear H
     have H:=H1
     clear H1
     replace H:=Option.bind_eq_some_iff.mp H
     obtain ⟨t167,A70,H⟩:=H
     replace H:(some t167)=some r:=H
     have A7:=Aside0.mk A70
     clear A70
     obtain rfl:=Option.some.inj H
     go_wp2_with (first | ((with_reducible refine gc_ 102 ?_);refine gl_ (some 19) Tryd.func102 #[.int .i64 a0] ?_;(with_reducible refine (strconv_small.calls a0 t167 _ A7.out).mono ?_);rintro e w' ⟨rfl,⟨nd,rfl⟩⟩;refine ⟨_,rfl,?_⟩))
     go_ret
     exact ⟨z1_,z6_⟩
    ·replace c6:=Bool.eq_false_iff.mpr c6
     subst c6
     have H1:(none)=some r:=by rw [if_neg (show ¬ (false=true) by decide)] at H;exact H
     clear H
     have H:=H1
     clear H1
     exact absurd H (by simp)
 ·rw [if_neg c3] at H
  exact absurd H (by simp)


/-! ### strconv_FormatInt_81: function 81 -/
def strconv_FormatInt_81.f (k:Nat) (a0:Int) (a1:Int):Option (ByteArray):=(strconv_FormatInt_90.f k a0 a1).bind fun t168=>(some t168)
theorem strconv_FormatInt_81.mono:∀ a0 a1 k,LeO (strconv_FormatInt_81.f k a0 a1) (strconv_FormatInt_81.f (k+1) a0 a1):=by
 intro a0 a1 k
 unfold strconv_FormatInt_81.f
 repeat' first
   | (with_reducible exact strconv_FormatInt_90.mono _ _ _)
   | (with_reducible exact LeO.refl _)
   | (with_reducible exact LeO.none _)
   | (with_reducible refine LeO.ite ?_ ?_)
   | (with_reducible refine LeO.bind ?_ (fun _=>?_))
   | exact strconv_FormatInt_90.mono _ _ _
   | exact LeO.none _
   | refine LeO.ite ?_ ?_
   | refine LeO.bind ?_ (fun _=>?_)
set_option maxHeartbeats 8000000 in
set_option maxRecDepth 100000 in
theorem strconv_FormatInt_81.calls (k:Nat) (a0:Int) (a1:Int) (r:ByteArray) (w:World) (h:strconv_FormatInt_81.f k a0 a1=some r) :
  Calls Tryd.prog 81 #[.int .i64 a0,.int .i64 a1] w fun e w'=>e = .returned (.string r)∧Drawn0 w w':=by
 have H:((strconv_FormatInt_90.f k a0 a1).bind fun t168=>(some t168))=some r:=h
 clear h
 replace H:=Option.bind_eq_some_iff.mp H
 obtain ⟨t168,A30,H⟩:=H
 replace H:(some t168)=some r:=H
 have A3:=Aside0.mk A30
 clear A30
 obtain rfl:=Option.some.inj H
 go_enter Tryd.func81,Tryd.ntmps81
 go_wp2_with (first | ((with_reducible refine gc_ 90 ?_);refine gl_ (some 7) Tryd.func90 #[.int .i64 a0,.int .i64 a1] ?_;(with_reducible refine (strconv_FormatInt_90.calls k a0 a1 t168 _ A3.out).mono ?_);rintro e w' ⟨rfl,⟨nd,rfl⟩⟩;refine ⟨_,rfl,?_⟩))
 go_ret
 exact ⟨z1_,z6_⟩


/-! ### impl_decimal: function 65 -/
def impl_decimal.f (k:Nat) (a0:Int):Option (ByteArray):=(strconv_FormatInt_81.f k a0 10).bind fun t169=>(some t169)
theorem impl_decimal.mono:∀ a0 k,LeO (impl_decimal.f k a0) (impl_decimal.f (k+1) a0):=by
 intro a0 k
 unfold impl_decimal.f
 repeat' first
   | (with_reducible exact strconv_FormatInt_81.mono _ _ _)
   | (with_reducible exact LeO.refl _)
   | (with_reducible exact LeO.none _)
   | (with_reducible refine LeO.ite ?_ ?_)
   | (with_reducible refine LeO.bind ?_ (fun _=>?_))
   | exact strconv_FormatInt_81.mono _ _ _
   | exact LeO.none _
   | refine LeO.ite ?_ ?_
   | refine LeO.bind ?_ (fun _=>?_)
set_option maxHeartbeats 8000000 in
set_option maxRecDepth 100000 in
theorem impl_decimal.calls (k:Nat) (a0:Int) (r:ByteArray) (w:World) (h:impl_decimal.f k a0=some r) :
  Calls Tryd.prog 65 #[.int .i64 a0] w fun e w'=>e = .returned (.string r)∧Drawn0 w w':=by
 have H:((strconv_FormatInt_81.f k a0 10).bind fun t169=>(some t169))=some r:=h
 clear h
 replace H:=Option.bind_eq_some_iff.mp H
 obtain ⟨t169,A20,H⟩:=H
 replace H:(some t169)=some r:=H
 have A2:=Aside0.mk A20
 clear A20
 obtain rfl:=Option.some.inj H
 go_enter Tryd.func65,Tryd.ntmps65
 go_wp2_with (first | ((with_reducible refine gc_ 81 ?_);refine gl_ (some 4) Tryd.func81 #[.int .i64 a0,.int .i64 10] ?_;(with_reducible refine (strconv_FormatInt_81.calls k a0 10 t169 _ A2.out).mono ?_);rintro e w' ⟨rfl,⟨nd,rfl⟩⟩;refine ⟨_,rfl,?_⟩))
 go_ret
 exact ⟨z1_,z6_⟩


/-! ### bits_Len64: function 100 -/
mutual
def bits_Len64.j0:Nat→Int→Int→Option (Int)
 | 0,_,_=>none
 | k+1,x0,x2=>if x0≥65536 then (bits_Len64.j1 k (x0 / 65536) (wrap64 (x2+16))) else (bits_Len64.j1 k x0 x2)
def bits_Len64.j1:Nat→Int→Int→Option (Int)
 | 0,_,_=>none
 | k+1,x0,x2=>if x0≥256 then (if 0≤((x0 / 256) % 256) then (if ((x0 / 256) % 256)<256 then (some (wrap64 ((wrap64 (x2+8))+(wrap64 (bt (⟨#[0,1,2,2,3,3,3,3,4,4,4,4,4,4,4,4,5,5,5,5,5,5,5,5,5,5,5,5,5,5,5,5,6,6,6,6,6,6,6,6,6,6,6,6,6,6,6,6,6,6,6,6,6,6,6,6,6,6,6,6,6,6,6,6,7,7,7,7,7,7,7,7,7,7,7,7,7,7,7,7,7,7,7,7,7,7,7,7,7,7,7,7,7,7,7,7,7,7,7,7,7,7,7,7,7,7,7,7,7,7,7,7,7,7,7,7,7,7,7,7,7,7,7,7,7,7,7,7,8,8,8,8,8,8,8,8,8,8,8,8,8,8,8,8,8,8,8,8,8,8,8,8,8,8,8,8,8,8,8,8,8,8,8,8,8,8,8,8,8,8,8,8,8,8,8,8,8,8,8,8,8,8,8,8,8,8,8,8,8,8,8,8,8,8,8,8,8,8,8,8,8,8,8,8,8,8,8,8,8,8,8,8,8,8,8,8,8,8,8,8,8,8,8,8,8,8,8,8,8,8,8,8,8,8,8,8,8,8,8,8,8,8,8,8,8,8,8,8,8,8,8,8,8,8,8,8]⟩:ByteArray) ((x0 / 256) % 256)))))) else (none)) else (none)) else (if 0≤((x0) % 256) then (if ((x0) % 256)<256 then (some (wrap64 (x2+(wrap64 (bt (⟨#[0,1,2,2,3,3,3,3,4,4,4,4,4,4,4,4,5,5,5,5,5,5,5,5,5,5,5,5,5,5,5,5,6,6,6,6,6,6,6,6,6,6,6,6,6,6,6,6,6,6,6,6,6,6,6,6,6,6,6,6,6,6,6,6,7,7,7,7,7,7,7,7,7,7,7,7,7,7,7,7,7,7,7,7,7,7,7,7,7,7,7,7,7,7,7,7,7,7,7,7,7,7,7,7,7,7,7,7,7,7,7,7,7,7,7,7,7,7,7,7,7,7,7,7,7,7,7,7,8,8,8,8,8,8,8,8,8,8,8,8,8,8,8,8,8,8,8,8,8,8,8,8,8,8,8,8,8,8,8,8,8,8,8,8,8,8,8,8,8,8,8,8,8,8,8,8,8,8,8,8,8,8,8,8,8,8,8,8,8,8,8,8,8,8,8,8,8,8,8,8,8,8,8,8,8,8,8,8,8,8,8,8,8,8,8,8,8,8,8,8,8,8,8,8,8,8,8,8,8,8,8,8,8,8,8,8,8,8,8,8,8,8,8,8,8,8,8,8,8,8,8,8,8,8,8,8]⟩:ByteArray) ((x0) % 256)))))) else (none)) else (none))
end
def bits_Len64.f (k:Nat) (a0:Int):Option (Int):=if a0≥4294967296 then (bits_Len64.j0 k (a0 / 4294967296) 32) else (bits_Len64.j0 k a0 0)
theorem bits_Len64.mono_l:∀ k,(∀ y0 y1,LeO (bits_Len64.j0 k y0 y1) (bits_Len64.j0 (k+1) y0 y1))∧(∀ y0 y1,LeO (bits_Len64.j1 k y0 y1) (bits_Len64.j1 (k+1) y0 y1))
 | 0=>⟨fun _ _ r h=>by simp [bits_Len64.j0] at h,fun _ _ r h=>by simp [bits_Len64.j1] at h⟩
 | k+1=>by
  obtain ⟨ih0,ih1⟩:=bits_Len64.mono_l k
  refine ⟨?_,?_⟩
  ·intro y0 y1
   unfold bits_Len64.j0
   repeat' first
   | (with_reducible exact ih0 _ _)
   | (with_reducible exact ih1 _ _)
   | (with_reducible exact LeO.refl _)
   | (with_reducible exact LeO.none _)
   | (with_reducible refine LeO.ite ?_ ?_)
   | (with_reducible refine LeO.bind ?_ (fun _=>?_))
   | exact ih0 _ _
   | exact ih1 _ _
   | exact LeO.none _
   | refine LeO.ite ?_ ?_
   | refine LeO.bind ?_ (fun _=>?_)
  ·intro y0 y1
   unfold bits_Len64.j1
   repeat' first
   | (with_reducible exact ih0 _ _)
   | (with_reducible exact ih1 _ _)
   | (with_reducible exact LeO.refl _)
   | (with_reducible exact LeO.none _)
   | (with_reducible refine LeO.ite ?_ ?_)
   | (with_reducible refine LeO.bind ?_ (fun _=>?_))
   | exact ih0 _ _
   | exact ih1 _ _
   | exact LeO.none _
   | refine LeO.ite ?_ ?_
   | refine LeO.bind ?_ (fun _=>?_)
theorem bits_Len64.mono:∀ a0 k,LeO (bits_Len64.f k a0) (bits_Len64.f (k+1) a0):=by
 intro a0 k
 obtain ⟨ih0,ih1⟩:=bits_Len64.mono_l k
 unfold bits_Len64.f
 repeat' first
   | (with_reducible exact ih0 _ _)
   | (with_reducible exact ih1 _ _)
   | (with_reducible exact LeO.refl _)
   | (with_reducible exact LeO.none _)
   | (with_reducible refine LeO.ite ?_ ?_)
   | (with_reducible refine LeO.bind ?_ (fun _=>?_))
   | exact ih0 _ _
   | exact ih1 _ _
   | exact LeO.none _
   | refine LeO.ite ?_ ?_
   | refine LeO.bind ?_ (fun _=>?_)
set_option maxHeartbeats 8000000 in
set_option maxRecDepth 100000 in
theorem bits_Len64.calls (k:Nat) (a0:Int) (r:Int) (w:World) (h:bits_Len64.f k a0=some r) :
  Calls Tryd.prog 100 #[.int .u64 a0] w fun e w'=>e = .returned (.int .i64 r)∧Drawn0 w w':=by
 have H:(if a0≥4294967296 then (bits_Len64.j0 k (a0 / 4294967296) 32) else (bits_Len64.j0 k a0 0))=some r:=h
 clear h
 have HC2:=Aside0.mk H
 clear H
 go_enter Tryd.func100,Tryd.ntmps100
 go_upto_if 4 with (fail)
 go_cut [0,2] (fun v0 v2 wc=>∃ (kq:Nat) (x0_1:Int) (x2_1:Int),v0 = .int .u64 x0_1∧v2 = .int .i64 x2_1∧Aside0 (bits_Len64.j0 kq x0_1 x2_1=some r)∧Aside0 (kq≤k)∧Drawn0 w wc)
 case first =>
  have H:=HC2.out
  clear HC2
  by_cases c3:a0≥4294967296
  ·rw [if_pos c3] at H
   have c3b0:decide (4294967296≤a0)=true:=decide_eq_true c3
   clear c3
   (first | rw [c3b0] | (simp only [i64_w,i32_w];rw [c3b0]) | skip)
   have H':=Aside0.mk H
   clear H
   go_wp2
   go_meet
   case rel=>exact ⟨_,(a0 / 4294967296),(32),(z1_),(z1_),H',⟨by first | omega | exact Nat.le_refl _⟩,z6_⟩
  ·rw [if_neg c3] at H
   have c3b0:decide (4294967296≤a0)=false:=decide_eq_false c3
   clear c3
   (first | rw [c3b0] | (simp only [i64_w,i32_w];rw [c3b0]) | skip)
   have H':=Aside0.mk H
   clear H
   go_wp2
   go_meet
   case rel=>exact ⟨_,(a0),(0),(z1_),(z1_),H',⟨by first | omega | exact Nat.le_refl _⟩,z6_⟩
 case rest =>
  clear HC2
  try clear c1
  try clear p2
  try clear c3
  try clear c3b0
  obtain ⟨kq,x0_1,x2_1,rfl,rfl,HA,HJ1,⟨mc1,rfl⟩⟩:=hcut
  cases kq with
  | zero=>exact absurd HA.out (by simp [bits_Len64.j0])
  | succ kj1 =>
   have H:=HA.out
   clear HA
   simp only [bits_Len64.j0] at H
   have HC4:=Aside0.mk H
   clear H
   go_upto_if 8 with (fail)
   go_cut [0,2] (fun v0 v2 wc=>∃ (kq:Nat) (x0_3:Int) (x2_3:Int),v0 = .int .u64 x0_3∧v2 = .int .i64 x2_3∧Aside0 (bits_Len64.j1 kq x0_3 x2_3=some r)∧Aside0 (kq≤kj1)∧Drawn0 w wc)
   case first =>
    have H:=HC4.out
    clear HC4
    by_cases c5:x0_1≥65536
    ·rw [if_pos c5] at H
     have c5b0:decide (65536≤x0_1)=true:=decide_eq_true c5
     clear c5
     (first | rw [c5b0] | (simp only [i64_w,i32_w];rw [c5b0]) | skip)
     have H':=Aside0.mk H
     clear H
     go_wp2
     go_meet
     case rel=>exact ⟨_,(x0_1 / 65536),(wrap64 (x2_1+16)),(z1_),(z1_),H',⟨z20_ HJ1.out⟩,z6_⟩
    ·rw [if_neg c5] at H
     have c5b0:decide (65536≤x0_1)=false:=decide_eq_false c5
     clear c5
     (first | rw [c5b0] | (simp only [i64_w,i32_w];rw [c5b0]) | skip)
     have H':=Aside0.mk H
     clear H
     go_wp2
     go_meet
     case rel=>exact ⟨_,(x0_1),(x2_1),(z1_),(z1_),H',⟨z20_ HJ1.out⟩,z6_⟩
   case rest =>
    clear HC4
    try clear c1
    try clear p2
    try clear c3
    try clear c3b0
    try clear c5
    try clear c5b0
    try clear p2
    obtain ⟨kq,x0_3,x2_3,rfl,rfl,HA,HJ3,⟨mc3,rfl⟩⟩:=hcut
    cases kq with
    | zero=>exact absurd HA.out (by simp [bits_Len64.j1])
    | succ kj3 =>
     have H:=HA.out
     clear HA
     simp only [bits_Len64.j1] at H
     by_cases c6:x0_3≥256
     ·rw [if_pos c6] at H
      have c6b0:decide (256≤x0_3)=true:=decide_eq_true c6
      clear c6
      obtain ⟨ji7,hji7⟩:∃ j_:Int,((x0_3 / 256) % 256)=j_:=⟨_,rfl⟩
      replace H:(if 0≤(ji7) then (if (ji7)<256 then (some (wrap64 ((wrap64 (x2_3+8))+(wrap64 (bt (⟨#[0,1,2,2,3,3,3,3,4,4,4,4,4,4,4,4,5,5,5,5,5,5,5,5,5,5,5,5,5,5,5,5,6,6,6,6,6,6,6,6,6,6,6,6,6,6,6,6,6,6,6,6,6,6,6,6,6,6,6,6,6,6,6,6,7,7,7,7,7,7,7,7,7,7,7,7,7,7,7,7,7,7,7,7,7,7,7,7,7,7,7,7,7,7,7,7,7,7,7,7,7,7,7,7,7,7,7,7,7,7,7,7,7,7,7,7,7,7,7,7,7,7,7,7,7,7,7,7,8,8,8,8,8,8,8,8,8,8,8,8,8,8,8,8,8,8,8,8,8,8,8,8,8,8,8,8,8,8,8,8,8,8,8,8,8,8,8,8,8,8,8,8,8,8,8,8,8,8,8,8,8,8,8,8,8,8,8,8,8,8,8,8,8,8,8,8,8,8,8,8,8,8,8,8,8,8,8,8,8,8,8,8,8,8,8,8,8,8,8,8,8,8,8,8,8,8,8,8,8,8,8,8,8,8,8,8,8,8,8,8,8,8,8,8,8,8,8,8,8,8,8,8,8,8,8,8]⟩:ByteArray) (ji7)))))) else (none)) else (none))=some r:=by first | (rw [hji7] at H;exact H) | (simp only [hji7] at H ⊢;exact H)
      by_cases c8:0≤(ji7)
      ·rw [if_pos c8] at H
       have c8b0:decide (0≤(ji7))=true:=decide_eq_true c8
       clear c8
       by_cases c9:(ji7)<256
       ·rw [if_pos c9] at H
        have c9b0:decide ((ji7)<256)=true:=decide_eq_true c9
        clear c9
        obtain rfl:=Option.some.inj H
        have p10:0≤((ji7):Int):=of_decide_eq_true (z0_)
        have q10:(ji7)<(256:Int):=of_decide_eq_true (z0_)
        have hx10:=bt_at (⟨#[0,1,2,2,3,3,3,3,4,4,4,4,4,4,4,4,5,5,5,5,5,5,5,5,5,5,5,5,5,5,5,5,6,6,6,6,6,6,6,6,6,6,6,6,6,6,6,6,6,6,6,6,6,6,6,6,6,6,6,6,6,6,6,6,7,7,7,7,7,7,7,7,7,7,7,7,7,7,7,7,7,7,7,7,7,7,7,7,7,7,7,7,7,7,7,7,7,7,7,7,7,7,7,7,7,7,7,7,7,7,7,7,7,7,7,7,7,7,7,7,7,7,7,7,7,7,7,7,8,8,8,8,8,8,8,8,8,8,8,8,8,8,8,8,8,8,8,8,8,8,8,8,8,8,8,8,8,8,8,8,8,8,8,8,8,8,8,8,8,8,8,8,8,8,8,8,8,8,8,8,8,8,8,8,8,8,8,8,8,8,8,8,8,8,8,8,8,8,8,8,8,8,8,8,8,8,8,8,8,8,8,8,8,8,8,8,8,8,8,8,8,8,8,8,8,8,8,8,8,8,8,8,8,8,8,8,8,8,8,8,8,8,8,8,8,8,8,8,8,8,8,8,8,8,8,8]⟩:ByteArray) (ji7)
        replace p10:=eq_true p10
        replace q10:=eq_true q10
        go_wp2
        go_ret
        exact ⟨by first | rfl | (simp;done) | (simp only [← hji7] <;> (first | rfl | simp)) | (simp [*];done),z6_⟩
       ·rw [if_neg c9] at H
        exact absurd H (by simp)
      ·rw [if_neg c8] at H
       exact absurd H (by simp)
     ·rw [if_neg c6] at H
      have c6b0:decide (256≤x0_3)=false:=decide_eq_false c6
      clear c6
      obtain ⟨ji11,hji11⟩:∃ j_:Int,((x0_3) % 256)=j_:=⟨_,rfl⟩
      replace H:(if 0≤(ji11) then (if (ji11)<256 then (some (wrap64 (x2_3+(wrap64 (bt (⟨#[0,1,2,2,3,3,3,3,4,4,4,4,4,4,4,4,5,5,5,5,5,5,5,5,5,5,5,5,5,5,5,5,6,6,6,6,6,6,6,6,6,6,6,6,6,6,6,6,6,6,6,6,6,6,6,6,6,6,6,6,6,6,6,6,7,7,7,7,7,7,7,7,7,7,7,7,7,7,7,7,7,7,7,7,7,7,7,7,7,7,7,7,7,7,7,7,7,7,7,7,7,7,7,7,7,7,7,7,7,7,7,7,7,7,7,7,7,7,7,7,7,7,7,7,7,7,7,7,8,8,8,8,8,8,8,8,8,8,8,8,8,8,8,8,8,8,8,8,8,8,8,8,8,8,8,8,8,8,8,8,8,8,8,8,8,8,8,8,8,8,8,8,8,8,8,8,8,8,8,8,8,8,8,8,8,8,8,8,8,8,8,8,8,8,8,8,8,8,8,8,8,8,8,8,8,8,8,8,8,8,8,8,8,8,8,8,8,8,8,8,8,8,8,8,8,8,8,8,8,8,8,8,8,8,8,8,8,8,8,8,8,8,8,8,8,8,8,8,8,8,8,8,8,8,8,8]⟩:ByteArray) (ji11)))))) else (none)) else (none))=some r:=by first | (rw [hji11] at H;exact H) | (simp only [hji11] at H ⊢;exact H)
      by_cases c12:0≤(ji11)
      ·rw [if_pos c12] at H
       have c12b0:decide (0≤(ji11))=true:=decide_eq_true c12
       clear c12
       by_cases c13:(ji11)<256
       ·rw [if_pos c13] at H
        have c13b0:decide ((ji11)<256)=true:=decide_eq_true c13
        clear c13
        obtain rfl:=Option.some.inj H
        have p14:0≤((ji11):Int):=of_decide_eq_true (z0_)
        have q14:(ji11)<(256:Int):=of_decide_eq_true (z0_)
        have hx14:=bt_at (⟨#[0,1,2,2,3,3,3,3,4,4,4,4,4,4,4,4,5,5,5,5,5,5,5,5,5,5,5,5,5,5,5,5,6,6,6,6,6,6,6,6,6,6,6,6,6,6,6,6,6,6,6,6,6,6,6,6,6,6,6,6,6,6,6,6,7,7,7,7,7,7,7,7,7,7,7,7,7,7,7,7,7,7,7,7,7,7,7,7,7,7,7,7,7,7,7,7,7,7,7,7,7,7,7,7,7,7,7,7,7,7,7,7,7,7,7,7,7,7,7,7,7,7,7,7,7,7,7,7,8,8,8,8,8,8,8,8,8,8,8,8,8,8,8,8,8,8,8,8,8,8,8,8,8,8,8,8,8,8,8,8,8,8,8,8,8,8,8,8,8,8,8,8,8,8,8,8,8,8,8,8,8,8,8,8,8,8,8,8,8,8,8,8,8,8,8,8,8,8,8,8,8,8,8,8,8,8,8,8,8,8,8,8,8,8,8,8,8,8,8,8,8,8,8,8,8,8,8,8,8,8,8,8,8,8,8,8,8,8,8,8,8,8,8,8,8,8,8,8,8,8,8,8,8,8,8,8]⟩:ByteArray) (ji11)
        replace p14:=eq_true p14
        replace q14:=eq_true q14
        go_wp2
        go_ret
        exact ⟨by first | rfl | (simp;done) | (simp only [← hji11] <;> (first | rfl | simp)) | (simp [*];done),z6_⟩
       ·rw [if_neg c13] at H
        exact absurd H (by simp)
      ·rw [if_neg c12] at H
       exact absurd H (by simp)


/-! ### bits_Len: function 83 -/
def bits_Len.f (k:Nat) (a0:Int):Option (Int):=(bits_Len64.f k a0).bind fun t170=>(some t170)
theorem bits_Len.mono:∀ a0 k,LeO (bits_Len.f k a0) (bits_Len.f (k+1) a0):=by
 intro a0 k
 unfold bits_Len.f
 repeat' first
   | (with_reducible exact bits_Len64.mono _ _)
   | (with_reducible exact LeO.refl _)
   | (with_reducible exact LeO.none _)
   | (with_reducible refine LeO.ite ?_ ?_)
   | (with_reducible refine LeO.bind ?_ (fun _=>?_))
   | exact bits_Len64.mono _ _
   | exact LeO.none _
   | refine LeO.ite ?_ ?_
   | refine LeO.bind ?_ (fun _=>?_)
set_option maxHeartbeats 8000000 in
set_option maxRecDepth 100000 in
theorem bits_Len.calls (k:Nat) (a0:Int) (r:Int) (w:World) (h:bits_Len.f k a0=some r) :
  Calls Tryd.prog 83 #[.int .u64 a0] w fun e w'=>e = .returned (.int .i64 r)∧Drawn0 w w':=by
 have H:((bits_Len64.f k a0).bind fun t170=>(some t170))=some r:=h
 clear h
 replace H:=Option.bind_eq_some_iff.mp H
 obtain ⟨t170,A20,H⟩:=H
 replace H:(some t170)=some r:=H
 have A2:=Aside0.mk A20
 clear A20
 obtain rfl:=Option.some.inj H
 go_enter Tryd.func83,Tryd.ntmps83
 go_wp2_with (first | ((with_reducible refine gc_ 100 ?_);refine gl_ (some 7) Tryd.func100 #[.int .u64 a0] ?_;(with_reducible refine (bits_Len64.calls k a0 t170 _ A2.out).mono ?_);rintro e w' ⟨rfl,⟨nd,rfl⟩⟩;refine ⟨_,rfl,?_⟩))
 go_ret
 exact ⟨z1_,z6_⟩


/-! ### cmp_Or_int: function 68 -/
def cmp_Or_int.l0:Nat→Int→List Int→Int→Int→Option (Int)
 | 0,_,_,_,_=>none
 | k+1,x3,x6,x7,x8=>if x8<x7 then (if 0≤x8 then (if x8<(x6.length:Int) then (if (rd x6 x8)=x3 then (cmp_Or_int.l0 k x3 x6 x7 (wrap64 (x8+1))) else (some (rd x6 x8))) else (none)) else (none)) else (some x3)
def cmp_Or_int.f (k:Nat) (l0:List Int):Option (Int):=cmp_Or_int.l0 k 0 l0 (l0.length:Int) 0
theorem cmp_Or_int.mono_l:∀ k,(∀ y0 y1 y2 y3,LeO (cmp_Or_int.l0 k y0 y1 y2 y3) (cmp_Or_int.l0 (k+1) y0 y1 y2 y3))
 | 0=>fun _ _ _ _ r h=>by simp [cmp_Or_int.l0] at h
 | k+1=>by
  have ih0:=cmp_Or_int.mono_l k
  ·intro y0 y1 y2 y3
   unfold cmp_Or_int.l0
   repeat' first
   | (with_reducible exact ih0 _ _ _ _)
   | (with_reducible exact LeO.refl _)
   | (with_reducible exact LeO.none _)
   | (with_reducible refine LeO.ite ?_ ?_)
   | (with_reducible refine LeO.bind ?_ (fun _=>?_))
   | exact ih0 _ _ _ _
   | exact LeO.none _
   | refine LeO.ite ?_ ?_
   | refine LeO.bind ?_ (fun _=>?_)
theorem cmp_Or_int.mono:∀ a0 k,LeO (cmp_Or_int.f k a0) (cmp_Or_int.f (k+1) a0):=by
 intro a0 k
 have ih0:=cmp_Or_int.mono_l k
 unfold cmp_Or_int.f
 repeat' first
   | (with_reducible exact ih0 _ _ _ _)
   | (with_reducible exact LeO.refl _)
   | (with_reducible exact LeO.none _)
   | (with_reducible refine LeO.ite ?_ ?_)
   | (with_reducible refine LeO.bind ?_ (fun _=>?_))
   | exact ih0 _ _ _ _
   | exact LeO.none _
   | refine LeO.ite ?_ ?_
   | refine LeO.bind ?_ (fun _=>?_)
set_option maxHeartbeats 8000000 in
set_option maxRecDepth 100000 in
theorem cmp_Or_int.calls (k:Nat) (A0:Option Addr) (c0:Nat) (l0:List Int) (r:Int) (w:World) (hr0:Kd.C (Kd.int .i64) w A0 l0.length l0) (hc0:l0.length≤c0) (h:cmp_Or_int.f k l0=some r) :
  Calls Tryd.prog 68 #[.slice A0 l0.length c0] w fun e w'=>e = .returned (.int .i64 r)∧Drawn0 w w':=by
 have HR0:=Aside0.mk hr0
 have HC0:=Aside0.mk hc0
 clear hr0 hc0
 have H:(cmp_Or_int.l0 k 0 l0 (l0.length:Int) 0)=some r:=h
 clear h
 have H':=Aside0.mk H
 clear H
 go_enter Tryd.func68,Tryd.ntmps68
 go_wp2
 go_loopg [8] k (fun kq v8 w'=>∃ (x8_1:Int),v8 = .int .i64 x8_1∧Aside0 (cmp_Or_int.l0 kq 0 l0 (l0.length:Int) x8_1=some r)∧Aside0 (kq≤k)∧Drawn0 w w')
 case atStart=>exact ⟨(0),(z1_),H',⟨Nat.le_refl _⟩,z6_⟩
 case round =>
  clear H'
  obtain ⟨x8_1,rfl,HA,HK1,⟨m1,rfl⟩⟩:=hrel
  cases gk with
  | zero=>exact absurd HA.out (by simp [cmp_Or_int.l0])
  | succ k1 =>
   have H:=HA.out
   clear HA
   simp only [cmp_Or_int.l0] at H
   by_cases c2:x8_1<(l0.length:Int)
   ·rw [if_pos c2] at H
    have c2b0:decide (x8_1<(l0.length:Int))=true:=decide_eq_true c2
    clear c2
    by_cases c3:0≤x8_1
    ·rw [if_pos c3] at H
     have c3b0:decide (0≤x8_1)=true:=decide_eq_true c3
     clear c3
     by_cases c4:x8_1<(l0.length:Int)
     ·rw [if_pos c4] at H
      have c4b0:decide (x8_1<(l0.length:Int))=true:=decide_eq_true c4
      clear c4
      by_cases c5:(rd l0 x8_1)=0
      ·rw [if_pos c5] at H
       have c5b0:((rd l0 x8_1) == 0)=true:=beq_iff_eq.mpr c5
       have c5b1:((rd l0 x8_1) != 0)=false:=bne_eq_false_iff_eq.mpr c5
       clear c5
       have H':=Aside0.mk H
       clear H
       have p171:0≤(x8_1:Int):=of_decide_eq_true (z0_)
       have q171:x8_1<(l0.length:Int):=of_decide_eq_true (z0_)
       obtain ⟨ad171,e171,hx171_0⟩:=Kd.at_int HR0.out x8_1 p171 q171
       cases e171
       replace p171:=eq_true p171
       replace q171:=eq_true q171
       go_wp2
       go_roundg k1
       case measure=>have:=HK1.out;omega
       case rel=>exact ⟨(wrap64 (x8_1+1)),(z1_),H',⟨by have:=HK1.out;omega⟩,z6_⟩
      ·rw [if_neg c5] at H
       have c5b0:((rd l0 x8_1) == 0)=false:=beq_eq_false_iff_ne.mpr c5
       have c5b1:((rd l0 x8_1) != 0)=true:=bne_iff_ne.mpr c5
       obtain rfl:=Option.some.inj H
       have p171:0≤(x8_1:Int):=of_decide_eq_true (z0_)
       have q171:x8_1<(l0.length:Int):=of_decide_eq_true (z0_)
       obtain ⟨ad171,e171,hx171_0⟩:=Kd.at_int HR0.out x8_1 p171 q171
       cases e171
       replace p171:=eq_true p171
       replace q171:=eq_true q171
       go_wp2
       go_ret
       exact ⟨z1_,z6_⟩
     ·rw [if_neg c4] at H
      exact absurd H (by simp)
    ·rw [if_neg c3] at H
     exact absurd H (by simp)
   ·rw [if_neg c2] at H
    have c2b0:decide (x8_1<(l0.length:Int))=false:=decide_eq_false c2
    clear c2
    obtain rfl:=Option.some.inj H
    go_wp2
    go_ret
    exact ⟨z1_,z6_⟩


/-! ### cmp_isNaN_int64: function 84 -/
def cmp_isNaN_int64.f (a0:Int):Option (Bool):=some (a0 != a0)
set_option maxHeartbeats 8000000 in
set_option maxRecDepth 100000 in
theorem cmp_isNaN_int64.calls (a0:Int) (r:Bool) (w:World) (h:cmp_isNaN_int64.f a0=some r) :
  Calls Tryd.prog 84 #[.int .i64 a0] w fun e w'=>e = .returned (.bool r)∧Drawn0 w w':=by
 have H:(some (a0 != a0))=some r:=h
 clear h
 obtain rfl:=Option.some.inj H
 go_enter Tryd.func84,Tryd.ntmps84
 go_wp2
 go_ret
 exact ⟨z1_,z6_⟩


/-! ### cmp_Compare_int64: function 69 -/
def cmp_Compare_int64.f (a0:Int) (a1:Int):Option (Int):=(cmp_isNaN_int64.f a0).bind fun t172=>((cmp_isNaN_int64.f a1).bind fun t173=>(if t172=true then (if t173=true then (some 0) else (some (-1))) else (if t173=true then (some 1) else (if a0<a1 then (some (-1)) else (if a0>a1 then (some 1) else (some 0))))))
set_option maxHeartbeats 8000000 in
set_option maxRecDepth 100000 in
theorem cmp_Compare_int64.calls (a0:Int) (a1:Int) (r:Int) (w:World) (h:cmp_Compare_int64.f a0 a1=some r) :
  Calls Tryd.prog 69 #[.int .i64 a0,.int .i64 a1] w fun e w'=>e = .returned (.int .i64 r)∧Drawn0 w w':=by
 have H:((cmp_isNaN_int64.f a0).bind fun t172=>((cmp_isNaN_int64.f a1).bind fun t173=>(if t172=true then (if t173=true then (some 0) else (some (-1))) else (if t173=true then (some 1) else (if a0<a1 then (some (-1)) else (if a0>a1 then (some 1) else (some 0)))))))=some r:=h
 clear h
 replace H:=Option.bind_eq_some_iff.mp H
 obtain ⟨t172,A30,H⟩:=H
 replace H:((cmp_isNaN_int64.f a1).bind fun t173=>(if t172=true then (if t173=true then (some 0) else (some (-1))) else (if t173=true then (some 1) else (if a0<a1 then (some (-1)) else (if a0>a1 then (some 1) else (some 0))))))=some r:=H
 have A3:=Aside0.mk A30
 clear A30
 replace H:=Option.bind_eq_some_iff.mp H
 obtain ⟨t173,A40,H⟩:=H
 replace H:(if t172=true then (if t173=true then (some 0) else (some (-1))) else (if t173=true then (some 1) else (if a0<a1 then (some (-1)) else (if a0>a1 then (some 1) else (some 0)))))=some r:=H
 have A4:=Aside0.mk A40
 clear A40
 by_cases c5:t172=true
 ·subst c5
  have H1:(if t173=true then (some 0) else (some (-1)))=some r:=by rw [if_pos rfl] at H;exact H
  clear H
  have H:=H1
  clear H1
  by_cases c6:t173=true
  ·subst c6
   have H1:(some 0)=some r:=by rw [if_pos rfl] at H;exact H
   clear H
   have H:=H1
   clear H1
   obtain rfl:=Option.some.inj H
   go_enter Tryd.func69,Tryd.ntmps69
   go_wp2_with (first | ((with_reducible refine gc_ 84 ?_);refine gl_ (some 8) Tryd.func84 #[.int .i64 a0] ?_;(with_reducible refine (cmp_isNaN_int64.calls a0 true _ A3.out).mono ?_);rintro e w' ⟨rfl,⟨nd,rfl⟩⟩;refine ⟨_,rfl,?_⟩) | ((with_reducible refine gc_ 84 ?_);refine gl_ (some 10) Tryd.func84 #[.int .i64 a1] ?_;(with_reducible refine (cmp_isNaN_int64.calls a1 true _ A4.out).mono ?_);rintro e w' ⟨rfl,⟨nd,rfl⟩⟩;refine ⟨_,rfl,?_⟩))
   go_ret
   exact ⟨z1_,z6_⟩
  ·replace c6:=Bool.eq_false_iff.mpr c6
   subst c6
   have H1:(some (-1))=some r:=by rw [if_neg (show ¬ (false=true) by decide)] at H;exact H
   clear H
   have H:=H1
   clear H1
   obtain rfl:=Option.some.inj H
   go_enter Tryd.func69,Tryd.ntmps69
   go_wp2_with (first | ((with_reducible refine gc_ 84 ?_);refine gl_ (some 8) Tryd.func84 #[.int .i64 a0] ?_;(with_reducible refine (cmp_isNaN_int64.calls a0 true _ A3.out).mono ?_);rintro e w' ⟨rfl,⟨nd,rfl⟩⟩;refine ⟨_,rfl,?_⟩) | ((with_reducible refine gc_ 84 ?_);refine gl_ (some 10) Tryd.func84 #[.int .i64 a1] ?_;(with_reducible refine (cmp_isNaN_int64.calls a1 false _ A4.out).mono ?_);rintro e w' ⟨rfl,⟨nd,rfl⟩⟩;refine ⟨_,rfl,?_⟩))
   go_ret
   exact ⟨z1_,z6_⟩
 ·replace c5:=Bool.eq_false_iff.mpr c5
  subst c5
  have H1:(if t173=true then (some 1) else (if a0<a1 then (some (-1)) else (if a0>a1 then (some 1) else (some 0))))=some r:=by rw [if_neg (show ¬ (false=true) by decide)] at H;exact H
  clear H
  have H:=H1
  clear H1
  by_cases c7:t173=true
  ·subst c7
   have H1:(some 1)=some r:=by rw [if_pos rfl] at H;exact H
   clear H
   have H:=H1
   clear H1
   obtain rfl:=Option.some.inj H
   go_enter Tryd.func69,Tryd.ntmps69
   go_wp2_with (first | ((with_reducible refine gc_ 84 ?_);refine gl_ (some 8) Tryd.func84 #[.int .i64 a0] ?_;(with_reducible refine (cmp_isNaN_int64.calls a0 false _ A3.out).mono ?_);rintro e w' ⟨rfl,⟨nd,rfl⟩⟩;refine ⟨_,rfl,?_⟩) | ((with_reducible refine gc_ 84 ?_);refine gl_ (some 10) Tryd.func84 #[.int .i64 a1] ?_;(with_reducible refine (cmp_isNaN_int64.calls a1 true _ A4.out).mono ?_);rintro e w' ⟨rfl,⟨nd,rfl⟩⟩;refine ⟨_,rfl,?_⟩))
   go_ret
   exact ⟨z1_,z6_⟩
  ·replace c7:=Bool.eq_false_iff.mpr c7
   subst c7
   have H1:(if a0<a1 then (some (-1)) else (if a0>a1 then (some 1) else (some 0)))=some r:=by rw [if_neg (show ¬ (false=true) by decide)] at H;exact H
   clear H
   have H:=H1
   clear H1
   by_cases c8:a0<a1
   ·rw [if_pos c8] at H
    have c8b0:decide (a0<a1)=true:=decide_eq_true c8
    clear c8
    obtain rfl:=Option.some.inj H
    go_enter Tryd.func69,Tryd.ntmps69
    go_wp2_with (first | ((with_reducible refine gc_ 84 ?_);refine gl_ (some 8) Tryd.func84 #[.int .i64 a0] ?_;(with_reducible refine (cmp_isNaN_int64.calls a0 false _ A3.out).mono ?_);rintro e w' ⟨rfl,⟨nd,rfl⟩⟩;refine ⟨_,rfl,?_⟩) | ((with_reducible refine gc_ 84 ?_);refine gl_ (some 10) Tryd.func84 #[.int .i64 a1] ?_;(with_reducible refine (cmp_isNaN_int64.calls a1 false _ A4.out).mono ?_);rintro e w' ⟨rfl,⟨nd,rfl⟩⟩;refine ⟨_,rfl,?_⟩))
    go_ret
    exact ⟨z1_,z6_⟩
   ·rw [if_neg c8] at H
    have c8b0:decide (a0<a1)=false:=decide_eq_false c8
    clear c8
    by_cases c9:a0>a1
    ·rw [if_pos c9] at H
     have c9b0:decide (a1<a0)=true:=decide_eq_true c9
     clear c9
     obtain rfl:=Option.some.inj H
     go_enter Tryd.func69,Tryd.ntmps69
     go_wp2_with (first | ((with_reducible refine gc_ 84 ?_);refine gl_ (some 8) Tryd.func84 #[.int .i64 a0] ?_;(with_reducible refine (cmp_isNaN_int64.calls a0 false _ A3.out).mono ?_);rintro e w' ⟨rfl,⟨nd,rfl⟩⟩;refine ⟨_,rfl,?_⟩) | ((with_reducible refine gc_ 84 ?_);refine gl_ (some 10) Tryd.func84 #[.int .i64 a1] ?_;(with_reducible refine (cmp_isNaN_int64.calls a1 false _ A4.out).mono ?_);rintro e w' ⟨rfl,⟨nd,rfl⟩⟩;refine ⟨_,rfl,?_⟩))
     go_ret
     exact ⟨z1_,z6_⟩
    ·rw [if_neg c9] at H
     have c9b0:decide (a1<a0)=false:=decide_eq_false c9
     clear c9
     obtain rfl:=Option.some.inj H
     go_enter Tryd.func69,Tryd.ntmps69
     go_wp2_with (first | ((with_reducible refine gc_ 84 ?_);refine gl_ (some 8) Tryd.func84 #[.int .i64 a0] ?_;(with_reducible refine (cmp_isNaN_int64.calls a0 false _ A3.out).mono ?_);rintro e w' ⟨rfl,⟨nd,rfl⟩⟩;refine ⟨_,rfl,?_⟩) | ((with_reducible refine gc_ 84 ?_);refine gl_ (some 10) Tryd.func84 #[.int .i64 a1] ?_;(with_reducible refine (cmp_isNaN_int64.calls a1 false _ A4.out).mono ?_);rintro e w' ⟨rfl,⟨nd,rfl⟩⟩;refine ⟨_,rfl,?_⟩))
     go_ret
     exact ⟨z1_,z6_⟩


/-! ### impl_ringNew_1: function 67 -/
def impl_ringNew_1.f (k:Nat) (a0_0:Int) (a0_1:Int) (a1_0:Int) (a1_1:Int):Option (Int):=(cmp_Compare_int64.f a0_0 a1_0).bind fun t176=>((cmp_Compare_int64.f a0_1 a1_1).bind fun t177=>((cmp_Or_int.f k (([t176,t177]:List Int))).bind fun t181=>(some t181)))
theorem impl_ringNew_1.mono:∀ a0 a1 a2 a3 k,LeO (impl_ringNew_1.f k a0 a1 a2 a3) (impl_ringNew_1.f (k+1) a0 a1 a2 a3):=by
 intro a0 a1 a2 a3 k
 unfold impl_ringNew_1.f
 repeat' first
   | (with_reducible exact cmp_Or_int.mono _ _)
   | (with_reducible exact LeO.refl _)
   | (with_reducible exact LeO.none _)
   | (with_reducible refine LeO.ite ?_ ?_)
   | (with_reducible refine LeO.bind ?_ (fun _=>?_))
   | exact cmp_Or_int.mono _ _
   | exact LeO.none _
   | refine LeO.ite ?_ ?_
   | refine LeO.bind ?_ (fun _=>?_)
def impl_ringNew_1.T1:Bool × List (List Nat × List Nat):=(true,[([],[]),([0],[0]),([],[]),([2],[2]),([1,3],[1,3]),([],[]),([5],[5]),([],[]),([7],[7]),([6,8,4],[6,8]),([4,9],[4,9]),([10,9],[10]),([11,11,0,1,2,3,4,5,6,7,8,9,10,11],[11])])
def impl_ringNew_1.B1:List Nat:=[0,1,0,4,15,0,32,0,128,511,1023,2047,4095]
theorem impl_ringNew_1.tab1:rtab .any (opsOf Tryd.f67 1)=impl_ringNew_1.T1:=by kernel_rfl
theorem impl_ringNew_1.bits1:waitsOk impl_ringNew_1.T1.2 impl_ringNew_1.B1=true:=by kernel_rfl
set_option maxHeartbeats 8000000 in
set_option maxRecDepth 100000 in
theorem impl_ringNew_1.calls (k:Nat) (a0_0:Int) (a0_1:Int) (a1_0:Int) (a1_1:Int) (r:Int) (w:World) (h:impl_ringNew_1.f k a0_0 a0_1 a1_0 a1_1=some r) :
  Calls Tryd.prog 67 #[.agg #[.int .i64 a0_0,.int .i64 a0_1],.agg #[.int .i64 a1_0,.int .i64 a1_1]] w fun e w'=>e = .returned (.int .i64 r)∧Below w.heap.size w w':=by
 have hu57:=Tryd.underlying57
 have HB:=Aside0.mk (Below.refl w.heap.size w)
 have H:((cmp_Compare_int64.f a0_0 a1_0).bind fun t176=>((cmp_Compare_int64.f a0_1 a1_1).bind fun t177=>((cmp_Or_int.f k (([t176,t177]:List Int))).bind fun t181=>(some t181))))=some r:=h
 clear h
 replace H:=Option.bind_eq_some_iff.mp H
 obtain ⟨t176,A30,H⟩:=H
 replace H:((cmp_Compare_int64.f a0_1 a1_1).bind fun t177=>((cmp_Or_int.f k (([t176,t177]:List Int))).bind fun t181=>(some t181)))=some r:=H
 have A3:=Aside0.mk A30
 clear A30
 replace H:=Option.bind_eq_some_iff.mp H
 obtain ⟨t177,A40,H⟩:=H
 replace H:((cmp_Or_int.f k (([t176,t177]:List Int))).bind fun t181=>(some t181))=some r:=H
 have A4:=Aside0.mk A40
 clear A40
 obtain ⟨y178,hy178⟩:∃ y_:List Int,y_=(([t176,t177]:List Int)):=⟨_,rfl⟩
 replace H:((cmp_Or_int.f k y178).bind fun t181=>(some t181))=some r:=by first | (rw [hy178];with_reducible exact H) | (have H2_:=(Option.bind_some _ _).symm.trans H;rw [hy178];with_reducible exact H2_) | (have H2_:=(Option.bind_some _ _).symm.trans H;with_reducible exact H2_) | with_reducible exact H | (rw [hy178];exact H) | exact H
 have Ny178:=Aside0.mk hy178
 clear hy178
 replace H:=Option.bind_eq_some_iff.mp H
 obtain ⟨t181,A50,H⟩:=H
 replace H:(some t181)=some r:=H
 have A5:=Aside0.mk A50
 clear A50
 obtain rfl:=Option.some.inj H
 go_enter Tryd.func67,Tryd.ntmps67
 try go_wp2_with (first | ((with_reducible refine gd_ 2 ?_);refine be_ 2 #[.int .i64 a0_0,.int .i64 a0_1] 57 ?_;intro gb174 hg w6 hbox hb;refine as4_ (below_step (z3_ HB.out) hb) (hbox) ((z8_ HB.out:w.heap.size≤gb174)) ((z8_ HB.out:w.heap.size≤gb174)) ?_;clear HB;intro HB BK174 GW174 GE174;clear hb hbox hg) | ((with_reducible refine gd_ 3 ?_);refine be_ 3 #[.int .i64 a1_0,.int .i64 a1_1] 57 ?_;intro gb175 hg w7 hbox hb;refine as7_ (blkB_ BK174.out hb) (below_step (z5_ HB.out GE174.out) hb) (hbox) ((z12_ HB.out GE174.out:w.heap.size≤gb175)) ((z12_ HB.out GE174.out:w.heap.size≤gb175)) (neL_ BK174.out hg) (neG_ BK174.out hg) ?_;clear BK174 HB;intro BK174 HB BK175 GW175 GE175 NB174_175 NB175_174;clear hb hbox hg))
 refine as3_ (blk_drew BK174.out) (blk_drew BK175.out) (below_drew1 HB.out) ?_
 clear BK174 BK175 HB
 intro BK174 BK175 HB
 refine start_ (n:=13) (S:=fun w'=>w'.cell? ⟨gb174,0,none⟩=some (.int .i64 a0_0)∧w'.cell? ⟨gb174,1,none⟩=some (.int .i64 a0_1)∧w'.cell? ⟨gb175,0,none⟩=some (.int .i64 a1_0)∧w'.cell? ⟨gb175,1,none⟩=some (.int .i64 a1_1)) (ds:=[]) #[O,O,O,O,O,O,O,O,O,O,O,O,O] (by kernel_rfl) rfl rfl (cj2_ BK174.out (cc2_ BK175.out)) (fun hHeld=>?_);refine with_tabW impl_ringNew_1.tab1 impl_ringNew_1.bits1 (fun HT_ HW_=>?_)
 generalize w7.drew=w8 at BK174 BK175 HB hHeld ⊢
 refine pu_ 0 5 #[I,O,O,O,O,O,O,O,O,O,O,O,O] HT_.out ?_
 refine pu_ 2 7 #[I,O,I,O,O,O,O,O,O,O,O,O,O] HT_.out ?_
 refine pu_ 5 10 #[I,O,I,O,O,I,O,O,O,O,O,O,O] HT_.out ?_
 refine pu_ 7 12 #[I,O,I,O,O,I,O,I,O,O,O,O,O] HT_.out ?_
 refine tk4_ 1 6 #[I,I,I,O,O,I,O,I,O,O,O,O,O] HT_.out HW_.out hHeld ?_
 refine tk4_ 3 8 #[I,I,I,I,O,I,O,I,O,O,O,O,O] HT_.out HW_.out hHeld ?_
 refine tk4_ 6 11 #[I,I,I,I,O,I,I,I,O,O,O,O,O] HT_.out HW_.out hHeld ?_
 refine tk4_ 8 13 #[I,I,I,I,O,I,I,I,I,O,O,O,O] HT_.out HW_.out hHeld ?_
 refine o1_ 4 9 #[I,I,I,I,I,I,I,I,I,O,O,O,O] HT_.out (fun K hK=>?_)
 refine gs_ Tryd.func69 #[.int .i64 a0_0,.int .i64 a1_0] ?_
 with_reducible refine (cmp_Compare_int64.calls a0_0 a1_0 t176 _ A3.out).mono ?_
 rintro e w' ⟨rfl,⟨nd,rfl⟩⟩
 refine ⟨_,rfl,?_⟩
 refine hK.out _ _ (cj2_ BK174.out (cc2_ BK175.out)) (fun hHeld=>?_)
 clear hK K
 refine nm_ 9 ?_
 refine o1_ 9 14 #[I,I,I,I,I,I,I,I,I,I,O,O,O] HT_.out (fun K hK=>?_)
 refine gs_ Tryd.func69 #[.int .i64 a0_1,.int .i64 a1_1] ?_
 with_reducible refine (cmp_Compare_int64.calls a0_1 a1_1 t177 _ A4.out).mono ?_
 rintro e w' ⟨rfl,⟨nd,rfl⟩⟩
 refine ⟨_,rfl,?_⟩
 refine hK.out _ _ (cj2_ BK174.out (cc2_ BK175.out)) (fun hHeld=>?_)
 clear hK K
 refine nm_ 14 ?_
 refine o1_ 10 15 #[I,I,I,I,I,I,I,I,I,I,I,O,O] HT_.out (fun K hK=>?_)
 refine Kd.R_lit_step (Kd.int .i64) _ 3 ?hg (N:=15) ?hd (xs:=([t176,t177]:List Int)) (inner:=[.int .i64 t176,.int .i64 t177]) (ok:=fun _=>True) (okp:=fun _=>True) ?hr ?hp (fun _ hk=>hk) trivial (Below.refl _ _) (Nat.le_refl _) (by simp) ?_;(case hd=>rfl);(case hg=>rfl);(case hr=>first | (go_simp;done) | (go_simp;rfl));(case hp=>exact (Reps.one (show Kd.M (Kd.int .i64) _ _ _ t176 [.int .i64 t176] from rfl) (Reps.one (show Kd.M (Kd.int .i64) _ _ _ t177 [.int .i64 t177] from rfl) (Reps.none _ _))))
 intro v179 w9 ho10 hb hg_ hnew_
 clear hg_ hnew_
 (first | rw [← Ny178.out] at ho10 | (simp only [Int.reduceToNat] at ho10;rw [← Ny178.out] at ho10))
 refine as4_ (Kd.R_lower ho10 (below_size (z7_ HB.out GE174.out GE175.out))) (blkB_ BK174.out hb) (blkB_ BK175.out hb) (below_step (z7_ HB.out GE174.out GE175.out) hb) ?_
 clear BK174 BK175 HB
 intro HO180 BK174 BK175 HB
 clear hb ho10
 obtain ⟨Ao11,co11,eo11⟩:=Kd.R_slice HO180.out
 (first | subst eo11 | (injection eo11 with f1_ f2_ f3_;have f4_:=f1_.symm;have f5_:=f3_.symm;clear f1_ f2_ f3_;subst f4_;subst f5_))
 refine hK.out _ _ (cj2_ BK174.out (cc2_ BK175.out)) (fun hHeld=>?_)
 clear hK K
 refine nm_ 15 ?_
 refine o1_ 11 16 #[I,I,I,I,I,I,I,I,I,I,I,I,O] HT_.out (fun K hK=>?_)
 refine gs_ Tryd.func68 #[.slice Ao11 y178.length co11] ?_
 with_reducible refine (cmp_Or_int.calls k _ _ y178 t181 _ ?s1 ?s2 A5.out).mono ?_
 (case s1=>repeat (first | exact (Kd.R_reads' HO180.out).2.2 | (with_reducible refine Kd.C_alloc ?_ _) | (with_reducible refine Kd.C_drewN ?_ _) | (with_reducible refine Kd.C_drew ?_)))
 (case s2=>exact (Kd.R_reads' HO180.out).2.1)
 rintro e w' ⟨rfl,⟨nd,rfl⟩⟩
 refine ⟨_,rfl,?_⟩
 refine hK.out _ _ (cj2_ BK174.out (cc2_ BK175.out)) (fun hHeld=>?_)
 clear hK K
 refine nm_ 16 ?_
 refine pu_ 12 4 #[I,I,I,I,I,I,I,I,I,I,I,I,I] HT_.out ?_
 refine done_ (done_of HT_.out (by kernel_rfl)) ?_
 try go_wp2
 go_ret
 exact ⟨z10_,z7_ HB.out GE174.out GE175.out⟩


/-! ### slices_insertionSortCmpFunc_impl_Token_impl_ringNew_1: function 91 -/
mutual
def slices_insertionSortCmpFunc_impl_Token_impl_ringNew_1.l0:Nat→List (S57)→Int→Int→Int→Option ((List (S57)))
 | 0,_,_,_,_=>none
 | k+1,x0,x1,x2,x8=>if x8<x2 then (slices_insertionSortCmpFunc_impl_Token_impl_ringNew_1.l1 k x0 x1 x2 x8 x8) else (some x0)
def slices_insertionSortCmpFunc_impl_Token_impl_ringNew_1.l1:Nat→List (S57)→Int→Int→Int→Int→Option ((List (S57)))
 | 0,_,_,_,_,_=>none
 | k+1,x0,x1,x2,x8,x9=>if x9>x1 then (if 0≤x9 then (if x9<(x0.length:Int) then (if 0≤(wrap64 (x9-1)) then (if (wrap64 (x9-1))<(x0.length:Int) then ((impl_ringNew_1.f k ((rd_T57 x0 x9).f0) ((rd_T57 x0 x9).f1) ((rd_T57 x0 (wrap64 (x9-1))).f0) ((rd_T57 x0 (wrap64 (x9-1))).f1)).bind fun t184=>(slices_insertionSortCmpFunc_impl_Token_impl_ringNew_1.j2 k x0 x1 x2 x8 x9 (decide (t184<0)))) else (none)) else (none)) else (none)) else (none)) else (slices_insertionSortCmpFunc_impl_Token_impl_ringNew_1.j2 k x0 x1 x2 x8 x9 false)
def slices_insertionSortCmpFunc_impl_Token_impl_ringNew_1.j2:Nat→List (S57)→Int→Int→Int→Int→Bool→Option ((List (S57)))
 | 0,_,_,_,_,_,_=>none
 | k+1,x0,x1,x2,x8,x9,x34=>if x34=true then (if 0≤(wrap64 (x9-1)) then (if (wrap64 (x9-1))<(x0.length:Int) then (if 0≤x9 then (if x9<(x0.length:Int) then (slices_insertionSortCmpFunc_impl_Token_impl_ringNew_1.l1 k ((x0.set (x9:Int).toNat (⟨(rd_T57 x0 (wrap64 (x9-1))).f0,(rd_T57 x0 (wrap64 (x9-1))).f1⟩:S57)).set ((wrap64 (x9-1)):Int).toNat (⟨(rd_T57 x0 x9).f0,(rd_T57 x0 x9).f1⟩:S57)) x1 x2 x8 (wrap64 (x9-1))) else (none)) else (none)) else (none)) else (none)) else (slices_insertionSortCmpFunc_impl_Token_impl_ringNew_1.l0 k x0 x1 x2 (wrap64 (x8+1)))
end
def slices_insertionSortCmpFunc_impl_Token_impl_ringNew_1.f (k:Nat) (l0:List (S57)) (a1:Int) (a2:Int)  : Option ((List (S57))):=slices_insertionSortCmpFunc_impl_Token_impl_ringNew_1.l0 k l0 a1 a2 (wrap64 (a1+1))
theorem slices_insertionSortCmpFunc_impl_Token_impl_ringNew_1.mono_l:∀ k,(∀ y0 y1 y2 y3,LeO (slices_insertionSortCmpFunc_impl_Token_impl_ringNew_1.l0 k y0 y1 y2 y3) (slices_insertionSortCmpFunc_impl_Token_impl_ringNew_1.l0 (k+1) y0 y1 y2 y3))∧(∀ y0 y1 y2 y3 y4,LeO (slices_insertionSortCmpFunc_impl_Token_impl_ringNew_1.l1 k y0 y1 y2 y3 y4) (slices_insertionSortCmpFunc_impl_Token_impl_ringNew_1.l1 (k+1) y0 y1 y2 y3 y4))∧(∀ y0 y1 y2 y3 y4 y5,LeO (slices_insertionSortCmpFunc_impl_Token_impl_ringNew_1.j2 k y0 y1 y2 y3 y4 y5) (slices_insertionSortCmpFunc_impl_Token_impl_ringNew_1.j2 (k+1) y0 y1 y2 y3 y4 y5))
 | 0=>⟨fun _ _ _ _ r h=>by simp [slices_insertionSortCmpFunc_impl_Token_impl_ringNew_1.l0] at h,fun _ _ _ _ _ r h=>by simp [slices_insertionSortCmpFunc_impl_Token_impl_ringNew_1.l1] at h,fun _ _ _ _ _ _ r h=>by simp [slices_insertionSortCmpFunc_impl_Token_impl_ringNew_1.j2] at h⟩
 | k+1=>by
  obtain ⟨ih0,ih1,ih2⟩:=slices_insertionSortCmpFunc_impl_Token_impl_ringNew_1.mono_l k
  refine ⟨?_,?_,?_⟩
  ·intro y0 y1 y2 y3
   unfold slices_insertionSortCmpFunc_impl_Token_impl_ringNew_1.l0
   repeat' first
   | (with_reducible exact ih0 _ _ _ _)
   | (with_reducible exact ih1 _ _ _ _ _)
   | (with_reducible exact ih2 _ _ _ _ _ _)
   | (with_reducible exact impl_ringNew_1.mono _ _ _ _ _)
   | (with_reducible exact LeO.refl _)
   | (with_reducible exact LeO.none _)
   | (with_reducible refine LeO.ite ?_ ?_)
   | (with_reducible refine LeO.bind ?_ (fun _=>?_))
   | exact ih0 _ _ _ _
   | exact ih1 _ _ _ _ _
   | exact ih2 _ _ _ _ _ _
   | exact impl_ringNew_1.mono _ _ _ _ _
   | exact LeO.none _
   | refine LeO.ite ?_ ?_
   | refine LeO.bind ?_ (fun _=>?_)
  ·intro y0 y1 y2 y3 y4
   unfold slices_insertionSortCmpFunc_impl_Token_impl_ringNew_1.l1
   repeat' first
   | (with_reducible exact ih0 _ _ _ _)
   | (with_reducible exact ih1 _ _ _ _ _)
   | (with_reducible exact ih2 _ _ _ _ _ _)
   | (with_reducible exact impl_ringNew_1.mono _ _ _ _ _)
   | (with_reducible exact LeO.refl _)
   | (with_reducible exact LeO.none _)
   | (with_reducible refine LeO.ite ?_ ?_)
   | (with_reducible refine LeO.bind ?_ (fun _=>?_))
   | exact ih0 _ _ _ _
   | exact ih1 _ _ _ _ _
   | exact ih2 _ _ _ _ _ _
   | exact impl_ringNew_1.mono _ _ _ _ _
   | exact LeO.none _
   | refine LeO.ite ?_ ?_
   | refine LeO.bind ?_ (fun _=>?_)
  ·intro y0 y1 y2 y3 y4 y5
   unfold slices_insertionSortCmpFunc_impl_Token_impl_ringNew_1.j2
   repeat' first
   | (with_reducible exact ih0 _ _ _ _)
   | (with_reducible exact ih1 _ _ _ _ _)
   | (with_reducible exact ih2 _ _ _ _ _ _)
   | (with_reducible exact impl_ringNew_1.mono _ _ _ _ _)
   | (with_reducible exact LeO.refl _)
   | (with_reducible exact LeO.none _)
   | (with_reducible refine LeO.ite ?_ ?_)
   | (with_reducible refine LeO.bind ?_ (fun _=>?_))
   | exact ih0 _ _ _ _
   | exact ih1 _ _ _ _ _
   | exact ih2 _ _ _ _ _ _
   | exact impl_ringNew_1.mono _ _ _ _ _
   | exact LeO.none _
   | refine LeO.ite ?_ ?_
   | refine LeO.bind ?_ (fun _=>?_)
theorem slices_insertionSortCmpFunc_impl_Token_impl_ringNew_1.mono:∀ a0 a1 a2 k,LeO (slices_insertionSortCmpFunc_impl_Token_impl_ringNew_1.f k a0 a1 a2) (slices_insertionSortCmpFunc_impl_Token_impl_ringNew_1.f (k+1) a0 a1 a2):=by
 intro a0 a1 a2 k
 obtain ⟨ih0,ih1,ih2⟩:=slices_insertionSortCmpFunc_impl_Token_impl_ringNew_1.mono_l k
 unfold slices_insertionSortCmpFunc_impl_Token_impl_ringNew_1.f
 repeat' first
   | (with_reducible exact ih0 _ _ _ _)
   | (with_reducible exact ih1 _ _ _ _ _)
   | (with_reducible exact ih2 _ _ _ _ _ _)
   | (with_reducible exact impl_ringNew_1.mono _ _ _ _ _)
   | (with_reducible exact LeO.refl _)
   | (with_reducible exact LeO.none _)
   | (with_reducible refine LeO.ite ?_ ?_)
   | (with_reducible refine LeO.bind ?_ (fun _=>?_))
   | exact ih0 _ _ _ _
   | exact ih1 _ _ _ _ _
   | exact ih2 _ _ _ _ _ _
   | exact impl_ringNew_1.mono _ _ _ _ _
   | exact LeO.none _
   | refine LeO.ite ?_ ?_
   | refine LeO.bind ?_ (fun _=>?_)
def slices_insertionSortCmpFunc_impl_Token_impl_ringNew_1.T4:Bool × List (List Nat × List Nat):=(true,[([],[]),([],[]),([0,1],[0,1]),([2],[2]),([3],[3]),([3],[3]),([3],[3]),([5,6,3],[3,5,6]),([7,3],[3,7]),([3],[3]),([3],[3]),([10,3],[3,10]),([9,11,3],[3,9,11]),([12,3],[3,12]),([4,8,13,3,3],[3,4,8,13]),([14,3],[3,14]),([3,15],[3,15])])
def slices_insertionSortCmpFunc_impl_Token_impl_ringNew_1.B4:List Nat:=[0,0,3,7,15,15,15,111,239,15,15,1039,3599,7695,16383,32767,65535]
theorem slices_insertionSortCmpFunc_impl_Token_impl_ringNew_1.tab4:rtab .any (opsOf Tryd.f91 4)=slices_insertionSortCmpFunc_impl_Token_impl_ringNew_1.T4:=by kernel_rfl
theorem slices_insertionSortCmpFunc_impl_Token_impl_ringNew_1.bits4:waitsOk slices_insertionSortCmpFunc_impl_Token_impl_ringNew_1.T4.2 slices_insertionSortCmpFunc_impl_Token_impl_ringNew_1.B4=true:=by kernel_rfl
def slices_insertionSortCmpFunc_impl_Token_impl_ringNew_1.T6:Bool × List (List Nat × List Nat):=(true,[([],[]),([],[]),([],[]),([],[]),([3],[3]),([],[]),([],[]),([6],[6]),([5,7],[5,7]),([8],[8]),([],[]),([],[]),([10,11],[10,11]),([12],[12]),([0,1,0,1,5,6,7,8,9,13],[0,1]),([14,9,0,1,5,6,7,8,9,13],[9,14]),([2,4,0,1,2,3,4,5,6,7,8,9,10,11,12,13,14,15],[2,4]),([16,13,15,0,1,2,3,4,5,6,7,8,9,10,11,12,13,14,15],[13,16])])
def slices_insertionSortCmpFunc_impl_Token_impl_ringNew_1.B6:List Nat:=[0,0,0,0,8,0,0,64,224,480,0,0,3072,7168,16355,32739,65535,131071]
theorem slices_insertionSortCmpFunc_impl_Token_impl_ringNew_1.tab6:rtab .any (opsOf Tryd.f91 6)=slices_insertionSortCmpFunc_impl_Token_impl_ringNew_1.T6:=by kernel_rfl
theorem slices_insertionSortCmpFunc_impl_Token_impl_ringNew_1.bits6:waitsOk slices_insertionSortCmpFunc_impl_Token_impl_ringNew_1.T6.2 slices_insertionSortCmpFunc_impl_Token_impl_ringNew_1.B6=true:=by kernel_rfl
abbrev slices_insertionSortCmpFunc_impl_Token_impl_ringNew_1.q0:Array Bool:=#[O,O,O,O,O,O,O,O,O,O,O,O,O,O,O,O,O]
abbrev slices_insertionSortCmpFunc_impl_Token_impl_ringNew_1.q1:Array Bool:=#[I,O,O,O,O,O,O,O,O,O,O,O,O,O,O,O,O]
abbrev slices_insertionSortCmpFunc_impl_Token_impl_ringNew_1.q2:Array Bool:=#[I,I,O,O,O,O,O,O,O,O,O,O,O,O,O,O,O]
abbrev slices_insertionSortCmpFunc_impl_Token_impl_ringNew_1.q3:Array Bool:=#[I,I,I,O,O,O,O,O,O,O,O,O,O,O,O,O,O]
abbrev slices_insertionSortCmpFunc_impl_Token_impl_ringNew_1.q4:Array Bool:=#[I,I,I,I,O,O,O,O,O,O,O,O,O,O,O,O,O]
abbrev slices_insertionSortCmpFunc_impl_Token_impl_ringNew_1.q5:Array Bool:=#[I,I,I,I,I,O,O,O,O,O,O,O,O,O,O,O,O]
abbrev slices_insertionSortCmpFunc_impl_Token_impl_ringNew_1.q6:Array Bool:=#[I,I,I,I,I,I,O,O,O,O,O,O,O,O,O,O,O]
abbrev slices_insertionSortCmpFunc_impl_Token_impl_ringNew_1.q7:Array Bool:=#[I,I,I,I,I,I,I,O,O,O,O,O,O,O,O,O,O]
abbrev slices_insertionSortCmpFunc_impl_Token_impl_ringNew_1.q8:Array Bool:=#[I,I,I,I,I,I,I,I,O,O,O,O,O,O,O,O,O]
abbrev slices_insertionSortCmpFunc_impl_Token_impl_ringNew_1.q9:Array Bool:=#[I,I,I,I,I,I,I,I,I,I,I,I,I,O,O,O,O]
abbrev slices_insertionSortCmpFunc_impl_Token_impl_ringNew_1.q10:Array Bool:=#[I,I,I,I,I,I,I,I,I,I,I,I,I,I,O,O,O]
abbrev slices_insertionSortCmpFunc_impl_Token_impl_ringNew_1.q11:Array Bool:=#[I,I,I,I,I,I,I,I,I,I,I,I,I,I,I,O,O]
abbrev slices_insertionSortCmpFunc_impl_Token_impl_ringNew_1.q12:Array Bool:=#[I,I,I,I,I,I,I,I,I,I,I,I,I,I,I,I,O]
abbrev slices_insertionSortCmpFunc_impl_Token_impl_ringNew_1.q13:Array Bool:=#[I,I,I,I,I,I,I,I,I,I,I,I,I,I,I,I,I]
set_option maxHeartbeats 8000000 in
set_option maxRecDepth 100000 in
theorem slices_insertionSortCmpFunc_impl_Token_impl_ringNew_1.calls (k:Nat) (P0_:Nat→Prop) (u9000_:Value) (l0:List (S57)) (a1:Int) (a2:Int)  (r:List (S57)) (w0 w:World) (hB:Below w0.heap.size w0 w) (ho0:Kd.R k57 57 w w0.heap.size P0_ u9000_ l0) (h:slices_insertionSortCmpFunc_impl_Token_impl_ringNew_1.f k l0 a1 a2=some r) :
  Calls Tryd.prog 91 #[u9000_,.int .i64 a1,.int .i64 a2,.func (.func 67) #[] #[]] w fun e w'=>e = .returned (.tuple #[])∧Kd.R k57 57 w' w0.heap.size (fun k_=>(P0_ k_∨w.heap.size≤k_)) u9000_ r∧Below w0.heap.size w0 w'∧Kept w w' (fun k_=>P0_ k_):=by
 have hu57:=Tryd.underlying57
 have HO0:=Aside0.mk (show Kd.R k57 57 w w0.heap.size (fun k_=>(P0_ k_∨w.heap.size≤k_)) u9000_ l0 from Kd.R_mono ho0 (fun k_ hk=>(.inl hk)))
 have HK:=Aside0.mk (Kept.refl w (fun k_=>P0_ k_))
 have HW0:=Aside0.mk hB.size
 have HB:=Aside0.mk hB
 clear hB
 have H:(slices_insertionSortCmpFunc_impl_Token_impl_ringNew_1.l0 k l0 a1 a2 (wrap64 (a1+1)))=some r:=h
 clear h
 have H':=Aside0.mk H
 clear H
 go_enter Tryd.func91,Tryd.ntmps91
 go_wp2
 go_loopg [8] k (fun kq v8 w'=>∃ (x0_1:List (S57)) (x8_1:Int),v8 = .int .i64 x8_1∧Aside0 (slices_insertionSortCmpFunc_impl_Token_impl_ringNew_1.l0 kq x0_1 a1 a2 x8_1=some r)∧Aside0 (kq≤k)∧Aside0 (Kd.R k57 57 w' w0.heap.size (fun k_=>(P0_ k_∨w.heap.size≤k_)) u9000_ x0_1)∧Aside0 (Kept w w' (fun k_=>P0_ k_))∧Aside0 (Below w0.heap.size w0 w'))
 case atStart=>exact ⟨(l0),(wrap64 (a1+1)),(z1_),H',⟨Nat.le_refl _⟩,⟨z2_ HO0.out⟩,⟨z9_ HK.out⟩,⟨z3_ HB.out⟩⟩
 case round =>
  clear H'
  try clear p2
  obtain ⟨x0_1,x8_1,rfl,HA,HK1,HO_0,HK,HB⟩:=hrel
  cases gk with
  | zero=>exact absurd HA.out (by simp [slices_insertionSortCmpFunc_impl_Token_impl_ringNew_1.l0])
  | succ k1 =>
   have H:=HA.out
   clear HA
   simp only [slices_insertionSortCmpFunc_impl_Token_impl_ringNew_1.l0] at H
   by_cases c5:x8_1<a2
   ·rw [if_pos c5] at H
    have c5b0:decide (x8_1<a2)=true:=decide_eq_true c5
    clear c5
    have H':=Aside0.mk H
    clear H
    go_wp2
    go_loopg [9] k1 (fun kq v9 w'=>∃ (x0_2:List (S57)) (x9_2:Int),v9 = .int .i64 x9_2∧Aside0 (slices_insertionSortCmpFunc_impl_Token_impl_ringNew_1.l1 kq x0_2 a1 a2 x8_1 x9_2=some r)∧Aside0 (kq≤k1)∧Aside0 (Kd.R k57 57 w' w0.heap.size (fun k_=>(P0_ k_∨w.heap.size≤k_)) u9000_ x0_2)∧Aside0 (Kept w w' (fun k_=>P0_ k_))∧Aside0 (Below w0.heap.size w0 w'))
    case atStart=>exact ⟨(x0_1),(x8_1),(z1_),H',⟨Nat.le_refl _⟩,⟨z2_ HO_0.out⟩,⟨z9_ HK.out⟩,⟨z3_ HB.out⟩⟩
    case round =>
     clear H'
     try clear p2
     try clear c5
     try clear c5b0
     try clear p2
     obtain ⟨x0_2,x9_2,rfl,HA,HK2,HO_0,HK,HB⟩:=hrel
     cases gk with
     | zero=>exact absurd HA.out (by simp [slices_insertionSortCmpFunc_impl_Token_impl_ringNew_1.l1])
     | succ k2 =>
      have H:=HA.out
      clear HA
      simp only [slices_insertionSortCmpFunc_impl_Token_impl_ringNew_1.l1] at H
      have HC6:=Aside0.mk H
      clear H
      go_upto_region 4 with (fail)
      go_cut [34] (fun v34 wc=>∃ (kq:Nat) (x34_5:Bool),v34 = .bool x34_5∧Aside0 (slices_insertionSortCmpFunc_impl_Token_impl_ringNew_1.j2 kq x0_2 a1 a2 x8_1 x9_2 x34_5=some r)∧Aside0 (kq≤k2)∧Aside0 (Kd.R k57 57 wc w0.heap.size (fun k_=>(P0_ k_∨w.heap.size≤k_)) u9000_ x0_2)∧Aside0 (Kept w wc (fun k_=>P0_ k_))∧Aside0 (Below w0.heap.size w0 wc))
      case first =>
       have H:=HC6.out
       clear HC6
       by_cases c7:x9_2>a1
       ·rw [if_pos c7] at H
        have c7b0:decide (a1<x9_2)=true:=decide_eq_true c7
        clear c7
        (first | rw [c7b0] | (simp only [i64_w,i32_w];rw [c7b0]) | skip)
        by_cases c8:0≤x9_2
        ·rw [if_pos c8] at H
         have c8b0:decide (0≤x9_2)=true:=decide_eq_true c8
         clear c8
         by_cases c9:x9_2<(x0_2.length:Int)
         ·rw [if_pos c9] at H
          have c9b0:decide (x9_2<(x0_2.length:Int))=true:=decide_eq_true c9
          clear c9
          obtain ⟨ji10,hji10⟩:∃ j_:Int,(wrap64 (x9_2-1))=j_:=⟨_,rfl⟩
          replace H:(if 0≤(ji10) then (if (ji10)<(x0_2.length:Int) then ((impl_ringNew_1.f k2 ((rd_T57 x0_2 x9_2).f0) ((rd_T57 x0_2 x9_2).f1) ((rd_T57 x0_2 (ji10)).f0) ((rd_T57 x0_2 (ji10)).f1)).bind fun t184=>(slices_insertionSortCmpFunc_impl_Token_impl_ringNew_1.j2 k2 x0_2 a1 a2 x8_1 x9_2 (decide (t184<0)))) else (none)) else (none))=some r:=by first | (rw [hji10] at H;exact H) | (simp only [hji10] at H ⊢;exact H)
          have hji10w:(IntKind.i64.wrap (x9_2-1))=ji10:=(i64_w _).trans hji10
          by_cases c11:0≤(ji10)
          ·rw [if_pos c11] at H
           have c11b0:decide (0≤(ji10))=true:=decide_eq_true c11
           clear c11
           by_cases c12:(ji10)<(x0_2.length:Int)
           ·rw [if_pos c12] at H
            have c12b0:decide ((ji10)<(x0_2.length:Int))=true:=decide_eq_true c12
            clear c12
            replace H:=Option.bind_eq_some_iff.mp H
            obtain ⟨t184,A130,H⟩:=H
            replace H:(slices_insertionSortCmpFunc_impl_Token_impl_ringNew_1.j2 k2 x0_2 a1 a2 x8_1 x9_2 (decide (t184<0)))=some r:=H
            have A13:=Aside0.mk A130
            clear A130
            have H':=Aside0.mk H
            clear H
            try go_wp2
            refine as3_ (Kd.R_drew HO_0.out) (Kept.drew HK.out) (below_drew1 HB.out) ?_
            clear HO_0 HK HB
            intro HO_0 HK HB
            obtain ⟨Ao15,co15,eo15⟩:=Kd.R_slice HO_0.out
            (first | subst eo15 | (injection eo15 with f1_ f2_ f3_;have f4_:=f1_.symm;have f5_:=f3_.symm;clear f1_ f2_ f3_;subst f4_;subst f5_))
            have p182:0≤(x9_2:Int):=of_decide_eq_true (z0_)
            have q182:x9_2<(x0_2.length:Int):=of_decide_eq_true (z0_)
            obtain ⟨ad182,e182,hx182_0,hx182_1⟩:=at_T57 (Kd.R_reads' HO_0.out).2.2 x9_2 p182 q182
            cases e182
            replace p182:=eq_true p182
            replace q182:=eq_true q182
            have p183:0≤((ji10):Int):=of_decide_eq_true (z0_)
            have q183:(ji10)<(x0_2.length:Int):=of_decide_eq_true (z0_)
            obtain ⟨ad183,e183,hx183_0,hx183_1⟩:=at_T57 (Kd.R_reads' HO_0.out).2.2 (ji10) p183 q183
            obtain rfl:ad182=ad183:=(by injection e183)
            replace p183:=eq_true p183
            replace q183:=eq_true q183
            refine start_ (n:=17) (S:=fun w'=>w'.cell? (ad182.add ((x9_2).toNat*2))=some (.int .i64 ((rd_T57 x0_2 x9_2).f0))∧w'.cell? ⟨(ad182.add ((x9_2).toNat*2)).block,(ad182.add ((x9_2).toNat*2)).off+1,none⟩=some (.int .i64 ((rd_T57 x0_2 x9_2).f1))∧w'.cell? (ad182.add (((ji10)).toNat*2))=some (.int .i64 ((rd_T57 x0_2 (ji10)).f0))∧w'.cell? ⟨(ad182.add (((ji10)).toNat*2)).block,(ad182.add (((ji10)).toNat*2)).off+1,none⟩=some (.int .i64 ((rd_T57 x0_2 (ji10)).f1))) (ds:=[]) slices_insertionSortCmpFunc_impl_Token_impl_ringNew_1.q0 (by kernel_rfl) rfl rfl ⟨hx182_0,hx182_1,hx183_0,hx183_1⟩ (fun hHeld=>?_);refine with_tabW slices_insertionSortCmpFunc_impl_Token_impl_ringNew_1.tab4 slices_insertionSortCmpFunc_impl_Token_impl_ringNew_1.bits4 (fun HT_ HW_=>?_)
            generalize wr.drew=w14 at HO_0 HK HB hx182_0 hx182_1 hx183_0 hx183_1 hHeld ⊢
            refine pu_ 0 18 slices_insertionSortCmpFunc_impl_Token_impl_ringNew_1.q1 HT_.out ?_
            refine pu_ 1 19 slices_insertionSortCmpFunc_impl_Token_impl_ringNew_1.q2 HT_.out ?_
            refine pu_ 2 20 slices_insertionSortCmpFunc_impl_Token_impl_ringNew_1.q3 HT_.out ?_
            refine pu_ 3 21 slices_insertionSortCmpFunc_impl_Token_impl_ringNew_1.q4 HT_.out ?_
            refine pu_ 4 22 slices_insertionSortCmpFunc_impl_Token_impl_ringNew_1.q5 HT_.out ?_
            refine pu_ 5 23 slices_insertionSortCmpFunc_impl_Token_impl_ringNew_1.q6 HT_.out ?_
            refine pu_ 6 24 slices_insertionSortCmpFunc_impl_Token_impl_ringNew_1.q7 HT_.out ?_
            refine pu_ 7 25 slices_insertionSortCmpFunc_impl_Token_impl_ringNew_1.q8 HT_.out ?_
            refine pu_ 9 27 #[I,I,I,I,I,I,I,I,O,I,O,O,O,O,O,O,O] HT_.out ?_
            refine pu_ 10 28 #[I,I,I,I,I,I,I,I,O,I,I,O,O,O,O,O,O] HT_.out ?_
            refine pu_ 11 29 #[I,I,I,I,I,I,I,I,O,I,I,I,O,O,O,O,O] HT_.out ?_
            refine pu_ 12 30 #[I,I,I,I,I,I,I,I,O,I,I,I,I,O,O,O,O] HT_.out ?_
            refine tk4_ 8 26 slices_insertionSortCmpFunc_impl_Token_impl_ringNew_1.q9 HT_.out HW_.out hHeld ?_
            refine tk4_ 13 31 slices_insertionSortCmpFunc_impl_Token_impl_ringNew_1.q10 HT_.out HW_.out hHeld ?_
            refine o1_ 14 32 slices_insertionSortCmpFunc_impl_Token_impl_ringNew_1.q11 HT_.out (fun K hK=>?_)
            refine goesD_ Tryd.func67 (by kernel_rfl) rfl #[.agg #[.int .i64 ((rd_T57 x0_2 x9_2).f0),.int .i64 ((rd_T57 x0_2 x9_2).f1)],.agg #[.int .i64 ((rd_T57 x0_2 (ji10)).f0),.int .i64 ((rd_T57 x0_2 (ji10)).f1)]] (by rfl) rfl rfl (by rfl) (by (try simp only [List.map_toArray,List.map_cons,List.map_nil]);first | done | (simp only [hji10];rfl) | rfl | (simp only [List.length_drop,List.length_take];rfl)) ?_
            with_reducible refine (impl_ringNew_1.calls k2 ((rd_T57 x0_2 x9_2).f0) ((rd_T57 x0_2 x9_2).f1) ((rd_T57 x0_2 (ji10)).f0) ((rd_T57 x0_2 (ji10)).f1) t184 _ A13.out).mono ?_
            rintro e w16 ⟨rfl,hb⟩
            have HS0_:=(hb.cell (World.block_lt_of_cell? _ _ (hHeld.1))).trans (hHeld.1)
            have HS1_:=(hb.cell (World.block_lt_of_cell? _ _ (hHeld.2.1))).trans (hHeld.2.1)
            have HS2_:=(hb.cell (World.block_lt_of_cell? _ _ (hHeld.2.2.1))).trans (hHeld.2.2.1)
            have HS3_:=(hb.cell (World.block_lt_of_cell? _ _ (hHeld.2.2.2))).trans (hHeld.2.2.2)
            refine ⟨_,rfl,?_⟩
            refine as3_ (Kd.R_below (z2_ HO_0.out) hb) (Kept.below (S:=(fun k_=>P0_ k_)) (z9_ HK.out) hb) (below_step (z3_ HB.out) hb) ?_
            clear HO_0 HK HB
            intro HO_0 HK HB
            (try clear hb)
            refine hK.out _ _ ⟨HS0_,HS1_,HS2_,HS3_⟩ (fun hHeld=>?_)
            clear hK K
            refine nm_ 32 ?_
            refine pu_ 15 33 slices_insertionSortCmpFunc_impl_Token_impl_ringNew_1.q12 HT_.out ?_
            refine pu_ 16 34 slices_insertionSortCmpFunc_impl_Token_impl_ringNew_1.q13 HT_.out ?_
            refine done_ (done_of HT_.out (by kernel_rfl)) ?_
            try go_wp2
            go_meet
            case rel=>exact ⟨_,(decide (t184<0)),(z1_),H',⟨by have:=HK1.out;have:=HK2.out;first | omega | exact Nat.le_refl _⟩,⟨z2_ HO_0.out⟩,⟨z9_ HK.out⟩,⟨z3_ HB.out⟩⟩
           ·rw [if_neg c12] at H
            exact absurd H (by simp)
          ·rw [if_neg c11] at H
           exact absurd H (by simp)
         ·rw [if_neg c9] at H
          exact absurd H (by simp)
        ·rw [if_neg c8] at H
         exact absurd H (by simp)
       ·rw [if_neg c7] at H
        have c7b0:decide (a1<x9_2)=false:=decide_eq_false c7
        clear c7
        (first | rw [c7b0] | (simp only [i64_w,i32_w];rw [c7b0]) | skip)
        have H':=Aside0.mk H
        clear H
        try go_wp2
        refine as3_ (Kd.R_drew HO_0.out) (Kept.drew HK.out) (below_drew1 HB.out) ?_
        clear HO_0 HK HB
        intro HO_0 HK HB
        refine start_ (n:=17) (S:=fun w'=>True) (ds:=[]) slices_insertionSortCmpFunc_impl_Token_impl_ringNew_1.q0 (by kernel_rfl) rfl rfl trivial (fun hHeld=>?_);refine with_tabW slices_insertionSortCmpFunc_impl_Token_impl_ringNew_1.tab4 slices_insertionSortCmpFunc_impl_Token_impl_ringNew_1.bits4 (fun HT_ HW_=>?_)
        generalize wr.drew=w17 at HO_0 HK HB hHeld ⊢
        refine pu_ 0 18 slices_insertionSortCmpFunc_impl_Token_impl_ringNew_1.q1 HT_.out ?_
        refine pu_ 1 19 slices_insertionSortCmpFunc_impl_Token_impl_ringNew_1.q2 HT_.out ?_
        refine pu_ 2 20 slices_insertionSortCmpFunc_impl_Token_impl_ringNew_1.q3 HT_.out ?_
        refine pu_ 3 21 slices_insertionSortCmpFunc_impl_Token_impl_ringNew_1.q4 HT_.out ?_
        refine pn_ 4 22 slices_insertionSortCmpFunc_impl_Token_impl_ringNew_1.q5 HT_.out ?_
        refine pn_ 5 23 slices_insertionSortCmpFunc_impl_Token_impl_ringNew_1.q6 HT_.out ?_
        refine pn_ 6 24 slices_insertionSortCmpFunc_impl_Token_impl_ringNew_1.q7 HT_.out ?_
        refine pn_ 7 25 slices_insertionSortCmpFunc_impl_Token_impl_ringNew_1.q8 HT_.out ?_
        refine pn_ 8 26 #[I,I,I,I,I,I,I,I,I,O,O,O,O,O,O,O,O] HT_.out ?_
        refine pn_ 9 27 #[I,I,I,I,I,I,I,I,I,I,O,O,O,O,O,O,O] HT_.out ?_
        refine pn_ 10 28 #[I,I,I,I,I,I,I,I,I,I,I,O,O,O,O,O,O] HT_.out ?_
        refine pn_ 11 29 #[I,I,I,I,I,I,I,I,I,I,I,I,O,O,O,O,O] HT_.out ?_
        refine pn_ 12 30 slices_insertionSortCmpFunc_impl_Token_impl_ringNew_1.q9 HT_.out ?_
        refine pn_ 13 31 slices_insertionSortCmpFunc_impl_Token_impl_ringNew_1.q10 HT_.out ?_
        refine pn_ 14 32 slices_insertionSortCmpFunc_impl_Token_impl_ringNew_1.q11 HT_.out ?_
        refine pn_ 15 33 slices_insertionSortCmpFunc_impl_Token_impl_ringNew_1.q12 HT_.out ?_
        refine pu_ 16 34 slices_insertionSortCmpFunc_impl_Token_impl_ringNew_1.q13 HT_.out ?_
        refine done_ (done_of HT_.out (by kernel_rfl)) ?_
        try go_wp2
        go_meet
        case rel=>exact ⟨_,(false),(z1_),H',⟨by have:=HK1.out;have:=HK2.out;first | omega | exact Nat.le_refl _⟩,⟨z2_ HO_0.out⟩,⟨z9_ HK.out⟩,⟨z3_ HB.out⟩⟩
      case rest =>
       clear HC6
       try clear c1
       try clear p1
       try clear q1
       try clear hx1
       try clear p2
       try clear c5
       try clear c5b0
       try clear c6
       try clear p6
       try clear c7
       try clear c7b0
       try clear c8
       try clear c8b0
       try clear c9
       try clear c9b0
       try clear c11
       try clear c11b0
       try clear c12
       try clear c12b0
       try clear hx182_0
       try clear hx182_1
       try clear hx183_0
       try clear hx183_1
       try clear p182
       try clear p183
       try clear p2
       try clear q182
       try clear q183
       obtain ⟨kq,x34_5,rfl,HA,HJ5,HO_0,HK,HB⟩:=hcut
       cases kq with
       | zero=>exact absurd HA.out (by simp [slices_insertionSortCmpFunc_impl_Token_impl_ringNew_1.j2])
       | succ kj5 =>
        have H:=HA.out
        clear HA
        simp only [slices_insertionSortCmpFunc_impl_Token_impl_ringNew_1.j2] at H
        by_cases c18:x34_5=true
        ·subst c18
         have H1:(if 0≤(wrap64 (x9_2-1)) then (if (wrap64 (x9_2-1))<(x0_2.length:Int) then (if 0≤x9_2 then (if x9_2<(x0_2.length:Int) then (slices_insertionSortCmpFunc_impl_Token_impl_ringNew_1.l1 kj5 ((x0_2.set (x9_2:Int).toNat (⟨(rd_T57 x0_2 (wrap64 (x9_2-1))).f0,(rd_T57 x0_2 (wrap64 (x9_2-1))).f1⟩:S57)).set ((wrap64 (x9_2-1)):Int).toNat (⟨(rd_T57 x0_2 x9_2).f0,(rd_T57 x0_2 x9_2).f1⟩:S57)) a1 a2 x8_1 (wrap64 (x9_2-1))) else (none)) else (none)) else (none)) else (none))=some r:=by rw [if_pos rfl] at H;exact H
         clear H
         have H:=H1
         clear H1
         obtain ⟨ji19,hji19⟩:∃ j_:Int,(wrap64 (x9_2-1))=j_:=⟨_,rfl⟩
         replace H:(if 0≤(ji19) then (if (ji19)<(x0_2.length:Int) then (if 0≤x9_2 then (if x9_2<(x0_2.length:Int) then (slices_insertionSortCmpFunc_impl_Token_impl_ringNew_1.l1 kj5 ((x0_2.set (x9_2:Int).toNat (⟨(rd_T57 x0_2 (ji19)).f0,(rd_T57 x0_2 (ji19)).f1⟩:S57)).set ((ji19):Int).toNat (⟨(rd_T57 x0_2 x9_2).f0,(rd_T57 x0_2 x9_2).f1⟩:S57)) a1 a2 x8_1 ji19) else (none)) else (none)) else (none)) else (none))=some r:=by first | (rw [hji19] at H;exact H) | (simp only [hji19] at H ⊢;exact H)
         have hji19w:(IntKind.i64.wrap (x9_2-1))=ji19:=(i64_w _).trans hji19
         by_cases c20:0≤(ji19)
         ·rw [if_pos c20] at H
          have c20b0:decide (0≤(ji19))=true:=decide_eq_true c20
          clear c20
          by_cases c21:(ji19)<(x0_2.length:Int)
          ·rw [if_pos c21] at H
           have c21b0:decide ((ji19)<(x0_2.length:Int))=true:=decide_eq_true c21
           clear c21
           by_cases c22:0≤x9_2
           ·rw [if_pos c22] at H
            have c22b0:decide (0≤x9_2)=true:=decide_eq_true c22
            clear c22
            by_cases c23:x9_2<(x0_2.length:Int)
            ·rw [if_pos c23] at H
             have c23b0:decide (x9_2<(x0_2.length:Int))=true:=decide_eq_true c23
             clear c23
             obtain ⟨y187,hy187⟩:∃ y_:List (S57),y_=(x0_2.set (x9_2:Int).toNat (⟨(rd_T57 x0_2 (ji19)).f0,(rd_T57 x0_2 (ji19)).f1⟩:S57)):=⟨_,rfl⟩
             replace H:(slices_insertionSortCmpFunc_impl_Token_impl_ringNew_1.l1 kj5 (y187.set ((ji19):Int).toNat (⟨(rd_T57 x0_2 x9_2).f0,(rd_T57 x0_2 x9_2).f1⟩:S57)) a1 a2 x8_1 ji19)=some r:=by first | (rw [hy187];with_reducible exact H) | (have H2_:=(Option.bind_some _ _).symm.trans H;rw [hy187];with_reducible exact H2_) | (have H2_:=(Option.bind_some _ _).symm.trans H;with_reducible exact H2_) | with_reducible exact H | (rw [hy187];exact H) | exact H
             have Ny187:=Aside0.mk hy187
             clear hy187
             obtain ⟨y188,hy188⟩:∃ y_:List (S57),y_=(y187.set ((ji19):Int).toNat (⟨(rd_T57 x0_2 x9_2).f0,(rd_T57 x0_2 x9_2).f1⟩:S57)):=⟨_,rfl⟩
             replace H:(slices_insertionSortCmpFunc_impl_Token_impl_ringNew_1.l1 kj5 y188 a1 a2 x8_1 ji19)=some r:=by first | (rw [hy188];with_reducible exact H) | (have H2_:=(Option.bind_some _ _).symm.trans H;rw [hy188];with_reducible exact H2_) | (have H2_:=(Option.bind_some _ _).symm.trans H;with_reducible exact H2_) | with_reducible exact H | (rw [hy188];exact H) | exact H
             have Ny188:=Aside0.mk hy188
             clear hy188
             have H':=Aside0.mk H
             clear H
             try go_wp2
             refine as3_ (Kd.R_drew HO_0.out) (Kept.drew HK.out) (below_drew1 HB.out) ?_
             clear HO_0 HK HB
             intro HO_0 HK HB
             obtain ⟨Ao27,co27,eo27⟩:=Kd.R_slice HO_0.out
             (first | subst eo27 | (injection eo27 with f1_ f2_ f3_;have f4_:=f1_.symm;have f5_:=f3_.symm;clear f1_ f2_ f3_;subst f4_;subst f5_))
             have p185:0≤((ji19):Int):=of_decide_eq_true (z0_)
             have q185:(ji19)<(x0_2.length:Int):=of_decide_eq_true (z0_)
             obtain ⟨ad185,e185,hx185_0,hx185_1⟩:=at_T57 (Kd.R_reads' HO_0.out).2.2 (ji19) p185 q185
             cases e185
             replace p185:=eq_true p185
             replace q185:=eq_true q185
             have p186:0≤(x9_2:Int):=of_decide_eq_true (z0_)
             have q186:x9_2<(x0_2.length:Int):=of_decide_eq_true (z0_)
             obtain ⟨ad186,e186,hx186_0,hx186_1⟩:=at_T57 (Kd.R_reads' HO_0.out).2.2 x9_2 p186 q186
             obtain rfl:ad185=ad186:=(by injection e186)
             replace p186:=eq_true p186
             replace q186:=eq_true q186
             have p24:0≤(x9_2:Int):=of_decide_eq_true (z0_)
             have q24:(x9_2:Int)<((x0_2.length:Int):Int):=of_decide_eq_true (z0_)
             obtain ⟨go24,co24,eo24,gb24,gl24,cl24,HG24⟩:=Kd.R_form HO_0.out (by omega)
             (first | cases eo24 | (injection eo24 with ea_ en_ ec_;(first | subst ea_ | (injection ea_ with ea_;subst ea_));subst ec_;clear en_))
             have GB24:=Aside0.mk gb24
             have GG24:=Aside0.mk HG24
             clear gb24 gl24 HG24
             have HMgo24:=Aside0.mk (show (P0_ go24∨w.heap.size≤go24) from (HO_0.out.1 _ rfl))
             (first | simp only [add_plain] at hx185_0 | skip)
             (first | simp only [add_plain] at hx185_1 | skip)
             (first | simp only [add_plain] at hx186_0 | skip)
             (first | simp only [add_plain] at hx186_1 | skip)
             obtain ⟨ce24,hcl24,hM24,hcc24,hfr24⟩:=Kd.R_elem HO_0.out z57 (x9_2:Int) p24 q24
             obtain rfl:=k57_openM hM24
             have hx24_0:World.cell? _ ⟨go24,(x9_2:Int).toNat*2,none⟩=some (.int .i64 ((rd_T57 x0_2 x9_2).f0)):=hcc24 0 _ rfl
             have hx24_1:World.cell? _ ⟨go24,(x9_2:Int).toNat*2+1,none⟩=some (.int .i64 ((rd_T57 x0_2 x9_2).f1)):=hcc24 1 _ rfl
             have hf24_0:World.frozen? _ ⟨go24,(x9_2:Int).toNat*2,none⟩=false:=hfr24 0
             have hf24_1:World.frozen? _ ⟨go24,(x9_2:Int).toNat*2+1,none⟩=false:=hfr24 1
             clear hcl24 hcc24 hfr24 hM24
             replace p24:=eq_true p24
             replace q24:=eq_true q24
             obtain ⟨ce28,hcl28,hM28,hcc28,hfr28⟩:=Kd.R_elem HO_0.out z57 (x9_2:Int) (of_decide_eq_true (z0_)) (by have h_:(x9_2:Int)<((x0_2.length:Int):Int):=of_decide_eq_true (by first | (with_reducible assumption) | assumption);first | exact h_ | (have e_:=(Kd.R_reads' HO_0.out).1;omega) | simpa using h_)
             obtain rfl:=k57_openM hM28
             have HP28:=(Kd.R_seg HO_0.out (x9_2:Int) (of_decide_eq_true (z0_)) (by have h_:(x9_2:Int)<((x0_2.length:Int):Int):=of_decide_eq_true (by first | (with_reducible assumption) | assumption);first | exact h_ | (have e_:=(Kd.R_reads' HO_0.out).1;omega) | simpa using h_) (seg:=[.int .i64 ((rd_T57 x0_2 (ji19)).f0),.int .i64 ((rd_T57 x0_2 (ji19)).f1)]) (j:=0) hcl28 hcc28 (show 2≤2 from by decide) (x':=(⟨(rd_T57 x0_2 (ji19)).f0,(rd_T57 x0_2 (ji19)).f1⟩:S57)) (k57_mkM _ _ _ (⟨(rd_T57 x0_2 (ji19)).f0,(rd_T57 x0_2 (ji19)).f1⟩:S57) ) (fun _ hk=>hk)).1
             rw [← Ny187.out] at HP28
             have HQ28:=Aside0.mk HP28
             clear hcl28 hcc28 hfr28 hM28 HP28
             have p25:0≤((ji19):Int):=of_decide_eq_true (z0_)
             have q25:((ji19):Int)<((x0_2.length:Int):Int):=of_decide_eq_true (z0_)
             obtain ⟨ce25,hcl25,hM25,hcc25,hfr25⟩:=Kd.R_elem HQ28.out z57 ((ji19):Int) p25 q25
             obtain rfl:=k57_openM hM25
             have hx25_0:World.cell? _ ⟨go24,((ji19):Int).toNat*2,none⟩=some (.int .i64 ((rd_T57 y187 (ji19)).f0)):=hcc25 0 _ rfl
             have hx25_1:World.cell? _ ⟨go24,((ji19):Int).toNat*2+1,none⟩=some (.int .i64 ((rd_T57 y187 (ji19)).f1)):=hcc25 1 _ rfl
             have hf25_0:World.frozen? _ ⟨go24,((ji19):Int).toNat*2,none⟩=false:=hfr25 0
             have hf25_1:World.frozen? _ ⟨go24,((ji19):Int).toNat*2+1,none⟩=false:=hfr25 1
             clear hcl25 hcc25 hfr25 hM25
             replace p25:=eq_true p25
             replace q25:=eq_true q25
             obtain ⟨ce29,hcl29,hM29,hcc29,hfr29⟩:=Kd.R_elem HQ28.out z57 ((ji19):Int) (of_decide_eq_true (z0_)) (by have h_:((ji19):Int)<((x0_2.length:Int):Int):=of_decide_eq_true (by first | (with_reducible assumption) | assumption);first | exact h_ | (have e_:=(Kd.R_reads' HO_0.out).1;omega) | simpa using h_)
             obtain rfl:=k57_openM hM29
             have HP29:=(Kd.R_seg HQ28.out ((ji19):Int) (of_decide_eq_true (z0_)) (by have h_:((ji19):Int)<((x0_2.length:Int):Int):=of_decide_eq_true (by first | (with_reducible assumption) | assumption);first | exact h_ | (have e_:=(Kd.R_reads' HO_0.out).1;omega) | simpa using h_) (seg:=[.int .i64 ((rd_T57 x0_2 x9_2).f0),.int .i64 ((rd_T57 x0_2 x9_2).f1)]) (j:=0) hcl29 hcc29 (show 2≤2 from by decide) (x':=(⟨(rd_T57 x0_2 x9_2).f0,(rd_T57 x0_2 x9_2).f1⟩:S57)) (k57_mkM _ _ _ (⟨(rd_T57 x0_2 x9_2).f0,(rd_T57 x0_2 x9_2).f1⟩:S57) ) (fun _ hk=>hk)).1
             rw [← Ny188.out] at HP29
             have HQ29:=Aside0.mk HP29
             clear hcl29 hcc29 hfr29 hM29 HP29
             refine start_ (n:=18) (S:=fun w'=>w'.cell? ⟨go24,((ji19)).toNat*2,none⟩=some (.int .i64 ((rd_T57 x0_2 (ji19)).f0))∧w'.cell? ⟨go24,((ji19)).toNat*2+1,none⟩=some (.int .i64 ((rd_T57 x0_2 (ji19)).f1))∧w'.cell? ⟨go24,((x9_2).toNat*2),none⟩=some (.int .i64 ((rd_T57 x0_2 x9_2).f0))∧w'.cell? ⟨go24,((x9_2).toNat*2)+1,none⟩=some (.int .i64 ((rd_T57 x0_2 x9_2).f1))) (ds:=[15,17]) #[O,O,O,O,O,O,O,O,O,O,O,O,O,O,O,O,O,O] (by kernel_rfl) rfl rfl ⟨hx185_0,hx185_1,hx186_0,hx186_1⟩ (fun hHeld=>?_);refine with_tabW slices_insertionSortCmpFunc_impl_Token_impl_ringNew_1.tab6 slices_insertionSortCmpFunc_impl_Token_impl_ringNew_1.bits6 (fun HT_ HW_=>?_)
             generalize wc.drew=w26 at HO_0 HK HB GG24 HQ28 HQ29 hf24_0 hf24_1 hf25_0 hf25_1 hx185_0 hx185_1 hx186_0 hx186_1 hx24_0 hx24_1 hx25_0 hx25_1 hHeld ⊢
             have hne_:ji19.toNat*2≠x9_2.toNat*2:=by have a_:=of_eq_true p185;have b_:=of_eq_true p186;unfold wrap64 at hji19;omega
             have hz25_0:∀ V,(w26.setCell ⟨go24,(x9_2:Int).toNat*2,none⟩ V).cell? ⟨go24,((ji19):Int).toNat*2,none⟩=some (.int .i64 ((rd_T57 x0_2 (ji19)).f0)):=fun V=>(World.cell?_setCell_other _ _ _ _ (by intro e_;injection e_;omega)).trans hx185_0
             have hz25_1:∀ V,(w26.setCell ⟨go24,(x9_2:Int).toNat*2+1,none⟩ V).cell? ⟨go24,((ji19):Int).toNat*2+1,none⟩=some (.int .i64 ((rd_T57 x0_2 (ji19)).f1)):=fun V=>(World.cell?_setCell_other _ _ _ _ (by intro e_;injection e_;omega)).trans hx185_1
             have hy25_0:w26.frozen? ⟨go24,((ji19):Int).toNat*2,none⟩=false:=by have h_:=hf25_0;first | exact h_ | simpa only [World.frozen?_setCell] using h_ | simpa [World.setCells] using h_
             have hy25_1:w26.frozen? ⟨go24,((ji19):Int).toNat*2+1,none⟩=false:=by have h_:=hf25_1;first | exact h_ | simpa only [World.frozen?_setCell] using h_ | simpa [World.setCells] using h_
             refine pu_ 0 37 #[I,O,O,O,O,O,O,O,O,O,O,O,O,O,O,O,O,O] HT_.out ?_
             refine pu_ 1 38 #[I,I,O,O,O,O,O,O,O,O,O,O,O,O,O,O,O,O] HT_.out ?_
             refine pu_ 2 39 #[I,I,I,O,O,O,O,O,O,O,O,O,O,O,O,O,O,O] HT_.out ?_
             refine pu_ 3 40 #[I,I,I,I,O,O,O,O,O,O,O,O,O,O,O,O,O,O] HT_.out ?_
             refine pu_ 4 41 #[I,I,I,I,I,O,O,O,O,O,O,O,O,O,O,O,O,O] HT_.out ?_
             refine pu_ 5 42 #[I,I,I,I,I,I,O,O,O,O,O,O,O,O,O,O,O,O] HT_.out ?_
             refine pu_ 6 43 #[I,I,I,I,I,I,I,O,O,O,O,O,O,O,O,O,O,O] HT_.out ?_
             refine pu_ 7 44 #[I,I,I,I,I,I,I,I,O,O,O,O,O,O,O,O,O,O] HT_.out ?_
             refine pu_ 8 45 #[I,I,I,I,I,I,I,I,I,O,O,O,O,O,O,O,O,O] HT_.out ?_
             refine pu_ 10 47 #[I,I,I,I,I,I,I,I,I,O,I,O,O,O,O,O,O,O] HT_.out ?_
             refine pu_ 11 48 #[I,I,I,I,I,I,I,I,I,O,I,I,O,O,O,O,O,O] HT_.out ?_
             refine pu_ 12 49 #[I,I,I,I,I,I,I,I,I,O,I,I,I,O,O,O,O,O] HT_.out ?_
             refine tk4_ 9 46 #[I,I,I,I,I,I,I,I,I,I,I,I,I,O,O,O,O,O] HT_.out HW_.out hHeld ?_
             refine tk4_ 13 50 #[I,I,I,I,I,I,I,I,I,I,I,I,I,I,O,O,O,O] HT_.out HW_.out hHeld ?_
             refine pu_ 14 51 #[I,I,I,I,I,I,I,I,I,I,I,I,I,I,I,O,O,O] HT_.out ?_
             refine last_ (i:=15) (N:=none) #[I,I,I,I,I,I,I,I,I,I,I,I,I,I,I,I,O,O] rfl rfl (one_of HT_.out (by kernel_rfl)) (by decide) (fun K hK=>?_)
             refine skip_ (w1:=?_) (by rfl) rfl ?_ ?_
             rotate_left
             ·go_simp
              rfl
             refine hK.out _ _ ?_
             clear hK K
             refine pu_ 16 52 #[I,I,I,I,I,I,I,I,I,I,I,I,I,I,I,I,I,O] HT_.out ?_
             refine last_ (i:=17) (N:=none) #[I,I,I,I,I,I,I,I,I,I,I,I,I,I,I,I,I,I] rfl rfl (one_of HT_.out (by kernel_rfl)) (by decide) (fun K hK=>?_)
             refine skip_ (w1:=?_) (by rfl) rfl ?_ ?_
             rotate_left
             ·go_simp
              rfl
             refine hK.out _ _ ?_
             clear hK K
             refine done_ (done_of HT_.out (by kernel_rfl)) ?_
             try go_wp2
             go_roundg kj5
             case measure=>have:=HK1.out;have:=HK2.out;have:=HJ5.out;omega
             case rel=>exact ⟨(y188),(ji19),(by first | rfl | (simp;done) | (simp only [← hji19] <;> (first | rfl | simp)) | (simp [*];done)),H',⟨by have:=HK1.out;have:=HK2.out;have:=HJ5.out;omega⟩,⟨z2_ HQ29.out⟩,⟨z26_ HK.out HMgo24.out⟩,⟨z27_ HB.out GB24.out⟩⟩
            ·rw [if_neg c23] at H
             exact absurd H (by simp)
           ·rw [if_neg c22] at H
            exact absurd H (by simp)
          ·rw [if_neg c21] at H
           exact absurd H (by simp)
         ·rw [if_neg c20] at H
          exact absurd H (by simp)
        ·replace c18:=Bool.eq_false_iff.mpr c18
         subst c18
         have H1:(slices_insertionSortCmpFunc_impl_Token_impl_ringNew_1.l0 kj5 x0_2 a1 a2 (wrap64 (x8_1+1)))=some r:=by rw [if_neg (show ¬ (false=true) by decide)] at H;exact H
         clear H
         have H:=H1
         clear H1
         have H':=Aside0.mk H
         clear H
         go_wp2
         go_roundg kj5
         case measure=>have:=HK1.out;have:=HK2.out;have:=HJ5.out;omega
         case rel=>exact ⟨(x0_2),(wrap64 (x8_1+1)),(z1_),H',⟨by have:=HK1.out;have:=HK2.out;have:=HJ5.out;omega⟩,⟨z2_ HO_0.out⟩,⟨z9_ HK.out⟩,⟨z3_ HB.out⟩⟩
   ·rw [if_neg c5] at H
    have c5b0:decide (x8_1<a2)=false:=decide_eq_false c5
    clear c5
    obtain rfl:=Option.some.inj H
    go_wp2
    first | go_end0 | ((try simp only [Exit.inBlock,Exit.then]);refine bodyPost_ret (results_none rfl _ _ _) rfl ?_)
    exact ⟨z10_,z2_ HO_0.out,z3_ HB.out,z9_ HK.out⟩


/-! ### slices_heapSortCmpFunc_impl_Token_impl_ringNew_1: function 92 -/
def slices_heapSortCmpFunc_impl_Token_impl_ringNew_1.f (l0:List (S57)) (a1:Int) (a2:Int)  : Option (Unit):=none
set_option maxHeartbeats 8000000 in
set_option maxRecDepth 100000 in
theorem slices_heapSortCmpFunc_impl_Token_impl_ringNew_1.calls (A0:Option Addr) (c0:Nat) (l0:List (S57)) (a1:Int) (a2:Int)  (w:World) (hr0:Kd.C k57 w A0 l0.length l0) (hc0:l0.length≤c0) (h:slices_heapSortCmpFunc_impl_Token_impl_ringNew_1.f l0 a1 a2=some ()) :
  Calls Tryd.prog 92 #[.slice A0 l0.length c0,.int .i64 a1,.int .i64 a2,.func (.func 67) #[] #[]] w fun e w'=>e = .returned (.tuple #[])∧Drawn0 w w':=by
 have HR0:=Aside0.mk hr0
 have HC0:=Aside0.mk hc0
 clear hr0 hc0
 have H:(none)=some ():=h
 clear h
 exact absurd H (by simp)


/-! ### slices_breakPatternsCmpFunc_impl_Token_impl_ringNew_1: function 93 -/
def slices_breakPatternsCmpFunc_impl_Token_impl_ringNew_1.f (l0:List (S57)) (a1:Int) (a2:Int)  : Option (Unit):=none
set_option maxHeartbeats 8000000 in
set_option maxRecDepth 100000 in
theorem slices_breakPatternsCmpFunc_impl_Token_impl_ringNew_1.calls (A0:Option Addr) (c0:Nat) (l0:List (S57)) (a1:Int) (a2:Int)  (w:World) (hr0:Kd.C k57 w A0 l0.length l0) (hc0:l0.length≤c0) (h:slices_breakPatternsCmpFunc_impl_Token_impl_ringNew_1.f l0 a1 a2=some ()) :
  Calls Tryd.prog 93 #[.slice A0 l0.length c0,.int .i64 a1,.int .i64 a2,.func (.func 67) #[] #[]] w fun e w'=>e = .returned (.tuple #[])∧Drawn0 w w':=by
 have HR0:=Aside0.mk hr0
 have HC0:=Aside0.mk hc0
 clear hr0 hc0
 have H:(none)=some ():=h
 clear h
 exact absurd H (by simp)


/-- A state of type 3 at block g of W; what its slices lead to came in by w0. -/
def IsS3 (w0 W:World) (g:Nat) (f0:Int):Prop:=W.heap[g]? = some (.cells #[.int .i64 f0] 3 (0,0))∧w0.heap.size≤g
theorem IsS3.grown {w0 W:World} {g:Nat} {f0:Int} {W1:World} {row:Option Nat} (h:IsS3 w0 W g f0) (hw:W.grownBy W1 row) (hne:some g≠row):IsS3 w0 W1 g f0:=by
 obtain ⟨hb,hg⟩:=h
 exact ⟨blk_grown hb hw hne,hg⟩
theorem IsS3.kept {w0 W:World} {g:Nat} {f0:Int} {W1:World} {S:Nat→Prop} (h:IsS3 w0 W g f0) (hk:Kept W W1 S) (hne:¬ S g):IsS3 w0 W1 g f0:=by
 obtain ⟨hb,hg⟩:=h
 exact ⟨blk_kept hb hk hne,hg⟩
theorem IsS3.below {w0 W:World} {g:Nat} {f0:Int} {W1:World} (h:IsS3 w0 W g f0) (hw:Below W.heap.size W W1):IsS3 w0 W1 g f0:=h.grown (grown_of_below hw none) (by simp)
theorem IsS3.alloc {w0 W:World} {g:Nat} {f0:Int} (h:IsS3 w0 W g f0) (o:Obj):IsS3 w0 (W.alloc o) g f0:=h.below (below_alloc (Below.refl _ _) o)
theorem IsS3.drewN {w0 W:World} {g:Nat} {f0:Int} (h:IsS3 w0 W g f0) (m:Nat):IsS3 w0 (W.drewN m) g f0:=h
theorem IsS3.drew {w0 W:World} {g:Nat} {f0:Int} (h:IsS3 w0 W g f0):IsS3 w0 W.drew g f0:=h
theorem IsS3.apart {w0 W:World} {g:Nat} {f0:Int} {α:Type} {d:Kd α} {e:Nat} {base:Nat} {ok:Nat→Prop} {v:Value} {xs:List α} (h:IsS3 w0 W g f0) (ho:d.R e W base ok v xs) (ht:∀ q,q ∈ e :: d.E→q≠3):d.R e W base (fun k=>ok k∧k≠g) v xs:=by
 obtain ⟨hb,hg⟩:=h
 exact Kd.R_types ho hb ht
theorem IsS3.own_ne {w0 W:World} {g:Nat} {f0:Int} {α:Type} {d:Kd α} {e:Nat} {base:Nat} {ok:Nat→Prop} {v:Value} {xs:List α} (h:IsS3 w0 W g f0) (ho:d.R e W base ok v xs) (ht:e≠3):some g≠v.ownBlock:=by
 obtain ⟨hb,hg⟩:=h
 exact Kd.R_ne ho hb ht
theorem IsS3.ge {w0 W:World} {g:Nat} {f0:Int} (h:IsS3 w0 W g f0):w0.heap.size≤g:=by
 obtain ⟨hb,hg⟩:=h
 exact hg
theorem cellS3_0 {W:World} {g:Nat} {f0:Int} (h:W.heap[g]? = some (.cells #[.int .i64 f0] 3 (0,0))):W.cell? ⟨g,0,none⟩=some (.int .i64 f0):=(blk_cell h 0).trans rfl
theorem IsS3.set_0 {w0 W:World} {g:Nat} {f0:Int} (h:IsS3 w0 W g f0) (x:Int):IsS3 w0 (W.setCell ⟨g,0,none⟩ (.int .i64 x)) g x:=by
 obtain ⟨hb,hg⟩:=h
 exact ⟨by simpa using blk_set hb 0 (.int .i64 x),hg⟩
/-! ### slices_order2CmpFunc_impl_Token_impl_ringNew_1: function 115 -/
def slices_order2CmpFunc_impl_Token_impl_ringNew_1.f (k:Nat) (l0:List (S57)) (a1:Int) (a2:Int) (s3_0:Int)  : Option (Int × Int × Int):=if 0≤a2 then (if a2<(l0.length:Int) then (if 0≤a1 then (if a1<(l0.length:Int) then ((impl_ringNew_1.f k ((rd_T57 l0 a2).f0) ((rd_T57 l0 a2).f1) ((rd_T57 l0 a1).f0) ((rd_T57 l0 a1).f1)).bind fun t191=>(if t191<0 then (some (a2,a1,wrap64 (s3_0+1))) else (some (a1,a2,s3_0)))) else (none)) else (none)) else (none)) else (none)
theorem slices_order2CmpFunc_impl_Token_impl_ringNew_1.mono:∀ a0 a1 a2 a3 k,LeO (slices_order2CmpFunc_impl_Token_impl_ringNew_1.f k a0 a1 a2 a3) (slices_order2CmpFunc_impl_Token_impl_ringNew_1.f (k+1) a0 a1 a2 a3):=by
 intro a0 a1 a2 a3 k
 unfold slices_order2CmpFunc_impl_Token_impl_ringNew_1.f
 repeat' first
   | (with_reducible exact impl_ringNew_1.mono _ _ _ _ _)
   | (with_reducible exact LeO.refl _)
   | (with_reducible exact LeO.none _)
   | (with_reducible refine LeO.ite ?_ ?_)
   | (with_reducible refine LeO.bind ?_ (fun _=>?_))
   | exact impl_ringNew_1.mono _ _ _ _ _
   | exact LeO.none _
   | refine LeO.ite ?_ ?_
   | refine LeO.bind ?_ (fun _=>?_)
def slices_order2CmpFunc_impl_Token_impl_ringNew_1.T1:Bool × List (List Nat × List Nat):=(true,[([],[]),([],[]),([],[]),([1,2],[1,2]),([3],[3]),([],[]),([],[]),([5,6],[5,6]),([7],[7]),([0,4,8],[0,4,8]),([9],[9])])
def slices_order2CmpFunc_impl_Token_impl_ringNew_1.B1:List Nat:=[0,0,0,6,14,0,0,96,224,511,1023]
theorem slices_order2CmpFunc_impl_Token_impl_ringNew_1.tab1:rtab .any (opsOf Tryd.f115 1)=slices_order2CmpFunc_impl_Token_impl_ringNew_1.T1:=by kernel_rfl
theorem slices_order2CmpFunc_impl_Token_impl_ringNew_1.bits1:waitsOk slices_order2CmpFunc_impl_Token_impl_ringNew_1.T1.2 slices_order2CmpFunc_impl_Token_impl_ringNew_1.B1=true:=by kernel_rfl
set_option maxHeartbeats 8000000 in
set_option maxRecDepth 100000 in
theorem slices_order2CmpFunc_impl_Token_impl_ringNew_1.calls (k:Nat) (A0:Option Addr) (c0:Nat) (l0:List (S57)) (a1:Int) (a2:Int) (g:Nat) (s3_0:Int)  (r1:Int) (r2:Int) (r3:Int) (w0 w:World) (hI:IsS3 w0 w g s3_0) (hB:Below w0.heap.size w0 w) (hr0:∀ W_,KeepBut w W_ g none→Kd.C k57 W_ A0 l0.length l0) (hc0:l0.length≤c0) (h:slices_order2CmpFunc_impl_Token_impl_ringNew_1.f k l0 a1 a2 s3_0=some (r1,r2,r3)) :
  Calls Tryd.prog 115 #[.slice A0 l0.length c0,.int .i64 a1,.int .i64 a2,.pointer (some ⟨g,0,none⟩),.func (.func 67) #[] #[]] w fun e w'=>e = .returned (.tuple #[.int .i64 r1,.int .i64 r2])∧IsS3 w0 w' g r3∧Below w0.heap.size w0 w'∧KeepBut w w' g none:=by
 have hu57:=Tryd.underlying57
 have HR0:=Aside0.mk hr0
 have HC0:=Aside0.mk hc0
 clear hr0 hc0
 have HI3:=Aside0.mk hI
 have HK:=Aside0.mk (KeepBut.refl w g none)
 have HL:=Aside0.mk hB.size
 clear hI
 have HW0:=Aside0.mk hB.size
 have HB:=Aside0.mk hB
 clear hB
 have H:(if 0≤a2 then (if a2<(l0.length:Int) then (if 0≤a1 then (if a1<(l0.length:Int) then ((impl_ringNew_1.f k ((rd_T57 l0 a2).f0) ((rd_T57 l0 a2).f1) ((rd_T57 l0 a1).f0) ((rd_T57 l0 a1).f1)).bind fun t191=>(if t191<0 then (some (a2,a1,wrap64 (s3_0+1))) else (some (a1,a2,s3_0)))) else (none)) else (none)) else (none)) else (none))=some (r1,r2,r3):=h
 clear h
 by_cases c6:0≤a2
 ·rw [if_pos c6] at H
  have c6b0:decide (0≤a2)=true:=decide_eq_true c6
  clear c6
  by_cases c7:a2<(l0.length:Int)
  ·rw [if_pos c7] at H
   have c7b0:decide (a2<(l0.length:Int))=true:=decide_eq_true c7
   clear c7
   by_cases c8:0≤a1
   ·rw [if_pos c8] at H
    have c8b0:decide (0≤a1)=true:=decide_eq_true c8
    clear c8
    by_cases c9:a1<(l0.length:Int)
    ·rw [if_pos c9] at H
     have c9b0:decide (a1<(l0.length:Int))=true:=decide_eq_true c9
     clear c9
     replace H:=Option.bind_eq_some_iff.mp H
     obtain ⟨t191,A100,H⟩:=H
     replace H:(if t191<0 then (some (a2,a1,wrap64 (s3_0+1))) else (some (a1,a2,s3_0)))=some (r1,r2,r3):=H
     have A10:=Aside0.mk A100
     clear A100
     by_cases c11:t191<0
     ·rw [if_pos c11] at H
      have c11b0:decide (t191<0)=true:=decide_eq_true c11
      clear c11
      simp only [Option.some.injEq,Prod.mk.injEq] at H
      obtain ⟨rfl,rfl,rfl⟩:=H
      go_enter Tryd.func115,Tryd.ntmps115
      try go_wp2
      refine as3_ (IsS3.drew HI3.out) (keep_drew HK.out) (below_drew1 HB.out) ?_
      clear HI3 HK HB
      intro HI3 HK HB
      have p189:0≤(a2:Int):=of_decide_eq_true (z0_)
      have q189:a2<(l0.length:Int):=of_decide_eq_true (z0_)
      obtain ⟨ad189,e189,hx189_0,hx189_1⟩:=at_T57 (Kd.C_foot_now HR0.out HK.out) a2 p189 q189
      have hw189_1:=hx189_1
      have hw189_0:=hx189_0
      cases e189
      have hne189_1:=(show (⟨(ad189.add ((a2).toNat*2)).block,(ad189.add ((a2).toNat*2)).off+1,none⟩:Addr).block≠g from by first | (rw [add_block];exact Kd.foot_ne HR0.out (by omega) (by decide)) | (show (Addr.add _ _).block≠_;rw [add_block];exact Kd.foot_ne HR0.out (by omega) (by decide)) | exact Kd.foot_ne HR0.out (by omega) (by decide) | (dsimp only;exact Kd.foot_ne HR0.out (by omega) (by decide)))
      have hlt189_1:=(Kd.foot_lt HR0.out (by omega) (by decide))
      have hne189_0:=(show ((ad189.add ((a2).toNat*2)):Addr).block≠g from by first | (rw [add_block];exact Kd.foot_ne HR0.out (by omega) (by decide)) | (show (Addr.add _ _).block≠_;rw [add_block];exact Kd.foot_ne HR0.out (by omega) (by decide)) | exact Kd.foot_ne HR0.out (by omega) (by decide) | (dsimp only;exact Kd.foot_ne HR0.out (by omega) (by decide)))
      have hlt189_0:=(Kd.foot_lt HR0.out (by omega) (by decide))
      replace p189:=eq_true p189
      replace q189:=eq_true q189
      have p190:0≤(a1:Int):=of_decide_eq_true (z0_)
      have q190:a1<(l0.length:Int):=of_decide_eq_true (z0_)
      obtain ⟨ad190,e190,hx190_0,hx190_1⟩:=at_T57 (Kd.C_foot_now HR0.out HK.out) a1 p190 q190
      have hw190_1:=hx190_1
      have hw190_0:=hx190_0
      obtain rfl:ad189=ad190:=(by injection e190)
      have hne190_1:=(show (⟨(ad189.add ((a1).toNat*2)).block,(ad189.add ((a1).toNat*2)).off+1,none⟩:Addr).block≠g from by first | (rw [add_block];exact Kd.foot_ne HR0.out (by omega) (by decide)) | (show (Addr.add _ _).block≠_;rw [add_block];exact Kd.foot_ne HR0.out (by omega) (by decide)) | exact Kd.foot_ne HR0.out (by omega) (by decide) | (dsimp only;exact Kd.foot_ne HR0.out (by omega) (by decide)))
      have hlt190_1:=(Kd.foot_lt HR0.out (by omega) (by decide))
      have hne190_0:=(show ((ad189.add ((a1).toNat*2)):Addr).block≠g from by first | (rw [add_block];exact Kd.foot_ne HR0.out (by omega) (by decide)) | (show (Addr.add _ _).block≠_;rw [add_block];exact Kd.foot_ne HR0.out (by omega) (by decide)) | exact Kd.foot_ne HR0.out (by omega) (by decide) | (dsimp only;exact Kd.foot_ne HR0.out (by omega) (by decide)))
      have hlt190_0:=(Kd.foot_lt HR0.out (by omega) (by decide))
      replace p190:=eq_true p190
      replace q190:=eq_true q190
      refine start_ (n:=11) (S:=fun w'=>w'.cell? (ad189.add ((a2).toNat*2))=some (.int .i64 ((rd_T57 l0 a2).f0))∧w'.cell? ⟨(ad189.add ((a2).toNat*2)).block,(ad189.add ((a2).toNat*2)).off+1,none⟩=some (.int .i64 ((rd_T57 l0 a2).f1))∧w'.cell? (ad189.add ((a1).toNat*2))=some (.int .i64 ((rd_T57 l0 a1).f0))∧w'.cell? ⟨(ad189.add ((a1).toNat*2)).block,(ad189.add ((a1).toNat*2)).off+1,none⟩=some (.int .i64 ((rd_T57 l0 a1).f1))) (ds:=[]) #[O,O,O,O,O,O,O,O,O,O,O] (by kernel_rfl) rfl rfl ⟨hx189_0,hx189_1,hx190_0,hx190_1⟩ (fun hHeld=>?_);refine with_tabW slices_order2CmpFunc_impl_Token_impl_ringNew_1.tab1 slices_order2CmpFunc_impl_Token_impl_ringNew_1.bits1 (fun HT_ HW_=>?_)
      generalize w.drew=w12 at HI3 HK HB hx189_0 hx189_1 hx190_0 hx190_1 hHeld ⊢
      refine pu_ 0 12 #[I,O,O,O,O,O,O,O,O,O,O] HT_.out ?_
      refine pu_ 1 13 #[I,I,O,O,O,O,O,O,O,O,O] HT_.out ?_
      refine pu_ 2 14 #[I,I,I,O,O,O,O,O,O,O,O] HT_.out ?_
      refine pu_ 3 15 #[I,I,I,I,O,O,O,O,O,O,O] HT_.out ?_
      refine pu_ 5 17 #[I,I,I,I,O,I,O,O,O,O,O] HT_.out ?_
      refine pu_ 6 18 #[I,I,I,I,O,I,I,O,O,O,O] HT_.out ?_
      refine pu_ 7 19 #[I,I,I,I,O,I,I,I,O,O,O] HT_.out ?_
      refine tk4_ 4 16 #[I,I,I,I,I,I,I,I,O,O,O] HT_.out HW_.out hHeld ?_
      refine tk4_ 8 20 #[I,I,I,I,I,I,I,I,I,O,O] HT_.out HW_.out hHeld ?_
      refine o1_ 9 21 #[I,I,I,I,I,I,I,I,I,I,O] HT_.out (fun K hK=>?_)
      refine goesD_ Tryd.func67 (by kernel_rfl) rfl #[.agg #[.int .i64 ((rd_T57 l0 a2).f0),.int .i64 ((rd_T57 l0 a2).f1)],.agg #[.int .i64 ((rd_T57 l0 a1).f0),.int .i64 ((rd_T57 l0 a1).f1)]] (by rfl) rfl rfl (by rfl) (z28_) ?_
      with_reducible refine (impl_ringNew_1.calls k ((rd_T57 l0 a2).f0) ((rd_T57 l0 a2).f1) ((rd_T57 l0 a1).f0) ((rd_T57 l0 a1).f1) t191 _ A10.out).mono ?_
      rintro e w13 ⟨rfl,hb⟩
      have HS0_:=(hb.cell (World.block_lt_of_cell? _ _ (hHeld.1))).trans (hHeld.1)
      have HS1_:=(hb.cell (World.block_lt_of_cell? _ _ (hHeld.2.1))).trans (hHeld.2.1)
      have HS2_:=(hb.cell (World.block_lt_of_cell? _ _ (hHeld.2.2.1))).trans (hHeld.2.2.1)
      have HS3_:=(hb.cell (World.block_lt_of_cell? _ _ (hHeld.2.2.2))).trans (hHeld.2.2.2)
      refine ⟨_,rfl,?_⟩
      refine as3_ (IsS3.below (z18_ HI3.out) hb) (KeepBut.trans (z15_ HK.out) (KeepBut.of_below hb g none) (.inl rfl)) (below_step (z14_ HB.out HI3.out) hb) ?_
      clear HI3 HK HB
      intro HI3 HK HB
      (try clear hb)
      refine hK.out _ _ ⟨HS0_,HS1_,HS2_,HS3_⟩ (fun hHeld=>?_)
      clear hK K
      refine nm_ 21 ?_
      refine pu_ 10 22 #[I,I,I,I,I,I,I,I,I,I,I] HT_.out ?_
      refine done_ (done_of HT_.out (by kernel_rfl)) ?_
      obtain ⟨HGz14,hgz14⟩:=HI3.out
      have hcz14_0:=cellS3_0 HGz14
      have hfz14_0:=blk_frozen HGz14 0
      clear HGz14 hgz14
      try go_wp2
      go_ret2
      exact ⟨z10_,z18_ HI3.out,z14_ HB.out HI3.out,z15_ HK.out⟩
     ·rw [if_neg c11] at H
      have c11b0:decide (t191<0)=false:=decide_eq_false c11
      clear c11
      simp only [Option.some.injEq,Prod.mk.injEq] at H
      obtain ⟨rfl,rfl,rfl⟩:=H
      go_enter Tryd.func115,Tryd.ntmps115
      try go_wp2
      refine as3_ (IsS3.drew HI3.out) (keep_drew HK.out) (below_drew1 HB.out) ?_
      clear HI3 HK HB
      intro HI3 HK HB
      have p189:0≤(a2:Int):=of_decide_eq_true (z0_)
      have q189:a2<(l0.length:Int):=of_decide_eq_true (z0_)
      obtain ⟨ad189,e189,hx189_0,hx189_1⟩:=at_T57 (Kd.C_foot_now HR0.out HK.out) a2 p189 q189
      have hw189_1:=hx189_1
      have hw189_0:=hx189_0
      cases e189
      have hne189_1:=(show (⟨(ad189.add ((a2).toNat*2)).block,(ad189.add ((a2).toNat*2)).off+1,none⟩:Addr).block≠g from by first | (rw [add_block];exact Kd.foot_ne HR0.out (by omega) (by decide)) | (show (Addr.add _ _).block≠_;rw [add_block];exact Kd.foot_ne HR0.out (by omega) (by decide)) | exact Kd.foot_ne HR0.out (by omega) (by decide) | (dsimp only;exact Kd.foot_ne HR0.out (by omega) (by decide)))
      have hlt189_1:=(Kd.foot_lt HR0.out (by omega) (by decide))
      have hne189_0:=(show ((ad189.add ((a2).toNat*2)):Addr).block≠g from by first | (rw [add_block];exact Kd.foot_ne HR0.out (by omega) (by decide)) | (show (Addr.add _ _).block≠_;rw [add_block];exact Kd.foot_ne HR0.out (by omega) (by decide)) | exact Kd.foot_ne HR0.out (by omega) (by decide) | (dsimp only;exact Kd.foot_ne HR0.out (by omega) (by decide)))
      have hlt189_0:=(Kd.foot_lt HR0.out (by omega) (by decide))
      replace p189:=eq_true p189
      replace q189:=eq_true q189
      have p190:0≤(a1:Int):=of_decide_eq_true (z0_)
      have q190:a1<(l0.length:Int):=of_decide_eq_true (z0_)
      obtain ⟨ad190,e190,hx190_0,hx190_1⟩:=at_T57 (Kd.C_foot_now HR0.out HK.out) a1 p190 q190
      have hw190_1:=hx190_1
      have hw190_0:=hx190_0
      obtain rfl:ad189=ad190:=(by injection e190)
      have hne190_1:=(show (⟨(ad189.add ((a1).toNat*2)).block,(ad189.add ((a1).toNat*2)).off+1,none⟩:Addr).block≠g from by first | (rw [add_block];exact Kd.foot_ne HR0.out (by omega) (by decide)) | (show (Addr.add _ _).block≠_;rw [add_block];exact Kd.foot_ne HR0.out (by omega) (by decide)) | exact Kd.foot_ne HR0.out (by omega) (by decide) | (dsimp only;exact Kd.foot_ne HR0.out (by omega) (by decide)))
      have hlt190_1:=(Kd.foot_lt HR0.out (by omega) (by decide))
      have hne190_0:=(show ((ad189.add ((a1).toNat*2)):Addr).block≠g from by first | (rw [add_block];exact Kd.foot_ne HR0.out (by omega) (by decide)) | (show (Addr.add _ _).block≠_;rw [add_block];exact Kd.foot_ne HR0.out (by omega) (by decide)) | exact Kd.foot_ne HR0.out (by omega) (by decide) | (dsimp only;exact Kd.foot_ne HR0.out (by omega) (by decide)))
      have hlt190_0:=(Kd.foot_lt HR0.out (by omega) (by decide))
      replace p190:=eq_true p190
      replace q190:=eq_true q190
      refine start_ (n:=11) (S:=fun w'=>w'.cell? (ad189.add ((a2).toNat*2))=some (.int .i64 ((rd_T57 l0 a2).f0))∧w'.cell? ⟨(ad189.add ((a2).toNat*2)).block,(ad189.add ((a2).toNat*2)).off+1,none⟩=some (.int .i64 ((rd_T57 l0 a2).f1))∧w'.cell? (ad189.add ((a1).toNat*2))=some (.int .i64 ((rd_T57 l0 a1).f0))∧w'.cell? ⟨(ad189.add ((a1).toNat*2)).block,(ad189.add ((a1).toNat*2)).off+1,none⟩=some (.int .i64 ((rd_T57 l0 a1).f1))) (ds:=[]) #[O,O,O,O,O,O,O,O,O,O,O] (by kernel_rfl) rfl rfl ⟨hx189_0,hx189_1,hx190_0,hx190_1⟩ (fun hHeld=>?_);refine with_tabW slices_order2CmpFunc_impl_Token_impl_ringNew_1.tab1 slices_order2CmpFunc_impl_Token_impl_ringNew_1.bits1 (fun HT_ HW_=>?_)
      generalize w.drew=w15 at HI3 HK HB hx189_0 hx189_1 hx190_0 hx190_1 hHeld ⊢
      refine pu_ 0 12 #[I,O,O,O,O,O,O,O,O,O,O] HT_.out ?_
      refine pu_ 1 13 #[I,I,O,O,O,O,O,O,O,O,O] HT_.out ?_
      refine pu_ 2 14 #[I,I,I,O,O,O,O,O,O,O,O] HT_.out ?_
      refine pu_ 3 15 #[I,I,I,I,O,O,O,O,O,O,O] HT_.out ?_
      refine pu_ 5 17 #[I,I,I,I,O,I,O,O,O,O,O] HT_.out ?_
      refine pu_ 6 18 #[I,I,I,I,O,I,I,O,O,O,O] HT_.out ?_
      refine pu_ 7 19 #[I,I,I,I,O,I,I,I,O,O,O] HT_.out ?_
      refine tk4_ 4 16 #[I,I,I,I,I,I,I,I,O,O,O] HT_.out HW_.out hHeld ?_
      refine tk4_ 8 20 #[I,I,I,I,I,I,I,I,I,O,O] HT_.out HW_.out hHeld ?_
      refine o1_ 9 21 #[I,I,I,I,I,I,I,I,I,I,O] HT_.out (fun K hK=>?_)
      refine goesD_ Tryd.func67 (by kernel_rfl) rfl #[.agg #[.int .i64 ((rd_T57 l0 a2).f0),.int .i64 ((rd_T57 l0 a2).f1)],.agg #[.int .i64 ((rd_T57 l0 a1).f0),.int .i64 ((rd_T57 l0 a1).f1)]] (by rfl) rfl rfl (by rfl) (z28_) ?_
      with_reducible refine (impl_ringNew_1.calls k ((rd_T57 l0 a2).f0) ((rd_T57 l0 a2).f1) ((rd_T57 l0 a1).f0) ((rd_T57 l0 a1).f1) t191 _ A10.out).mono ?_
      rintro e w16 ⟨rfl,hb⟩
      have HS0_:=(hb.cell (World.block_lt_of_cell? _ _ (hHeld.1))).trans (hHeld.1)
      have HS1_:=(hb.cell (World.block_lt_of_cell? _ _ (hHeld.2.1))).trans (hHeld.2.1)
      have HS2_:=(hb.cell (World.block_lt_of_cell? _ _ (hHeld.2.2.1))).trans (hHeld.2.2.1)
      have HS3_:=(hb.cell (World.block_lt_of_cell? _ _ (hHeld.2.2.2))).trans (hHeld.2.2.2)
      refine ⟨_,rfl,?_⟩
      refine as3_ (IsS3.below (z18_ HI3.out) hb) (KeepBut.trans (z15_ HK.out) (KeepBut.of_below hb g none) (.inl rfl)) (below_step (z14_ HB.out HI3.out) hb) ?_
      clear HI3 HK HB
      intro HI3 HK HB
      (try clear hb)
      refine hK.out _ _ ⟨HS0_,HS1_,HS2_,HS3_⟩ (fun hHeld=>?_)
      clear hK K
      refine nm_ 21 ?_
      refine pu_ 10 22 #[I,I,I,I,I,I,I,I,I,I,I] HT_.out ?_
      refine done_ (done_of HT_.out (by kernel_rfl)) ?_
      try go_wp2
      go_ret2
      exact ⟨z10_,z18_ HI3.out,z14_ HB.out HI3.out,z15_ HK.out⟩
    ·rw [if_neg c9] at H
     exact absurd H (by simp)
   ·rw [if_neg c8] at H
    exact absurd H (by simp)
  ·rw [if_neg c7] at H
   exact absurd H (by simp)
 ·rw [if_neg c6] at H
  exact absurd H (by simp)


/-! ### slices_medianCmpFunc_impl_Token_impl_ringNew_1: function 110 -/
def slices_medianCmpFunc_impl_Token_impl_ringNew_1.f (k:Nat) (l0:List (S57)) (a1:Int) (a2:Int) (a3:Int) (s4_0:Int)  : Option (Int × Int):=(slices_order2CmpFunc_impl_Token_impl_ringNew_1.f k l0 a1 a2 s4_0).bind fun bt192=>((slices_order2CmpFunc_impl_Token_impl_ringNew_1.f k l0 bt192.2.1 a3 bt192.2.2).bind fun bt195=>((slices_order2CmpFunc_impl_Token_impl_ringNew_1.f k l0 bt192.1 bt195.1 bt195.2.2).bind fun bt198=>(some (bt198.2.1,bt198.2.2))))
theorem slices_medianCmpFunc_impl_Token_impl_ringNew_1.mono:∀ a0 a1 a2 a3 a4 k,LeO (slices_medianCmpFunc_impl_Token_impl_ringNew_1.f k a0 a1 a2 a3 a4) (slices_medianCmpFunc_impl_Token_impl_ringNew_1.f (k+1) a0 a1 a2 a3 a4):=by
 intro a0 a1 a2 a3 a4 k
 unfold slices_medianCmpFunc_impl_Token_impl_ringNew_1.f
 repeat' first
   | (with_reducible exact slices_order2CmpFunc_impl_Token_impl_ringNew_1.mono _ _ _ _ _)
   | (with_reducible exact LeO.refl _)
   | (with_reducible exact LeO.none _)
   | (with_reducible refine LeO.ite ?_ ?_)
   | (with_reducible refine LeO.bind ?_ (fun _=>?_))
   | exact slices_order2CmpFunc_impl_Token_impl_ringNew_1.mono _ _ _ _ _
   | exact LeO.none _
   | refine LeO.ite ?_ ?_
   | refine LeO.bind ?_ (fun _=>?_)
set_option maxHeartbeats 8000000 in
set_option maxRecDepth 100000 in
theorem slices_medianCmpFunc_impl_Token_impl_ringNew_1.calls (k:Nat) (A0:Option Addr) (c0:Nat) (l0:List (S57)) (a1:Int) (a2:Int) (a3:Int) (g:Nat) (s4_0:Int)  (r1:Int) (r2:Int) (w0 w:World) (hI:IsS3 w0 w g s4_0) (hB:Below w0.heap.size w0 w) (hr0:∀ W_,KeepBut w W_ g none→Kd.C k57 W_ A0 l0.length l0) (hc0:l0.length≤c0) (h:slices_medianCmpFunc_impl_Token_impl_ringNew_1.f k l0 a1 a2 a3 s4_0=some (r1,r2)) :
  Calls Tryd.prog 110 #[.slice A0 l0.length c0,.int .i64 a1,.int .i64 a2,.int .i64 a3,.pointer (some ⟨g,0,none⟩),.func (.func 67) #[] #[]] w fun e w'=>e = .returned (.int .i64 r1)∧IsS3 w0 w' g r2∧Below w0.heap.size w0 w'∧KeepBut w w' g none:=by
 have HR0:=Aside0.mk hr0
 have HC0:=Aside0.mk hc0
 clear hr0 hc0
 have HI4:=Aside0.mk hI
 have HK:=Aside0.mk (KeepBut.refl w g none)
 have HL:=Aside0.mk hB.size
 clear hI
 have HW0:=Aside0.mk hB.size
 have HB:=Aside0.mk hB
 clear hB
 have H:((slices_order2CmpFunc_impl_Token_impl_ringNew_1.f k l0 a1 a2 s4_0).bind fun bt192=>((slices_order2CmpFunc_impl_Token_impl_ringNew_1.f k l0 bt192.2.1 a3 bt192.2.2).bind fun bt195=>((slices_order2CmpFunc_impl_Token_impl_ringNew_1.f k l0 bt192.1 bt195.1 bt195.2.2).bind fun bt198=>(some (bt198.2.1,bt198.2.2)))))=some (r1,r2):=h
 clear h
 replace H:=Option.bind_eq_some_iff.mp H
 obtain ⟨⟨t192,t193,t194⟩,A70,H⟩:=H
 replace H:((slices_order2CmpFunc_impl_Token_impl_ringNew_1.f k l0 t193 a3 t194).bind fun bt195=>((slices_order2CmpFunc_impl_Token_impl_ringNew_1.f k l0 t192 bt195.1 bt195.2.2).bind fun bt198=>(some (bt198.2.1,bt198.2.2))))=some (r1,r2):=H
 have A7:=Aside0.mk A70
 clear A70
 replace H:=Option.bind_eq_some_iff.mp H
 obtain ⟨⟨t195,t196,t197⟩,A80,H⟩:=H
 replace H:((slices_order2CmpFunc_impl_Token_impl_ringNew_1.f k l0 t192 t195 t197).bind fun bt198=>(some (bt198.2.1,bt198.2.2)))=some (r1,r2):=H
 have A8:=Aside0.mk A80
 clear A80
 replace H:=Option.bind_eq_some_iff.mp H
 obtain ⟨⟨t198,t199,t200⟩,A90,H⟩:=H
 replace H:(some (t199,t200))=some (r1,r2):=H
 have A9:=Aside0.mk A90
 clear A90
 simp only [Option.some.injEq,Prod.mk.injEq] at H
 obtain ⟨rfl,rfl⟩:=H
 go_enter Tryd.func110,Tryd.ntmps110
 go_wp2_with (first | ((with_reducible refine gc_ 115 ?_);refine gl_ (some 19) Tryd.func115 #[.slice A0 l0.length c0,.int .i64 a1,.int .i64 a2,.pointer (some ⟨g,0,none⟩),.func (.func 67) #[] #[]] ?_;(with_reducible refine (slices_order2CmpFunc_impl_Token_impl_ringNew_1.calls k _ _ l0 a1 a2 g s4_0  t192 t193 t194 w0 _ ?s1 ?s2 ?s3 ?s4 A7.out).mono ?_);(case s1=>repeat (first | (with_reducible first | exact HI4.out | apply IsS3.alloc | apply IsS3.drewN | apply IsS3.drew | apply IsS3.set_0) | exact HI4.out));(case s2=>repeat (first | (with_reducible first | exact HB.out | apply below_alloc | apply pw_below_drewN | apply below_drew1 | refine below_set ?_ (IsS3.ge HI4.out)) | exact HB.out));(case s3=>exact Kd.C_foot_step HR0.out (z15_ HK.out));(case s4=>exact HC0.out);rintro e w10 ⟨rfl,hi,hb,hk⟩;refine ⟨_,rfl,?_⟩;refine as3_ (KeepBut.trans (z15_ HK.out) hk (.inl rfl)) (hb) (hi) ?_;clear HK HB HI4;intro HK HB HI4;(try clear hb);(try clear hk);(try clear hi)) | ((with_reducible refine gc_ 115 ?_);refine gl_ (some 28) Tryd.func115 #[.slice A0 l0.length c0,.int .i64 t193,.int .i64 a3,.pointer (some ⟨g,0,none⟩),.func (.func 67) #[] #[]] ?_;(with_reducible refine (slices_order2CmpFunc_impl_Token_impl_ringNew_1.calls k _ _ l0 t193 a3 g t194  t195 t196 t197 w0 _ ?s1 ?s2 ?s3 ?s4 A8.out).mono ?_);(case s1=>repeat (first | (with_reducible first | exact HI4.out | apply IsS3.alloc | apply IsS3.drewN | apply IsS3.drew | apply IsS3.set_0) | exact HI4.out));(case s2=>repeat (first | (with_reducible first | exact HB.out | apply below_alloc | apply pw_below_drewN | apply below_drew1 | refine below_set ?_ (IsS3.ge HI4.out)) | exact HB.out));(case s3=>exact Kd.C_foot_step HR0.out (z15_ HK.out));(case s4=>exact HC0.out);rintro e w11 ⟨rfl,hi,hb,hk⟩;refine ⟨_,rfl,?_⟩;refine as3_ (KeepBut.trans (z15_ HK.out) hk (.inl rfl)) (hb) (hi) ?_;clear HK HB HI4;intro HK HB HI4;(try clear hb);(try clear hk);(try clear hi)) | ((with_reducible refine gc_ 115 ?_);refine gl_ (some 37) Tryd.func115 #[.slice A0 l0.length c0,.int .i64 t192,.int .i64 t195,.pointer (some ⟨g,0,none⟩),.func (.func 67) #[] #[]] ?_;(with_reducible refine (slices_order2CmpFunc_impl_Token_impl_ringNew_1.calls k _ _ l0 t192 t195 g t197  t198 t199 t200 w0 _ ?s1 ?s2 ?s3 ?s4 A9.out).mono ?_);(case s1=>repeat (first | (with_reducible first | exact HI4.out | apply IsS3.alloc | apply IsS3.drewN | apply IsS3.drew | apply IsS3.set_0) | exact HI4.out));(case s2=>repeat (first | (with_reducible first | exact HB.out | apply below_alloc | apply pw_below_drewN | apply below_drew1 | refine below_set ?_ (IsS3.ge HI4.out)) | exact HB.out));(case s3=>exact Kd.C_foot_step HR0.out (z15_ HK.out));(case s4=>exact HC0.out);rintro e w12 ⟨rfl,hi,hb,hk⟩;refine ⟨_,rfl,?_⟩;refine as3_ (KeepBut.trans (z15_ HK.out) hk (.inl rfl)) (hb) (hi) ?_;clear HK HB HI4;intro HK HB HI4;(try clear hb);(try clear hk);(try clear hi)))
 go_ret
 exact ⟨z10_,z18_ HI4.out,z14_ HB.out HI4.out,z15_ HK.out⟩


/-! ### slices_medianAdjacentCmpFunc_impl_Token_impl_ringNew_1: function 109 -/
def slices_medianAdjacentCmpFunc_impl_Token_impl_ringNew_1.f (k:Nat) (l0:List (S57)) (a1:Int) (s2_0:Int)  : Option (Int × Int):=(slices_medianCmpFunc_impl_Token_impl_ringNew_1.f k l0 (wrap64 (a1-1)) a1 (wrap64 (a1+1)) s2_0).bind fun bt201=>(some (bt201.1,bt201.2))
theorem slices_medianAdjacentCmpFunc_impl_Token_impl_ringNew_1.mono:∀ a0 a1 a2 k,LeO (slices_medianAdjacentCmpFunc_impl_Token_impl_ringNew_1.f k a0 a1 a2) (slices_medianAdjacentCmpFunc_impl_Token_impl_ringNew_1.f (k+1) a0 a1 a2):=by
 intro a0 a1 a2 k
 unfold slices_medianAdjacentCmpFunc_impl_Token_impl_ringNew_1.f
 repeat' first
   | (with_reducible exact slices_medianCmpFunc_impl_Token_impl_ringNew_1.mono _ _ _ _ _ _)
   | (with_reducible exact LeO.refl _)
   | (with_reducible exact LeO.none _)
   | (with_reducible refine LeO.ite ?_ ?_)
   | (with_reducible refine LeO.bind ?_ (fun _=>?_))
   | exact slices_medianCmpFunc_impl_Token_impl_ringNew_1.mono _ _ _ _ _ _
   | exact LeO.none _
   | refine LeO.ite ?_ ?_
   | refine LeO.bind ?_ (fun _=>?_)
set_option maxHeartbeats 8000000 in
set_option maxRecDepth 100000 in
theorem slices_medianAdjacentCmpFunc_impl_Token_impl_ringNew_1.calls (k:Nat) (A0:Option Addr) (c0:Nat) (l0:List (S57)) (a1:Int) (g:Nat) (s2_0:Int)  (r1:Int) (r2:Int) (w0 w:World) (hI:IsS3 w0 w g s2_0) (hB:Below w0.heap.size w0 w) (hr0:∀ W_,KeepBut w W_ g none→Kd.C k57 W_ A0 l0.length l0) (hc0:l0.length≤c0) (h:slices_medianAdjacentCmpFunc_impl_Token_impl_ringNew_1.f k l0 a1 s2_0=some (r1,r2)) :
  Calls Tryd.prog 109 #[.slice A0 l0.length c0,.int .i64 a1,.pointer (some ⟨g,0,none⟩),.func (.func 67) #[] #[]] w fun e w'=>e = .returned (.int .i64 r1)∧IsS3 w0 w' g r2∧Below w0.heap.size w0 w'∧KeepBut w w' g none:=by
 have HR0:=Aside0.mk hr0
 have HC0:=Aside0.mk hc0
 clear hr0 hc0
 have HI2:=Aside0.mk hI
 have HK:=Aside0.mk (KeepBut.refl w g none)
 have HL:=Aside0.mk hB.size
 clear hI
 have HW0:=Aside0.mk hB.size
 have HB:=Aside0.mk hB
 clear hB
 have H:((slices_medianCmpFunc_impl_Token_impl_ringNew_1.f k l0 (wrap64 (a1-1)) a1 (wrap64 (a1+1)) s2_0).bind fun bt201=>(some (bt201.1,bt201.2)))=some (r1,r2):=h
 clear h
 replace H:=Option.bind_eq_some_iff.mp H
 obtain ⟨⟨t201,t202⟩,A50,H⟩:=H
 replace H:(some (t201,t202))=some (r1,r2):=H
 have A5:=Aside0.mk A50
 clear A50
 simp only [Option.some.injEq,Prod.mk.injEq] at H
 obtain ⟨rfl,rfl⟩:=H
 go_enter Tryd.func109,Tryd.ntmps109
 go_wp2_with (first | ((with_reducible refine gc_ 110 ?_);refine gl_ (some 17) Tryd.func110 #[.slice A0 l0.length c0,.int .i64 (wrap64 (a1-1)),.int .i64 a1,.int .i64 (wrap64 (a1+1)),.pointer (some ⟨g,0,none⟩),.func (.func 67) #[] #[]] ?_;(with_reducible refine (slices_medianCmpFunc_impl_Token_impl_ringNew_1.calls k _ _ l0 (wrap64 (a1-1)) a1 (wrap64 (a1+1)) g s2_0  t201 t202 w0 _ ?s1 ?s2 ?s3 ?s4 A5.out).mono ?_);(case s1=>repeat (first | (with_reducible first | exact HI2.out | apply IsS3.alloc | apply IsS3.drewN | apply IsS3.drew | apply IsS3.set_0) | exact HI2.out));(case s2=>repeat (first | (with_reducible first | exact HB.out | apply below_alloc | apply pw_below_drewN | apply below_drew1 | refine below_set ?_ (IsS3.ge HI2.out)) | exact HB.out));(case s3=>exact Kd.C_foot_step HR0.out (z15_ HK.out));(case s4=>exact HC0.out);rintro e w6 ⟨rfl,hi,hb,hk⟩;refine ⟨_,rfl,?_⟩;refine as3_ (KeepBut.trans (z15_ HK.out) hk (.inl rfl)) (hb) (hi) ?_;clear HK HB HI2;intro HK HB HI2;(try clear hb);(try clear hk);(try clear hi)))
 go_ret
 exact ⟨z10_,z18_ HI2.out,z14_ HB.out HI2.out,z15_ HK.out⟩


/-! ### slices_choosePivotCmpFunc_impl_Token_impl_ringNew_1: function 94 -/
def slices_choosePivotCmpFunc_impl_Token_impl_ringNew_1.j0:Nat→Int→Int→Option (Int × Int)
 | 0,_,_=>none
 | k+1,x13,x204000=>if x204000=0 then (some (x13,1)) else (if x204000=12 then (some (x13,2)) else (some (x13,0)))
def slices_choosePivotCmpFunc_impl_Token_impl_ringNew_1.f (k:Nat) (l0:List (S57)) (a1:Int) (a2:Int)  : Option (Int × Int):=if (wrap64 (a2-a1))≥8 then (if (wrap64 (a2-a1))≥50 then ((slices_medianAdjacentCmpFunc_impl_Token_impl_ringNew_1.f k l0 (wrap64 (a1+(wrap64 ((wrap64 (Int.tdiv (wrap64 (a2-a1)) 4)))))) 0).bind fun bt204=>((slices_medianAdjacentCmpFunc_impl_Token_impl_ringNew_1.f k l0 (wrap64 (a1+(wrap64 ((wrap64 (Int.tdiv (wrap64 (a2-a1)) 4))*2)))) bt204.2).bind fun bt206=>((slices_medianAdjacentCmpFunc_impl_Token_impl_ringNew_1.f k l0 (wrap64 (a1+(wrap64 ((wrap64 (Int.tdiv (wrap64 (a2-a1)) 4))*3)))) bt206.2).bind fun bt208=>((slices_medianCmpFunc_impl_Token_impl_ringNew_1.f k l0 bt204.1 bt206.1 bt208.1 bt208.2).bind fun bt210=>(slices_choosePivotCmpFunc_impl_Token_impl_ringNew_1.j0 k bt210.1 bt210.2))))) else ((slices_medianCmpFunc_impl_Token_impl_ringNew_1.f k l0 (wrap64 (a1+(wrap64 ((wrap64 (Int.tdiv (wrap64 (a2-a1)) 4)))))) (wrap64 (a1+(wrap64 ((wrap64 (Int.tdiv (wrap64 (a2-a1)) 4))*2)))) (wrap64 (a1+(wrap64 ((wrap64 (Int.tdiv (wrap64 (a2-a1)) 4))*3)))) 0).bind fun bt212=>(slices_choosePivotCmpFunc_impl_Token_impl_ringNew_1.j0 k bt212.1 bt212.2))) else (slices_choosePivotCmpFunc_impl_Token_impl_ringNew_1.j0 k (wrap64 (a1+(wrap64 ((wrap64 (Int.tdiv (wrap64 (a2-a1)) 4))*2)))) 0)
theorem slices_choosePivotCmpFunc_impl_Token_impl_ringNew_1.mono_l:∀ k,(∀ y0 y1,LeO (slices_choosePivotCmpFunc_impl_Token_impl_ringNew_1.j0 k y0 y1) (slices_choosePivotCmpFunc_impl_Token_impl_ringNew_1.j0 (k+1) y0 y1))
 | 0=>fun _ _ r h=>by simp [slices_choosePivotCmpFunc_impl_Token_impl_ringNew_1.j0] at h
 | k+1=>by
  have ih0:=slices_choosePivotCmpFunc_impl_Token_impl_ringNew_1.mono_l k
  ·intro y0 y1
   unfold slices_choosePivotCmpFunc_impl_Token_impl_ringNew_1.j0
   repeat' first
   | (with_reducible exact ih0 _ _)
   | (with_reducible exact slices_medianAdjacentCmpFunc_impl_Token_impl_ringNew_1.mono _ _ _ _)
   | (with_reducible exact slices_medianCmpFunc_impl_Token_impl_ringNew_1.mono _ _ _ _ _ _)
   | (with_reducible exact LeO.refl _)
   | (with_reducible exact LeO.none _)
   | (with_reducible refine LeO.ite ?_ ?_)
   | (with_reducible refine LeO.bind ?_ (fun _=>?_))
   | exact ih0 _ _
   | exact slices_medianAdjacentCmpFunc_impl_Token_impl_ringNew_1.mono _ _ _ _
   | exact slices_medianCmpFunc_impl_Token_impl_ringNew_1.mono _ _ _ _ _ _
   | exact LeO.none _
   | refine LeO.ite ?_ ?_
   | refine LeO.bind ?_ (fun _=>?_)
theorem slices_choosePivotCmpFunc_impl_Token_impl_ringNew_1.mono:∀ a0 a1 a2 k,LeO (slices_choosePivotCmpFunc_impl_Token_impl_ringNew_1.f k a0 a1 a2) (slices_choosePivotCmpFunc_impl_Token_impl_ringNew_1.f (k+1) a0 a1 a2):=by
 intro a0 a1 a2 k
 have ih0:=slices_choosePivotCmpFunc_impl_Token_impl_ringNew_1.mono_l k
 unfold slices_choosePivotCmpFunc_impl_Token_impl_ringNew_1.f
 repeat' first
   | (with_reducible exact ih0 _ _)
   | (with_reducible exact slices_medianAdjacentCmpFunc_impl_Token_impl_ringNew_1.mono _ _ _ _)
   | (with_reducible exact slices_medianCmpFunc_impl_Token_impl_ringNew_1.mono _ _ _ _ _ _)
   | (with_reducible exact LeO.refl _)
   | (with_reducible exact LeO.none _)
   | (with_reducible refine LeO.ite ?_ ?_)
   | (with_reducible refine LeO.bind ?_ (fun _=>?_))
   | exact ih0 _ _
   | exact slices_medianAdjacentCmpFunc_impl_Token_impl_ringNew_1.mono _ _ _ _
   | exact slices_medianCmpFunc_impl_Token_impl_ringNew_1.mono _ _ _ _ _ _
   | exact LeO.none _
   | refine LeO.ite ?_ ?_
   | refine LeO.bind ?_ (fun _=>?_)
set_option maxHeartbeats 8000000 in
set_option maxRecDepth 100000 in
theorem slices_choosePivotCmpFunc_impl_Token_impl_ringNew_1.calls (k:Nat) (A0:Option Addr) (c0:Nat) (l0:List (S57)) (a1:Int) (a2:Int)  (r1:Int) (r2:Int) (w:World) (hr0:Kd.C k57 w A0 l0.length l0) (hc0:l0.length≤c0) (h:slices_choosePivotCmpFunc_impl_Token_impl_ringNew_1.f k l0 a1 a2=some (r1,r2)) :
  Calls Tryd.prog 94 #[.slice A0 l0.length c0,.int .i64 a1,.int .i64 a2,.func (.func 67) #[] #[]] w fun e w'=>e = .returned (.tuple #[.int .i64 r1,.int .i64 r2])∧Below w.heap.size w w':=by
 have HR0:=Aside0.mk hr0
 have HC0:=Aside0.mk hc0
 clear hr0 hc0
 have HB:=Aside0.mk (Below.refl w.heap.size w)
 have H:(if (wrap64 (a2-a1))≥8 then (if (wrap64 (a2-a1))≥50 then ((slices_medianAdjacentCmpFunc_impl_Token_impl_ringNew_1.f k l0 (wrap64 (a1+(wrap64 ((wrap64 (Int.tdiv (wrap64 (a2-a1)) 4)))))) 0).bind fun bt204=>((slices_medianAdjacentCmpFunc_impl_Token_impl_ringNew_1.f k l0 (wrap64 (a1+(wrap64 ((wrap64 (Int.tdiv (wrap64 (a2-a1)) 4))*2)))) bt204.2).bind fun bt206=>((slices_medianAdjacentCmpFunc_impl_Token_impl_ringNew_1.f k l0 (wrap64 (a1+(wrap64 ((wrap64 (Int.tdiv (wrap64 (a2-a1)) 4))*3)))) bt206.2).bind fun bt208=>((slices_medianCmpFunc_impl_Token_impl_ringNew_1.f k l0 bt204.1 bt206.1 bt208.1 bt208.2).bind fun bt210=>(slices_choosePivotCmpFunc_impl_Token_impl_ringNew_1.j0 k bt210.1 bt210.2))))) else ((slices_medianCmpFunc_impl_Token_impl_ringNew_1.f k l0 (wrap64 (a1+(wrap64 ((wrap64 (Int.tdiv (wrap64 (a2-a1)) 4)))))) (wrap64 (a1+(wrap64 ((wrap64 (Int.tdiv (wrap64 (a2-a1)) 4))*2)))) (wrap64 (a1+(wrap64 ((wrap64 (Int.tdiv (wrap64 (a2-a1)) 4))*3)))) 0).bind fun bt212=>(slices_choosePivotCmpFunc_impl_Token_impl_ringNew_1.j0 k bt212.1 bt212.2))) else (slices_choosePivotCmpFunc_impl_Token_impl_ringNew_1.j0 k (wrap64 (a1+(wrap64 ((wrap64 (Int.tdiv (wrap64 (a2-a1)) 4))*2)))) 0))=some (r1,r2):=h
 clear h
 have HC5:=Aside0.mk H
 clear H
 go_enter Tryd.func94,Tryd.ntmps94
 go_upto_if 34 with (first | ((with_reducible refine gd_ 11 ?_);refine be_ 11 #[.int .i64 0] 3 ?_;intro gb203 hg w6 hbox hb;refine as4_ (below_step (z3_ HB.out) hb) ((show IsS3 w w6 gb203 0 from ⟨hbox,(z8_ HB.out:w.heap.size≤gb203)⟩)) ((z8_ HB.out:w.heap.size≤gb203)) ((z8_ HB.out:w.heap.size≤gb203)) ?_;clear HB;intro HB HI203 GW203 GE203;clear hb hbox hg))
 (try simp only [Act.put,sa_,s0_,ss_])
 go_cut [13] (fun v13 wc=>∃ (kq:Nat) (x13_4:Int) (x204000_4:Int),v13 = .int .i64 x13_4∧Aside0 (slices_choosePivotCmpFunc_impl_Token_impl_ringNew_1.j0 kq x13_4 x204000_4=some (r1,r2))∧Aside0 (kq≤k)∧Aside0 (IsS3 w wc gb203 x204000_4)∧Aside0 (Below w.heap.size w wc))
 case first =>
  have H:=HC5.out
  clear HC5
  by_cases c7:(wrap64 (a2-a1))≥8
  ·rw [if_pos c7] at H
   have c7b0:decide (8≤(wrap64 (a2-a1)))=true:=decide_eq_true c7
   clear c7
   (first | rw [c7b0] | (simp only [i64_w,i32_w];rw [c7b0]) | skip)
   by_cases c8:(wrap64 (a2-a1))≥50
   ·rw [if_pos c8] at H
    have c8b0:decide (50≤(wrap64 (a2-a1)))=true:=decide_eq_true c8
    clear c8
    replace H:=Option.bind_eq_some_iff.mp H
    obtain ⟨⟨t204,t205⟩,A90,H⟩:=H
    replace H:((slices_medianAdjacentCmpFunc_impl_Token_impl_ringNew_1.f k l0 (wrap64 (a1+(wrap64 ((wrap64 (Int.tdiv (wrap64 (a2-a1)) 4))*2)))) t205).bind fun bt206=>((slices_medianAdjacentCmpFunc_impl_Token_impl_ringNew_1.f k l0 (wrap64 (a1+(wrap64 ((wrap64 (Int.tdiv (wrap64 (a2-a1)) 4))*3)))) bt206.2).bind fun bt208=>((slices_medianCmpFunc_impl_Token_impl_ringNew_1.f k l0 t204 bt206.1 bt208.1 bt208.2).bind fun bt210=>(slices_choosePivotCmpFunc_impl_Token_impl_ringNew_1.j0 k bt210.1 bt210.2))))=some (r1,r2):=H
    have A9:=Aside0.mk A90
    clear A90
    replace H:=Option.bind_eq_some_iff.mp H
    obtain ⟨⟨t206,t207⟩,A100,H⟩:=H
    replace H:((slices_medianAdjacentCmpFunc_impl_Token_impl_ringNew_1.f k l0 (wrap64 (a1+(wrap64 ((wrap64 (Int.tdiv (wrap64 (a2-a1)) 4))*3)))) t207).bind fun bt208=>((slices_medianCmpFunc_impl_Token_impl_ringNew_1.f k l0 t204 t206 bt208.1 bt208.2).bind fun bt210=>(slices_choosePivotCmpFunc_impl_Token_impl_ringNew_1.j0 k bt210.1 bt210.2)))=some (r1,r2):=H
    have A10:=Aside0.mk A100
    clear A100
    replace H:=Option.bind_eq_some_iff.mp H
    obtain ⟨⟨t208,t209⟩,A110,H⟩:=H
    replace H:((slices_medianCmpFunc_impl_Token_impl_ringNew_1.f k l0 t204 t206 t208 t209).bind fun bt210=>(slices_choosePivotCmpFunc_impl_Token_impl_ringNew_1.j0 k bt210.1 bt210.2))=some (r1,r2):=H
    have A11:=Aside0.mk A110
    clear A110
    replace H:=Option.bind_eq_some_iff.mp H
    obtain ⟨⟨t210,t211⟩,A120,H⟩:=H
    replace H:(slices_choosePivotCmpFunc_impl_Token_impl_ringNew_1.j0 k t210 t211)=some (r1,r2):=H
    have A12:=Aside0.mk A120
    clear A120
    have H':=Aside0.mk H
    clear H
    go_wp2_with (first | ((with_reducible refine gc_ 109 ?_);refine gl_ (some 40) Tryd.func109 #[.slice A0 l0.length c0,.int .i64 (wrap64 (a1+(wrap64 ((wrap64 (Int.tdiv (wrap64 (a2-a1)) 4)))))),.pointer (some ⟨gb203,0,none⟩),.func (.func 67) #[] #[]] ?_;(with_reducible refine (slices_medianAdjacentCmpFunc_impl_Token_impl_ringNew_1.calls k _ _ l0 (wrap64 (a1+(wrap64 ((wrap64 (Int.tdiv (wrap64 (a2-a1)) 4)))))) gb203 0  t204 t205 w _ ?s1 ?s2 ?s3 ?s4 A9.out).mono ?_);(case s1=>repeat (first | (with_reducible first | exact HI203.out | apply IsS3.alloc | apply IsS3.drewN | apply IsS3.drew | apply IsS3.set_0) | exact HI203.out));(case s2=>repeat (first | (with_reducible first | exact HB.out | apply below_alloc | apply pw_below_drewN | apply below_drew1 | refine below_set ?_ (IsS3.ge HI203.out)) | exact HB.out));(case s3=>exact Kd.C_foot_came k57_heap HR0.out (z14_ HB.out HI203.out) (IsS3.ge HI203.out));(case s4=>exact HC0.out);rintro e w13 ⟨rfl,hi,hb,hk⟩;refine ⟨_,rfl,?_⟩;refine as2_ (hb) (hi) ?_;clear HB HI203;intro HB HI203;(try clear hb);(try clear hk);(try clear hi)) | ((with_reducible refine gc_ 109 ?_);refine gl_ (some 44) Tryd.func109 #[.slice A0 l0.length c0,.int .i64 (wrap64 (a1+(wrap64 ((wrap64 (Int.tdiv (wrap64 (a2-a1)) 4))*2)))),.pointer (some ⟨gb203,0,none⟩),.func (.func 67) #[] #[]] ?_;(with_reducible refine (slices_medianAdjacentCmpFunc_impl_Token_impl_ringNew_1.calls k _ _ l0 (wrap64 (a1+(wrap64 ((wrap64 (Int.tdiv (wrap64 (a2-a1)) 4))*2)))) gb203 t205  t206 t207 w _ ?s1 ?s2 ?s3 ?s4 A10.out).mono ?_);(case s1=>repeat (first | (with_reducible first | exact HI203.out | apply IsS3.alloc | apply IsS3.drewN | apply IsS3.drew | apply IsS3.set_0) | exact HI203.out));(case s2=>repeat (first | (with_reducible first | exact HB.out | apply below_alloc | apply pw_below_drewN | apply below_drew1 | refine below_set ?_ (IsS3.ge HI203.out)) | exact HB.out));(case s3=>exact Kd.C_foot_came k57_heap HR0.out (z14_ HB.out HI203.out) (IsS3.ge HI203.out));(case s4=>exact HC0.out);rintro e w14 ⟨rfl,hi,hb,hk⟩;refine ⟨_,rfl,?_⟩;refine as2_ (hb) (hi) ?_;clear HB HI203;intro HB HI203;(try clear hb);(try clear hk);(try clear hi)) | ((with_reducible refine gc_ 109 ?_);refine gl_ (some 48) Tryd.func109 #[.slice A0 l0.length c0,.int .i64 (wrap64 (a1+(wrap64 ((wrap64 (Int.tdiv (wrap64 (a2-a1)) 4))*3)))),.pointer (some ⟨gb203,0,none⟩),.func (.func 67) #[] #[]] ?_;(with_reducible refine (slices_medianAdjacentCmpFunc_impl_Token_impl_ringNew_1.calls k _ _ l0 (wrap64 (a1+(wrap64 ((wrap64 (Int.tdiv (wrap64 (a2-a1)) 4))*3)))) gb203 t207  t208 t209 w _ ?s1 ?s2 ?s3 ?s4 A11.out).mono ?_);(case s1=>repeat (first | (with_reducible first | exact HI203.out | apply IsS3.alloc | apply IsS3.drewN | apply IsS3.drew | apply IsS3.set_0) | exact HI203.out));(case s2=>repeat (first | (with_reducible first | exact HB.out | apply below_alloc | apply pw_below_drewN | apply below_drew1 | refine below_set ?_ (IsS3.ge HI203.out)) | exact HB.out));(case s3=>exact Kd.C_foot_came k57_heap HR0.out (z14_ HB.out HI203.out) (IsS3.ge HI203.out));(case s4=>exact HC0.out);rintro e w15 ⟨rfl,hi,hb,hk⟩;refine ⟨_,rfl,?_⟩;refine as2_ (hb) (hi) ?_;clear HB HI203;intro HB HI203;(try clear hb);(try clear hk);(try clear hi)) | ((with_reducible refine gc_ 110 ?_);refine gl_ (some 54) Tryd.func110 #[.slice A0 l0.length c0,.int .i64 t204,.int .i64 t206,.int .i64 t208,.pointer (some ⟨gb203,0,none⟩),.func (.func 67) #[] #[]] ?_;(with_reducible refine (slices_medianCmpFunc_impl_Token_impl_ringNew_1.calls k _ _ l0 t204 t206 t208 gb203 t209  t210 t211 w _ ?s1 ?s2 ?s3 ?s4 A12.out).mono ?_);(case s1=>repeat (first | (with_reducible first | exact HI203.out | apply IsS3.alloc | apply IsS3.drewN | apply IsS3.drew | apply IsS3.set_0) | exact HI203.out));(case s2=>repeat (first | (with_reducible first | exact HB.out | apply below_alloc | apply pw_below_drewN | apply below_drew1 | refine below_set ?_ (IsS3.ge HI203.out)) | exact HB.out));(case s3=>exact Kd.C_foot_came k57_heap HR0.out (z14_ HB.out HI203.out) (IsS3.ge HI203.out));(case s4=>exact HC0.out);rintro e w16 ⟨rfl,hi,hb,hk⟩;refine ⟨_,rfl,?_⟩;refine as2_ (hb) (hi) ?_;clear HB HI203;intro HB HI203;(try clear hb);(try clear hk);(try clear hi)))
    go_meet
    case rel=>exact ⟨_,(t210),(t211),(z1_),H',⟨by first | omega | exact Nat.le_refl _⟩,⟨z18_ HI203.out⟩,⟨z14_ HB.out HI203.out⟩⟩
   ·rw [if_neg c8] at H
    have c8b0:decide (50≤(wrap64 (a2-a1)))=false:=decide_eq_false c8
    clear c8
    replace H:=Option.bind_eq_some_iff.mp H
    obtain ⟨⟨t212,t213⟩,A170,H⟩:=H
    replace H:(slices_choosePivotCmpFunc_impl_Token_impl_ringNew_1.j0 k t212 t213)=some (r1,r2):=H
    have A17:=Aside0.mk A170
    clear A170
    have H':=Aside0.mk H
    clear H
    go_wp2_with (first | ((with_reducible refine gc_ 110 ?_);refine gl_ (some 54) Tryd.func110 #[.slice A0 l0.length c0,.int .i64 (wrap64 (a1+(wrap64 ((wrap64 (Int.tdiv (wrap64 (a2-a1)) 4)))))),.int .i64 (wrap64 (a1+(wrap64 ((wrap64 (Int.tdiv (wrap64 (a2-a1)) 4))*2)))),.int .i64 (wrap64 (a1+(wrap64 ((wrap64 (Int.tdiv (wrap64 (a2-a1)) 4))*3)))),.pointer (some ⟨gb203,0,none⟩),.func (.func 67) #[] #[]] ?_;(with_reducible refine (slices_medianCmpFunc_impl_Token_impl_ringNew_1.calls k _ _ l0 (wrap64 (a1+(wrap64 ((wrap64 (Int.tdiv (wrap64 (a2-a1)) 4)))))) (wrap64 (a1+(wrap64 ((wrap64 (Int.tdiv (wrap64 (a2-a1)) 4))*2)))) (wrap64 (a1+(wrap64 ((wrap64 (Int.tdiv (wrap64 (a2-a1)) 4))*3)))) gb203 0  t212 t213 w _ ?s1 ?s2 ?s3 ?s4 A17.out).mono ?_);(case s1=>repeat (first | (with_reducible first | exact HI203.out | apply IsS3.alloc | apply IsS3.drewN | apply IsS3.drew | apply IsS3.set_0) | exact HI203.out));(case s2=>repeat (first | (with_reducible first | exact HB.out | apply below_alloc | apply pw_below_drewN | apply below_drew1 | refine below_set ?_ (IsS3.ge HI203.out)) | exact HB.out));(case s3=>exact Kd.C_foot_came k57_heap HR0.out (z14_ HB.out HI203.out) (IsS3.ge HI203.out));(case s4=>exact HC0.out);rintro e w18 ⟨rfl,hi,hb,hk⟩;refine ⟨_,rfl,?_⟩;refine as2_ (hb) (hi) ?_;clear HB HI203;intro HB HI203;(try clear hb);(try clear hk);(try clear hi)))
    go_meet
    case rel=>exact ⟨_,(t212),(t213),(z1_),H',⟨by first | omega | exact Nat.le_refl _⟩,⟨z18_ HI203.out⟩,⟨z14_ HB.out HI203.out⟩⟩
  ·rw [if_neg c7] at H
   have c7b0:decide (8≤(wrap64 (a2-a1)))=false:=decide_eq_false c7
   clear c7
   (first | rw [c7b0] | (simp only [i64_w,i32_w];rw [c7b0]) | skip)
   have H':=Aside0.mk H
   clear H
   go_wp2
   go_meet
   case rel=>exact ⟨_,(wrap64 (a1+(wrap64 ((wrap64 (Int.tdiv (wrap64 (a2-a1)) 4))*2)))),(0),(z1_),H',⟨by first | omega | exact Nat.le_refl _⟩,⟨z18_ HI203.out⟩,⟨z14_ HB.out HI203.out⟩⟩
 case rest =>
  clear HC5
  try clear p2
  try clear p6
  try clear c7
  try clear c7b0
  try clear c8
  try clear c8b0
  obtain ⟨kq,x13_4,x204000_4,rfl,HA,HJ4,HI203,HB⟩:=hcut
  cases kq with
  | zero=>exact absurd HA.out (by simp [slices_choosePivotCmpFunc_impl_Token_impl_ringNew_1.j0])
  | succ kj4 =>
   have H:=HA.out
   clear HA
   simp only [slices_choosePivotCmpFunc_impl_Token_impl_ringNew_1.j0] at H
   by_cases c19:x204000_4=0
   ·rw [if_pos c19] at H
    have c19b0:(x204000_4 == 0)=true:=beq_iff_eq.mpr c19
    have c19b1:(x204000_4 != 0)=false:=bne_eq_false_iff_eq.mpr c19
    clear c19
    simp only [Option.some.injEq,Prod.mk.injEq] at H
    obtain ⟨rfl,rfl⟩:=H
    obtain ⟨HGz20,hgz20⟩:=HI203.out
    have hcz20_0:=cellS3_0 HGz20
    have hfz20_0:=blk_frozen HGz20 0
    clear HGz20 hgz20
    go_wp2
    go_ret2
    exact ⟨z10_,z14_ HB.out HI203.out⟩
   ·rw [if_neg c19] at H
    have c19b0:(x204000_4 == 0)=false:=beq_eq_false_iff_ne.mpr c19
    have c19b1:(x204000_4 != 0)=true:=bne_iff_ne.mpr c19
    by_cases c21:x204000_4=12
    ·rw [if_pos c21] at H
     have c21b0:(x204000_4 == 12)=true:=beq_iff_eq.mpr c21
     have c21b1:(x204000_4 != 12)=false:=bne_eq_false_iff_eq.mpr c21
     clear c21
     simp only [Option.some.injEq,Prod.mk.injEq] at H
     obtain ⟨rfl,rfl⟩:=H
     obtain ⟨HGz22,hgz22⟩:=HI203.out
     have hcz22_0:=cellS3_0 HGz22
     have hfz22_0:=blk_frozen HGz22 0
     clear HGz22 hgz22
     go_wp2
     go_ret2
     exact ⟨z10_,z14_ HB.out HI203.out⟩
    ·rw [if_neg c21] at H
     have c21b0:(x204000_4 == 12)=false:=beq_eq_false_iff_ne.mpr c21
     have c21b1:(x204000_4 != 12)=true:=bne_iff_ne.mpr c21
     simp only [Option.some.injEq,Prod.mk.injEq] at H
     obtain ⟨rfl,rfl⟩:=H
     obtain ⟨HGz23,hgz23⟩:=HI203.out
     have hcz23_0:=cellS3_0 HGz23
     have hfz23_0:=blk_frozen HGz23 0
     clear HGz23 hgz23
     go_wp2
     go_ret2
     exact ⟨z10_,z14_ HB.out HI203.out⟩


/-! ### slices_reverseRangeCmpFunc_impl_Token_impl_ringNew_1: function 95 -/
def slices_reverseRangeCmpFunc_impl_Token_impl_ringNew_1.f (l0:List (S57)) (a1:Int) (a2:Int)  : Option (Unit):=none
set_option maxHeartbeats 8000000 in
set_option maxRecDepth 100000 in
theorem slices_reverseRangeCmpFunc_impl_Token_impl_ringNew_1.calls (A0:Option Addr) (c0:Nat) (l0:List (S57)) (a1:Int) (a2:Int)  (w:World) (hr0:Kd.C k57 w A0 l0.length l0) (hc0:l0.length≤c0) (h:slices_reverseRangeCmpFunc_impl_Token_impl_ringNew_1.f l0 a1 a2=some ()) :
  Calls Tryd.prog 95 #[.slice A0 l0.length c0,.int .i64 a1,.int .i64 a2,.func (.func 67) #[] #[]] w fun e w'=>e = .returned (.tuple #[])∧Drawn0 w w':=by
 have HR0:=Aside0.mk hr0
 have HC0:=Aside0.mk hc0
 clear hr0 hc0
 have H:(none)=some ():=h
 clear h
 exact absurd H (by simp)


/-! ### slices_partialInsertionSortCmpFunc_impl_Token_impl_ringNew_1: function 96 -/
def slices_partialInsertionSortCmpFunc_impl_Token_impl_ringNew_1.f (l0:List (S57)) (a1:Int) (a2:Int)  : Option (Bool):=none
set_option maxHeartbeats 8000000 in
set_option maxRecDepth 100000 in
theorem slices_partialInsertionSortCmpFunc_impl_Token_impl_ringNew_1.calls (A0:Option Addr) (c0:Nat) (l0:List (S57)) (a1:Int) (a2:Int)  (r:Bool) (w:World) (hr0:Kd.C k57 w A0 l0.length l0) (hc0:l0.length≤c0) (h:slices_partialInsertionSortCmpFunc_impl_Token_impl_ringNew_1.f l0 a1 a2=some r) :
  Calls Tryd.prog 96 #[.slice A0 l0.length c0,.int .i64 a1,.int .i64 a2,.func (.func 67) #[] #[]] w fun e w'=>e = .returned (.bool r)∧Drawn0 w w':=by
 have HR0:=Aside0.mk hr0
 have HC0:=Aside0.mk hc0
 clear hr0 hc0
 have H:(none)=some r:=h
 clear h
 exact absurd H (by simp)


/-! ### slices_partitionEqualCmpFunc_impl_Token_impl_ringNew_1: function 97 -/
def slices_partitionEqualCmpFunc_impl_Token_impl_ringNew_1.f (l0:List (S57)) (a1:Int) (a2:Int) (a3:Int)  : Option (Int):=none
set_option maxHeartbeats 8000000 in
set_option maxRecDepth 100000 in
theorem slices_partitionEqualCmpFunc_impl_Token_impl_ringNew_1.calls (A0:Option Addr) (c0:Nat) (l0:List (S57)) (a1:Int) (a2:Int) (a3:Int)  (r:Int) (w:World) (hr0:Kd.C k57 w A0 l0.length l0) (hc0:l0.length≤c0) (h:slices_partitionEqualCmpFunc_impl_Token_impl_ringNew_1.f l0 a1 a2 a3=some r) :
  Calls Tryd.prog 97 #[.slice A0 l0.length c0,.int .i64 a1,.int .i64 a2,.int .i64 a3,.func (.func 67) #[] #[]] w fun e w'=>e = .returned (.int .i64 r)∧Drawn0 w w':=by
 have HR0:=Aside0.mk hr0
 have HC0:=Aside0.mk hc0
 clear hr0 hc0
 have H:(none)=some r:=h
 clear h
 exact absurd H (by simp)

end Go.Proofs.YtdogendcjmgnnaaDoor.P
