/- For all sets, marks, nodes, data and flags the program's SetPut and the reference's return the same, of its own memory, and leave what they are given. No condition. (Part 3 of 4: written by programs of this workplace and by hand, merged.) -/
import Derived.Test.YtphbgcfpcadabaaMFnExactSetPuta
import Derived.Test.YtphbgcfpcadabaaMFnExactSetPutb
set_option linter.unusedVariables false
set_option linter.unusedSimpArgs false

namespace Go.Proofs.Ytphbgcfpcadabaa.P
open Go.RowKit Go.Proofs.YtphbgcfpcadabaaW.PrintWords Go.Proofs.YtphbgcfpcadabaaW.PrintLast Go.Proofs.YtphbgcfpcadabaaW.PrintMore
attribute [local go_sem] max2_int min2_int max_two min_two max_three min_three max_four min_four   -- for this text's walks alone
set_option linter.unusedVariables false
set_option linter.unusedSimpArgs false

/-! ### impl_isNode: function 86 -/
def impl_isNode.f (a0:Int):Option (Bool):=(impl_within.f a0 1 5).bind fun t262=>(some t262)
set_option maxHeartbeats 8000000 in
set_option maxRecDepth 100000 in
theorem impl_isNode.calls (a0:Int) (r:Bool) (w:World) (h:impl_isNode.f a0=some r) :
  Calls Try.prog 86 #[.int .i64 a0] w fun e w'=>e = .returned (.bool r)∧Drawn0 w w':=by
 have H:((impl_within.f a0 1 5).bind fun t262=>(some t262))=some r:=h
 clear h
 replace H:=Option.bind_eq_some_iff.mp H
 obtain ⟨t262,A20,H⟩:=H
 replace H:(some t262)=some r:=H
 have A2:=Aside0.mk A20
 clear A20
 obtain rfl:=Option.some.inj H
 go_enter Try.func86,Try.ntmps86
 go_wp2_with (first | ((with_reducible refine gc_ 41 ?_);refine gl_ (some 4) Try.func41 #[.int .i64 a0,.int .i64 1,.int .i64 5] ?_;(with_reducible refine (impl_within.calls a0 1 5 t262 _ A2.out).mono ?_);rintro e w' ⟨rfl,⟨nd,rfl⟩⟩;refine ⟨_,rfl,?_⟩))
 go_ret
 exact ⟨z2_,z11_⟩


/-! ### impl_isDot: function 88 -/
def impl_isDot.f (a0_0:Int) (a0_1:Int):Option (Bool):=(impl_isNode.f a0_0).bind fun t264=>(if t264=true then ((impl_within.f a0_1 1 1000000).bind fun t265=>(some t265)) else (some false))
set_option maxHeartbeats 8000000 in
set_option maxRecDepth 100000 in
theorem impl_isDot.calls (a0_0:Int) (a0_1:Int) (r:Bool) (w:World) (h:impl_isDot.f a0_0 a0_1=some r) :
  Calls Try.prog 88 #[.agg #[.int .i64 a0_0,.int .i64 a0_1]] w fun e w'=>e = .returned (.bool r)∧Below w.heap.size w w':=by
 have hu56:=Try.underlying56
 have HB:=Aside0.mk (Below.refl w.heap.size w)
 have H:((impl_isNode.f a0_0).bind fun t264=>(if t264=true then ((impl_within.f a0_1 1 1000000).bind fun t265=>(some t265)) else (some false)))=some r:=h
 clear h
 replace H:=Option.bind_eq_some_iff.mp H
 obtain ⟨t264,A20,H⟩:=H
 replace H:(if t264=true then ((impl_within.f a0_1 1 1000000).bind fun t265=>(some t265)) else (some false))=some r:=H
 have A2:=Aside0.mk A20
 clear A20
 by_cases c3:t264=true
 ·subst c3
  have H1:((impl_within.f a0_1 1 1000000).bind fun t265=>(some t265))=some r:=by rw [if_pos rfl] at H;exact H
  clear H
  have H:=H1
  clear H1
  replace H:=Option.bind_eq_some_iff.mp H
  obtain ⟨t265,A40,H⟩:=H
  replace H:(some t265)=some r:=H
  have A4:=Aside0.mk A40
  clear A40
  obtain rfl:=Option.some.inj H
  go_enter Try.func88,Try.ntmps88
  go_wp2_with (first | ((with_reducible refine gd_ 1 ?_);refine be_ 1 #[.int .i64 a0_0,.int .i64 a0_1] 56 ?_;intro gb263 hg w5 hbox hb;refine as4_ (below_step (z3_ HB.out) hb) (hbox) ((z7_ HB.out:w.heap.size≤gb263)) ((z7_ HB.out:w.heap.size≤gb263)) ?_;clear HB;intro HB BK263 GW263 GE263;clear hb hbox hg;have ⟨hcz6_0,hcz6_1,hfz6_0,hfz6_1⟩:=cz2_ BK263.out) | ((with_reducible refine gc_ 86 ?_);refine gl_ (some 5) Try.func86 #[.int .i64 a0_0] ?_;(with_reducible refine (impl_isNode.calls a0_0 true _ A2.out).mono ?_);rintro e w' ⟨rfl,⟨nd,rfl⟩⟩;refine ⟨_,rfl,?_⟩) | (go_at_call 41;(with_reducible refine (impl_within.calls a0_1 1 1000000 t265 _ A4.out).mono ?_);rintro e w' ⟨rfl,⟨nd,rfl⟩⟩))
  go_ret
  exact ⟨z8_,z6_ HB.out GE263.out⟩
 ·replace c3:=Bool.eq_false_iff.mpr c3
  subst c3
  have H1:(some false)=some r:=by rw [if_neg (show ¬ (false=true) by decide)] at H;exact H
  clear H
  have H:=H1
  clear H1
  obtain rfl:=Option.some.inj H
  go_enter Try.func88,Try.ntmps88
  go_wp2_with (first | ((with_reducible refine gd_ 1 ?_);refine be_ 1 #[.int .i64 a0_0,.int .i64 a0_1] 56 ?_;intro gb263 hg w7 hbox hb;refine as4_ (below_step (z3_ HB.out) hb) (hbox) ((z7_ HB.out:w.heap.size≤gb263)) ((z7_ HB.out:w.heap.size≤gb263)) ?_;clear HB;intro HB BK263 GW263 GE263;clear hb hbox hg;have ⟨hcz8_0,hcz8_1,hfz8_0,hfz8_1⟩:=cz2_ BK263.out) | ((with_reducible refine gc_ 86 ?_);refine gl_ (some 5) Try.func86 #[.int .i64 a0_0] ?_;(with_reducible refine (impl_isNode.calls a0_0 false _ A2.out).mono ?_);rintro e w' ⟨rfl,⟨nd,rfl⟩⟩;refine ⟨_,rfl,?_⟩))
  go_ret
  exact ⟨z8_,z6_ HB.out GE263.out⟩


/-! ### impl_seenRight: function 87 -/
def impl_seenRight.l0:Nat→List (S56)→List (S56)→Int→Int→Option (Bool)
 | 0,_,_,_,_=>none
 | k+1,x0,x5,x6,x7=>if x7<x6 then (if 0≤x7 then (if x7<(x5.length:Int) then ((impl_isDot.f ((rd_T56 x5 x7).f0) ((rd_T56 x5 x7).f1)).bind fun t268=>(if t268=true then (if x7>0 then (if 0≤(wrap64 (x7-1)) then (if (wrap64 (x7-1))<(x0.length:Int) then (if ((rd_T56 x0 (wrap64 (x7-1))).f0)≥((rd_T56 x5 x7).f0) then (some false) else (impl_seenRight.l0 k x0 x5 x6 (wrap64 (x7+1)))) else (none)) else (none)) else (impl_seenRight.l0 k x0 x5 x6 (wrap64 (x7+1)))) else (some false))) else (none)) else (none)) else (some true)
def impl_seenRight.f (k:Nat) (l0:List (S56)):Option (Bool):=impl_seenRight.l0 k l0 l0 (l0.length:Int) 0
theorem impl_seenRight.mono_l:∀ k,(∀ y0 y1 y2 y3,LeO (impl_seenRight.l0 k y0 y1 y2 y3) (impl_seenRight.l0 (k+1) y0 y1 y2 y3))
 | 0=>fun _ _ _ _ r h=>by simp [impl_seenRight.l0] at h
 | k+1=>by
  have ih0:=impl_seenRight.mono_l k
  ·intro y0 y1 y2 y3
   unfold impl_seenRight.l0
   repeat' first
   | (with_reducible exact ih0 _ _ _ _)
   | (with_reducible exact LeO.refl _)
   | (with_reducible exact LeO.none _)
   | (with_reducible refine LeO.ite ?_ ?_)
   | (with_reducible refine LeO.bind ?_ (fun _=>?_))
   | exact ih0 _ _ _ _
   | exact LeO.none _
   | refine LeO.ite ?_ ?_
   | refine LeO.bind ?_ (fun _=>?_)
theorem impl_seenRight.mono:∀ a0 k,LeO (impl_seenRight.f k a0) (impl_seenRight.f (k+1) a0):=by
 intro a0 k
 have ih0:=impl_seenRight.mono_l k
 unfold impl_seenRight.f
 repeat' first
   | (with_reducible exact ih0 _ _ _ _)
   | (with_reducible exact LeO.refl _)
   | (with_reducible exact LeO.none _)
   | (with_reducible refine LeO.ite ?_ ?_)
   | (with_reducible refine LeO.bind ?_ (fun _=>?_))
   | exact ih0 _ _ _ _
   | exact LeO.none _
   | refine LeO.ite ?_ ?_
   | refine LeO.bind ?_ (fun _=>?_)
def impl_seenRight.T4:Bool × List (List Nat × List Nat):=(true,[([],[]),([0],[0]),([1],[1]),([2,1],[2]),([3],[3]),([4,3],[3,4]),([5,3,3],[3,5]),([6],[6]),([6],[6]),([8,6],[6,8]),([7,9,6],[6,7,9]),([10,6],[6,10]),([11,6],[6,11]),([6],[6]),([13,6],[6,13]),([12,14,6],[6,12,14]),([6,15,3],[3,6,15]),([3,16],[3,16])])
def impl_seenRight.B4:List Nat:=[0,1,3,7,15,31,63,127,127,383,1023,2047,4095,127,8319,32767,65535,131071]
theorem impl_seenRight.tab4:rtab .any (opsOf Try.f87 4)=impl_seenRight.T4:=by kernel_rfl
theorem impl_seenRight.bits4:waitsOk impl_seenRight.T4.2 impl_seenRight.B4=true:=by kernel_rfl
abbrev impl_seenRight.q0:Array Bool:=#[O,O,O,O,O,O,O,O,O,O,O,O,O,O,O,O,O,O]
abbrev impl_seenRight.q1:Array Bool:=#[I,O,O,O,O,O,O,O,O,O,O,O,O,O,O,O,O,O]
abbrev impl_seenRight.q2:Array Bool:=#[I,I,O,O,O,O,O,O,O,O,O,O,O,O,O,O,O,O]
abbrev impl_seenRight.q3:Array Bool:=#[I,I,I,O,O,O,O,O,O,O,O,O,O,O,O,O,O,O]
abbrev impl_seenRight.q4:Array Bool:=#[I,I,I,I,O,O,O,O,O,O,O,O,O,O,O,O,O,O]
abbrev impl_seenRight.q5:Array Bool:=#[I,I,I,I,I,O,O,O,O,O,O,O,O,O,O,O,O,O]
abbrev impl_seenRight.q6:Array Bool:=#[I,I,I,I,I,I,O,O,O,O,O,O,O,O,O,O,O,O]
abbrev impl_seenRight.q7:Array Bool:=#[I,I,I,I,I,I,I,O,O,O,O,O,O,O,O,O,O,O]
abbrev impl_seenRight.q8:Array Bool:=#[I,I,I,I,I,I,I,I,O,O,O,O,O,O,O,O,O,O]
abbrev impl_seenRight.q9:Array Bool:=#[I,I,I,I,I,I,I,I,I,O,O,O,O,O,O,O,O,O]
abbrev impl_seenRight.q10:Array Bool:=#[I,I,I,I,I,I,I,I,I,I,O,O,O,O,O,O,O,O]
abbrev impl_seenRight.q11:Array Bool:=#[I,I,I,I,I,I,I,I,I,I,I,O,O,O,O,O,O,O]
abbrev impl_seenRight.q12:Array Bool:=#[I,I,I,I,I,I,I,I,I,I,I,I,O,O,O,O,O,O]
abbrev impl_seenRight.q13:Array Bool:=#[I,I,I,I,I,I,I,I,I,I,I,I,O,I,O,O,O,O]
abbrev impl_seenRight.q14:Array Bool:=#[I,I,I,I,I,I,I,I,I,I,I,I,I,I,O,O,O,O]
abbrev impl_seenRight.q15:Array Bool:=#[I,I,I,I,I,I,I,I,I,I,I,I,I,I,I,O,O,O]
abbrev impl_seenRight.q16:Array Bool:=#[I,I,I,I,I,I,I,I,I,I,I,I,I,I,I,I,O,O]
abbrev impl_seenRight.q17:Array Bool:=#[I,I,I,I,I,I,I,I,I,I,I,I,I,I,I,I,I,O]
abbrev impl_seenRight.q18:Array Bool:=#[I,I,I,I,I,I,I,I,I,I,I,I,I,I,I,I,I,I]
abbrev impl_seenRight.q19:Array Bool:=#[I,I,I,I,I,I,I,I,I,I,I,I,I,O,O,O,O,O]
set_option maxHeartbeats 8000000 in
set_option maxRecDepth 100000 in
theorem impl_seenRight.calls (k:Nat) (A0:Option Addr) (c0:Nat) (l0:List (S56)) (r:Bool) (w:World) (hr0:Kd.C k56 w A0 l0.length l0) (hc0:l0.length≤c0) (h:impl_seenRight.f k l0=some r) :
  Calls Try.prog 87 #[.slice A0 l0.length c0] w fun e w'=>e = .returned (.bool r)∧Below w.heap.size w w':=by
 have hu56:=Try.underlying56
 have HR0:=Aside0.mk hr0
 have HC0:=Aside0.mk hc0
 clear hr0 hc0
 have HB:=Aside0.mk (Below.refl w.heap.size w)
 have H:(impl_seenRight.l0 k l0 l0 (l0.length:Int) 0)=some r:=h
 clear h
 have H':=Aside0.mk H
 clear H
 go_enter Try.func87,Try.ntmps87
 go_wp2
 go_loopg [7] k (fun kq v7 w'=>∃ (x7_1:Int),v7 = .int .i64 x7_1∧Aside0 (impl_seenRight.l0 kq l0 l0 (l0.length:Int) x7_1=some r)∧Aside0 (kq≤k)∧Aside0 (Below w.heap.size w w'))
 case atStart=>exact ⟨(0),(z2_),H',⟨Nat.le_refl _⟩,⟨z3_ HB.out⟩⟩
 case round =>
  clear H'
  obtain ⟨x7_1,rfl,HA,HK1,HB⟩:=hrel
  cases gk with
  | zero=>exact absurd HA.out (by simp [impl_seenRight.l0])
  | succ k1 =>
   have H:=HA.out
   clear HA
   simp only [impl_seenRight.l0] at H
   by_cases c2:x7_1<(l0.length:Int)
   ·rw [if_pos c2] at H
    have c2b0:decide (x7_1<(l0.length:Int))=true:=decide_eq_true c2
    clear c2
    by_cases c3:0≤x7_1
    ·rw [if_pos c3] at H
     have c3b0:decide (0≤x7_1)=true:=decide_eq_true c3
     clear c3
     by_cases c4:x7_1<(l0.length:Int)
     ·rw [if_pos c4] at H
      have c4b0:decide (x7_1<(l0.length:Int))=true:=decide_eq_true c4
      clear c4
      replace H:=Option.bind_eq_some_iff.mp H
      obtain ⟨t268,A50,H⟩:=H
      replace H:(if t268=true then (if x7_1>0 then (if 0≤(wrap64 (x7_1-1)) then (if (wrap64 (x7_1-1))<(l0.length:Int) then (if ((rd_T56 l0 (wrap64 (x7_1-1))).f0)≥((rd_T56 l0 x7_1).f0) then (some false) else (impl_seenRight.l0 k1 l0 l0 (l0.length:Int) (wrap64 (x7_1+1)))) else (none)) else (none)) else (impl_seenRight.l0 k1 l0 l0 (l0.length:Int) (wrap64 (x7_1+1)))) else (some false))=some r:=H
      have A5:=Aside0.mk A50
      clear A50
      by_cases c6:t268=true
      ·subst c6
       have H1:(if x7_1>0 then (if 0≤(wrap64 (x7_1-1)) then (if (wrap64 (x7_1-1))<(l0.length:Int) then (if ((rd_T56 l0 (wrap64 (x7_1-1))).f0)≥((rd_T56 l0 x7_1).f0) then (some false) else (impl_seenRight.l0 k1 l0 l0 (l0.length:Int) (wrap64 (x7_1+1)))) else (none)) else (none)) else (impl_seenRight.l0 k1 l0 l0 (l0.length:Int) (wrap64 (x7_1+1))))=some r:=by rw [if_pos rfl] at H;exact H
       clear H
       have H:=H1
       clear H1
       by_cases c7:x7_1>0
       ·rw [if_pos c7] at H
        have c7b0:decide (0<x7_1)=true:=decide_eq_true c7
        clear c7
        obtain ⟨ji8,hji8⟩:∃ j_:Int,(wrap64 (x7_1-1))=j_:=⟨_,rfl⟩
        replace H:(if 0≤(ji8) then (if (ji8)<(l0.length:Int) then (if ((rd_T56 l0 (ji8)).f0)≥((rd_T56 l0 x7_1).f0) then (some false) else (impl_seenRight.l0 k1 l0 l0 (l0.length:Int) (wrap64 (x7_1+1)))) else (none)) else (none))=some r:=by first | (rw [hji8] at H;exact H) | (simp only [hji8] at H ⊢;exact H)
        (try rw [hji8] at A5)
        have hji8w:(IntKind.i64.wrap (x7_1-1))=ji8:=(i64_w _).trans hji8
        by_cases c9:0≤(ji8)
        ·rw [if_pos c9] at H
         have c9b0:decide (0≤(ji8))=true:=decide_eq_true c9
         clear c9
         by_cases c10:(ji8)<(l0.length:Int)
         ·rw [if_pos c10] at H
          have c10b0:decide ((ji8)<(l0.length:Int))=true:=decide_eq_true c10
          clear c10
          by_cases c11:((rd_T56 l0 (ji8)).f0)≥((rd_T56 l0 x7_1).f0)
          ·rw [if_pos c11] at H
           have c11b0:decide (((rd_T56 l0 x7_1).f0)≤((rd_T56 l0 (ji8)).f0))=true:=decide_eq_true c11
           clear c11
           obtain rfl:=Option.some.inj H
           have p266:0≤(x7_1:Int):=of_decide_eq_true (z1_)
           have q266:x7_1<(l0.length:Int):=of_decide_eq_true (z1_)
           obtain ⟨ad266,e266,hx266_0,hx266_1⟩:=at_T56 HR0.out x7_1 p266 q266
           cases e266
           replace hx266_0:=(HB.out.cell (World.block_lt_of_cell? w _ hx266_0)).trans hx266_0
           replace hx266_1:=(HB.out.cell (World.block_lt_of_cell? w _ hx266_1)).trans hx266_1
           replace p266:=eq_true p266
           replace q266:=eq_true q266
           try go_wp2_with (first | ((with_reducible refine gd_ 4 ?_);refine be_ 4 #[.int .i64 0,.int .i64 0] 56 ?_;intro gb267 hg w12 hbox hb;refine as4_ (below_step (z3_ HB.out) hb) (hbox) ((z7_ HB.out:w.heap.size≤gb267)) ((z7_ HB.out:w.heap.size≤gb267)) ?_;clear HB;intro HB BK267 GW267 GE267;clear hb hbox hg;have ⟨hcz13_0,hcz13_1,hfz13_0,hfz13_1⟩:=cz2_ BK267.out))
           have n0_:Aside0 (((w12.setCell ⟨gb267,0,none⟩ (.int .i64 ((rd_T56 l0 x7_1).f0))).setCell ⟨gb267,1,none⟩ (.int .i64 ((rd_T56 l0 x7_1).f1))).heap[gb267]? = some (.cells #[.int .i64 ((rd_T56 l0 x7_1).f0),.int .i64 ((rd_T56 l0 x7_1).f1)] 56 (0,0))):=⟨z21_ BK267.out⟩
           have n1_:Aside0 (Below w.heap.size w ((w12.setCell ⟨gb267,0,none⟩ (.int .i64 ((rd_T56 l0 x7_1).f0))).setCell ⟨gb267,1,none⟩ (.int .i64 ((rd_T56 l0 x7_1).f1)))):=⟨z6_ HB.out GE267.out⟩
           (try clear BK267)
           (try clear HB)
           generalize ((w12.setCell ⟨gb267,0,none⟩ (.int .i64 ((rd_T56 l0 x7_1).f0))).setCell ⟨gb267,1,none⟩ (.int .i64 ((rd_T56 l0 x7_1).f1)))=w14 at n0_ n1_ ⊢
           have BK267:=n0_
           have HB:=n1_
           clear n0_ n1_
           refine as2_ (blk_drew BK267.out) (below_drew1 HB.out) ?_
           clear BK267 HB
           intro BK267 HB
           have p269:0≤((ji8):Int):=of_decide_eq_true (z1_)
           have q269:(ji8)<(l0.length:Int):=of_decide_eq_true (z1_)
           obtain ⟨ad269,e269,hx269_0,hx269_1⟩:=at_T56 HR0.out (ji8) p269 q269
           have hw269_1:=hx269_1
           have hw269_0:=hx269_0
           obtain rfl:ad266=ad269:=(by injection e269)
           replace hx269_0:=(HB.out.cell (World.block_lt_of_cell? w _ hx269_0)).trans hx269_0
           replace hx269_1:=(HB.out.cell (World.block_lt_of_cell? w _ hx269_1)).trans hx269_1
           replace p269:=eq_true p269
           replace q269:=eq_true q269
           refine start_ (n:=18) (S:=fun w'=>w'.cell? ⟨gb267,0,none⟩=some (.int .i64 ((rd_T56 l0 x7_1).f0))∧w'.cell? ⟨gb267,1,none⟩=some (.int .i64 ((rd_T56 l0 x7_1).f1))∧w'.cell? (ad266.add (((ji8)).toNat*2))=some (.int .i64 ((rd_T56 l0 (ji8)).f0))∧w'.cell? ⟨(ad266.add (((ji8)).toNat*2)).block,(ad266.add (((ji8)).toNat*2)).off+1,none⟩=some (.int .i64 ((rd_T56 l0 (ji8)).f1))) (ds:=[]) impl_seenRight.q0 (by kernel_rfl) rfl rfl (cj2_ BK267.out ⟨((HB.out.cell (World.block_lt_of_cell? w _ hw269_0)).trans hw269_0),((HB.out.cell (World.block_lt_of_cell? w _ hw269_1)).trans hw269_1)⟩) (fun hHeld=>?_);refine with_tabW impl_seenRight.tab4 impl_seenRight.bits4 (fun HT_ HW_=>?_)
           generalize w14.drew=w15 at BK267 HB hx269_0 hx269_1 hHeld ⊢
           refine tk4_ 0 12 impl_seenRight.q1 HT_.out HW_.out hHeld ?_
           refine o1_ 1 13 impl_seenRight.q2 HT_.out (fun K hK=>?_)
           refine gs_ Try.func88 #[.agg #[.int .i64 ((rd_T56 l0 x7_1).f0),.int .i64 ((rd_T56 l0 x7_1).f1)]] ?_
           with_reducible refine (impl_isDot.calls ((rd_T56 l0 x7_1).f0) ((rd_T56 l0 x7_1).f1) true _ A5.out).mono ?_
           rintro e w16 ⟨rfl,hb⟩
           refine ⟨_,rfl,?_⟩
           refine as2_ (blkB_ BK267.out hb) (below_step (z6_ HB.out GE267.out) hb) ?_
           clear BK267 HB
           intro BK267 HB
           (try clear hb)
           refine hK.out _ _ (cj2_ BK267.out ⟨((HB.out.cell (World.block_lt_of_cell? w _ hw269_0)).trans hw269_0),((HB.out.cell (World.block_lt_of_cell? w _ hw269_1)).trans hw269_1)⟩) (fun hHeld=>?_)
           clear hK K
           refine nm_ 13 ?_
           refine pu_ 2 14 impl_seenRight.q3 HT_.out ?_
           refine pu_ 3 15 impl_seenRight.q4 HT_.out ?_
           refine pu_ 4 16 impl_seenRight.q5 HT_.out ?_
           refine pu_ 5 17 impl_seenRight.q6 HT_.out ?_
           refine pu_ 6 18 impl_seenRight.q7 HT_.out ?_
           refine pu_ 7 19 impl_seenRight.q8 HT_.out ?_
           refine pu_ 8 20 impl_seenRight.q9 HT_.out ?_
           refine pu_ 9 21 impl_seenRight.q10 HT_.out ?_
           refine pu_ 10 22 impl_seenRight.q11 HT_.out ?_
           refine pu_ 11 23 impl_seenRight.q12 HT_.out ?_
           refine pu_ 13 25 impl_seenRight.q13 HT_.out ?_
           refine tk4_ 12 24 impl_seenRight.q14 HT_.out HW_.out hHeld ?_
           refine tk4_ 14 26 impl_seenRight.q15 HT_.out HW_.out hHeld ?_
           refine pu_ 15 27 impl_seenRight.q16 HT_.out ?_
           refine pu_ 16 28 impl_seenRight.q17 HT_.out ?_
           refine pu_ 17 29 impl_seenRight.q18 HT_.out ?_
           refine done_ (done_of HT_.out (by kernel_rfl)) ?_
           try go_wp2
           go_ret
           exact ⟨by first | rfl | (simp [errW_none,errW_some] <;> rfl) | (simp only [← hji8];first | rfl | (simp [errW_none,errW_some] <;> rfl)) | (simp [*,errW_none,errW_some] <;> rfl),z6_ HB.out GE267.out⟩
          ·rw [if_neg c11] at H
           have c11b0:decide (((rd_T56 l0 x7_1).f0)≤((rd_T56 l0 (ji8)).f0))=false:=decide_eq_false c11
           clear c11
           have H':=Aside0.mk H
           clear H
           have p266:0≤(x7_1:Int):=of_decide_eq_true (z1_)
           have q266:x7_1<(l0.length:Int):=of_decide_eq_true (z1_)
           obtain ⟨ad266,e266,hx266_0,hx266_1⟩:=at_T56 HR0.out x7_1 p266 q266
           cases e266
           replace hx266_0:=(HB.out.cell (World.block_lt_of_cell? w _ hx266_0)).trans hx266_0
           replace hx266_1:=(HB.out.cell (World.block_lt_of_cell? w _ hx266_1)).trans hx266_1
           replace p266:=eq_true p266
           replace q266:=eq_true q266
           try go_wp2_with (first | ((with_reducible refine gd_ 4 ?_);refine be_ 4 #[.int .i64 0,.int .i64 0] 56 ?_;intro gb267 hg w17 hbox hb;refine as4_ (below_step (z3_ HB.out) hb) (hbox) ((z7_ HB.out:w.heap.size≤gb267)) ((z7_ HB.out:w.heap.size≤gb267)) ?_;clear HB;intro HB BK267 GW267 GE267;clear hb hbox hg;have ⟨hcz18_0,hcz18_1,hfz18_0,hfz18_1⟩:=cz2_ BK267.out))
           have n0_:Aside0 (((w17.setCell ⟨gb267,0,none⟩ (.int .i64 ((rd_T56 l0 x7_1).f0))).setCell ⟨gb267,1,none⟩ (.int .i64 ((rd_T56 l0 x7_1).f1))).heap[gb267]? = some (.cells #[.int .i64 ((rd_T56 l0 x7_1).f0),.int .i64 ((rd_T56 l0 x7_1).f1)] 56 (0,0))):=⟨z21_ BK267.out⟩
           have n1_:Aside0 (Below w.heap.size w ((w17.setCell ⟨gb267,0,none⟩ (.int .i64 ((rd_T56 l0 x7_1).f0))).setCell ⟨gb267,1,none⟩ (.int .i64 ((rd_T56 l0 x7_1).f1)))):=⟨z6_ HB.out GE267.out⟩
           (try clear BK267)
           (try clear HB)
           generalize ((w17.setCell ⟨gb267,0,none⟩ (.int .i64 ((rd_T56 l0 x7_1).f0))).setCell ⟨gb267,1,none⟩ (.int .i64 ((rd_T56 l0 x7_1).f1)))=w19 at n0_ n1_ ⊢
           have BK267:=n0_
           have HB:=n1_
           clear n0_ n1_
           refine as2_ (blk_drew BK267.out) (below_drew1 HB.out) ?_
           clear BK267 HB
           intro BK267 HB
           have p269:0≤((ji8):Int):=of_decide_eq_true (z1_)
           have q269:(ji8)<(l0.length:Int):=of_decide_eq_true (z1_)
           obtain ⟨ad269,e269,hx269_0,hx269_1⟩:=at_T56 HR0.out (ji8) p269 q269
           have hw269_1:=hx269_1
           have hw269_0:=hx269_0
           obtain rfl:ad266=ad269:=(by injection e269)
           replace hx269_0:=(HB.out.cell (World.block_lt_of_cell? w _ hx269_0)).trans hx269_0
           replace hx269_1:=(HB.out.cell (World.block_lt_of_cell? w _ hx269_1)).trans hx269_1
           replace p269:=eq_true p269
           replace q269:=eq_true q269
           refine start_ (n:=18) (S:=fun w'=>w'.cell? ⟨gb267,0,none⟩=some (.int .i64 ((rd_T56 l0 x7_1).f0))∧w'.cell? ⟨gb267,1,none⟩=some (.int .i64 ((rd_T56 l0 x7_1).f1))∧w'.cell? (ad266.add (((ji8)).toNat*2))=some (.int .i64 ((rd_T56 l0 (ji8)).f0))∧w'.cell? ⟨(ad266.add (((ji8)).toNat*2)).block,(ad266.add (((ji8)).toNat*2)).off+1,none⟩=some (.int .i64 ((rd_T56 l0 (ji8)).f1))) (ds:=[]) impl_seenRight.q0 (by kernel_rfl) rfl rfl (cj2_ BK267.out ⟨((HB.out.cell (World.block_lt_of_cell? w _ hw269_0)).trans hw269_0),((HB.out.cell (World.block_lt_of_cell? w _ hw269_1)).trans hw269_1)⟩) (fun hHeld=>?_);refine with_tabW impl_seenRight.tab4 impl_seenRight.bits4 (fun HT_ HW_=>?_)
           generalize w19.drew=w20 at BK267 HB hx269_0 hx269_1 hHeld ⊢
           refine tk4_ 0 12 impl_seenRight.q1 HT_.out HW_.out hHeld ?_
           refine o1_ 1 13 impl_seenRight.q2 HT_.out (fun K hK=>?_)
           refine gs_ Try.func88 #[.agg #[.int .i64 ((rd_T56 l0 x7_1).f0),.int .i64 ((rd_T56 l0 x7_1).f1)]] ?_
           with_reducible refine (impl_isDot.calls ((rd_T56 l0 x7_1).f0) ((rd_T56 l0 x7_1).f1) true _ A5.out).mono ?_
           rintro e w21 ⟨rfl,hb⟩
           refine ⟨_,rfl,?_⟩
           refine as2_ (blkB_ BK267.out hb) (below_step (z6_ HB.out GE267.out) hb) ?_
           clear BK267 HB
           intro BK267 HB
           (try clear hb)
           refine hK.out _ _ (cj2_ BK267.out ⟨((HB.out.cell (World.block_lt_of_cell? w _ hw269_0)).trans hw269_0),((HB.out.cell (World.block_lt_of_cell? w _ hw269_1)).trans hw269_1)⟩) (fun hHeld=>?_)
           clear hK K
           refine nm_ 13 ?_
           refine pu_ 2 14 impl_seenRight.q3 HT_.out ?_
           refine pu_ 3 15 impl_seenRight.q4 HT_.out ?_
           refine pu_ 4 16 impl_seenRight.q5 HT_.out ?_
           refine pu_ 5 17 impl_seenRight.q6 HT_.out ?_
           refine pu_ 6 18 impl_seenRight.q7 HT_.out ?_
           refine pu_ 7 19 impl_seenRight.q8 HT_.out ?_
           refine pu_ 8 20 impl_seenRight.q9 HT_.out ?_
           refine pu_ 9 21 impl_seenRight.q10 HT_.out ?_
           refine pu_ 10 22 impl_seenRight.q11 HT_.out ?_
           refine pu_ 11 23 impl_seenRight.q12 HT_.out ?_
           refine pu_ 13 25 impl_seenRight.q13 HT_.out ?_
           refine tk4_ 12 24 impl_seenRight.q14 HT_.out HW_.out hHeld ?_
           refine tk4_ 14 26 impl_seenRight.q15 HT_.out HW_.out hHeld ?_
           refine pu_ 15 27 impl_seenRight.q16 HT_.out ?_
           refine pu_ 16 28 impl_seenRight.q17 HT_.out ?_
           refine pu_ 17 29 impl_seenRight.q18 HT_.out ?_
           refine done_ (done_of HT_.out (by kernel_rfl)) ?_
           try go_wp2
           go_roundg k1
           case measure=>have:=HK1.out;omega
           case rel=>exact ⟨(wrap64 (x7_1+1)),(z2_),H',⟨by have:=HK1.out;omega⟩,⟨z6_ HB.out GE267.out⟩⟩
         ·rw [if_neg c10] at H
          exact absurd H (by simp)
        ·rw [if_neg c9] at H
         exact absurd H (by simp)
       ·rw [if_neg c7] at H
        have c7b0:decide (0<x7_1)=false:=decide_eq_false c7
        clear c7
        have H':=Aside0.mk H
        clear H
        have p266:0≤(x7_1:Int):=of_decide_eq_true (z1_)
        have q266:x7_1<(l0.length:Int):=of_decide_eq_true (z1_)
        obtain ⟨ad266,e266,hx266_0,hx266_1⟩:=at_T56 HR0.out x7_1 p266 q266
        cases e266
        replace hx266_0:=(HB.out.cell (World.block_lt_of_cell? w _ hx266_0)).trans hx266_0
        replace hx266_1:=(HB.out.cell (World.block_lt_of_cell? w _ hx266_1)).trans hx266_1
        replace p266:=eq_true p266
        replace q266:=eq_true q266
        try go_wp2_with (first | ((with_reducible refine gd_ 4 ?_);refine be_ 4 #[.int .i64 0,.int .i64 0] 56 ?_;intro gb267 hg w22 hbox hb;refine as4_ (below_step (z3_ HB.out) hb) (hbox) ((z7_ HB.out:w.heap.size≤gb267)) ((z7_ HB.out:w.heap.size≤gb267)) ?_;clear HB;intro HB BK267 GW267 GE267;clear hb hbox hg;have ⟨hcz23_0,hcz23_1,hfz23_0,hfz23_1⟩:=cz2_ BK267.out))
        have n0_:Aside0 (((w22.setCell ⟨gb267,0,none⟩ (.int .i64 ((rd_T56 l0 x7_1).f0))).setCell ⟨gb267,1,none⟩ (.int .i64 ((rd_T56 l0 x7_1).f1))).heap[gb267]? = some (.cells #[.int .i64 ((rd_T56 l0 x7_1).f0),.int .i64 ((rd_T56 l0 x7_1).f1)] 56 (0,0))):=⟨z21_ BK267.out⟩
        have n1_:Aside0 (Below w.heap.size w ((w22.setCell ⟨gb267,0,none⟩ (.int .i64 ((rd_T56 l0 x7_1).f0))).setCell ⟨gb267,1,none⟩ (.int .i64 ((rd_T56 l0 x7_1).f1)))):=⟨z6_ HB.out GE267.out⟩
        (try clear BK267)
        (try clear HB)
        generalize ((w22.setCell ⟨gb267,0,none⟩ (.int .i64 ((rd_T56 l0 x7_1).f0))).setCell ⟨gb267,1,none⟩ (.int .i64 ((rd_T56 l0 x7_1).f1)))=w24 at n0_ n1_ ⊢
        have BK267:=n0_
        have HB:=n1_
        clear n0_ n1_
        refine as2_ (blk_drew BK267.out) (below_drew1 HB.out) ?_
        clear BK267 HB
        intro BK267 HB
        refine start_ (n:=18) (S:=fun w'=>w'.cell? ⟨gb267,0,none⟩=some (.int .i64 ((rd_T56 l0 x7_1).f0))∧w'.cell? ⟨gb267,1,none⟩=some (.int .i64 ((rd_T56 l0 x7_1).f1))) (ds:=[]) impl_seenRight.q0 (by kernel_rfl) rfl rfl (cc2_ BK267.out) (fun hHeld=>?_);refine with_tabW impl_seenRight.tab4 impl_seenRight.bits4 (fun HT_ HW_=>?_)
        generalize w24.drew=w25 at BK267 HB hHeld ⊢
        refine tk2_ 0 12 impl_seenRight.q1 HT_.out HW_.out hHeld ?_
        refine o1_ 1 13 impl_seenRight.q2 HT_.out (fun K hK=>?_)
        refine gs_ Try.func88 #[.agg #[.int .i64 ((rd_T56 l0 x7_1).f0),.int .i64 ((rd_T56 l0 x7_1).f1)]] ?_
        with_reducible refine (impl_isDot.calls ((rd_T56 l0 x7_1).f0) ((rd_T56 l0 x7_1).f1) true _ A5.out).mono ?_
        rintro e w26 ⟨rfl,hb⟩
        refine ⟨_,rfl,?_⟩
        refine as2_ (blkB_ BK267.out hb) (below_step (z6_ HB.out GE267.out) hb) ?_
        clear BK267 HB
        intro BK267 HB
        (try clear hb)
        refine hK.out _ _ (cc2_ BK267.out) (fun hHeld=>?_)
        clear hK K
        refine nm_ 13 ?_
        refine pu_ 2 14 impl_seenRight.q3 HT_.out ?_
        refine pu_ 3 15 impl_seenRight.q4 HT_.out ?_
        refine pu_ 4 16 impl_seenRight.q5 HT_.out ?_
        refine pu_ 5 17 impl_seenRight.q6 HT_.out ?_
        refine pu_ 6 18 impl_seenRight.q7 HT_.out ?_
        refine pn_ 7 19 impl_seenRight.q8 HT_.out ?_
        refine pn_ 8 20 impl_seenRight.q9 HT_.out ?_
        refine pn_ 9 21 impl_seenRight.q10 HT_.out ?_
        refine pn_ 10 22 impl_seenRight.q11 HT_.out ?_
        refine pn_ 11 23 impl_seenRight.q12 HT_.out ?_
        refine pn_ 12 24 impl_seenRight.q19 HT_.out ?_
        refine pn_ 13 25 impl_seenRight.q14 HT_.out ?_
        refine pn_ 14 26 impl_seenRight.q15 HT_.out ?_
        refine pn_ 15 27 impl_seenRight.q16 HT_.out ?_
        refine pu_ 16 28 impl_seenRight.q17 HT_.out ?_
        refine pu_ 17 29 impl_seenRight.q18 HT_.out ?_
        refine done_ (done_of HT_.out (by kernel_rfl)) ?_
        try go_wp2
        go_roundg k1
        case measure=>have:=HK1.out;omega
        case rel=>exact ⟨(wrap64 (x7_1+1)),(z2_),H',⟨by have:=HK1.out;omega⟩,⟨z6_ HB.out GE267.out⟩⟩
      ·replace c6:=Bool.eq_false_iff.mpr c6
       subst c6
       have H1:(some false)=some r:=by rw [if_neg (show ¬ (false=true) by decide)] at H;exact H
       clear H
       have H:=H1
       clear H1
       obtain rfl:=Option.some.inj H
       have p266:0≤(x7_1:Int):=of_decide_eq_true (z1_)
       have q266:x7_1<(l0.length:Int):=of_decide_eq_true (z1_)
       obtain ⟨ad266,e266,hx266_0,hx266_1⟩:=at_T56 HR0.out x7_1 p266 q266
       cases e266
       replace hx266_0:=(HB.out.cell (World.block_lt_of_cell? w _ hx266_0)).trans hx266_0
       replace hx266_1:=(HB.out.cell (World.block_lt_of_cell? w _ hx266_1)).trans hx266_1
       replace p266:=eq_true p266
       replace q266:=eq_true q266
       try go_wp2_with (first | ((with_reducible refine gd_ 4 ?_);refine be_ 4 #[.int .i64 0,.int .i64 0] 56 ?_;intro gb267 hg w27 hbox hb;refine as4_ (below_step (z3_ HB.out) hb) (hbox) ((z7_ HB.out:w.heap.size≤gb267)) ((z7_ HB.out:w.heap.size≤gb267)) ?_;clear HB;intro HB BK267 GW267 GE267;clear hb hbox hg;have ⟨hcz28_0,hcz28_1,hfz28_0,hfz28_1⟩:=cz2_ BK267.out))
       have n0_:Aside0 (((w27.setCell ⟨gb267,0,none⟩ (.int .i64 ((rd_T56 l0 x7_1).f0))).setCell ⟨gb267,1,none⟩ (.int .i64 ((rd_T56 l0 x7_1).f1))).heap[gb267]? = some (.cells #[.int .i64 ((rd_T56 l0 x7_1).f0),.int .i64 ((rd_T56 l0 x7_1).f1)] 56 (0,0))):=⟨z21_ BK267.out⟩
       have n1_:Aside0 (Below w.heap.size w ((w27.setCell ⟨gb267,0,none⟩ (.int .i64 ((rd_T56 l0 x7_1).f0))).setCell ⟨gb267,1,none⟩ (.int .i64 ((rd_T56 l0 x7_1).f1)))):=⟨z6_ HB.out GE267.out⟩
       (try clear BK267)
       (try clear HB)
       generalize ((w27.setCell ⟨gb267,0,none⟩ (.int .i64 ((rd_T56 l0 x7_1).f0))).setCell ⟨gb267,1,none⟩ (.int .i64 ((rd_T56 l0 x7_1).f1)))=w29 at n0_ n1_ ⊢
       have BK267:=n0_
       have HB:=n1_
       clear n0_ n1_
       refine as2_ (blk_drew BK267.out) (below_drew1 HB.out) ?_
       clear BK267 HB
       intro BK267 HB
       refine start_ (n:=18) (S:=fun w'=>w'.cell? ⟨gb267,0,none⟩=some (.int .i64 ((rd_T56 l0 x7_1).f0))∧w'.cell? ⟨gb267,1,none⟩=some (.int .i64 ((rd_T56 l0 x7_1).f1))) (ds:=[]) impl_seenRight.q0 (by kernel_rfl) rfl rfl (cc2_ BK267.out) (fun hHeld=>?_);refine with_tabW impl_seenRight.tab4 impl_seenRight.bits4 (fun HT_ HW_=>?_)
       generalize w29.drew=w30 at BK267 HB hHeld ⊢
       refine tk2_ 0 12 impl_seenRight.q1 HT_.out HW_.out hHeld ?_
       refine o1_ 1 13 impl_seenRight.q2 HT_.out (fun K hK=>?_)
       refine gs_ Try.func88 #[.agg #[.int .i64 ((rd_T56 l0 x7_1).f0),.int .i64 ((rd_T56 l0 x7_1).f1)]] ?_
       with_reducible refine (impl_isDot.calls ((rd_T56 l0 x7_1).f0) ((rd_T56 l0 x7_1).f1) false _ A5.out).mono ?_
       rintro e w31 ⟨rfl,hb⟩
       refine ⟨_,rfl,?_⟩
       refine as2_ (blkB_ BK267.out hb) (below_step (z6_ HB.out GE267.out) hb) ?_
       clear BK267 HB
       intro BK267 HB
       (try clear hb)
       refine hK.out _ _ (cc2_ BK267.out) (fun hHeld=>?_)
       clear hK K
       refine nm_ 13 ?_
       refine pu_ 2 14 impl_seenRight.q3 HT_.out ?_
       refine pu_ 3 15 impl_seenRight.q4 HT_.out ?_
       refine pn_ 4 16 impl_seenRight.q5 HT_.out ?_
       refine pn_ 5 17 impl_seenRight.q6 HT_.out ?_
       refine pn_ 6 18 impl_seenRight.q7 HT_.out ?_
       refine pn_ 7 19 impl_seenRight.q8 HT_.out ?_
       refine pn_ 8 20 impl_seenRight.q9 HT_.out ?_
       refine pn_ 9 21 impl_seenRight.q10 HT_.out ?_
       refine pn_ 10 22 impl_seenRight.q11 HT_.out ?_
       refine pn_ 11 23 impl_seenRight.q12 HT_.out ?_
       refine pn_ 12 24 impl_seenRight.q19 HT_.out ?_
       refine pn_ 13 25 impl_seenRight.q14 HT_.out ?_
       refine pn_ 14 26 impl_seenRight.q15 HT_.out ?_
       refine pn_ 15 27 impl_seenRight.q16 HT_.out ?_
       refine pn_ 16 28 impl_seenRight.q17 HT_.out ?_
       refine pu_ 17 29 impl_seenRight.q18 HT_.out ?_
       refine done_ (done_of HT_.out (by kernel_rfl)) ?_
       try go_wp2
       go_ret
       exact ⟨z8_,z6_ HB.out GE267.out⟩
     ·rw [if_neg c4] at H
      exact absurd H (by simp)
    ·rw [if_neg c3] at H
     exact absurd H (by simp)
   ·rw [if_neg c2] at H
    have c2b0:decide (x7_1<(l0.length:Int))=false:=decide_eq_false c2
    clear c2
    obtain rfl:=Option.some.inj H
    go_wp2
    go_ret
    exact ⟨z8_,z3_ HB.out⟩


/-! ### impl_isData: function 89 -/
def impl_isData.f (a0:ByteArray) (a1:Bool):Option (Bool):=if (a0.size:Int)≤16 then (if a1=true then (some (a0.toList == ([]:List UInt8))) else (some true)) else (some false)
set_option maxHeartbeats 8000000 in
set_option maxRecDepth 100000 in
theorem impl_isData.calls (a0:ByteArray) (a1:Bool) (r:Bool) (w:World) (h:impl_isData.f a0 a1=some r) :
  Calls Try.prog 89 #[.string a0,.bool a1] w fun e w'=>e = .returned (.bool r)∧Drawn0 w w':=by
 have H:(if (a0.size:Int)≤16 then (if a1=true then (some (a0.toList == ([]:List UInt8))) else (some true)) else (some false))=some r:=h
 clear h
 by_cases c3:(a0.size:Int)≤16
 ·rw [if_pos c3] at H
  have c3b0:decide ((a0.size:Int)≤16)=true:=decide_eq_true c3
  have c3b1:decide (a0.size≤16)=true:=decide_eq_true (by omega)
  clear c3
  by_cases c4:a1=true
  ·subst c4
   have H1:(some (a0.toList == ([]:List UInt8)))=some r:=by rw [if_pos rfl] at H;exact H
   clear H
   have H:=H1
   clear H1
   obtain rfl:=Option.some.inj H
   go_enter Try.func89,Try.ntmps89
   go_wp2
   go_ret
   exact ⟨z2_,z11_⟩
  ·replace c4:=Bool.eq_false_iff.mpr c4
   subst c4
   have H1:(some true)=some r:=by rw [if_neg (show ¬ (false=true) by decide)] at H;exact H
   clear H
   have H:=H1
   clear H1
   obtain rfl:=Option.some.inj H
   go_enter Try.func89,Try.ntmps89
   go_wp2
   go_ret
   exact ⟨z2_,z11_⟩
 ·rw [if_neg c3] at H
  have c3b0:decide ((a0.size:Int)≤16)=false:=decide_eq_false c3
  have c3b1:decide (a0.size≤16)=false:=decide_eq_false (by omega)
  clear c3
  obtain rfl:=Option.some.inj H
  go_enter Try.func89,Try.ntmps89
  go_wp2
  go_ret
  exact ⟨z2_,z11_⟩


/-! ### cmp_Or_int: function 108 -/
def cmp_Or_int.l0:Nat→Int→List Int→Int→Int→Option (Int)
 | 0,_,_,_,_=>none
 | k+1,x3,x6,x7,x8=>if x8<x7 then (if 0≤x8 then (if x8<(x6.length:Int) then (if (rd x6 x8)=x3 then (cmp_Or_int.l0 k x3 x6 x7 (wrap64 (x8+1))) else (some (rd x6 x8))) else (none)) else (none)) else (some x3)
def cmp_Or_int.f (k:Nat) (l0:List Int):Option (Int):=cmp_Or_int.l0 k 0 l0 (l0.length:Int) 0
theorem cmp_Or_int.mono_l:∀ k,(∀ y0 y1 y2 y3,LeO (cmp_Or_int.l0 k y0 y1 y2 y3) (cmp_Or_int.l0 (k+1) y0 y1 y2 y3))
 | 0=>fun _ _ _ _ r h=>by simp [cmp_Or_int.l0] at h
 | k+1=>by
  have ih0:=cmp_Or_int.mono_l k
  ·intro y0 y1 y2 y3
   unfold cmp_Or_int.l0
   repeat' first
   | (with_reducible exact ih0 _ _ _ _)
   | (with_reducible exact LeO.refl _)
   | (with_reducible exact LeO.none _)
   | (with_reducible refine LeO.ite ?_ ?_)
   | (with_reducible refine LeO.bind ?_ (fun _=>?_))
   | exact ih0 _ _ _ _
   | exact LeO.none _
   | refine LeO.ite ?_ ?_
   | refine LeO.bind ?_ (fun _=>?_)
theorem cmp_Or_int.mono:∀ a0 k,LeO (cmp_Or_int.f k a0) (cmp_Or_int.f (k+1) a0):=by
 intro a0 k
 have ih0:=cmp_Or_int.mono_l k
 unfold cmp_Or_int.f
 repeat' first
   | (with_reducible exact ih0 _ _ _ _)
   | (with_reducible exact LeO.refl _)
   | (with_reducible exact LeO.none _)
   | (with_reducible refine LeO.ite ?_ ?_)
   | (with_reducible refine LeO.bind ?_ (fun _=>?_))
   | exact ih0 _ _ _ _
   | exact LeO.none _
   | refine LeO.ite ?_ ?_
   | refine LeO.bind ?_ (fun _=>?_)
set_option maxHeartbeats 8000000 in
set_option maxRecDepth 100000 in
theorem cmp_Or_int.calls (k:Nat) (A0:Option Addr) (c0:Nat) (l0:List Int) (r:Int) (w:World) (hr0:Kd.C (Kd.int .i64) w A0 l0.length l0) (hc0:l0.length≤c0) (h:cmp_Or_int.f k l0=some r) :
  Calls Try.prog 108 #[.slice A0 l0.length c0] w fun e w'=>e = .returned (.int .i64 r)∧Drawn0 w w':=by
 have HR0:=Aside0.mk hr0
 have HC0:=Aside0.mk hc0
 clear hr0 hc0
 have H:(cmp_Or_int.l0 k 0 l0 (l0.length:Int) 0)=some r:=h
 clear h
 have H':=Aside0.mk H
 clear H
 go_enter Try.func108,Try.ntmps108
 go_wp2
 go_loopg [8] k (fun kq v8 w'=>∃ (x8_1:Int),v8 = .int .i64 x8_1∧Aside0 (cmp_Or_int.l0 kq 0 l0 (l0.length:Int) x8_1=some r)∧Aside0 (kq≤k)∧Drawn0 w w')
 case atStart=>exact ⟨(0),(z2_),H',⟨Nat.le_refl _⟩,z11_⟩
 case round =>
  clear H'
  try clear c1
  obtain ⟨x8_1,rfl,HA,HK1,⟨m1,rfl⟩⟩:=hrel
  cases gk with
  | zero=>exact absurd HA.out (by simp [cmp_Or_int.l0])
  | succ k1 =>
   have H:=HA.out
   clear HA
   simp only [cmp_Or_int.l0] at H
   by_cases c2:x8_1<(l0.length:Int)
   ·rw [if_pos c2] at H
    have c2b0:decide (x8_1<(l0.length:Int))=true:=decide_eq_true c2
    clear c2
    by_cases c3:0≤x8_1
    ·rw [if_pos c3] at H
     have c3b0:decide (0≤x8_1)=true:=decide_eq_true c3
     clear c3
     by_cases c4:x8_1<(l0.length:Int)
     ·rw [if_pos c4] at H
      have c4b0:decide (x8_1<(l0.length:Int))=true:=decide_eq_true c4
      clear c4
      by_cases c5:(rd l0 x8_1)=0
      ·rw [if_pos c5] at H
       have c5b0:((rd l0 x8_1) == 0)=true:=beq_iff_eq.mpr c5
       have c5b1:((rd l0 x8_1) != 0)=false:=bne_eq_false_iff_eq.mpr c5
       clear c5
       have H':=Aside0.mk H
       clear H
       have p270:0≤(x8_1:Int):=of_decide_eq_true (z1_)
       have q270:x8_1<(l0.length:Int):=of_decide_eq_true (z1_)
       obtain ⟨ad270,e270,hx270_0⟩:=Kd.at_int HR0.out x8_1 p270 q270
       cases e270
       replace p270:=eq_true p270
       replace q270:=eq_true q270
       go_wp2
       go_roundg k1
       case measure=>have:=HK1.out;omega
       case rel=>exact ⟨(wrap64 (x8_1+1)),(z2_),H',⟨by have:=HK1.out;omega⟩,z11_⟩
      ·rw [if_neg c5] at H
       have c5b0:((rd l0 x8_1) == 0)=false:=beq_eq_false_iff_ne.mpr c5
       have c5b1:((rd l0 x8_1) != 0)=true:=bne_iff_ne.mpr c5
       obtain rfl:=Option.some.inj H
       have p270:0≤(x8_1:Int):=of_decide_eq_true (z1_)
       have q270:x8_1<(l0.length:Int):=of_decide_eq_true (z1_)
       obtain ⟨ad270,e270,hx270_0⟩:=Kd.at_int HR0.out x8_1 p270 q270
       cases e270
       replace p270:=eq_true p270
       replace q270:=eq_true q270
       go_wp2
       go_ret
       exact ⟨z2_,z11_⟩
     ·rw [if_neg c4] at H
      exact absurd H (by simp)
    ·rw [if_neg c3] at H
     exact absurd H (by simp)
   ·rw [if_neg c2] at H
    have c2b0:decide (x8_1<(l0.length:Int))=false:=decide_eq_false c2
    clear c2
    obtain rfl:=Option.some.inj H
    go_wp2
    go_ret
    exact ⟨z2_,z11_⟩


/-! ### cmp_isNaN_int64: function 117 -/
def cmp_isNaN_int64.f (a0:Int):Option (Bool):=some (a0 != a0)
set_option maxHeartbeats 8000000 in
set_option maxRecDepth 100000 in
theorem cmp_isNaN_int64.calls (a0:Int) (r:Bool) (w:World) (h:cmp_isNaN_int64.f a0=some r) :
  Calls Try.prog 117 #[.int .i64 a0] w fun e w'=>e = .returned (.bool r)∧Drawn0 w w':=by
 have H:(some (a0 != a0))=some r:=h
 clear h
 obtain rfl:=Option.some.inj H
 go_enter Try.func117,Try.ntmps117
 go_wp2
 go_ret
 exact ⟨z2_,z11_⟩


/-! ### cmp_Compare_int64: function 109 -/
def cmp_Compare_int64.f (a0:Int) (a1:Int):Option (Int):=(cmp_isNaN_int64.f a0).bind fun t271=>((cmp_isNaN_int64.f a1).bind fun t272=>(if t271=true then (if t272=true then (some 0) else (some (-1))) else (if t272=true then (some 1) else (if a0<a1 then (some (-1)) else (if a0>a1 then (some 1) else (some 0))))))
set_option maxHeartbeats 8000000 in
set_option maxRecDepth 100000 in
theorem cmp_Compare_int64.calls (a0:Int) (a1:Int) (r:Int) (w:World) (h:cmp_Compare_int64.f a0 a1=some r) :
  Calls Try.prog 109 #[.int .i64 a0,.int .i64 a1] w fun e w'=>e = .returned (.int .i64 r)∧Drawn0 w w':=by
 have H:((cmp_isNaN_int64.f a0).bind fun t271=>((cmp_isNaN_int64.f a1).bind fun t272=>(if t271=true then (if t272=true then (some 0) else (some (-1))) else (if t272=true then (some 1) else (if a0<a1 then (some (-1)) else (if a0>a1 then (some 1) else (some 0)))))))=some r:=h
 clear h
 replace H:=Option.bind_eq_some_iff.mp H
 obtain ⟨t271,A30,H⟩:=H
 replace H:((cmp_isNaN_int64.f a1).bind fun t272=>(if t271=true then (if t272=true then (some 0) else (some (-1))) else (if t272=true then (some 1) else (if a0<a1 then (some (-1)) else (if a0>a1 then (some 1) else (some 0))))))=some r:=H
 have A3:=Aside0.mk A30
 clear A30
 replace H:=Option.bind_eq_some_iff.mp H
 obtain ⟨t272,A40,H⟩:=H
 replace H:(if t271=true then (if t272=true then (some 0) else (some (-1))) else (if t272=true then (some 1) else (if a0<a1 then (some (-1)) else (if a0>a1 then (some 1) else (some 0)))))=some r:=H
 have A4:=Aside0.mk A40
 clear A40
 by_cases c5:t271=true
 ·subst c5
  have H1:(if t272=true then (some 0) else (some (-1)))=some r:=by rw [if_pos rfl] at H;exact H
  clear H
  have H:=H1
  clear H1
  by_cases c6:t272=true
  ·subst c6
   have H1:(some 0)=some r:=by rw [if_pos rfl] at H;exact H
   clear H
   have H:=H1
   clear H1
   obtain rfl:=Option.some.inj H
   go_enter Try.func109,Try.ntmps109
   go_wp2_with (first | ((with_reducible refine gc_ 117 ?_);refine gl_ (some 8) Try.func117 #[.int .i64 a0] ?_;(with_reducible refine (cmp_isNaN_int64.calls a0 true _ A3.out).mono ?_);rintro e w' ⟨rfl,⟨nd,rfl⟩⟩;refine ⟨_,rfl,?_⟩) | ((with_reducible refine gc_ 117 ?_);refine gl_ (some 10) Try.func117 #[.int .i64 a1] ?_;(with_reducible refine (cmp_isNaN_int64.calls a1 true _ A4.out).mono ?_);rintro e w' ⟨rfl,⟨nd,rfl⟩⟩;refine ⟨_,rfl,?_⟩))
   go_ret
   exact ⟨z2_,z11_⟩
  ·replace c6:=Bool.eq_false_iff.mpr c6
   subst c6
   have H1:(some (-1))=some r:=by rw [if_neg (show ¬ (false=true) by decide)] at H;exact H
   clear H
   have H:=H1
   clear H1
   obtain rfl:=Option.some.inj H
   go_enter Try.func109,Try.ntmps109
   go_wp2_with (first | ((with_reducible refine gc_ 117 ?_);refine gl_ (some 8) Try.func117 #[.int .i64 a0] ?_;(with_reducible refine (cmp_isNaN_int64.calls a0 true _ A3.out).mono ?_);rintro e w' ⟨rfl,⟨nd,rfl⟩⟩;refine ⟨_,rfl,?_⟩) | ((with_reducible refine gc_ 117 ?_);refine gl_ (some 10) Try.func117 #[.int .i64 a1] ?_;(with_reducible refine (cmp_isNaN_int64.calls a1 false _ A4.out).mono ?_);rintro e w' ⟨rfl,⟨nd,rfl⟩⟩;refine ⟨_,rfl,?_⟩))
   go_ret
   exact ⟨z2_,z11_⟩
 ·replace c5:=Bool.eq_false_iff.mpr c5
  subst c5
  have H1:(if t272=true then (some 1) else (if a0<a1 then (some (-1)) else (if a0>a1 then (some 1) else (some 0))))=some r:=by rw [if_neg (show ¬ (false=true) by decide)] at H;exact H
  clear H
  have H:=H1
  clear H1
  by_cases c7:t272=true
  ·subst c7
   have H1:(some 1)=some r:=by rw [if_pos rfl] at H;exact H
   clear H
   have H:=H1
   clear H1
   obtain rfl:=Option.some.inj H
   go_enter Try.func109,Try.ntmps109
   go_wp2_with (first | ((with_reducible refine gc_ 117 ?_);refine gl_ (some 8) Try.func117 #[.int .i64 a0] ?_;(with_reducible refine (cmp_isNaN_int64.calls a0 false _ A3.out).mono ?_);rintro e w' ⟨rfl,⟨nd,rfl⟩⟩;refine ⟨_,rfl,?_⟩) | ((with_reducible refine gc_ 117 ?_);refine gl_ (some 10) Try.func117 #[.int .i64 a1] ?_;(with_reducible refine (cmp_isNaN_int64.calls a1 true _ A4.out).mono ?_);rintro e w' ⟨rfl,⟨nd,rfl⟩⟩;refine ⟨_,rfl,?_⟩))
   go_ret
   exact ⟨z2_,z11_⟩
  ·replace c7:=Bool.eq_false_iff.mpr c7
   subst c7
   have H1:(if a0<a1 then (some (-1)) else (if a0>a1 then (some 1) else (some 0)))=some r:=by rw [if_neg (show ¬ (false=true) by decide)] at H;exact H
   clear H
   have H:=H1
   clear H1
   by_cases c8:a0<a1
   ·rw [if_pos c8] at H
    have c8b0:decide (a0<a1)=true:=decide_eq_true c8
    clear c8
    obtain rfl:=Option.some.inj H
    go_enter Try.func109,Try.ntmps109
    go_wp2_with (first | ((with_reducible refine gc_ 117 ?_);refine gl_ (some 8) Try.func117 #[.int .i64 a0] ?_;(with_reducible refine (cmp_isNaN_int64.calls a0 false _ A3.out).mono ?_);rintro e w' ⟨rfl,⟨nd,rfl⟩⟩;refine ⟨_,rfl,?_⟩) | ((with_reducible refine gc_ 117 ?_);refine gl_ (some 10) Try.func117 #[.int .i64 a1] ?_;(with_reducible refine (cmp_isNaN_int64.calls a1 false _ A4.out).mono ?_);rintro e w' ⟨rfl,⟨nd,rfl⟩⟩;refine ⟨_,rfl,?_⟩))
    go_ret
    exact ⟨z2_,z11_⟩
   ·rw [if_neg c8] at H
    have c8b0:decide (a0<a1)=false:=decide_eq_false c8
    clear c8
    by_cases c9:a0>a1
    ·rw [if_pos c9] at H
     have c9b0:decide (a1<a0)=true:=decide_eq_true c9
     clear c9
     obtain rfl:=Option.some.inj H
     go_enter Try.func109,Try.ntmps109
     go_wp2_with (first | ((with_reducible refine gc_ 117 ?_);refine gl_ (some 8) Try.func117 #[.int .i64 a0] ?_;(with_reducible refine (cmp_isNaN_int64.calls a0 false _ A3.out).mono ?_);rintro e w' ⟨rfl,⟨nd,rfl⟩⟩;refine ⟨_,rfl,?_⟩) | ((with_reducible refine gc_ 117 ?_);refine gl_ (some 10) Try.func117 #[.int .i64 a1] ?_;(with_reducible refine (cmp_isNaN_int64.calls a1 false _ A4.out).mono ?_);rintro e w' ⟨rfl,⟨nd,rfl⟩⟩;refine ⟨_,rfl,?_⟩))
     go_ret
     exact ⟨z2_,z11_⟩
    ·rw [if_neg c9] at H
     have c9b0:decide (a1<a0)=false:=decide_eq_false c9
     clear c9
     obtain rfl:=Option.some.inj H
     go_enter Try.func109,Try.ntmps109
     go_wp2_with (first | ((with_reducible refine gc_ 117 ?_);refine gl_ (some 8) Try.func117 #[.int .i64 a0] ?_;(with_reducible refine (cmp_isNaN_int64.calls a0 false _ A3.out).mono ?_);rintro e w' ⟨rfl,⟨nd,rfl⟩⟩;refine ⟨_,rfl,?_⟩) | ((with_reducible refine gc_ 117 ?_);refine gl_ (some 10) Try.func117 #[.int .i64 a1] ?_;(with_reducible refine (cmp_isNaN_int64.calls a1 false _ A4.out).mono ?_);rintro e w' ⟨rfl,⟨nd,rfl⟩⟩;refine ⟨_,rfl,?_⟩))
     go_ret
     exact ⟨z2_,z11_⟩


/-! ### impl_compareDots: function 90 -/
def impl_compareDots.f (k:Nat) (a0_0:Int) (a0_1:Int) (a1_0:Int) (a1_1:Int):Option (Int):=(cmp_Compare_int64.f a0_0 a1_0).bind fun t275=>((cmp_Compare_int64.f a0_1 a1_1).bind fun t276=>((cmp_Or_int.f k (([t275,t276]:List Int))).bind fun t280=>(some t280)))
theorem impl_compareDots.mono:∀ a0 a1 a2 a3 k,LeO (impl_compareDots.f k a0 a1 a2 a3) (impl_compareDots.f (k+1) a0 a1 a2 a3):=by
 intro a0 a1 a2 a3 k
 unfold impl_compareDots.f
 repeat' first
   | (with_reducible exact cmp_Or_int.mono _ _)
   | (with_reducible exact LeO.refl _)
   | (with_reducible exact LeO.none _)
   | (with_reducible refine LeO.ite ?_ ?_)
   | (with_reducible refine LeO.bind ?_ (fun _=>?_))
   | exact cmp_Or_int.mono _ _
   | exact LeO.none _
   | refine LeO.ite ?_ ?_
   | refine LeO.bind ?_ (fun _=>?_)
def impl_compareDots.T1:Bool × List (List Nat × List Nat):=(true,[([],[]),([0],[0]),([],[]),([2],[2]),([1,3],[1,3]),([],[]),([5],[5]),([],[]),([7],[7]),([6,8,4],[6,8]),([4,9],[4,9]),([10,9],[10]),([11,11,0,1,2,3,4,5,6,7,8,9,10,11],[11])])
def impl_compareDots.B1:List Nat:=[0,1,0,4,15,0,32,0,128,511,1023,2047,4095]
theorem impl_compareDots.tab1:rtab .any (opsOf Try.f90 1)=impl_compareDots.T1:=by kernel_rfl
theorem impl_compareDots.bits1:waitsOk impl_compareDots.T1.2 impl_compareDots.B1=true:=by kernel_rfl
set_option maxHeartbeats 8000000 in
set_option maxRecDepth 100000 in
theorem impl_compareDots.calls (k:Nat) (a0_0:Int) (a0_1:Int) (a1_0:Int) (a1_1:Int) (r:Int) (w:World) (h:impl_compareDots.f k a0_0 a0_1 a1_0 a1_1=some r) :
  Calls Try.prog 90 #[.agg #[.int .i64 a0_0,.int .i64 a0_1],.agg #[.int .i64 a1_0,.int .i64 a1_1]] w fun e w'=>e = .returned (.int .i64 r)∧Below w.heap.size w w':=by
 have hu56:=Try.underlying56
 have HB:=Aside0.mk (Below.refl w.heap.size w)
 have H:((cmp_Compare_int64.f a0_0 a1_0).bind fun t275=>((cmp_Compare_int64.f a0_1 a1_1).bind fun t276=>((cmp_Or_int.f k (([t275,t276]:List Int))).bind fun t280=>(some t280))))=some r:=h
 clear h
 replace H:=Option.bind_eq_some_iff.mp H
 obtain ⟨t275,A30,H⟩:=H
 replace H:((cmp_Compare_int64.f a0_1 a1_1).bind fun t276=>((cmp_Or_int.f k (([t275,t276]:List Int))).bind fun t280=>(some t280)))=some r:=H
 have A3:=Aside0.mk A30
 clear A30
 replace H:=Option.bind_eq_some_iff.mp H
 obtain ⟨t276,A40,H⟩:=H
 replace H:((cmp_Or_int.f k (([t275,t276]:List Int))).bind fun t280=>(some t280))=some r:=H
 have A4:=Aside0.mk A40
 clear A40
 obtain ⟨y277,hy277⟩:∃ y_:List Int,y_=(([t275,t276]:List Int)):=⟨_,rfl⟩
 replace H:((cmp_Or_int.f k y277).bind fun t280=>(some t280))=some r:=by first | (rw [hy277];with_reducible exact H) | (have H2_:=(Option.bind_some _ _).symm.trans H;rw [hy277];with_reducible exact H2_) | (have H2_:=(Option.bind_some _ _).symm.trans H;with_reducible exact H2_) | with_reducible exact H | (rw [hy277];exact H) | exact H
 have Ny277:=Aside0.mk hy277
 clear hy277
 replace H:=Option.bind_eq_some_iff.mp H
 obtain ⟨t280,A50,H⟩:=H
 replace H:(some t280)=some r:=H
 have A5:=Aside0.mk A50
 clear A50
 obtain rfl:=Option.some.inj H
 go_enter Try.func90,Try.ntmps90
 try go_wp2_with (first | ((with_reducible refine gd_ 2 ?_);refine be_ 2 #[.int .i64 a0_0,.int .i64 a0_1] 56 ?_;intro gb273 hg w6 hbox hb;refine as4_ (below_step (z3_ HB.out) hb) (hbox) ((z7_ HB.out:w.heap.size≤gb273)) ((z7_ HB.out:w.heap.size≤gb273)) ?_;clear HB;intro HB BK273 GW273 GE273;clear hb hbox hg) | ((with_reducible refine gd_ 3 ?_);refine be_ 3 #[.int .i64 a1_0,.int .i64 a1_1] 56 ?_;intro gb274 hg w7 hbox hb;refine as7_ (blkB_ BK273.out hb) (below_step (z6_ HB.out GE273.out) hb) (hbox) ((z9_ HB.out GE273.out:w.heap.size≤gb274)) ((z9_ HB.out GE273.out:w.heap.size≤gb274)) (neL_ BK273.out hg) (neG_ BK273.out hg) ?_;clear BK273 HB;intro BK273 HB BK274 GW274 GE274 NB273_274 NB274_273;clear hb hbox hg))
 refine as3_ (blk_drew BK273.out) (blk_drew BK274.out) (below_drew1 HB.out) ?_
 clear BK273 BK274 HB
 intro BK273 BK274 HB
 refine start_ (n:=13) (S:=fun w'=>w'.cell? ⟨gb273,0,none⟩=some (.int .i64 a0_0)∧w'.cell? ⟨gb273,1,none⟩=some (.int .i64 a0_1)∧w'.cell? ⟨gb274,0,none⟩=some (.int .i64 a1_0)∧w'.cell? ⟨gb274,1,none⟩=some (.int .i64 a1_1)) (ds:=[]) #[O,O,O,O,O,O,O,O,O,O,O,O,O] (by kernel_rfl) rfl rfl (cj2_ BK273.out (cc2_ BK274.out)) (fun hHeld=>?_);refine with_tabW impl_compareDots.tab1 impl_compareDots.bits1 (fun HT_ HW_=>?_)
 generalize w7.drew=w8 at BK273 BK274 HB hHeld ⊢
 refine pu_ 0 5 #[I,O,O,O,O,O,O,O,O,O,O,O,O] HT_.out ?_
 refine pu_ 2 7 #[I,O,I,O,O,O,O,O,O,O,O,O,O] HT_.out ?_
 refine pu_ 5 10 #[I,O,I,O,O,I,O,O,O,O,O,O,O] HT_.out ?_
 refine pu_ 7 12 #[I,O,I,O,O,I,O,I,O,O,O,O,O] HT_.out ?_
 refine tk4_ 1 6 #[I,I,I,O,O,I,O,I,O,O,O,O,O] HT_.out HW_.out hHeld ?_
 refine tk4_ 3 8 #[I,I,I,I,O,I,O,I,O,O,O,O,O] HT_.out HW_.out hHeld ?_
 refine tk4_ 6 11 #[I,I,I,I,O,I,I,I,O,O,O,O,O] HT_.out HW_.out hHeld ?_
 refine tk4_ 8 13 #[I,I,I,I,O,I,I,I,I,O,O,O,O] HT_.out HW_.out hHeld ?_
 refine o1_ 4 9 #[I,I,I,I,I,I,I,I,I,O,O,O,O] HT_.out (fun K hK=>?_)
 refine gs_ Try.func109 #[.int .i64 a0_0,.int .i64 a1_0] ?_
 with_reducible refine (cmp_Compare_int64.calls a0_0 a1_0 t275 _ A3.out).mono ?_
 rintro e w' ⟨rfl,⟨nd,rfl⟩⟩
 refine ⟨_,rfl,?_⟩
 refine hK.out _ _ (cj2_ BK273.out (cc2_ BK274.out)) (fun hHeld=>?_)
 clear hK K
 refine nm_ 9 ?_
 refine o1_ 9 14 #[I,I,I,I,I,I,I,I,I,I,O,O,O] HT_.out (fun K hK=>?_)
 refine gs_ Try.func109 #[.int .i64 a0_1,.int .i64 a1_1] ?_
 with_reducible refine (cmp_Compare_int64.calls a0_1 a1_1 t276 _ A4.out).mono ?_
 rintro e w' ⟨rfl,⟨nd,rfl⟩⟩
 refine ⟨_,rfl,?_⟩
 refine hK.out _ _ (cj2_ BK273.out (cc2_ BK274.out)) (fun hHeld=>?_)
 clear hK K
 refine nm_ 14 ?_
 refine o1_ 10 15 #[I,I,I,I,I,I,I,I,I,I,I,O,O] HT_.out (fun K hK=>?_)
 refine Kd.R_lit_step (Kd.int .i64) _ 3 ?hg (N:=15) ?hd (xs:=([t275,t276]:List Int)) (inner:=[.int .i64 t275,.int .i64 t276]) (ok:=fun _=>True) (okp:=fun _=>True) ?hr ?hp (fun _ hk=>hk) trivial (Below.refl _ _) (Nat.le_refl _) (by simp) ?_;(case hd=>rfl);(case hg=>rfl);(case hr=>first | (go_simp;done) | (go_simp;rfl));(case hp=>exact (Reps.one (show Kd.M (Kd.int .i64) _ _ _ t275 [.int .i64 t275] from rfl) (Reps.one (show Kd.M (Kd.int .i64) _ _ _ t276 [.int .i64 t276] from rfl) (Reps.none _ _))))
 intro v278 w9 ho10 hb hg_ hnew_
 clear hg_ hnew_
 (first | rw [← Ny277.out] at ho10 | (simp only [Int.reduceToNat] at ho10;rw [← Ny277.out] at ho10))
 refine as4_ (Kd.R_lower ho10 (below_size (z4_ HB.out GE273.out GE274.out))) (blkB_ BK273.out hb) (blkB_ BK274.out hb) (below_step (z4_ HB.out GE273.out GE274.out) hb) ?_
 clear BK273 BK274 HB
 intro HO279 BK273 BK274 HB
 clear hb ho10
 obtain ⟨Ao11,co11,eo11⟩:=Kd.R_slice HO279.out
 (first | subst eo11 | (injection eo11 with f1_ f2_ f3_;have f4_:=f1_.symm;have f5_:=f3_.symm;clear f1_ f2_ f3_;subst f4_;subst f5_))
 refine hK.out _ _ (cj2_ BK273.out (cc2_ BK274.out)) (fun hHeld=>?_)
 clear hK K
 refine nm_ 15 ?_
 refine o1_ 11 16 #[I,I,I,I,I,I,I,I,I,I,I,I,O] HT_.out (fun K hK=>?_)
 refine gs_ Try.func108 #[.slice Ao11 y277.length co11] ?_
 with_reducible refine (cmp_Or_int.calls k _ _ y277 t280 _ ?s1 ?s2 A5.out).mono ?_
 (case s1=>repeat (first | exact (Kd.R_reads' HO279.out).2.2 | (with_reducible refine Kd.C_alloc ?_ _) | (with_reducible refine Kd.C_drewN ?_ _) | (with_reducible refine Kd.C_drew ?_)))
 (case s2=>exact (Kd.R_reads' HO279.out).2.1)
 rintro e w' ⟨rfl,⟨nd,rfl⟩⟩
 refine ⟨_,rfl,?_⟩
 refine hK.out _ _ (cj2_ BK273.out (cc2_ BK274.out)) (fun hHeld=>?_)
 clear hK K
 refine nm_ 16 ?_
 refine pu_ 12 4 #[I,I,I,I,I,I,I,I,I,I,I,I,I] HT_.out ?_
 refine done_ (done_of HT_.out (by kernel_rfl)) ?_
 try go_wp2
 go_ret
 exact ⟨z8_,z4_ HB.out GE273.out GE274.out⟩


/-! ### impl_SetRight: function 56 -/
mutual
def impl_SetRight.j0:Nat→Bool→List (S56)→List (S91)→Option (Bool)
 | 0,_,_,_=>none
 | k+1,x14,x282000,x282001=>if x14=true then (some false) else (impl_SetRight.l0 k x282001 (x282001.length:Int) 0 x282000 x282001)
def impl_SetRight.l0:Nat→List (S91)→Int→Int→List (S56)→List (S91)→Option (Bool)
 | 0,_,_,_,_,_=>none
 | k+1,x16,x17,x18,x282000,x282001=>if x18<x17 then (if 0≤x18 then (if x18<(x16.length:Int) then ((impl_isDot.f ((rd_T91 x16 x18).f0.f0) ((rd_T91 x16 x18).f0.f1)).bind fun t285=>(if t285=true then ((impl_seenHas.f k x282000 ((rd_T91 x16 x18).f0.f0) ((rd_T91 x16 x18).f0.f1)).bind fun t286=>(if t286=true then ((impl_isData.f ((rd_T91 x16 x18).f2) ((rd_T91 x16 x18).f1)).bind fun t287=>(if t287=true then (if x18>0 then (if 0≤(wrap64 (x18-1)) then (if (wrap64 (x18-1))<(x282001.length:Int) then ((impl_compareDots.f k ((rd_T91 x282001 (wrap64 (x18-1))).f0.f0) ((rd_T91 x282001 (wrap64 (x18-1))).f0.f1) ((rd_T91 x16 x18).f0.f0) ((rd_T91 x16 x18).f0.f1)).bind fun t289=>(impl_SetRight.j2 k x16 x17 x18 (decide (t289≥0)) x282000 x282001)) else (none)) else (none)) else (impl_SetRight.j2 k x16 x17 x18 false x282000 x282001)) else (impl_SetRight.j2 k x16 x17 x18 true x282000 x282001))) else (impl_SetRight.j2 k x16 x17 x18 true x282000 x282001))) else (impl_SetRight.j2 k x16 x17 x18 true x282000 x282001))) else (none)) else (none)) else (some true)
def impl_SetRight.j2:Nat→List (S91)→Int→Int→Bool→List (S56)→List (S91)→Option (Bool)
 | 0,_,_,_,_,_,_=>none
 | k+1,x16,x17,x18,x59,x282000,x282001=>if x59=true then (some false) else (impl_SetRight.l0 k x16 x17 (wrap64 (x18+1)) x282000 x282001)
end
def impl_SetRight.f (k:Nat) (l0_0:List (S56)) (l0_1:List (S91)):Option (Bool):=(impl_seenRight.f k l0_0).bind fun t282=>(if t282=true then (impl_SetRight.j0 k (decide ((l0_1.length:Int)>8)) l0_0 l0_1) else (impl_SetRight.j0 k true l0_0 l0_1))
theorem impl_SetRight.mono_l:∀ k,(∀ y0 y1 y2,LeO (impl_SetRight.j0 k y0 y1 y2) (impl_SetRight.j0 (k+1) y0 y1 y2))∧(∀ y0 y1 y2 y3 y4,LeO (impl_SetRight.l0 k y0 y1 y2 y3 y4) (impl_SetRight.l0 (k+1) y0 y1 y2 y3 y4))∧(∀ y0 y1 y2 y3 y4 y5,LeO (impl_SetRight.j2 k y0 y1 y2 y3 y4 y5) (impl_SetRight.j2 (k+1) y0 y1 y2 y3 y4 y5))
 | 0=>⟨fun _ _ _ r h=>by simp [impl_SetRight.j0] at h,fun _ _ _ _ _ r h=>by simp [impl_SetRight.l0] at h,fun _ _ _ _ _ _ r h=>by simp [impl_SetRight.j2] at h⟩
 | k+1=>by
  obtain ⟨ih0,ih1,ih2⟩:=impl_SetRight.mono_l k
  refine ⟨?_,?_,?_⟩
  ·intro y0 y1 y2
   unfold impl_SetRight.j0
   repeat' first
   | (with_reducible exact ih0 _ _ _)
   | (with_reducible exact ih1 _ _ _ _ _)
   | (with_reducible exact ih2 _ _ _ _ _ _)
   | (with_reducible exact impl_compareDots.mono _ _ _ _ _)
   | (with_reducible exact impl_seenHas.mono _ _ _ _)
   | (with_reducible exact impl_seenRight.mono _ _)
   | (with_reducible exact LeO.refl _)
   | (with_reducible exact LeO.none _)
   | (with_reducible refine LeO.ite ?_ ?_)
   | (with_reducible refine LeO.bind ?_ (fun _=>?_))
   | exact ih0 _ _ _
   | exact ih1 _ _ _ _ _
   | exact ih2 _ _ _ _ _ _
   | exact impl_compareDots.mono _ _ _ _ _
   | exact impl_seenHas.mono _ _ _ _
   | exact impl_seenRight.mono _ _
   | exact LeO.none _
   | refine LeO.ite ?_ ?_
   | refine LeO.bind ?_ (fun _=>?_)
  ·intro y0 y1 y2 y3 y4
   unfold impl_SetRight.l0
   repeat' first
   | (with_reducible exact ih0 _ _ _)
   | (with_reducible exact ih1 _ _ _ _ _)
   | (with_reducible exact ih2 _ _ _ _ _ _)
   | (with_reducible exact impl_compareDots.mono _ _ _ _ _)
   | (with_reducible exact impl_seenHas.mono _ _ _ _)
   | (with_reducible exact impl_seenRight.mono _ _)
   | (with_reducible exact LeO.refl _)
   | (with_reducible exact LeO.none _)
   | (with_reducible refine LeO.ite ?_ ?_)
   | (with_reducible refine LeO.bind ?_ (fun _=>?_))
   | exact ih0 _ _ _
   | exact ih1 _ _ _ _ _
   | exact ih2 _ _ _ _ _ _
   | exact impl_compareDots.mono _ _ _ _ _
   | exact impl_seenHas.mono _ _ _ _
   | exact impl_seenRight.mono _ _
   | exact LeO.none _
   | refine LeO.ite ?_ ?_
   | refine LeO.bind ?_ (fun _=>?_)
  ·intro y0 y1 y2 y3 y4 y5
   unfold impl_SetRight.j2
   repeat' first
   | (with_reducible exact ih0 _ _ _)
   | (with_reducible exact ih1 _ _ _ _ _)
   | (with_reducible exact ih2 _ _ _ _ _ _)
   | (with_reducible exact impl_compareDots.mono _ _ _ _ _)
   | (with_reducible exact impl_seenHas.mono _ _ _ _)
   | (with_reducible exact impl_seenRight.mono _ _)
   | (with_reducible exact LeO.refl _)
   | (with_reducible exact LeO.none _)
   | (with_reducible refine LeO.ite ?_ ?_)
   | (with_reducible refine LeO.bind ?_ (fun _=>?_))
   | exact ih0 _ _ _
   | exact ih1 _ _ _ _ _
   | exact ih2 _ _ _ _ _ _
   | exact impl_compareDots.mono _ _ _ _ _
   | exact impl_seenHas.mono _ _ _ _
   | exact impl_seenRight.mono _ _
   | exact LeO.none _
   | refine LeO.ite ?_ ?_
   | refine LeO.bind ?_ (fun _=>?_)
theorem impl_SetRight.mono:∀ a0 a1 k,LeO (impl_SetRight.f k a0 a1) (impl_SetRight.f (k+1) a0 a1):=by
 intro a0 a1 k
 obtain ⟨ih0,ih1,ih2⟩:=impl_SetRight.mono_l k
 unfold impl_SetRight.f
 repeat' first
   | (with_reducible exact ih0 _ _ _)
   | (with_reducible exact ih1 _ _ _ _ _)
   | (with_reducible exact ih2 _ _ _ _ _ _)
   | (with_reducible exact impl_compareDots.mono _ _ _ _ _)
   | (with_reducible exact impl_seenHas.mono _ _ _ _)
   | (with_reducible exact impl_seenRight.mono _ _)
   | (with_reducible exact LeO.refl _)
   | (with_reducible exact LeO.none _)
   | (with_reducible refine LeO.ite ?_ ?_)
   | (with_reducible refine LeO.bind ?_ (fun _=>?_))
   | exact ih0 _ _ _
   | exact ih1 _ _ _ _ _
   | exact ih2 _ _ _ _ _ _
   | exact impl_compareDots.mono _ _ _ _ _
   | exact impl_seenHas.mono _ _ _ _
   | exact impl_seenRight.mono _ _
   | exact LeO.none _
   | refine LeO.ite ?_ ?_
   | refine LeO.bind ?_ (fun _=>?_)
def impl_SetRight.T6:Bool × List (List Nat × List Nat):=(true,[([],[]),([0],[0]),([1],[1]),([2],[2]),([3,2],[3]),([4],[4]),([5,4],[4,5]),([4],[4]),([7,4],[4,7]),([6,8,4,4],[4,6,8]),([9,4],[4,9]),([4,10],[4,10]),([11,9],[11]),([12],[12]),([13,12],[12,13]),([12],[12]),([15,12],[12,15]),([14,16,12,12],[12,14,16]),([17,12],[12,17]),([12,18],[12,18]),([19,17],[19]),([20],[20]),([21,20],[20,21]),([22,20,20],[20,22]),([23],[23]),([24,23],[23,24]),([23],[23]),([26,23],[23,26]),([25,27,23],[23,25,27]),([28,23],[23,28]),([29,23],[23,29]),([23],[23]),([31,23],[23,31]),([30,32,23,23],[23,30,32]),([33,23],[23,33]),([23,34,20],[20,23,34]),([20,35],[20,35])])
def impl_SetRight.B6:List Nat:=[0,1,3,7,15,31,63,31,159,511,1023,2047,4095,8191,16383,8191,40959,131071,262143,524287,1048575,2097151,4194303,8388607,16777215,33554431,16777215,83886079,268435455,536870911,1073741823,16777215,2164260863,8589934591,17179869183,34359738367,68719476735]
theorem impl_SetRight.tab6:rtab .any (opsOf Try.f56 6)=impl_SetRight.T6:=by kernel_rfl
theorem impl_SetRight.bits6:waitsOk impl_SetRight.T6.2 impl_SetRight.B6=true:=by kernel_rfl
abbrev impl_SetRight.q0:Array Bool:=#[O,O,O,O,O,O,O,O,O,O,O,O,O,O,O,O,O,O,O,O,O,O,O,O,O,O,O,O,O,O,O,O,O,O,O,O,O]
abbrev impl_SetRight.q1:Array Bool:=#[I,O,O,O,O,O,O,O,O,O,O,O,O,O,O,O,O,O,O,O,O,O,O,O,O,O,O,O,O,O,O,O,O,O,O,O,O]
abbrev impl_SetRight.q2:Array Bool:=#[I,I,O,O,O,O,O,O,O,O,O,O,O,O,O,O,O,O,O,O,O,O,O,O,O,O,O,O,O,O,O,O,O,O,O,O,O]
abbrev impl_SetRight.q3:Array Bool:=#[I,I,I,O,O,O,O,O,O,O,O,O,O,O,O,O,O,O,O,O,O,O,O,O,O,O,O,O,O,O,O,O,O,O,O,O,O]
abbrev impl_SetRight.q4:Array Bool:=#[I,I,I,I,O,O,O,O,O,O,O,O,O,O,O,O,O,O,O,O,O,O,O,O,O,O,O,O,O,O,O,O,O,O,O,O,O]
abbrev impl_SetRight.q5:Array Bool:=#[I,I,I,I,I,O,O,O,O,O,O,O,O,O,O,O,O,O,O,O,O,O,O,O,O,O,O,O,O,O,O,O,O,O,O,O,O]
abbrev impl_SetRight.q6:Array Bool:=#[I,I,I,I,I,I,O,O,O,O,O,O,O,O,O,O,O,O,O,O,O,O,O,O,O,O,O,O,O,O,O,O,O,O,O,O,O]
abbrev impl_SetRight.q7:Array Bool:=#[I,I,I,I,I,I,O,I,O,O,O,O,O,O,O,O,O,O,O,O,O,O,O,O,O,O,O,O,O,O,O,O,O,O,O,O,O]
abbrev impl_SetRight.q8:Array Bool:=#[I,I,I,I,I,I,I,I,O,O,O,O,O,O,O,O,O,O,O,O,O,O,O,O,O,O,O,O,O,O,O,O,O,O,O,O,O]
abbrev impl_SetRight.q9:Array Bool:=#[I,I,I,I,I,I,I,I,I,O,O,O,O,O,O,O,O,O,O,O,O,O,O,O,O,O,O,O,O,O,O,O,O,O,O,O,O]
abbrev impl_SetRight.q10:Array Bool:=#[I,I,I,I,I,I,I,I,I,I,O,O,O,O,O,O,O,O,O,O,O,O,O,O,O,O,O,O,O,O,O,O,O,O,O,O,O]
abbrev impl_SetRight.q11:Array Bool:=#[I,I,I,I,I,I,I,I,I,I,I,O,O,O,O,O,O,O,O,O,O,O,O,O,O,O,O,O,O,O,O,O,O,O,O,O,O]
abbrev impl_SetRight.q12:Array Bool:=#[I,I,I,I,I,I,I,I,I,I,I,I,O,O,O,O,O,O,O,O,O,O,O,O,O,O,O,O,O,O,O,O,O,O,O,O,O]
abbrev impl_SetRight.q13:Array Bool:=#[I,I,I,I,I,I,I,I,I,I,I,I,I,O,O,O,O,O,O,O,O,O,O,O,O,O,O,O,O,O,O,O,O,O,O,O,O]
abbrev impl_SetRight.q14:Array Bool:=#[I,I,I,I,I,I,I,I,I,I,I,I,I,I,O,O,O,O,O,O,O,O,O,O,O,O,O,O,O,O,O,O,O,O,O,O,O]
abbrev impl_SetRight.q15:Array Bool:=#[I,I,I,I,I,I,I,I,I,I,I,I,I,I,O,I,O,O,O,O,O,O,O,O,O,O,O,O,O,O,O,O,O,O,O,O,O]
abbrev impl_SetRight.q16:Array Bool:=#[I,I,I,I,I,I,I,I,I,I,I,I,I,I,I,I,O,O,O,O,O,O,O,O,O,O,O,O,O,O,O,O,O,O,O,O,O]
abbrev impl_SetRight.q17:Array Bool:=#[I,I,I,I,I,I,I,I,I,I,I,I,I,I,I,I,I,O,O,O,O,O,O,O,O,O,O,O,O,O,O,O,O,O,O,O,O]
abbrev impl_SetRight.q18:Array Bool:=#[I,I,I,I,I,I,I,I,I,I,I,I,I,I,I,I,I,I,O,O,O,O,O,O,O,O,O,O,O,O,O,O,O,O,O,O,O]
abbrev impl_SetRight.q19:Array Bool:=#[I,I,I,I,I,I,I,I,I,I,I,I,I,I,I,I,I,I,I,O,O,O,O,O,O,O,O,O,O,O,O,O,O,O,O,O,O]
abbrev impl_SetRight.q20:Array Bool:=#[I,I,I,I,I,I,I,I,I,I,I,I,I,I,I,I,I,I,I,I,O,O,O,O,O,O,O,O,O,O,O,O,O,O,O,O,O]
abbrev impl_SetRight.q21:Array Bool:=#[I,I,I,I,I,I,I,I,I,I,I,I,I,I,I,I,I,I,I,I,I,O,O,O,O,O,O,O,O,O,O,O,O,O,O,O,O]
abbrev impl_SetRight.q22:Array Bool:=#[I,I,I,I,I,I,I,I,I,I,I,I,I,I,I,I,I,I,I,I,I,I,O,O,O,O,O,O,O,O,O,O,O,O,O,O,O]
abbrev impl_SetRight.q23:Array Bool:=#[I,I,I,I,I,I,I,I,I,I,I,I,I,I,I,I,I,I,I,I,I,I,I,O,O,O,O,O,O,O,O,O,O,O,O,O,O]
abbrev impl_SetRight.q24:Array Bool:=#[I,I,I,I,I,I,I,I,I,I,I,I,I,I,I,I,I,I,I,I,I,I,I,I,O,O,O,O,O,O,O,O,O,O,O,O,O]
abbrev impl_SetRight.q25:Array Bool:=#[I,I,I,I,I,I,I,I,I,I,I,I,I,I,I,I,I,I,I,I,I,I,I,I,I,O,O,O,O,O,O,O,O,O,O,O,O]
abbrev impl_SetRight.q26:Array Bool:=#[I,I,I,I,I,I,I,I,I,I,I,I,I,I,I,I,I,I,I,I,I,I,I,I,I,I,I,I,I,I,I,I,O,O,O,O,O]
abbrev impl_SetRight.q27:Array Bool:=#[I,I,I,I,I,I,I,I,I,I,I,I,I,I,I,I,I,I,I,I,I,I,I,I,I,I,I,I,I,I,I,I,I,O,O,O,O]
abbrev impl_SetRight.q28:Array Bool:=#[I,I,I,I,I,I,I,I,I,I,I,I,I,I,I,I,I,I,I,I,I,I,I,I,I,I,I,I,I,I,I,I,I,I,O,O,O]
abbrev impl_SetRight.q29:Array Bool:=#[I,I,I,I,I,I,I,I,I,I,I,I,I,I,I,I,I,I,I,I,I,I,I,I,I,I,I,I,I,I,I,I,I,I,I,O,O]
abbrev impl_SetRight.q30:Array Bool:=#[I,I,I,I,I,I,I,I,I,I,I,I,I,I,I,I,I,I,I,I,I,I,I,I,I,I,I,I,I,I,I,I,I,I,I,I,O]
abbrev impl_SetRight.q31:Array Bool:=#[I,I,I,I,I,I,I,I,I,I,I,I,I,I,I,I,I,I,I,I,I,I,I,I,I,I,I,I,I,I,I,I,I,I,I,I,I]
abbrev impl_SetRight.q32:Array Bool:=#[I,I,I,I,I,I,I,I,I,I,I,I,I,I,I,I,I,I,I,I,I,I,I,I,I,I,O,O,O,O,O,O,O,O,O,O,O]
abbrev impl_SetRight.q33:Array Bool:=#[I,I,I,I,I,I,I,I,I,I,I,I,I,I,I,I,I,I,I,I,I,I,I,I,I,I,I,O,O,O,O,O,O,O,O,O,O]
abbrev impl_SetRight.q34:Array Bool:=#[I,I,I,I,I,I,I,I,I,I,I,I,I,I,I,I,I,I,I,I,I,I,I,I,I,I,I,I,O,O,O,O,O,O,O,O,O]
abbrev impl_SetRight.q35:Array Bool:=#[I,I,I,I,I,I,I,I,I,I,I,I,I,I,I,I,I,I,I,I,I,I,I,I,I,I,I,I,I,O,O,O,O,O,O,O,O]
abbrev impl_SetRight.q36:Array Bool:=#[I,I,I,I,I,I,I,I,I,I,I,I,I,I,I,I,I,I,I,I,I,I,I,I,I,I,I,I,I,I,O,O,O,O,O,O,O]
abbrev impl_SetRight.q37:Array Bool:=#[I,I,I,I,I,I,I,I,I,I,I,I,I,I,I,I,I,I,I,I,I,I,I,I,I,I,I,I,I,I,I,O,O,O,O,O,O]
abbrev impl_SetRight.q38:Array Bool:=#[I,I,I,I,I,I,I,I,I,I,I,I,I,I,I,O,O,O,O,O,O,O,O,O,O,O,O,O,O,O,O,O,O,O,O,O,O]
set_option maxHeartbeats 8000000 in
set_option maxRecDepth 100000 in
theorem impl_SetRight.calls (k:Nat) (A0_0:Option Addr) (c0_0:Nat) (l0_0:List (S56)) (A0_1:Option Addr) (c0_1:Nat) (l0_1:List (S91)) (r:Bool) (w:World) (hr0_0:Kd.C k56 w A0_0 l0_0.length l0_0) (hc0_0:l0_0.length≤c0_0) (hr0_1:Kd.C k91 w A0_1 l0_1.length l0_1) (hc0_1:l0_1.length≤c0_1) (h:impl_SetRight.f k l0_0 l0_1=some r) :
  Calls Try.prog 56 #[.agg #[.slice A0_0 l0_0.length c0_0,.slice A0_1 l0_1.length c0_1]] w fun e w'=>e = .returned (.bool r)∧Below w.heap.size w w':=by
 have hu40:=Try.underlying40
 have hu91:=Try.underlying91
 have hu56:=Try.underlying56
 have HR0_0:=Aside0.mk hr0_0
 have HC0_0:=Aside0.mk hc0_0
 clear hr0_0 hc0_0
 have HR0_1:=Aside0.mk hr0_1
 have HC0_1:=Aside0.mk hc0_1
 clear hr0_1 hc0_1
 have HB:=Aside0.mk (Below.refl w.heap.size w)
 have H:((impl_seenRight.f k l0_0).bind fun t282=>(if t282=true then (impl_SetRight.j0 k (decide ((l0_1.length:Int)>8)) l0_0 l0_1) else (impl_SetRight.j0 k true l0_0 l0_1)))=some r:=h
 clear h
 have HC2:=Aside0.mk H
 clear H
 go_enter Try.func56,Try.ntmps56
 go_upto_region 1 with (first | ((with_reducible refine gd_ 1 ?_);(try (refine gate_guard (by rfl) ?_;dsimp only));refine be_ 1 #[.slice A0_0 l0_0.length c0_0,.slice A0_1 l0_1.length c0_1] 40 ?_;intro gb281 hg w3 hbox hb;refine as4_ (below_step (z3_ HB.out) hb) (hbox) ((z7_ HB.out:w.heap.size≤gb281)) ((z7_ HB.out:w.heap.size≤gb281)) ?_;clear HB;intro HB BK281 GW281 GE281;clear hb hbox hg))
 (try simp only [Act.put,sa_,s0_,ss_])
 go_cut [14] (fun v14 wc=>∃ (kq:Nat) (x14_1:Bool),v14 = .bool x14_1∧Aside0 (impl_SetRight.j0 kq x14_1 l0_0 l0_1=some r)∧Aside0 (kq≤k)∧Aside0 (wc.heap[gb281]? = some (.cells #[(.slice A0_0 l0_0.length c0_0),(.slice A0_1 l0_1.length c0_1)] 40 (0,0)))∧Aside0 (Below w.heap.size w wc))
 case first =>
  have H:=HC2.out
  clear HC2
  replace H:=Option.bind_eq_some_iff.mp H
  obtain ⟨t282,A40,H⟩:=H
  replace H:(if t282=true then (impl_SetRight.j0 k (decide ((l0_1.length:Int)>8)) l0_0 l0_1) else (impl_SetRight.j0 k true l0_0 l0_1))=some r:=H
  have A4:=Aside0.mk A40
  clear A40
  by_cases c5:t282=true
  ·subst c5
   have H1:(impl_SetRight.j0 k (decide ((l0_1.length:Int)>8)) l0_0 l0_1)=some r:=by rw [if_pos rfl] at H;exact H
   clear H
   have H:=H1
   clear H1
   have H':=Aside0.mk H
   clear H
   have ⟨hcz6_0,hcz6_1,hfz6_0,hfz6_1⟩:=cz2_ BK281.out
   go_wp2_with (first | ((with_reducible refine gc_ 87 ?_);refine gl_ (some 7) Try.func87 #[.slice A0_0 l0_0.length c0_0] ?_;(with_reducible refine (impl_seenRight.calls k _ _ l0_0 true _ ?s1 ?s2 A4.out).mono ?_);(case s1=>repeat (first | exact (Kd.C_below HR0_0.out HB.out) | (with_reducible refine Kd.C_alloc ?_ _) | (with_reducible refine Kd.C_drewN ?_ _) | (with_reducible refine Kd.C_drew ?_)));(case s2=>exact HC0_0.out);rintro e w7 ⟨rfl,hb⟩;refine ⟨_,rfl,?_⟩;refine as2_ (blkB_ BK281.out hb) (below_step (z6_ HB.out GE281.out) hb) ?_;clear BK281 HB;intro BK281 HB;(try clear hb);have ⟨hcz8_0,hcz8_1,hfz8_0,hfz8_1⟩:=cz2_ BK281.out))
   go_meet
   case rel=>exact ⟨_,(decide ((l0_1.length:Int)>8)),(z2_),H',⟨by first | omega | exact Nat.le_refl _⟩,⟨z5_ BK281.out⟩,⟨z6_ HB.out GE281.out⟩⟩
  ·replace c5:=Bool.eq_false_iff.mpr c5
   subst c5
   have H1:(impl_SetRight.j0 k true l0_0 l0_1)=some r:=by rw [if_neg (show ¬ (false=true) by decide)] at H;exact H
   clear H
   have H:=H1
   clear H1
   have H':=Aside0.mk H
   clear H
   have ⟨hcz9_0,hcz9_1,hfz9_0,hfz9_1⟩:=cz2_ BK281.out
   go_wp2_with (first | ((with_reducible refine gc_ 87 ?_);refine gl_ (some 7) Try.func87 #[.slice A0_0 l0_0.length c0_0] ?_;(with_reducible refine (impl_seenRight.calls k _ _ l0_0 false _ ?s1 ?s2 A4.out).mono ?_);(case s1=>repeat (first | exact (Kd.C_below HR0_0.out HB.out) | (with_reducible refine Kd.C_alloc ?_ _) | (with_reducible refine Kd.C_drewN ?_ _) | (with_reducible refine Kd.C_drew ?_)));(case s2=>exact HC0_0.out);rintro e w10 ⟨rfl,hb⟩;refine ⟨_,rfl,?_⟩;refine as2_ (blkB_ BK281.out hb) (below_step (z6_ HB.out GE281.out) hb) ?_;clear BK281 HB;intro BK281 HB;(try clear hb)))
   go_meet
   case rel=>exact ⟨_,(true),(z2_),H',⟨by first | omega | exact Nat.le_refl _⟩,⟨z5_ BK281.out⟩,⟨z6_ HB.out GE281.out⟩⟩
 case rest =>
  clear HC2
  try clear p2
  try clear c5
  try clear c8
  try clear hcz6_0
  try clear hcz6_1
  try clear hcz8_0
  try clear hcz8_1
  try clear hcz9_0
  try clear hcz9_1
  try clear hfz6_0
  try clear hfz6_1
  try clear hfz8_0
  try clear hfz8_1
  try clear hfz9_0
  try clear hfz9_1
  obtain ⟨kq,x14_1,rfl,HA,HJ1,BK281,HB⟩:=hcut
  cases kq with
  | zero=>exact absurd HA.out (by simp [impl_SetRight.j0])
  | succ kj1 =>
   have H:=HA.out
   clear HA
   simp only [impl_SetRight.j0] at H
   by_cases c11:x14_1=true
   ·subst c11
    have H1:(some false)=some r:=by rw [if_pos rfl] at H;exact H
    clear H
    have H:=H1
    clear H1
    obtain rfl:=Option.some.inj H
    go_wp2
    go_ret
    exact ⟨z8_,z6_ HB.out GE281.out⟩
   ·replace c11:=Bool.eq_false_iff.mpr c11
    subst c11
    have H1:(impl_SetRight.l0 kj1 l0_1 (l0_1.length:Int) 0 l0_0 l0_1)=some r:=by rw [if_neg (show ¬ (false=true) by decide)] at H;exact H
    clear H
    have H:=H1
    clear H1
    have H':=Aside0.mk H
    clear H
    have ⟨hcz12_0,hcz12_1,hfz12_0,hfz12_1⟩:=cz2_ BK281.out
    go_wp2
    go_loopg [18] kj1 (fun kq v18 w'=>∃ (x18_2:Int),v18 = .int .i64 x18_2∧Aside0 (impl_SetRight.l0 kq l0_1 (l0_1.length:Int) x18_2 l0_0 l0_1=some r)∧Aside0 (kq≤kj1)∧Aside0 (w'.heap[gb281]? = some (.cells #[(.slice A0_0 l0_0.length c0_0),(.slice A0_1 l0_1.length c0_1)] 40 (0,0)))∧Aside0 (Below w.heap.size w w'))
    case atStart=>exact ⟨(0),(z2_),H',⟨Nat.le_refl _⟩,⟨z5_ BK281.out⟩,⟨z6_ HB.out GE281.out⟩⟩
    case round =>
     clear H'
     try clear c1
     try clear p2
     try clear c5
     try clear c8
     try clear c11
     try clear hcz12_0
     try clear hcz12_1
     try clear hcz6_0
     try clear hcz6_1
     try clear hcz8_0
     try clear hcz8_1
     try clear hcz9_0
     try clear hcz9_1
     try clear hfz12_0
     try clear hfz12_1
     try clear hfz6_0
     try clear hfz6_1
     try clear hfz8_0
     try clear hfz8_1
     try clear hfz9_0
     try clear hfz9_1
     try clear p2
     obtain ⟨x18_2,rfl,HA,HK2,BK281,HB⟩:=hrel
     cases gk with
     | zero=>exact absurd HA.out (by simp [impl_SetRight.l0])
     | succ k2 =>
      have H:=HA.out
      clear HA
      simp only [impl_SetRight.l0] at H
      by_cases c13:x18_2<(l0_1.length:Int)
      ·rw [if_pos c13] at H
       have c13b0:decide (x18_2<(l0_1.length:Int))=true:=decide_eq_true c13
       clear c13
       by_cases c14:0≤x18_2
       ·rw [if_pos c14] at H
        have c14b0:decide (0≤x18_2)=true:=decide_eq_true c14
        clear c14
        by_cases c15:x18_2<(l0_1.length:Int)
        ·rw [if_pos c15] at H
         have c15b0:decide (x18_2<(l0_1.length:Int))=true:=decide_eq_true c15
         clear c15
         have HC16:=Aside0.mk H
         clear H
         have p283:0≤(x18_2:Int):=of_decide_eq_true (z1_)
         have q283:x18_2<(l0_1.length:Int):=of_decide_eq_true (z1_)
         obtain ⟨ad283,e283,hx283_0,hx283_1,hx283_2,hx283_3⟩:=at_T91 HR0_1.out x18_2 p283 q283
         cases e283
         replace hx283_0:=(HB.out.cell (World.block_lt_of_cell? w _ hx283_0)).trans hx283_0
         replace hx283_1:=(HB.out.cell (World.block_lt_of_cell? w _ hx283_1)).trans hx283_1
         replace hx283_2:=(HB.out.cell (World.block_lt_of_cell? w _ hx283_2)).trans hx283_2
         replace hx283_3:=(HB.out.cell (World.block_lt_of_cell? w _ hx283_3)).trans hx283_3
         replace p283:=eq_true p283
         replace q283:=eq_true q283
         go_upto_region 6 with (first | ((with_reducible refine gd_ 4 ?_);(try (refine gate_guard (by rfl) ?_;dsimp only));refine be_ 4 #[.int .i64 0,.int .i64 0,.bool false,.string (⟨#[]⟩:ByteArray)] 91 ?_;intro gb284 hg w17 hbox hb;refine as7_ (blkB_ BK281.out hb) (below_step (z6_ HB.out GE281.out) hb) (hbox) ((z9_ HB.out GE281.out:w.heap.size≤gb284)) ((z9_ HB.out GE281.out:w.heap.size≤gb284)) (neL_ BK281.out hg) (neG_ BK281.out hg) ?_;clear BK281 HB;intro BK281 HB BK284 GW284 GE284 NB281_284 NB284_281;clear hb hbox hg;have hnb18:=NB284_281.out;have hnc18:=NB281_284.out;have ⟨hcz19_0,hcz19_1,hcz19_2,hcz19_3,hfz19_0,hfz19_1,hfz19_2,hfz19_3⟩:=cz4_ BK284.out))
         (try simp only [Act.put,sa_,s0_,ss_])
         go_cut [59] (fun v59 wc=>∃ (kq:Nat) (x59_15:Bool),v59 = .bool x59_15∧Aside0 (impl_SetRight.j2 kq l0_1 (l0_1.length:Int) x18_2 x59_15 l0_0 l0_1=some r)∧Aside0 (kq≤k2)∧Aside0 (wc.heap[gb281]? = some (.cells #[(.slice A0_0 l0_0.length c0_0),(.slice (some ad283) l0_1.length c0_1)] 40 (0,0)))∧Aside0 (wc.heap[gb284]? = some (.cells #[.int .i64 ((rd_T91 l0_1 x18_2).f0.f0),.int .i64 ((rd_T91 l0_1 x18_2).f0.f1),.bool ((rd_T91 l0_1 x18_2).f1),.string ((rd_T91 l0_1 x18_2).f2)] 91 (0,0)))∧Aside0 (Below w.heap.size w wc))
         case first =>
          have H:=HC16.out
          clear HC16
          replace H:=Option.bind_eq_some_iff.mp H
          obtain ⟨t285,A200,H⟩:=H
          replace H:(if t285=true then ((impl_seenHas.f k2 l0_0 ((rd_T91 l0_1 x18_2).f0.f0) ((rd_T91 l0_1 x18_2).f0.f1)).bind fun t286=>(if t286=true then ((impl_isData.f ((rd_T91 l0_1 x18_2).f2) ((rd_T91 l0_1 x18_2).f1)).bind fun t287=>(if t287=true then (if x18_2>0 then (if 0≤(wrap64 (x18_2-1)) then (if (wrap64 (x18_2-1))<(l0_1.length:Int) then ((impl_compareDots.f k2 ((rd_T91 l0_1 (wrap64 (x18_2-1))).f0.f0) ((rd_T91 l0_1 (wrap64 (x18_2-1))).f0.f1) ((rd_T91 l0_1 x18_2).f0.f0) ((rd_T91 l0_1 x18_2).f0.f1)).bind fun t289=>(impl_SetRight.j2 k2 l0_1 (l0_1.length:Int) x18_2 (decide (t289≥0)) l0_0 l0_1)) else (none)) else (none)) else (impl_SetRight.j2 k2 l0_1 (l0_1.length:Int) x18_2 false l0_0 l0_1)) else (impl_SetRight.j2 k2 l0_1 (l0_1.length:Int) x18_2 true l0_0 l0_1))) else (impl_SetRight.j2 k2 l0_1 (l0_1.length:Int) x18_2 true l0_0 l0_1))) else (impl_SetRight.j2 k2 l0_1 (l0_1.length:Int) x18_2 true l0_0 l0_1))=some r:=H
          have A20:=Aside0.mk A200
          clear A200
          by_cases c21:t285=true
          ·subst c21
           have H1:((impl_seenHas.f k2 l0_0 ((rd_T91 l0_1 x18_2).f0.f0) ((rd_T91 l0_1 x18_2).f0.f1)).bind fun t286=>(if t286=true then ((impl_isData.f ((rd_T91 l0_1 x18_2).f2) ((rd_T91 l0_1 x18_2).f1)).bind fun t287=>(if t287=true then (if x18_2>0 then (if 0≤(wrap64 (x18_2-1)) then (if (wrap64 (x18_2-1))<(l0_1.length:Int) then ((impl_compareDots.f k2 ((rd_T91 l0_1 (wrap64 (x18_2-1))).f0.f0) ((rd_T91 l0_1 (wrap64 (x18_2-1))).f0.f1) ((rd_T91 l0_1 x18_2).f0.f0) ((rd_T91 l0_1 x18_2).f0.f1)).bind fun t289=>(impl_SetRight.j2 k2 l0_1 (l0_1.length:Int) x18_2 (decide (t289≥0)) l0_0 l0_1)) else (none)) else (none)) else (impl_SetRight.j2 k2 l0_1 (l0_1.length:Int) x18_2 false l0_0 l0_1)) else (impl_SetRight.j2 k2 l0_1 (l0_1.length:Int) x18_2 true l0_0 l0_1))) else (impl_SetRight.j2 k2 l0_1 (l0_1.length:Int) x18_2 true l0_0 l0_1)))=some r:=by rw [if_pos rfl] at H;exact H
           clear H
           have H:=H1
           clear H1
           replace H:=Option.bind_eq_some_iff.mp H
           obtain ⟨t286,A220,H⟩:=H
           replace H:(if t286=true then ((impl_isData.f ((rd_T91 l0_1 x18_2).f2) ((rd_T91 l0_1 x18_2).f1)).bind fun t287=>(if t287=true then (if x18_2>0 then (if 0≤(wrap64 (x18_2-1)) then (if (wrap64 (x18_2-1))<(l0_1.length:Int) then ((impl_compareDots.f k2 ((rd_T91 l0_1 (wrap64 (x18_2-1))).f0.f0) ((rd_T91 l0_1 (wrap64 (x18_2-1))).f0.f1) ((rd_T91 l0_1 x18_2).f0.f0) ((rd_T91 l0_1 x18_2).f0.f1)).bind fun t289=>(impl_SetRight.j2 k2 l0_1 (l0_1.length:Int) x18_2 (decide (t289≥0)) l0_0 l0_1)) else (none)) else (none)) else (impl_SetRight.j2 k2 l0_1 (l0_1.length:Int) x18_2 false l0_0 l0_1)) else (impl_SetRight.j2 k2 l0_1 (l0_1.length:Int) x18_2 true l0_0 l0_1))) else (impl_SetRight.j2 k2 l0_1 (l0_1.length:Int) x18_2 true l0_0 l0_1))=some r:=H
           have A22:=Aside0.mk A220
           clear A220
           by_cases c23:t286=true
           ·subst c23
            have H1:((impl_isData.f ((rd_T91 l0_1 x18_2).f2) ((rd_T91 l0_1 x18_2).f1)).bind fun t287=>(if t287=true then (if x18_2>0 then (if 0≤(wrap64 (x18_2-1)) then (if (wrap64 (x18_2-1))<(l0_1.length:Int) then ((impl_compareDots.f k2 ((rd_T91 l0_1 (wrap64 (x18_2-1))).f0.f0) ((rd_T91 l0_1 (wrap64 (x18_2-1))).f0.f1) ((rd_T91 l0_1 x18_2).f0.f0) ((rd_T91 l0_1 x18_2).f0.f1)).bind fun t289=>(impl_SetRight.j2 k2 l0_1 (l0_1.length:Int) x18_2 (decide (t289≥0)) l0_0 l0_1)) else (none)) else (none)) else (impl_SetRight.j2 k2 l0_1 (l0_1.length:Int) x18_2 false l0_0 l0_1)) else (impl_SetRight.j2 k2 l0_1 (l0_1.length:Int) x18_2 true l0_0 l0_1)))=some r:=by rw [if_pos rfl] at H;exact H
            clear H
            have H:=H1
            clear H1
            replace H:=Option.bind_eq_some_iff.mp H
            obtain ⟨t287,A240,H⟩:=H
            replace H:(if t287=true then (if x18_2>0 then (if 0≤(wrap64 (x18_2-1)) then (if (wrap64 (x18_2-1))<(l0_1.length:Int) then ((impl_compareDots.f k2 ((rd_T91 l0_1 (wrap64 (x18_2-1))).f0.f0) ((rd_T91 l0_1 (wrap64 (x18_2-1))).f0.f1) ((rd_T91 l0_1 x18_2).f0.f0) ((rd_T91 l0_1 x18_2).f0.f1)).bind fun t289=>(impl_SetRight.j2 k2 l0_1 (l0_1.length:Int) x18_2 (decide (t289≥0)) l0_0 l0_1)) else (none)) else (none)) else (impl_SetRight.j2 k2 l0_1 (l0_1.length:Int) x18_2 false l0_0 l0_1)) else (impl_SetRight.j2 k2 l0_1 (l0_1.length:Int) x18_2 true l0_0 l0_1))=some r:=H
            have A24:=Aside0.mk A240
            clear A240
            by_cases c25:t287=true
            ·subst c25
             have H1:(if x18_2>0 then (if 0≤(wrap64 (x18_2-1)) then (if (wrap64 (x18_2-1))<(l0_1.length:Int) then ((impl_compareDots.f k2 ((rd_T91 l0_1 (wrap64 (x18_2-1))).f0.f0) ((rd_T91 l0_1 (wrap64 (x18_2-1))).f0.f1) ((rd_T91 l0_1 x18_2).f0.f0) ((rd_T91 l0_1 x18_2).f0.f1)).bind fun t289=>(impl_SetRight.j2 k2 l0_1 (l0_1.length:Int) x18_2 (decide (t289≥0)) l0_0 l0_1)) else (none)) else (none)) else (impl_SetRight.j2 k2 l0_1 (l0_1.length:Int) x18_2 false l0_0 l0_1))=some r:=by rw [if_pos rfl] at H;exact H
             clear H
             have H:=H1
             clear H1
             by_cases c26:x18_2>0
             ·rw [if_pos c26] at H
              have c26b0:decide (0<x18_2)=true:=decide_eq_true c26
              clear c26
              (first | rw [c26b0] | (simp only [i64_w,i32_w];rw [c26b0]) | skip)
              obtain ⟨ji27,hji27⟩:∃ j_:Int,(wrap64 (x18_2-1))=j_:=⟨_,rfl⟩
              replace H:(if 0≤(ji27) then (if (ji27)<(l0_1.length:Int) then ((impl_compareDots.f k2 ((rd_T91 l0_1 (ji27)).f0.f0) ((rd_T91 l0_1 (ji27)).f0.f1) ((rd_T91 l0_1 x18_2).f0.f0) ((rd_T91 l0_1 x18_2).f0.f1)).bind fun t289=>(impl_SetRight.j2 k2 l0_1 (l0_1.length:Int) x18_2 (decide (t289≥0)) l0_0 l0_1)) else (none)) else (none))=some r:=by first | (rw [hji27] at H;exact H) | (simp only [hji27] at H ⊢;exact H)
              (try rw [hji27] at A20)
              (try rw [hji27] at A22)
              (try rw [hji27] at A24)
              have hji27w:(IntKind.i64.wrap (x18_2-1))=ji27:=(i64_w _).trans hji27
              by_cases c28:0≤(ji27)
              ·rw [if_pos c28] at H
               have c28b0:decide (0≤(ji27))=true:=decide_eq_true c28
               clear c28
               by_cases c29:(ji27)<(l0_1.length:Int)
               ·rw [if_pos c29] at H
                have c29b0:decide ((ji27)<(l0_1.length:Int))=true:=decide_eq_true c29
                clear c29
                replace H:=Option.bind_eq_some_iff.mp H
                obtain ⟨t289,A300,H⟩:=H
                replace H:(impl_SetRight.j2 k2 l0_1 (l0_1.length:Int) x18_2 (decide (t289≥0)) l0_0 l0_1)=some r:=H
                have A30:=Aside0.mk A300
                clear A300
                have H':=Aside0.mk H
                clear H
                try go_wp2
                have n0_:Aside0 (((((w17.setCell ⟨gb284,0,none⟩ (.int .i64 ((rd_T91 l0_1 x18_2).f0.f0))).setCell ⟨gb284,1,none⟩ (.int .i64 ((rd_T91 l0_1 x18_2).f0.f1))).setCell ⟨gb284,2,none⟩ (.bool ((rd_T91 l0_1 x18_2).f1))).setCell ⟨gb284,3,none⟩ (.string ((rd_T91 l0_1 x18_2).f2))).heap[gb281]? = some (.cells #[.slice A0_0 l0_0.length c0_0,.slice (some ad283) l0_1.length c0_1] 40 (0,0))):=⟨z15_ NB281_284.out BK281.out⟩
                have n1_:Aside0 (((((w17.setCell ⟨gb284,0,none⟩ (.int .i64 ((rd_T91 l0_1 x18_2).f0.f0))).setCell ⟨gb284,1,none⟩ (.int .i64 ((rd_T91 l0_1 x18_2).f0.f1))).setCell ⟨gb284,2,none⟩ (.bool ((rd_T91 l0_1 x18_2).f1))).setCell ⟨gb284,3,none⟩ (.string ((rd_T91 l0_1 x18_2).f2))).heap[gb284]? = some (.cells #[.int .i64 ((rd_T91 l0_1 x18_2).f0.f0),.int .i64 ((rd_T91 l0_1 x18_2).f0.f1),.bool ((rd_T91 l0_1 x18_2).f1),.string ((rd_T91 l0_1 x18_2).f2)] 91 (0,0))):=⟨z19_ BK284.out⟩
                have n2_:Aside0 (Below w.heap.size w ((((w17.setCell ⟨gb284,0,none⟩ (.int .i64 ((rd_T91 l0_1 x18_2).f0.f0))).setCell ⟨gb284,1,none⟩ (.int .i64 ((rd_T91 l0_1 x18_2).f0.f1))).setCell ⟨gb284,2,none⟩ (.bool ((rd_T91 l0_1 x18_2).f1))).setCell ⟨gb284,3,none⟩ (.string ((rd_T91 l0_1 x18_2).f2)))):=⟨z4_ HB.out GE281.out GE284.out⟩
                (try clear BK281)
                (try clear BK284)
                (try clear HB)
                generalize ((((w17.setCell ⟨gb284,0,none⟩ (.int .i64 ((rd_T91 l0_1 x18_2).f0.f0))).setCell ⟨gb284,1,none⟩ (.int .i64 ((rd_T91 l0_1 x18_2).f0.f1))).setCell ⟨gb284,2,none⟩ (.bool ((rd_T91 l0_1 x18_2).f1))).setCell ⟨gb284,3,none⟩ (.string ((rd_T91 l0_1 x18_2).f2)))=w31 at n0_ n1_ n2_ ⊢
                have BK281:=n0_
                have BK284:=n1_
                have HB:=n2_
                clear n0_ n1_ n2_
                refine as3_ (blk_drew BK281.out) (blk_drew BK284.out) (below_drew1 HB.out) ?_
                clear BK281 BK284 HB
                intro BK281 BK284 HB
                have p288:0≤((ji27):Int):=of_decide_eq_true (z1_)
                have q288:(ji27)<(l0_1.length:Int):=of_decide_eq_true (z1_)
                obtain ⟨ad288,e288,hx288_0,hx288_1,hx288_2,hx288_3⟩:=at_T91 HR0_1.out (ji27) p288 q288
                have hw288_3:=hx288_3
                have hw288_2:=hx288_2
                have hw288_1:=hx288_1
                have hw288_0:=hx288_0
                obtain rfl:ad283=ad288:=(by injection e288)
                replace hx288_0:=(HB.out.cell (World.block_lt_of_cell? w _ hx288_0)).trans hx288_0
                replace hx288_1:=(HB.out.cell (World.block_lt_of_cell? w _ hx288_1)).trans hx288_1
                replace hx288_2:=(HB.out.cell (World.block_lt_of_cell? w _ hx288_2)).trans hx288_2
                replace hx288_3:=(HB.out.cell (World.block_lt_of_cell? w _ hx288_3)).trans hx288_3
                replace p288:=eq_true p288
                replace q288:=eq_true q288
                refine start_ (n:=37) (S:=fun w'=>w'.cell? ⟨gb284,0,none⟩=some (.int .i64 ((rd_T91 l0_1 x18_2).f0.f0))∧w'.cell? ⟨gb284,1,none⟩=some (.int .i64 ((rd_T91 l0_1 x18_2).f0.f1))∧w'.cell? ⟨gb284,2,none⟩=some (.bool ((rd_T91 l0_1 x18_2).f1))∧w'.cell? ⟨gb284,3,none⟩=some (.string ((rd_T91 l0_1 x18_2).f2))∧w'.cell? ⟨gb281,0,none⟩=some (.slice A0_0 l0_0.length c0_0)∧w'.cell? ⟨gb281,1,none⟩=some (.slice (some ad283) l0_1.length c0_1)∧w'.cell? (ad283.add (((ji27)).toNat*4))=some (.int .i64 ((rd_T91 l0_1 (ji27)).f0.f0))∧w'.cell? ⟨(ad283.add (((ji27)).toNat*4)).block,(ad283.add (((ji27)).toNat*4)).off+1,none⟩=some (.int .i64 ((rd_T91 l0_1 (ji27)).f0.f1))∧w'.cell? ⟨(ad283.add (((ji27)).toNat*4)).block,(ad283.add (((ji27)).toNat*4)).off+2,none⟩=some (.bool ((rd_T91 l0_1 (ji27)).f1))∧w'.cell? ⟨(ad283.add (((ji27)).toNat*4)).block,(ad283.add (((ji27)).toNat*4)).off+3,none⟩=some (.string ((rd_T91 l0_1 (ji27)).f2))) (ds:=[]) impl_SetRight.q0 (by kernel_rfl) rfl rfl (cj4_ BK284.out (cj2_ BK281.out ⟨((HB.out.cell (World.block_lt_of_cell? w _ hw288_0)).trans hw288_0),⟨((HB.out.cell (World.block_lt_of_cell? w _ hw288_1)).trans hw288_1),⟨((HB.out.cell (World.block_lt_of_cell? w _ hw288_2)).trans hw288_2),((HB.out.cell (World.block_lt_of_cell? w _ hw288_3)).trans hw288_3)⟩⟩⟩)) (fun hHeld=>?_);refine with_tabW impl_SetRight.tab6 impl_SetRight.bits6 (fun HT_ HW_=>?_)
                generalize w31.drew=w32 at BK281 BK284 HB hx288_0 hx288_1 hx288_2 hx288_3 hHeld ⊢
                refine pu_ 0 23 impl_SetRight.q1 HT_.out ?_
                refine tk10_ 1 24 impl_SetRight.q2 HT_.out HW_.out hHeld ?_
                refine o1_ 2 25 impl_SetRight.q3 HT_.out (fun K hK=>?_)
                refine gs_ Try.func88 #[.agg #[.int .i64 ((rd_T91 l0_1 x18_2).f0.f0),.int .i64 ((rd_T91 l0_1 x18_2).f0.f1)]] ?_
                with_reducible refine (impl_isDot.calls ((rd_T91 l0_1 x18_2).f0.f0) ((rd_T91 l0_1 x18_2).f0.f1) true _ A20.out).mono ?_
                rintro e w33 ⟨rfl,hb⟩
                refine ⟨_,rfl,?_⟩
                refine as3_ (blkB_ BK281.out hb) (blkB_ BK284.out hb) (below_step (z4_ HB.out GE281.out GE284.out) hb) ?_
                clear BK281 BK284 HB
                intro BK281 BK284 HB
                (try clear hb)
                refine hK.out _ _ (cj4_ BK284.out (cj2_ BK281.out ⟨((HB.out.cell (World.block_lt_of_cell? w _ hw288_0)).trans hw288_0),⟨((HB.out.cell (World.block_lt_of_cell? w _ hw288_1)).trans hw288_1),⟨((HB.out.cell (World.block_lt_of_cell? w _ hw288_2)).trans hw288_2),((HB.out.cell (World.block_lt_of_cell? w _ hw288_3)).trans hw288_3)⟩⟩⟩)) (fun hHeld=>?_)
                clear hK K
                refine nm_ 25 ?_
                refine pu_ 3 26 impl_SetRight.q4 HT_.out ?_
                refine pu_ 4 27 impl_SetRight.q5 HT_.out ?_
                refine pu_ 5 28 impl_SetRight.q6 HT_.out ?_
                refine pu_ 7 30 impl_SetRight.q7 HT_.out ?_
                refine tk10_ 6 29 impl_SetRight.q8 HT_.out HW_.out hHeld ?_
                refine tk10_ 8 31 impl_SetRight.q9 HT_.out HW_.out hHeld ?_
                refine o1_ 9 32 impl_SetRight.q10 HT_.out (fun K hK=>?_)
                refine gs_ Try.func64 #[.slice A0_0 l0_0.length c0_0,.agg #[.int .i64 ((rd_T91 l0_1 x18_2).f0.f0),.int .i64 ((rd_T91 l0_1 x18_2).f0.f1)]] ?_
                with_reducible refine (impl_seenHas.calls k2 _ _ l0_0 ((rd_T91 l0_1 x18_2).f0.f0) ((rd_T91 l0_1 x18_2).f0.f1) true _ ?s1 ?s2 A22.out).mono ?_
                (case s1=>repeat (first | exact (Kd.C_below HR0_0.out HB.out) | (with_reducible refine Kd.C_alloc ?_ _) | (with_reducible refine Kd.C_drewN ?_ _) | (with_reducible refine Kd.C_drew ?_)))
                (case s2=>exact HC0_0.out)
                rintro e w34 ⟨rfl,hb⟩
                refine ⟨_,rfl,?_⟩
                refine as3_ (blkB_ BK281.out hb) (blkB_ BK284.out hb) (below_step (z4_ HB.out GE281.out GE284.out) hb) ?_
                clear BK281 BK284 HB
                intro BK281 BK284 HB
                (try clear hb)
                refine hK.out _ _ (cj4_ BK284.out (cj2_ BK281.out ⟨((HB.out.cell (World.block_lt_of_cell? w _ hw288_0)).trans hw288_0),⟨((HB.out.cell (World.block_lt_of_cell? w _ hw288_1)).trans hw288_1),⟨((HB.out.cell (World.block_lt_of_cell? w _ hw288_2)).trans hw288_2),((HB.out.cell (World.block_lt_of_cell? w _ hw288_3)).trans hw288_3)⟩⟩⟩)) (fun hHeld=>?_)
                clear hK K
                refine nm_ 32 ?_
                refine pu_ 10 33 impl_SetRight.q11 HT_.out ?_
                refine pu_ 11 34 impl_SetRight.q12 HT_.out ?_
                refine pu_ 12 35 impl_SetRight.q13 HT_.out ?_
                refine pu_ 13 36 impl_SetRight.q14 HT_.out ?_
                refine pu_ 15 38 impl_SetRight.q15 HT_.out ?_
                refine tk10_ 14 37 impl_SetRight.q16 HT_.out HW_.out hHeld ?_
                refine tk10_ 16 39 impl_SetRight.q17 HT_.out HW_.out hHeld ?_
                refine o1_ 17 40 impl_SetRight.q18 HT_.out (fun K hK=>?_)
                refine gs_ Try.func89 #[.string ((rd_T91 l0_1 x18_2).f2),.bool ((rd_T91 l0_1 x18_2).f1)] ?_
                with_reducible refine (impl_isData.calls ((rd_T91 l0_1 x18_2).f2) ((rd_T91 l0_1 x18_2).f1) true _ A24.out).mono ?_
                rintro e w' ⟨rfl,⟨nd,rfl⟩⟩
                refine ⟨_,rfl,?_⟩
                refine hK.out _ _ (cj4_ BK284.out (cj2_ BK281.out ⟨((HB.out.cell (World.block_lt_of_cell? w _ hw288_0)).trans hw288_0),⟨((HB.out.cell (World.block_lt_of_cell? w _ hw288_1)).trans hw288_1),⟨((HB.out.cell (World.block_lt_of_cell? w _ hw288_2)).trans hw288_2),((HB.out.cell (World.block_lt_of_cell? w _ hw288_3)).trans hw288_3)⟩⟩⟩)) (fun hHeld=>?_)
                clear hK K
                refine nm_ 40 ?_
                refine pu_ 18 41 impl_SetRight.q19 HT_.out ?_
                refine pu_ 19 42 impl_SetRight.q20 HT_.out ?_
                refine pu_ 20 43 impl_SetRight.q21 HT_.out ?_
                refine pu_ 21 44 impl_SetRight.q22 HT_.out ?_
                refine pu_ 22 45 impl_SetRight.q23 HT_.out ?_
                refine pu_ 23 46 impl_SetRight.q24 HT_.out ?_
                refine pu_ 24 47 impl_SetRight.q25 HT_.out ?_
                refine pu_ 26 49 #[I,I,I,I,I,I,I,I,I,I,I,I,I,I,I,I,I,I,I,I,I,I,I,I,I,O,I,O,O,O,O,O,O,O,O,O,O] HT_.out ?_
                refine pu_ 27 50 #[I,I,I,I,I,I,I,I,I,I,I,I,I,I,I,I,I,I,I,I,I,I,I,I,I,O,I,I,O,O,O,O,O,O,O,O,O] HT_.out ?_
                refine pu_ 31 54 #[I,I,I,I,I,I,I,I,I,I,I,I,I,I,I,I,I,I,I,I,I,I,I,I,I,O,I,I,O,O,O,I,O,O,O,O,O] HT_.out ?_
                refine tk10_ 25 48 #[I,I,I,I,I,I,I,I,I,I,I,I,I,I,I,I,I,I,I,I,I,I,I,I,I,I,I,I,O,O,O,I,O,O,O,O,O] HT_.out HW_.out hHeld ?_
                refine pu_ 28 51 #[I,I,I,I,I,I,I,I,I,I,I,I,I,I,I,I,I,I,I,I,I,I,I,I,I,I,I,I,I,O,O,I,O,O,O,O,O] HT_.out ?_
                refine pu_ 29 52 #[I,I,I,I,I,I,I,I,I,I,I,I,I,I,I,I,I,I,I,I,I,I,I,I,I,I,I,I,I,I,O,I,O,O,O,O,O] HT_.out ?_
                refine tk10_ 30 53 impl_SetRight.q26 HT_.out HW_.out hHeld ?_
                refine tk10_ 32 55 impl_SetRight.q27 HT_.out HW_.out hHeld ?_
                refine o1_ 33 56 impl_SetRight.q28 HT_.out (fun K hK=>?_)
                refine goes_ Try.func90 (by kernel_rfl) rfl #[.agg #[.int .i64 ((rd_T91 l0_1 (ji27)).f0.f0),.int .i64 ((rd_T91 l0_1 (ji27)).f0.f1)],.agg #[.int .i64 ((rd_T91 l0_1 x18_2).f0.f0),.int .i64 ((rd_T91 l0_1 x18_2).f0.f1)]] (by rfl) rfl rfl (by (try simp only [List.map_toArray,List.map_cons,List.map_nil]);first | done | (simp only [hji27];rfl) | rfl | (simp only [List.length_drop,List.length_take];rfl)) ?_
                with_reducible refine (impl_compareDots.calls k2 ((rd_T91 l0_1 (ji27)).f0.f0) ((rd_T91 l0_1 (ji27)).f0.f1) ((rd_T91 l0_1 x18_2).f0.f0) ((rd_T91 l0_1 x18_2).f0.f1) t289 _ A30.out).mono ?_
                rintro e w35 ⟨rfl,hb⟩
                refine ⟨_,rfl,?_⟩
                refine as3_ (blkB_ BK281.out hb) (blkB_ BK284.out hb) (below_step (z4_ HB.out GE281.out GE284.out) hb) ?_
                clear BK281 BK284 HB
                intro BK281 BK284 HB
                (try clear hb)
                refine hK.out _ _ (cj4_ BK284.out (cj2_ BK281.out ⟨((HB.out.cell (World.block_lt_of_cell? w _ hw288_0)).trans hw288_0),⟨((HB.out.cell (World.block_lt_of_cell? w _ hw288_1)).trans hw288_1),⟨((HB.out.cell (World.block_lt_of_cell? w _ hw288_2)).trans hw288_2),((HB.out.cell (World.block_lt_of_cell? w _ hw288_3)).trans hw288_3)⟩⟩⟩)) (fun hHeld=>?_)
                clear hK K
                refine nm_ 56 ?_
                refine pu_ 34 57 impl_SetRight.q29 HT_.out ?_
                refine pu_ 35 58 impl_SetRight.q30 HT_.out ?_
                refine pu_ 36 59 impl_SetRight.q31 HT_.out ?_
                refine done_ (done_of HT_.out (by kernel_rfl)) ?_
                try go_wp2
                go_meet
                case rel=>exact ⟨_,(decide (t289≥0)),(z2_),H',⟨z29_ HJ1.out HK2.out⟩,⟨z5_ BK281.out⟩,⟨z5_ BK284.out⟩,⟨z4_ HB.out GE281.out GE284.out⟩⟩
               ·rw [if_neg c29] at H
                exact absurd H (by simp)
              ·rw [if_neg c28] at H
               exact absurd H (by simp)
             ·rw [if_neg c26] at H
              have c26b0:decide (0<x18_2)=false:=decide_eq_false c26
              clear c26
              (first | rw [c26b0] | (simp only [i64_w,i32_w];rw [c26b0]) | skip)
              have H':=Aside0.mk H
              clear H
              try go_wp2
              have n0_:Aside0 (((((w17.setCell ⟨gb284,0,none⟩ (.int .i64 ((rd_T91 l0_1 x18_2).f0.f0))).setCell ⟨gb284,1,none⟩ (.int .i64 ((rd_T91 l0_1 x18_2).f0.f1))).setCell ⟨gb284,2,none⟩ (.bool ((rd_T91 l0_1 x18_2).f1))).setCell ⟨gb284,3,none⟩ (.string ((rd_T91 l0_1 x18_2).f2))).heap[gb281]? = some (.cells #[.slice A0_0 l0_0.length c0_0,.slice (some ad283) l0_1.length c0_1] 40 (0,0))):=⟨z15_ NB281_284.out BK281.out⟩
              have n1_:Aside0 (((((w17.setCell ⟨gb284,0,none⟩ (.int .i64 ((rd_T91 l0_1 x18_2).f0.f0))).setCell ⟨gb284,1,none⟩ (.int .i64 ((rd_T91 l0_1 x18_2).f0.f1))).setCell ⟨gb284,2,none⟩ (.bool ((rd_T91 l0_1 x18_2).f1))).setCell ⟨gb284,3,none⟩ (.string ((rd_T91 l0_1 x18_2).f2))).heap[gb284]? = some (.cells #[.int .i64 ((rd_T91 l0_1 x18_2).f0.f0),.int .i64 ((rd_T91 l0_1 x18_2).f0.f1),.bool ((rd_T91 l0_1 x18_2).f1),.string ((rd_T91 l0_1 x18_2).f2)] 91 (0,0))):=⟨z19_ BK284.out⟩
              have n2_:Aside0 (Below w.heap.size w ((((w17.setCell ⟨gb284,0,none⟩ (.int .i64 ((rd_T91 l0_1 x18_2).f0.f0))).setCell ⟨gb284,1,none⟩ (.int .i64 ((rd_T91 l0_1 x18_2).f0.f1))).setCell ⟨gb284,2,none⟩ (.bool ((rd_T91 l0_1 x18_2).f1))).setCell ⟨gb284,3,none⟩ (.string ((rd_T91 l0_1 x18_2).f2)))):=⟨z4_ HB.out GE281.out GE284.out⟩
              (try clear BK281)
              (try clear BK284)
              (try clear HB)
              generalize ((((w17.setCell ⟨gb284,0,none⟩ (.int .i64 ((rd_T91 l0_1 x18_2).f0.f0))).setCell ⟨gb284,1,none⟩ (.int .i64 ((rd_T91 l0_1 x18_2).f0.f1))).setCell ⟨gb284,2,none⟩ (.bool ((rd_T91 l0_1 x18_2).f1))).setCell ⟨gb284,3,none⟩ (.string ((rd_T91 l0_1 x18_2).f2)))=w36 at n0_ n1_ n2_ ⊢
              have BK281:=n0_
              have BK284:=n1_
              have HB:=n2_
              clear n0_ n1_ n2_
              refine as3_ (blk_drew BK281.out) (blk_drew BK284.out) (below_drew1 HB.out) ?_
              clear BK281 BK284 HB
              intro BK281 BK284 HB
              refine start_ (n:=37) (S:=fun w'=>w'.cell? ⟨gb284,0,none⟩=some (.int .i64 ((rd_T91 l0_1 x18_2).f0.f0))∧w'.cell? ⟨gb284,1,none⟩=some (.int .i64 ((rd_T91 l0_1 x18_2).f0.f1))∧w'.cell? ⟨gb284,2,none⟩=some (.bool ((rd_T91 l0_1 x18_2).f1))∧w'.cell? ⟨gb284,3,none⟩=some (.string ((rd_T91 l0_1 x18_2).f2))∧w'.cell? ⟨gb281,0,none⟩=some (.slice A0_0 l0_0.length c0_0)∧w'.cell? ⟨gb281,1,none⟩=some (.slice (some ad283) l0_1.length c0_1)) (ds:=[]) impl_SetRight.q0 (by kernel_rfl) rfl rfl (cj4_ BK284.out (cc2_ BK281.out)) (fun hHeld=>?_);refine with_tabW impl_SetRight.tab6 impl_SetRight.bits6 (fun HT_ HW_=>?_)
              generalize w36.drew=w37 at BK281 BK284 HB hHeld ⊢
              refine pu_ 0 23 impl_SetRight.q1 HT_.out ?_
              refine tk6_ 1 24 impl_SetRight.q2 HT_.out HW_.out hHeld ?_
              refine o1_ 2 25 impl_SetRight.q3 HT_.out (fun K hK=>?_)
              refine gs_ Try.func88 #[.agg #[.int .i64 ((rd_T91 l0_1 x18_2).f0.f0),.int .i64 ((rd_T91 l0_1 x18_2).f0.f1)]] ?_
              with_reducible refine (impl_isDot.calls ((rd_T91 l0_1 x18_2).f0.f0) ((rd_T91 l0_1 x18_2).f0.f1) true _ A20.out).mono ?_
              rintro e w38 ⟨rfl,hb⟩
              refine ⟨_,rfl,?_⟩
              refine as3_ (blkB_ BK281.out hb) (blkB_ BK284.out hb) (below_step (z4_ HB.out GE281.out GE284.out) hb) ?_
              clear BK281 BK284 HB
              intro BK281 BK284 HB
              (try clear hb)
              refine hK.out _ _ (cj4_ BK284.out (cc2_ BK281.out)) (fun hHeld=>?_)
              clear hK K
              refine nm_ 25 ?_
              refine pu_ 3 26 impl_SetRight.q4 HT_.out ?_
              refine pu_ 4 27 impl_SetRight.q5 HT_.out ?_
              refine pu_ 5 28 impl_SetRight.q6 HT_.out ?_
              refine pu_ 7 30 impl_SetRight.q7 HT_.out ?_
              refine tk6_ 6 29 impl_SetRight.q8 HT_.out HW_.out hHeld ?_
              refine tk6_ 8 31 impl_SetRight.q9 HT_.out HW_.out hHeld ?_
              refine o1_ 9 32 impl_SetRight.q10 HT_.out (fun K hK=>?_)
              refine gs_ Try.func64 #[.slice A0_0 l0_0.length c0_0,.agg #[.int .i64 ((rd_T91 l0_1 x18_2).f0.f0),.int .i64 ((rd_T91 l0_1 x18_2).f0.f1)]] ?_
              with_reducible refine (impl_seenHas.calls k2 _ _ l0_0 ((rd_T91 l0_1 x18_2).f0.f0) ((rd_T91 l0_1 x18_2).f0.f1) true _ ?s1 ?s2 A22.out).mono ?_
              (case s1=>repeat (first | exact (Kd.C_below HR0_0.out HB.out) | (with_reducible refine Kd.C_alloc ?_ _) | (with_reducible refine Kd.C_drewN ?_ _) | (with_reducible refine Kd.C_drew ?_)))
              (case s2=>exact HC0_0.out)
              rintro e w39 ⟨rfl,hb⟩
              refine ⟨_,rfl,?_⟩
              refine as3_ (blkB_ BK281.out hb) (blkB_ BK284.out hb) (below_step (z4_ HB.out GE281.out GE284.out) hb) ?_
              clear BK281 BK284 HB
              intro BK281 BK284 HB
              (try clear hb)
              refine hK.out _ _ (cj4_ BK284.out (cc2_ BK281.out)) (fun hHeld=>?_)
              clear hK K
              refine nm_ 32 ?_
              refine pu_ 10 33 impl_SetRight.q11 HT_.out ?_
              refine pu_ 11 34 impl_SetRight.q12 HT_.out ?_
              refine pu_ 12 35 impl_SetRight.q13 HT_.out ?_
              refine pu_ 13 36 impl_SetRight.q14 HT_.out ?_
              refine pu_ 15 38 impl_SetRight.q15 HT_.out ?_
              refine tk6_ 14 37 impl_SetRight.q16 HT_.out HW_.out hHeld ?_
              refine tk6_ 16 39 impl_SetRight.q17 HT_.out HW_.out hHeld ?_
              refine o1_ 17 40 impl_SetRight.q18 HT_.out (fun K hK=>?_)
              refine gs_ Try.func89 #[.string ((rd_T91 l0_1 x18_2).f2),.bool ((rd_T91 l0_1 x18_2).f1)] ?_
              with_reducible refine (impl_isData.calls ((rd_T91 l0_1 x18_2).f2) ((rd_T91 l0_1 x18_2).f1) true _ A24.out).mono ?_
              rintro e w' ⟨rfl,⟨nd,rfl⟩⟩
              refine ⟨_,rfl,?_⟩
              refine hK.out _ _ (cj4_ BK284.out (cc2_ BK281.out)) (fun hHeld=>?_)
              clear hK K
              refine nm_ 40 ?_
              refine pu_ 18 41 impl_SetRight.q19 HT_.out ?_
              refine pu_ 19 42 impl_SetRight.q20 HT_.out ?_
              refine pu_ 20 43 impl_SetRight.q21 HT_.out ?_
              refine pu_ 21 44 impl_SetRight.q22 HT_.out ?_
              refine pu_ 22 45 impl_SetRight.q23 HT_.out ?_
              refine pu_ 23 46 impl_SetRight.q24 HT_.out ?_
              refine pn_ 24 47 impl_SetRight.q25 HT_.out ?_
              refine pn_ 25 48 impl_SetRight.q32 HT_.out ?_
              refine pn_ 26 49 impl_SetRight.q33 HT_.out ?_
              refine pn_ 27 50 impl_SetRight.q34 HT_.out ?_
              refine pn_ 28 51 impl_SetRight.q35 HT_.out ?_
              refine pn_ 29 52 impl_SetRight.q36 HT_.out ?_
              refine pn_ 30 53 impl_SetRight.q37 HT_.out ?_
              refine pn_ 31 54 impl_SetRight.q26 HT_.out ?_
              refine pn_ 32 55 impl_SetRight.q27 HT_.out ?_
              refine pn_ 33 56 impl_SetRight.q28 HT_.out ?_
              refine pn_ 34 57 impl_SetRight.q29 HT_.out ?_
              refine pu_ 35 58 impl_SetRight.q30 HT_.out ?_
              refine pu_ 36 59 impl_SetRight.q31 HT_.out ?_
              refine done_ (done_of HT_.out (by kernel_rfl)) ?_
              try go_wp2
              go_meet
              case rel=>exact ⟨_,(false),(z2_),H',⟨z29_ HJ1.out HK2.out⟩,⟨z5_ BK281.out⟩,⟨z5_ BK284.out⟩,⟨z4_ HB.out GE281.out GE284.out⟩⟩
            ·replace c25:=Bool.eq_false_iff.mpr c25
             subst c25
             have H1:(impl_SetRight.j2 k2 l0_1 (l0_1.length:Int) x18_2 true l0_0 l0_1)=some r:=by rw [if_neg (show ¬ (false=true) by decide)] at H;exact H
             clear H
             have H:=H1
             clear H1
             have H':=Aside0.mk H
             clear H
             try go_wp2
             have n0_:Aside0 (((((w17.setCell ⟨gb284,0,none⟩ (.int .i64 ((rd_T91 l0_1 x18_2).f0.f0))).setCell ⟨gb284,1,none⟩ (.int .i64 ((rd_T91 l0_1 x18_2).f0.f1))).setCell ⟨gb284,2,none⟩ (.bool ((rd_T91 l0_1 x18_2).f1))).setCell ⟨gb284,3,none⟩ (.string ((rd_T91 l0_1 x18_2).f2))).heap[gb281]? = some (.cells #[.slice A0_0 l0_0.length c0_0,.slice (some ad283) l0_1.length c0_1] 40 (0,0))):=⟨z15_ NB281_284.out BK281.out⟩
             have n1_:Aside0 (((((w17.setCell ⟨gb284,0,none⟩ (.int .i64 ((rd_T91 l0_1 x18_2).f0.f0))).setCell ⟨gb284,1,none⟩ (.int .i64 ((rd_T91 l0_1 x18_2).f0.f1))).setCell ⟨gb284,2,none⟩ (.bool ((rd_T91 l0_1 x18_2).f1))).setCell ⟨gb284,3,none⟩ (.string ((rd_T91 l0_1 x18_2).f2))).heap[gb284]? = some (.cells #[.int .i64 ((rd_T91 l0_1 x18_2).f0.f0),.int .i64 ((rd_T91 l0_1 x18_2).f0.f1),.bool ((rd_T91 l0_1 x18_2).f1),.string ((rd_T91 l0_1 x18_2).f2)] 91 (0,0))):=⟨z19_ BK284.out⟩
             have n2_:Aside0 (Below w.heap.size w ((((w17.setCell ⟨gb284,0,none⟩ (.int .i64 ((rd_T91 l0_1 x18_2).f0.f0))).setCell ⟨gb284,1,none⟩ (.int .i64 ((rd_T91 l0_1 x18_2).f0.f1))).setCell ⟨gb284,2,none⟩ (.bool ((rd_T91 l0_1 x18_2).f1))).setCell ⟨gb284,3,none⟩ (.string ((rd_T91 l0_1 x18_2).f2)))):=⟨z4_ HB.out GE281.out GE284.out⟩
             (try clear BK281)
             (try clear BK284)
             (try clear HB)
             generalize ((((w17.setCell ⟨gb284,0,none⟩ (.int .i64 ((rd_T91 l0_1 x18_2).f0.f0))).setCell ⟨gb284,1,none⟩ (.int .i64 ((rd_T91 l0_1 x18_2).f0.f1))).setCell ⟨gb284,2,none⟩ (.bool ((rd_T91 l0_1 x18_2).f1))).setCell ⟨gb284,3,none⟩ (.string ((rd_T91 l0_1 x18_2).f2)))=w40 at n0_ n1_ n2_ ⊢
             have BK281:=n0_
             have BK284:=n1_
             have HB:=n2_
             clear n0_ n1_ n2_
             refine as3_ (blk_drew BK281.out) (blk_drew BK284.out) (below_drew1 HB.out) ?_
             clear BK281 BK284 HB
             intro BK281 BK284 HB
             refine start_ (n:=37) (S:=fun w'=>w'.cell? ⟨gb284,0,none⟩=some (.int .i64 ((rd_T91 l0_1 x18_2).f0.f0))∧w'.cell? ⟨gb284,1,none⟩=some (.int .i64 ((rd_T91 l0_1 x18_2).f0.f1))∧w'.cell? ⟨gb284,2,none⟩=some (.bool ((rd_T91 l0_1 x18_2).f1))∧w'.cell? ⟨gb284,3,none⟩=some (.string ((rd_T91 l0_1 x18_2).f2))∧w'.cell? ⟨gb281,0,none⟩=some (.slice A0_0 l0_0.length c0_0)∧w'.cell? ⟨gb281,1,none⟩=some (.slice (some ad283) l0_1.length c0_1)) (ds:=[]) impl_SetRight.q0 (by kernel_rfl) rfl rfl (cj4_ BK284.out (cc2_ BK281.out)) (fun hHeld=>?_);refine with_tabW impl_SetRight.tab6 impl_SetRight.bits6 (fun HT_ HW_=>?_)
             generalize w40.drew=w41 at BK281 BK284 HB hHeld ⊢
             refine pu_ 0 23 impl_SetRight.q1 HT_.out ?_
             refine tk6_ 1 24 impl_SetRight.q2 HT_.out HW_.out hHeld ?_
             refine o1_ 2 25 impl_SetRight.q3 HT_.out (fun K hK=>?_)
             refine gs_ Try.func88 #[.agg #[.int .i64 ((rd_T91 l0_1 x18_2).f0.f0),.int .i64 ((rd_T91 l0_1 x18_2).f0.f1)]] ?_
             with_reducible refine (impl_isDot.calls ((rd_T91 l0_1 x18_2).f0.f0) ((rd_T91 l0_1 x18_2).f0.f1) true _ A20.out).mono ?_
             rintro e w42 ⟨rfl,hb⟩
             refine ⟨_,rfl,?_⟩
             refine as3_ (blkB_ BK281.out hb) (blkB_ BK284.out hb) (below_step (z4_ HB.out GE281.out GE284.out) hb) ?_
             clear BK281 BK284 HB
             intro BK281 BK284 HB
             (try clear hb)
             refine hK.out _ _ (cj4_ BK284.out (cc2_ BK281.out)) (fun hHeld=>?_)
             clear hK K
             refine nm_ 25 ?_
             refine pu_ 3 26 impl_SetRight.q4 HT_.out ?_
             refine pu_ 4 27 impl_SetRight.q5 HT_.out ?_
             refine pu_ 5 28 impl_SetRight.q6 HT_.out ?_
             refine pu_ 7 30 impl_SetRight.q7 HT_.out ?_
             refine tk6_ 6 29 impl_SetRight.q8 HT_.out HW_.out hHeld ?_
             refine tk6_ 8 31 impl_SetRight.q9 HT_.out HW_.out hHeld ?_
             refine o1_ 9 32 impl_SetRight.q10 HT_.out (fun K hK=>?_)
             refine gs_ Try.func64 #[.slice A0_0 l0_0.length c0_0,.agg #[.int .i64 ((rd_T91 l0_1 x18_2).f0.f0),.int .i64 ((rd_T91 l0_1 x18_2).f0.f1)]] ?_
             with_reducible refine (impl_seenHas.calls k2 _ _ l0_0 ((rd_T91 l0_1 x18_2).f0.f0) ((rd_T91 l0_1 x18_2).f0.f1) true _ ?s1 ?s2 A22.out).mono ?_
             (case s1=>repeat (first | exact (Kd.C_below HR0_0.out HB.out) | (with_reducible refine Kd.C_alloc ?_ _) | (with_reducible refine Kd.C_drewN ?_ _) | (with_reducible refine Kd.C_drew ?_)))
             (case s2=>exact HC0_0.out)
             rintro e w43 ⟨rfl,hb⟩
             refine ⟨_,rfl,?_⟩
             refine as3_ (blkB_ BK281.out hb) (blkB_ BK284.out hb) (below_step (z4_ HB.out GE281.out GE284.out) hb) ?_
             clear BK281 BK284 HB
             intro BK281 BK284 HB
             (try clear hb)
             refine hK.out _ _ (cj4_ BK284.out (cc2_ BK281.out)) (fun hHeld=>?_)
             clear hK K
             refine nm_ 32 ?_
             refine pu_ 10 33 impl_SetRight.q11 HT_.out ?_
             refine pu_ 11 34 impl_SetRight.q12 HT_.out ?_
             refine pu_ 12 35 impl_SetRight.q13 HT_.out ?_
             refine pu_ 13 36 impl_SetRight.q14 HT_.out ?_
             refine pu_ 15 38 impl_SetRight.q15 HT_.out ?_
             refine tk6_ 14 37 impl_SetRight.q16 HT_.out HW_.out hHeld ?_
             refine tk6_ 16 39 impl_SetRight.q17 HT_.out HW_.out hHeld ?_
             refine o1_ 17 40 impl_SetRight.q18 HT_.out (fun K hK=>?_)
             refine gs_ Try.func89 #[.string ((rd_T91 l0_1 x18_2).f2),.bool ((rd_T91 l0_1 x18_2).f1)] ?_
             with_reducible refine (impl_isData.calls ((rd_T91 l0_1 x18_2).f2) ((rd_T91 l0_1 x18_2).f1) false _ A24.out).mono ?_
             rintro e w' ⟨rfl,⟨nd,rfl⟩⟩
             refine ⟨_,rfl,?_⟩
             refine hK.out _ _ (cj4_ BK284.out (cc2_ BK281.out)) (fun hHeld=>?_)
             clear hK K
             refine nm_ 40 ?_
             refine pu_ 18 41 impl_SetRight.q19 HT_.out ?_
             refine pu_ 19 42 impl_SetRight.q20 HT_.out ?_
             refine pu_ 20 43 impl_SetRight.q21 HT_.out ?_
             refine pn_ 21 44 impl_SetRight.q22 HT_.out ?_
             refine pn_ 22 45 impl_SetRight.q23 HT_.out ?_
             refine pn_ 23 46 impl_SetRight.q24 HT_.out ?_
             refine pn_ 24 47 impl_SetRight.q25 HT_.out ?_
             refine pn_ 25 48 impl_SetRight.q32 HT_.out ?_
             refine pn_ 26 49 impl_SetRight.q33 HT_.out ?_
             refine pn_ 27 50 impl_SetRight.q34 HT_.out ?_
             refine pn_ 28 51 impl_SetRight.q35 HT_.out ?_
             refine pn_ 29 52 impl_SetRight.q36 HT_.out ?_
             refine pn_ 30 53 impl_SetRight.q37 HT_.out ?_
             refine pn_ 31 54 impl_SetRight.q26 HT_.out ?_
             refine pn_ 32 55 impl_SetRight.q27 HT_.out ?_
             refine pn_ 33 56 impl_SetRight.q28 HT_.out ?_
             refine pn_ 34 57 impl_SetRight.q29 HT_.out ?_
             refine pn_ 35 58 impl_SetRight.q30 HT_.out ?_
             refine pu_ 36 59 impl_SetRight.q31 HT_.out ?_
             refine done_ (done_of HT_.out (by kernel_rfl)) ?_
             try go_wp2
             go_meet
             case rel=>exact ⟨_,(true),(z2_),H',⟨z29_ HJ1.out HK2.out⟩,⟨z5_ BK281.out⟩,⟨z5_ BK284.out⟩,⟨z4_ HB.out GE281.out GE284.out⟩⟩
           ·replace c23:=Bool.eq_false_iff.mpr c23
            subst c23
            have H1:(impl_SetRight.j2 k2 l0_1 (l0_1.length:Int) x18_2 true l0_0 l0_1)=some r:=by rw [if_neg (show ¬ (false=true) by decide)] at H;exact H
            clear H
            have H:=H1
            clear H1
            have H':=Aside0.mk H
            clear H
            try go_wp2
            have n0_:Aside0 (((((w17.setCell ⟨gb284,0,none⟩ (.int .i64 ((rd_T91 l0_1 x18_2).f0.f0))).setCell ⟨gb284,1,none⟩ (.int .i64 ((rd_T91 l0_1 x18_2).f0.f1))).setCell ⟨gb284,2,none⟩ (.bool ((rd_T91 l0_1 x18_2).f1))).setCell ⟨gb284,3,none⟩ (.string ((rd_T91 l0_1 x18_2).f2))).heap[gb281]? = some (.cells #[.slice A0_0 l0_0.length c0_0,.slice (some ad283) l0_1.length c0_1] 40 (0,0))):=⟨z15_ NB281_284.out BK281.out⟩
            have n1_:Aside0 (((((w17.setCell ⟨gb284,0,none⟩ (.int .i64 ((rd_T91 l0_1 x18_2).f0.f0))).setCell ⟨gb284,1,none⟩ (.int .i64 ((rd_T91 l0_1 x18_2).f0.f1))).setCell ⟨gb284,2,none⟩ (.bool ((rd_T91 l0_1 x18_2).f1))).setCell ⟨gb284,3,none⟩ (.string ((rd_T91 l0_1 x18_2).f2))).heap[gb284]? = some (.cells #[.int .i64 ((rd_T91 l0_1 x18_2).f0.f0),.int .i64 ((rd_T91 l0_1 x18_2).f0.f1),.bool ((rd_T91 l0_1 x18_2).f1),.string ((rd_T91 l0_1 x18_2).f2)] 91 (0,0))):=⟨z19_ BK284.out⟩
            have n2_:Aside0 (Below w.heap.size w ((((w17.setCell ⟨gb284,0,none⟩ (.int .i64 ((rd_T91 l0_1 x18_2).f0.f0))).setCell ⟨gb284,1,none⟩ (.int .i64 ((rd_T91 l0_1 x18_2).f0.f1))).setCell ⟨gb284,2,none⟩ (.bool ((rd_T91 l0_1 x18_2).f1))).setCell ⟨gb284,3,none⟩ (.string ((rd_T91 l0_1 x18_2).f2)))):=⟨z4_ HB.out GE281.out GE284.out⟩
            (try clear BK281)
            (try clear BK284)
            (try clear HB)
            generalize ((((w17.setCell ⟨gb284,0,none⟩ (.int .i64 ((rd_T91 l0_1 x18_2).f0.f0))).setCell ⟨gb284,1,none⟩ (.int .i64 ((rd_T91 l0_1 x18_2).f0.f1))).setCell ⟨gb284,2,none⟩ (.bool ((rd_T91 l0_1 x18_2).f1))).setCell ⟨gb284,3,none⟩ (.string ((rd_T91 l0_1 x18_2).f2)))=w44 at n0_ n1_ n2_ ⊢
            have BK281:=n0_
            have BK284:=n1_
            have HB:=n2_
            clear n0_ n1_ n2_
            refine as3_ (blk_drew BK281.out) (blk_drew BK284.out) (below_drew1 HB.out) ?_
            clear BK281 BK284 HB
            intro BK281 BK284 HB
            refine start_ (n:=37) (S:=fun w'=>w'.cell? ⟨gb284,0,none⟩=some (.int .i64 ((rd_T91 l0_1 x18_2).f0.f0))∧w'.cell? ⟨gb284,1,none⟩=some (.int .i64 ((rd_T91 l0_1 x18_2).f0.f1))∧w'.cell? ⟨gb284,2,none⟩=some (.bool ((rd_T91 l0_1 x18_2).f1))∧w'.cell? ⟨gb284,3,none⟩=some (.string ((rd_T91 l0_1 x18_2).f2))∧w'.cell? ⟨gb281,0,none⟩=some (.slice A0_0 l0_0.length c0_0)∧w'.cell? ⟨gb281,1,none⟩=some (.slice (some ad283) l0_1.length c0_1)) (ds:=[]) impl_SetRight.q0 (by kernel_rfl) rfl rfl (cj4_ BK284.out (cc2_ BK281.out)) (fun hHeld=>?_);refine with_tabW impl_SetRight.tab6 impl_SetRight.bits6 (fun HT_ HW_=>?_)
            generalize w44.drew=w45 at BK281 BK284 HB hHeld ⊢
            refine pu_ 0 23 impl_SetRight.q1 HT_.out ?_
            refine tk6_ 1 24 impl_SetRight.q2 HT_.out HW_.out hHeld ?_
            refine o1_ 2 25 impl_SetRight.q3 HT_.out (fun K hK=>?_)
            refine gs_ Try.func88 #[.agg #[.int .i64 ((rd_T91 l0_1 x18_2).f0.f0),.int .i64 ((rd_T91 l0_1 x18_2).f0.f1)]] ?_
            with_reducible refine (impl_isDot.calls ((rd_T91 l0_1 x18_2).f0.f0) ((rd_T91 l0_1 x18_2).f0.f1) true _ A20.out).mono ?_
            rintro e w46 ⟨rfl,hb⟩
            refine ⟨_,rfl,?_⟩
            refine as3_ (blkB_ BK281.out hb) (blkB_ BK284.out hb) (below_step (z4_ HB.out GE281.out GE284.out) hb) ?_
            clear BK281 BK284 HB
            intro BK281 BK284 HB
            (try clear hb)
            refine hK.out _ _ (cj4_ BK284.out (cc2_ BK281.out)) (fun hHeld=>?_)
            clear hK K
            refine nm_ 25 ?_
            refine pu_ 3 26 impl_SetRight.q4 HT_.out ?_
            refine pu_ 4 27 impl_SetRight.q5 HT_.out ?_
            refine pu_ 5 28 impl_SetRight.q6 HT_.out ?_
            refine pu_ 7 30 impl_SetRight.q7 HT_.out ?_
            refine tk6_ 6 29 impl_SetRight.q8 HT_.out HW_.out hHeld ?_
            refine tk6_ 8 31 impl_SetRight.q9 HT_.out HW_.out hHeld ?_
            refine o1_ 9 32 impl_SetRight.q10 HT_.out (fun K hK=>?_)
            refine gs_ Try.func64 #[.slice A0_0 l0_0.length c0_0,.agg #[.int .i64 ((rd_T91 l0_1 x18_2).f0.f0),.int .i64 ((rd_T91 l0_1 x18_2).f0.f1)]] ?_
            with_reducible refine (impl_seenHas.calls k2 _ _ l0_0 ((rd_T91 l0_1 x18_2).f0.f0) ((rd_T91 l0_1 x18_2).f0.f1) false _ ?s1 ?s2 A22.out).mono ?_
            (case s1=>repeat (first | exact (Kd.C_below HR0_0.out HB.out) | (with_reducible refine Kd.C_alloc ?_ _) | (with_reducible refine Kd.C_drewN ?_ _) | (with_reducible refine Kd.C_drew ?_)))
            (case s2=>exact HC0_0.out)
            rintro e w47 ⟨rfl,hb⟩
            refine ⟨_,rfl,?_⟩
            refine as3_ (blkB_ BK281.out hb) (blkB_ BK284.out hb) (below_step (z4_ HB.out GE281.out GE284.out) hb) ?_
            clear BK281 BK284 HB
            intro BK281 BK284 HB
            (try clear hb)
            refine hK.out _ _ (cj4_ BK284.out (cc2_ BK281.out)) (fun hHeld=>?_)
            clear hK K
            refine nm_ 32 ?_
            refine pu_ 10 33 impl_SetRight.q11 HT_.out ?_
            refine pu_ 11 34 impl_SetRight.q12 HT_.out ?_
            refine pu_ 12 35 impl_SetRight.q13 HT_.out ?_
            refine pn_ 13 36 impl_SetRight.q14 HT_.out ?_
            refine pn_ 14 37 impl_SetRight.q38 HT_.out ?_
            refine pn_ 15 38 impl_SetRight.q16 HT_.out ?_
            refine pn_ 16 39 impl_SetRight.q17 HT_.out ?_
            refine pn_ 17 40 impl_SetRight.q18 HT_.out ?_
            refine pn_ 18 41 impl_SetRight.q19 HT_.out ?_
            refine pu_ 19 42 impl_SetRight.q20 HT_.out ?_
            refine pu_ 20 43 impl_SetRight.q21 HT_.out ?_
            refine pn_ 21 44 impl_SetRight.q22 HT_.out ?_
            refine pn_ 22 45 impl_SetRight.q23 HT_.out ?_
            refine pn_ 23 46 impl_SetRight.q24 HT_.out ?_
            refine pn_ 24 47 impl_SetRight.q25 HT_.out ?_
            refine pn_ 25 48 impl_SetRight.q32 HT_.out ?_
            refine pn_ 26 49 impl_SetRight.q33 HT_.out ?_
            refine pn_ 27 50 impl_SetRight.q34 HT_.out ?_
            refine pn_ 28 51 impl_SetRight.q35 HT_.out ?_
            refine pn_ 29 52 impl_SetRight.q36 HT_.out ?_
            refine pn_ 30 53 impl_SetRight.q37 HT_.out ?_
            refine pn_ 31 54 impl_SetRight.q26 HT_.out ?_
            refine pn_ 32 55 impl_SetRight.q27 HT_.out ?_
            refine pn_ 33 56 impl_SetRight.q28 HT_.out ?_
            refine pn_ 34 57 impl_SetRight.q29 HT_.out ?_
            refine pn_ 35 58 impl_SetRight.q30 HT_.out ?_
            refine pu_ 36 59 impl_SetRight.q31 HT_.out ?_
            refine done_ (done_of HT_.out (by kernel_rfl)) ?_
            try go_wp2
            go_meet
            case rel=>exact ⟨_,(true),(z2_),H',⟨z29_ HJ1.out HK2.out⟩,⟨z5_ BK281.out⟩,⟨z5_ BK284.out⟩,⟨z4_ HB.out GE281.out GE284.out⟩⟩
          ·replace c21:=Bool.eq_false_iff.mpr c21
           subst c21
           have H1:(impl_SetRight.j2 k2 l0_1 (l0_1.length:Int) x18_2 true l0_0 l0_1)=some r:=by rw [if_neg (show ¬ (false=true) by decide)] at H;exact H
           clear H
           have H:=H1
           clear H1
           have H':=Aside0.mk H
           clear H
           try go_wp2
           have n0_:Aside0 (((((w17.setCell ⟨gb284,0,none⟩ (.int .i64 ((rd_T91 l0_1 x18_2).f0.f0))).setCell ⟨gb284,1,none⟩ (.int .i64 ((rd_T91 l0_1 x18_2).f0.f1))).setCell ⟨gb284,2,none⟩ (.bool ((rd_T91 l0_1 x18_2).f1))).setCell ⟨gb284,3,none⟩ (.string ((rd_T91 l0_1 x18_2).f2))).heap[gb281]? = some (.cells #[.slice A0_0 l0_0.length c0_0,.slice (some ad283) l0_1.length c0_1] 40 (0,0))):=⟨z15_ NB281_284.out BK281.out⟩
           have n1_:Aside0 (((((w17.setCell ⟨gb284,0,none⟩ (.int .i64 ((rd_T91 l0_1 x18_2).f0.f0))).setCell ⟨gb284,1,none⟩ (.int .i64 ((rd_T91 l0_1 x18_2).f0.f1))).setCell ⟨gb284,2,none⟩ (.bool ((rd_T91 l0_1 x18_2).f1))).setCell ⟨gb284,3,none⟩ (.string ((rd_T91 l0_1 x18_2).f2))).heap[gb284]? = some (.cells #[.int .i64 ((rd_T91 l0_1 x18_2).f0.f0),.int .i64 ((rd_T91 l0_1 x18_2).f0.f1),.bool ((rd_T91 l0_1 x18_2).f1),.string ((rd_T91 l0_1 x18_2).f2)] 91 (0,0))):=⟨z19_ BK284.out⟩
           have n2_:Aside0 (Below w.heap.size w ((((w17.setCell ⟨gb284,0,none⟩ (.int .i64 ((rd_T91 l0_1 x18_2).f0.f0))).setCell ⟨gb284,1,none⟩ (.int .i64 ((rd_T91 l0_1 x18_2).f0.f1))).setCell ⟨gb284,2,none⟩ (.bool ((rd_T91 l0_1 x18_2).f1))).setCell ⟨gb284,3,none⟩ (.string ((rd_T91 l0_1 x18_2).f2)))):=⟨z4_ HB.out GE281.out GE284.out⟩
           (try clear BK281)
           (try clear BK284)
           (try clear HB)
           generalize ((((w17.setCell ⟨gb284,0,none⟩ (.int .i64 ((rd_T91 l0_1 x18_2).f0.f0))).setCell ⟨gb284,1,none⟩ (.int .i64 ((rd_T91 l0_1 x18_2).f0.f1))).setCell ⟨gb284,2,none⟩ (.bool ((rd_T91 l0_1 x18_2).f1))).setCell ⟨gb284,3,none⟩ (.string ((rd_T91 l0_1 x18_2).f2)))=w48 at n0_ n1_ n2_ ⊢
           have BK281:=n0_
           have BK284:=n1_
           have HB:=n2_
           clear n0_ n1_ n2_
           refine as3_ (blk_drew BK281.out) (blk_drew BK284.out) (below_drew1 HB.out) ?_
           clear BK281 BK284 HB
           intro BK281 BK284 HB
           refine start_ (n:=37) (S:=fun w'=>w'.cell? ⟨gb284,0,none⟩=some (.int .i64 ((rd_T91 l0_1 x18_2).f0.f0))∧w'.cell? ⟨gb284,1,none⟩=some (.int .i64 ((rd_T91 l0_1 x18_2).f0.f1))∧w'.cell? ⟨gb284,2,none⟩=some (.bool ((rd_T91 l0_1 x18_2).f1))∧w'.cell? ⟨gb284,3,none⟩=some (.string ((rd_T91 l0_1 x18_2).f2))) (ds:=[]) impl_SetRight.q0 (by kernel_rfl) rfl rfl (cc4_ BK284.out) (fun hHeld=>?_);refine with_tabW impl_SetRight.tab6 impl_SetRight.bits6 (fun HT_ HW_=>?_)
           generalize w48.drew=w49 at BK281 BK284 HB hHeld ⊢
           refine pu_ 0 23 impl_SetRight.q1 HT_.out ?_
           refine tk4_ 1 24 impl_SetRight.q2 HT_.out HW_.out hHeld ?_
           refine o1_ 2 25 impl_SetRight.q3 HT_.out (fun K hK=>?_)
           refine gs_ Try.func88 #[.agg #[.int .i64 ((rd_T91 l0_1 x18_2).f0.f0),.int .i64 ((rd_T91 l0_1 x18_2).f0.f1)]] ?_
           with_reducible refine (impl_isDot.calls ((rd_T91 l0_1 x18_2).f0.f0) ((rd_T91 l0_1 x18_2).f0.f1) false _ A20.out).mono ?_
           rintro e w50 ⟨rfl,hb⟩
           refine ⟨_,rfl,?_⟩
           refine as3_ (blkB_ BK281.out hb) (blkB_ BK284.out hb) (below_step (z4_ HB.out GE281.out GE284.out) hb) ?_
           clear BK281 BK284 HB
           intro BK281 BK284 HB
           (try clear hb)
           refine hK.out _ _ (cc4_ BK284.out) (fun hHeld=>?_)
           clear hK K
           refine nm_ 25 ?_
           refine pu_ 3 26 impl_SetRight.q4 HT_.out ?_
           refine pu_ 4 27 impl_SetRight.q5 HT_.out ?_
           refine pn_ 5 28 impl_SetRight.q6 HT_.out ?_
           refine pn_ 6 29 #[I,I,I,I,I,I,I,O,O,O,O,O,O,O,O,O,O,O,O,O,O,O,O,O,O,O,O,O,O,O,O,O,O,O,O,O,O] HT_.out ?_
           refine pn_ 7 30 impl_SetRight.q8 HT_.out ?_
           refine pn_ 8 31 impl_SetRight.q9 HT_.out ?_
           refine pn_ 9 32 impl_SetRight.q10 HT_.out ?_
           refine pn_ 10 33 impl_SetRight.q11 HT_.out ?_
           refine pu_ 11 34 impl_SetRight.q12 HT_.out ?_
           refine pu_ 12 35 impl_SetRight.q13 HT_.out ?_
           refine pn_ 13 36 impl_SetRight.q14 HT_.out ?_
           refine pn_ 14 37 impl_SetRight.q38 HT_.out ?_
           refine pn_ 15 38 impl_SetRight.q16 HT_.out ?_
           refine pn_ 16 39 impl_SetRight.q17 HT_.out ?_
           refine pn_ 17 40 impl_SetRight.q18 HT_.out ?_
           refine pn_ 18 41 impl_SetRight.q19 HT_.out ?_
           refine pu_ 19 42 impl_SetRight.q20 HT_.out ?_
           refine pu_ 20 43 impl_SetRight.q21 HT_.out ?_
           refine pn_ 21 44 impl_SetRight.q22 HT_.out ?_
           refine pn_ 22 45 impl_SetRight.q23 HT_.out ?_
           refine pn_ 23 46 impl_SetRight.q24 HT_.out ?_
           refine pn_ 24 47 impl_SetRight.q25 HT_.out ?_
           refine pn_ 25 48 impl_SetRight.q32 HT_.out ?_
           refine pn_ 26 49 impl_SetRight.q33 HT_.out ?_
           refine pn_ 27 50 impl_SetRight.q34 HT_.out ?_
           refine pn_ 28 51 impl_SetRight.q35 HT_.out ?_
           refine pn_ 29 52 impl_SetRight.q36 HT_.out ?_
           refine pn_ 30 53 impl_SetRight.q37 HT_.out ?_
           refine pn_ 31 54 impl_SetRight.q26 HT_.out ?_
           refine pn_ 32 55 impl_SetRight.q27 HT_.out ?_
           refine pn_ 33 56 impl_SetRight.q28 HT_.out ?_
           refine pn_ 34 57 impl_SetRight.q29 HT_.out ?_
           refine pn_ 35 58 impl_SetRight.q30 HT_.out ?_
           refine pu_ 36 59 impl_SetRight.q31 HT_.out ?_
           refine done_ (done_of HT_.out (by kernel_rfl)) ?_
           try go_wp2
           go_meet
           case rel=>exact ⟨_,(true),(z2_),H',⟨z29_ HJ1.out HK2.out⟩,⟨z5_ BK281.out⟩,⟨z5_ BK284.out⟩,⟨z4_ HB.out GE281.out GE284.out⟩⟩
         case rest =>
          clear HC16
          try clear c2
          try clear p2
          try clear c6
          try clear c8
          try clear c21
          try clear c23
          obtain ⟨kq,x59_15,rfl,HA,HJ15,BK281,BK284,HB⟩:=hcut
          cases kq with
          | zero=>exact absurd HA.out (by simp [impl_SetRight.j2])
          | succ kj15 =>
           have H:=HA.out
           clear HA
           simp only [impl_SetRight.j2] at H
           by_cases c51:x59_15=true
           ·subst c51
            have H1:(some false)=some r:=by rw [if_pos rfl] at H;exact H
            clear H
            have H:=H1
            clear H1
            obtain rfl:=Option.some.inj H
            go_wp2
            go_ret
            exact ⟨z8_,z4_ HB.out GE281.out GE284.out⟩
           ·replace c51:=Bool.eq_false_iff.mpr c51
            subst c51
            have H1:(impl_SetRight.l0 kj15 l0_1 (l0_1.length:Int) (wrap64 (x18_2+1)) l0_0 l0_1)=some r:=by rw [if_neg (show ¬ (false=true) by decide)] at H;exact H
            clear H
            have H:=H1
            clear H1
            have H':=Aside0.mk H
            clear H
            go_wp2
            go_roundg kj15
            case measure=>have:=HJ1.out;have:=HK2.out;have:=HJ15.out;omega
            case rel=>exact ⟨(wrap64 (x18_2+1)),(z2_),H',⟨by have:=HJ1.out;have:=HK2.out;have:=HJ15.out;omega⟩,⟨z5_ BK281.out⟩,⟨z4_ HB.out GE281.out GE284.out⟩⟩
        ·rw [if_neg c15] at H
         exact absurd H (by simp)
       ·rw [if_neg c14] at H
        exact absurd H (by simp)
      ·rw [if_neg c13] at H
       have c13b0:decide (x18_2<(l0_1.length:Int))=false:=decide_eq_false c13
       clear c13
       obtain rfl:=Option.some.inj H
       go_wp2
       go_ret
       exact ⟨z8_,z6_ HB.out GE281.out⟩


/-! ### impl_seenJoin: function 62 -/
def impl_seenJoin.l0:Nat→List (S56)→List (S56)→List (S56)→Int→Option ((List (S56)))
 | 0,_,_,_,_=>none
 | k+1,x0,x1,x5,x6=>if x6≤5 then ((impl_seenOf.f k x0 x6).bind fun t601=>((impl_seenOf.f k x1 x6).bind fun t602=>(if (mx t601 t602)>0 then (if x5.length<8796093022208 then (impl_seenJoin.l0 k x0 x1 (x5 ++ [(⟨x6,mx t601 t602⟩:S56)]) (wrap64 (x6+1))) else (none)) else (impl_seenJoin.l0 k x0 x1 x5 (wrap64 (x6+1)))))) else (some x5)
def impl_seenJoin.f (k:Nat) (l0:List (S56)) (l1:List (S56)):Option ((List (S56))):=impl_seenJoin.l0 k l0 l1 ([]:List (S56)) 1
theorem impl_seenJoin.mono_l:∀ k,(∀ y0 y1 y2 y3,LeO (impl_seenJoin.l0 k y0 y1 y2 y3) (impl_seenJoin.l0 (k+1) y0 y1 y2 y3))
 | 0=>fun _ _ _ _ r h=>by simp [impl_seenJoin.l0] at h
 | k+1=>by
  have ih0:=impl_seenJoin.mono_l k
  ·intro y0 y1 y2 y3
   unfold impl_seenJoin.l0
   repeat' first
   | (with_reducible exact ih0 _ _ _ _)
   | (with_reducible exact impl_seenOf.mono _ _ _)
   | (with_reducible exact LeO.refl _)
   | (with_reducible exact LeO.none _)
   | (with_reducible refine LeO.ite ?_ ?_)
   | (with_reducible refine LeO.bind ?_ (fun _=>?_))
   | exact ih0 _ _ _ _
   | exact impl_seenOf.mono _ _ _
   | exact LeO.none _
   | refine LeO.ite ?_ ?_
   | refine LeO.bind ?_ (fun _=>?_)
theorem impl_seenJoin.mono:∀ a0 a1 k,LeO (impl_seenJoin.f k a0 a1) (impl_seenJoin.f (k+1) a0 a1):=by
 intro a0 a1 k
 have ih0:=impl_seenJoin.mono_l k
 unfold impl_seenJoin.f
 repeat' first
   | (with_reducible exact ih0 _ _ _ _)
   | (with_reducible exact impl_seenOf.mono _ _ _)
   | (with_reducible exact LeO.refl _)
   | (with_reducible exact LeO.none _)
   | (with_reducible refine LeO.ite ?_ ?_)
   | (with_reducible refine LeO.bind ?_ (fun _=>?_))
   | exact ih0 _ _ _ _
   | exact impl_seenOf.mono _ _ _
   | exact LeO.none _
   | refine LeO.ite ?_ ?_
   | refine LeO.bind ?_ (fun _=>?_)
set_option maxHeartbeats 8000000 in
set_option maxRecDepth 100000 in
theorem impl_seenJoin.calls (k:Nat) (A0:Option Addr) (c0:Nat) (l0:List (S56)) (A1:Option Addr) (c1:Nat) (l1:List (S56)) (r:List (S56)) (w:World) (hr0:Kd.C k56 w A0 l0.length l0) (hc0:l0.length≤c0) (hr1:Kd.C k56 w A1 l1.length l1) (hc1:l1.length≤c1) (h:impl_seenJoin.f k l0 l1=some r) :
  Calls Try.prog 62 #[.slice A0 l0.length c0,.slice A1 l1.length c1] w fun e w'=>∃ v0_:Value,e = .returned (v0_)∧Kd.R k56 56 w' w.heap.size (fun _=>True) v0_ r∧Below w.heap.size w w':=by
 have hu56:=Try.underlying56
 have HR0:=Aside0.mk hr0
 have HC0:=Aside0.mk hc0
 clear hr0 hc0
 have HR1:=Aside0.mk hr1
 have HC1:=Aside0.mk hc1
 clear hr1 hc1
 have HB:=Aside0.mk (Below.refl w.heap.size w)
 have H:(impl_seenJoin.l0 k l0 l1 ([]:List (S56)) 1)=some r:=h
 clear h
 have H':=Aside0.mk H
 clear H
 go_enter Try.func62,Try.ntmps62
 go_wp2
 go_loopg [5,6] k (fun kq v5 v6 w'=>∃ (x5_1:List (S56)) (x6_1:Int),v6 = .int .i64 x6_1∧Aside0 (impl_seenJoin.l0 kq l0 l1 x5_1 x6_1=some r)∧Aside0 (kq≤k)∧Aside0 (Kd.R k56 56 w' w.heap.size (fun _=>True) v5 x5_1)∧Aside0 (Below w.heap.size w w'))
 case atStart=>exact ⟨(([]:List (S56))),(1),(z2_),H',⟨Nat.le_refl _⟩,⟨z26_⟩,⟨z3_ HB.out⟩⟩
 case round =>
  clear H'
  try clear c1
  try clear p2
  obtain ⟨x5_1,x6_1,rfl,HA,HK1,HO_5,HB⟩:=hrel
  cases gk with
  | zero=>exact absurd HA.out (by simp [impl_seenJoin.l0])
  | succ k1 =>
   have H:=HA.out
   clear HA
   simp only [impl_seenJoin.l0] at H
   by_cases c3:x6_1≤5
   ·rw [if_pos c3] at H
    have c3b0:decide (x6_1≤5)=true:=decide_eq_true c3
    clear c3
    replace H:=Option.bind_eq_some_iff.mp H
    obtain ⟨t601,A40,H⟩:=H
    replace H:((impl_seenOf.f k1 l1 x6_1).bind fun t602=>(if (mx t601 t602)>0 then (if x5_1.length<8796093022208 then (impl_seenJoin.l0 k1 l0 l1 (x5_1 ++ [(⟨x6_1,mx t601 t602⟩:S56)]) (wrap64 (x6_1+1))) else (none)) else (impl_seenJoin.l0 k1 l0 l1 x5_1 (wrap64 (x6_1+1)))))=some r:=H
    have A4:=Aside0.mk A40
    clear A40
    replace H:=Option.bind_eq_some_iff.mp H
    obtain ⟨t602,A50,H⟩:=H
    replace H:(if (mx t601 t602)>0 then (if x5_1.length<8796093022208 then (impl_seenJoin.l0 k1 l0 l1 (x5_1 ++ [(⟨x6_1,mx t601 t602⟩:S56)]) (wrap64 (x6_1+1))) else (none)) else (impl_seenJoin.l0 k1 l0 l1 x5_1 (wrap64 (x6_1+1))))=some r:=H
    have A5:=Aside0.mk A50
    clear A50
    obtain ⟨ji6,hji6⟩:∃ j_:Int,(mx t601 t602)=j_:=⟨_,rfl⟩
    replace H:(if (ji6)>0 then (if x5_1.length<8796093022208 then (impl_seenJoin.l0 k1 l0 l1 (x5_1 ++ [(⟨x6_1,ji6⟩:S56)]) (wrap64 (x6_1+1))) else (none)) else (impl_seenJoin.l0 k1 l0 l1 x5_1 (wrap64 (x6_1+1))))=some r:=by first | (rw [hji6] at H;exact H) | (simp only [hji6] at H ⊢;exact H)
    (try rw [hji6] at A4)
    (try rw [hji6] at A5)
    have hji6_:(if t601<t602 then t602 else t601)=ji6:=hji6
    by_cases c7:(ji6)>0
    ·rw [if_pos c7] at H
     have c7b0:decide (0<(ji6))=true:=decide_eq_true c7
     clear c7
     by_cases c8:x5_1.length<8796093022208
     ·rw [if_pos c8] at H
      have LMc8:=Aside0.mk c8
      clear c8
      obtain ⟨y603,hy603⟩:∃ y_:List (S56),y_=(x5_1 ++ [(⟨x6_1,ji6⟩:S56)]):=⟨_,rfl⟩
      replace H:(impl_seenJoin.l0 k1 l0 l1 y603 (wrap64 (x6_1+1)))=some r:=by first | (rw [hy603];with_reducible exact H) | (have H2_:=(Option.bind_some _ _).symm.trans H;rw [hy603];with_reducible exact H2_) | (have H2_:=(Option.bind_some _ _).symm.trans H;with_reducible exact H2_) | with_reducible exact H | (rw [hy603];exact H) | exact H
      have Ny603:=Aside0.mk hy603
      clear hy603
      have H':=Aside0.mk H
      clear H
      go_wp2_with (first | ((with_reducible refine gc_ 94 ?_);refine gl_ (some 14) Try.func94 #[.slice A0 l0.length c0,.int .i64 x6_1] ?_;(with_reducible refine (impl_seenOf.calls k1 _ _ l0 x6_1 t601 _ ?s1 ?s2 A4.out).mono ?_);(case s1=>repeat (first | exact (Kd.C_below HR0.out HB.out) | (with_reducible refine Kd.C_alloc ?_ _) | (with_reducible refine Kd.C_drewN ?_ _) | (with_reducible refine Kd.C_drew ?_)));(case s2=>exact HC0.out);rintro e w9 ⟨rfl,hb⟩;refine ⟨_,rfl,?_⟩;refine as2_ (Kd.R_below (z0_ HO_5.out) hb) (below_step (z3_ HB.out) hb) ?_;clear HO_5 HB;intro HO_5 HB;(try clear hb)) | ((with_reducible refine gc_ 94 ?_);refine gl_ (some 17) Try.func94 #[.slice A1 l1.length c1,.int .i64 x6_1] ?_;(with_reducible refine (impl_seenOf.calls k1 _ _ l1 x6_1 t602 _ ?s1 ?s2 A5.out).mono ?_);(case s1=>repeat (first | exact (Kd.C_below HR1.out HB.out) | (with_reducible refine Kd.C_alloc ?_ _) | (with_reducible refine Kd.C_drewN ?_ _) | (with_reducible refine Kd.C_drew ?_)));(case s2=>exact HC1.out);rintro e w10 ⟨rfl,hb⟩;refine ⟨_,rfl,?_⟩;refine as2_ (Kd.R_below (z0_ HO_5.out) hb) (below_step (z3_ HB.out) hb) ?_;clear HO_5 HB;intro HO_5 HB;(try clear hb)) | ((with_reducible refine gate_builtin (b:=.append) (xs:=#[.tmp 21,.tmp 25]) rfl ?_);at_builtin;refine Kd.R_append k56 (w0:=w) w.heap.size rfl (.tmp 21) (.tmp 25) 37 56 (.agg #[(.int .i64 0),(.int .i64 0)]) 16 rfl Try.underlying37 info56 rfl (by decide) (by omega) u5 x5_1 (⟨x6_1,ji6⟩:S56) [.int .i64 x6_1,.int .i64 ji6] (fun _=>True) (fun _=>False) rfl rfl ?aP (fun _ hk=>hk.elim) ?aF ?aO ?aB ?aS ?aL ?_;(case aP=>exact k56_mkM _ _ _ (⟨x6_1,ji6⟩:S56));(case aB=>exact (z3_ HB.out));(case aF=>exact (fun _ _=>trivial));(case aO=>exact (z0_ HO_5.out));(case aS=>exact (below_size (z3_ HB.out)));(case aL=>have:=LMc8.out;omega);intro v604 w11 ho hb hg hat;rw [← Ny603.out] at ho;refine as2_ (hb) (ho) ?_;clear HB HO_5;intro HB HO605;clear ho hb hg hat))
      go_roundg k1
      case measure=>have:=HK1.out;omega
      case rel=>exact ⟨(y603),(wrap64 (x6_1+1)),(z2_),H',⟨by have:=HK1.out;omega⟩,⟨z0_ HO605.out⟩,⟨z3_ HB.out⟩⟩
     ·rw [if_neg c8] at H
      exact absurd H (by simp)
    ·rw [if_neg c7] at H
     have c7b0:decide (0<(ji6))=false:=decide_eq_false c7
     clear c7
     have H':=Aside0.mk H
     clear H
     go_wp2_with (first | ((with_reducible refine gc_ 94 ?_);refine gl_ (some 14) Try.func94 #[.slice A0 l0.length c0,.int .i64 x6_1] ?_;(with_reducible refine (impl_seenOf.calls k1 _ _ l0 x6_1 t601 _ ?s1 ?s2 A4.out).mono ?_);(case s1=>repeat (first | exact (Kd.C_below HR0.out HB.out) | (with_reducible refine Kd.C_alloc ?_ _) | (with_reducible refine Kd.C_drewN ?_ _) | (with_reducible refine Kd.C_drew ?_)));(case s2=>exact HC0.out);rintro e w12 ⟨rfl,hb⟩;refine ⟨_,rfl,?_⟩;refine as2_ (Kd.R_below (z0_ HO_5.out) hb) (below_step (z3_ HB.out) hb) ?_;clear HO_5 HB;intro HO_5 HB;(try clear hb)) | ((with_reducible refine gc_ 94 ?_);refine gl_ (some 17) Try.func94 #[.slice A1 l1.length c1,.int .i64 x6_1] ?_;(with_reducible refine (impl_seenOf.calls k1 _ _ l1 x6_1 t602 _ ?s1 ?s2 A5.out).mono ?_);(case s1=>repeat (first | exact (Kd.C_below HR1.out HB.out) | (with_reducible refine Kd.C_alloc ?_ _) | (with_reducible refine Kd.C_drewN ?_ _) | (with_reducible refine Kd.C_drew ?_)));(case s2=>exact HC1.out);rintro e w13 ⟨rfl,hb⟩;refine ⟨_,rfl,?_⟩;refine as2_ (Kd.R_below (z0_ HO_5.out) hb) (below_step (z3_ HB.out) hb) ?_;clear HO_5 HB;intro HO_5 HB;(try clear hb)))
     go_roundg k1
     case measure=>have:=HK1.out;omega
     case rel=>exact ⟨(x5_1),(wrap64 (x6_1+1)),(z2_),H',⟨by have:=HK1.out;omega⟩,⟨z0_ HO_5.out⟩,⟨z3_ HB.out⟩⟩
   ·rw [if_neg c3] at H
    have c3b0:decide (x6_1≤5)=false:=decide_eq_false c3
    clear c3
    obtain rfl:=Option.some.inj H
    go_wp2
    go_ret
    exact ⟨_,z8_,z0_ HO_5.out,z3_ HB.out⟩


/-! ### bits_Len64: function 127 -/
mutual
def bits_Len64.j0:Nat→Int→Int→Option (Int)
 | 0,_,_=>none
 | k+1,x0,x2=>if x0≥65536 then (bits_Len64.j1 k (x0 / 65536) (wrap64 (x2+16))) else (bits_Len64.j1 k x0 x2)
def bits_Len64.j1:Nat→Int→Int→Option (Int)
 | 0,_,_=>none
 | k+1,x0,x2=>if x0≥256 then (if 0≤((x0 / 256) % 256) then (if ((x0 / 256) % 256)<256 then (some (wrap64 ((wrap64 (x2+8))+(wrap64 (bt (⟨#[0,1,2,2,3,3,3,3,4,4,4,4,4,4,4,4,5,5,5,5,5,5,5,5,5,5,5,5,5,5,5,5,6,6,6,6,6,6,6,6,6,6,6,6,6,6,6,6,6,6,6,6,6,6,6,6,6,6,6,6,6,6,6,6,7,7,7,7,7,7,7,7,7,7,7,7,7,7,7,7,7,7,7,7,7,7,7,7,7,7,7,7,7,7,7,7,7,7,7,7,7,7,7,7,7,7,7,7,7,7,7,7,7,7,7,7,7,7,7,7,7,7,7,7,7,7,7,7,8,8,8,8,8,8,8,8,8,8,8,8,8,8,8,8,8,8,8,8,8,8,8,8,8,8,8,8,8,8,8,8,8,8,8,8,8,8,8,8,8,8,8,8,8,8,8,8,8,8,8,8,8,8,8,8,8,8,8,8,8,8,8,8,8,8,8,8,8,8,8,8,8,8,8,8,8,8,8,8,8,8,8,8,8,8,8,8,8,8,8,8,8,8,8,8,8,8,8,8,8,8,8,8,8,8,8,8,8,8,8,8,8,8,8,8,8,8,8,8,8,8,8,8,8,8,8,8]⟩:ByteArray) ((x0 / 256) % 256)))))) else (none)) else (none)) else (if 0≤((x0) % 256) then (if ((x0) % 256)<256 then (some (wrap64 (x2+(wrap64 (bt (⟨#[0,1,2,2,3,3,3,3,4,4,4,4,4,4,4,4,5,5,5,5,5,5,5,5,5,5,5,5,5,5,5,5,6,6,6,6,6,6,6,6,6,6,6,6,6,6,6,6,6,6,6,6,6,6,6,6,6,6,6,6,6,6,6,6,7,7,7,7,7,7,7,7,7,7,7,7,7,7,7,7,7,7,7,7,7,7,7,7,7,7,7,7,7,7,7,7,7,7,7,7,7,7,7,7,7,7,7,7,7,7,7,7,7,7,7,7,7,7,7,7,7,7,7,7,7,7,7,7,8,8,8,8,8,8,8,8,8,8,8,8,8,8,8,8,8,8,8,8,8,8,8,8,8,8,8,8,8,8,8,8,8,8,8,8,8,8,8,8,8,8,8,8,8,8,8,8,8,8,8,8,8,8,8,8,8,8,8,8,8,8,8,8,8,8,8,8,8,8,8,8,8,8,8,8,8,8,8,8,8,8,8,8,8,8,8,8,8,8,8,8,8,8,8,8,8,8,8,8,8,8,8,8,8,8,8,8,8,8,8,8,8,8,8,8,8,8,8,8,8,8,8,8,8,8,8,8]⟩:ByteArray) ((x0) % 256)))))) else (none)) else (none))
end
def bits_Len64.f (k:Nat) (a0:Int):Option (Int):=if a0≥4294967296 then (bits_Len64.j0 k (a0 / 4294967296) 32) else (bits_Len64.j0 k a0 0)
theorem bits_Len64.mono_l:∀ k,(∀ y0 y1,LeO (bits_Len64.j0 k y0 y1) (bits_Len64.j0 (k+1) y0 y1))∧(∀ y0 y1,LeO (bits_Len64.j1 k y0 y1) (bits_Len64.j1 (k+1) y0 y1))
 | 0=>⟨fun _ _ r h=>by simp [bits_Len64.j0] at h,fun _ _ r h=>by simp [bits_Len64.j1] at h⟩
 | k+1=>by
  obtain ⟨ih0,ih1⟩:=bits_Len64.mono_l k
  refine ⟨?_,?_⟩
  ·intro y0 y1
   unfold bits_Len64.j0
   repeat' first
   | (with_reducible exact ih0 _ _)
   | (with_reducible exact ih1 _ _)
   | (with_reducible exact LeO.refl _)
   | (with_reducible exact LeO.none _)
   | (with_reducible refine LeO.ite ?_ ?_)
   | (with_reducible refine LeO.bind ?_ (fun _=>?_))
   | exact ih0 _ _
   | exact ih1 _ _
   | exact LeO.none _
   | refine LeO.ite ?_ ?_
   | refine LeO.bind ?_ (fun _=>?_)
  ·intro y0 y1
   unfold bits_Len64.j1
   repeat' first
   | (with_reducible exact ih0 _ _)
   | (with_reducible exact ih1 _ _)
   | (with_reducible exact LeO.refl _)
   | (with_reducible exact LeO.none _)
   | (with_reducible refine LeO.ite ?_ ?_)
   | (with_reducible refine LeO.bind ?_ (fun _=>?_))
   | exact ih0 _ _
   | exact ih1 _ _
   | exact LeO.none _
   | refine LeO.ite ?_ ?_
   | refine LeO.bind ?_ (fun _=>?_)
theorem bits_Len64.mono:∀ a0 k,LeO (bits_Len64.f k a0) (bits_Len64.f (k+1) a0):=by
 intro a0 k
 obtain ⟨ih0,ih1⟩:=bits_Len64.mono_l k
 unfold bits_Len64.f
 repeat' first
   | (with_reducible exact ih0 _ _)
   | (with_reducible exact ih1 _ _)
   | (with_reducible exact LeO.refl _)
   | (with_reducible exact LeO.none _)
   | (with_reducible refine LeO.ite ?_ ?_)
   | (with_reducible refine LeO.bind ?_ (fun _=>?_))
   | exact ih0 _ _
   | exact ih1 _ _
   | exact LeO.none _
   | refine LeO.ite ?_ ?_
   | refine LeO.bind ?_ (fun _=>?_)
set_option maxHeartbeats 8000000 in
set_option maxRecDepth 100000 in
theorem bits_Len64.calls (k:Nat) (a0:Int) (r:Int) (w:World) (h:bits_Len64.f k a0=some r) :
  Calls Try.prog 127 #[.int .u64 a0] w fun e w'=>e = .returned (.int .i64 r)∧Drawn0 w w':=by
 have H:(if a0≥4294967296 then (bits_Len64.j0 k (a0 / 4294967296) 32) else (bits_Len64.j0 k a0 0))=some r:=h
 clear h
 have HC2:=Aside0.mk H
 clear H
 go_enter Try.func127,Try.ntmps127
 go_upto_if 4 with (fail)
 go_cut [0,2] (fun v0 v2 wc=>∃ (kq:Nat) (x0_1:Int) (x2_1:Int),v0 = .int .u64 x0_1∧v2 = .int .i64 x2_1∧Aside0 (bits_Len64.j0 kq x0_1 x2_1=some r)∧Aside0 (kq≤k)∧Drawn0 w wc)
 case first =>
  have H:=HC2.out
  clear HC2
  by_cases c3:a0≥4294967296
  ·rw [if_pos c3] at H
   have c3b0:decide (4294967296≤a0)=true:=decide_eq_true c3
   clear c3
   (first | rw [c3b0] | (simp only [i64_w,i32_w];rw [c3b0]) | skip)
   have H':=Aside0.mk H
   clear H
   go_wp2
   go_meet
   case rel=>exact ⟨_,(a0 / 4294967296),(32),(z2_),(z2_),H',⟨by first | omega | exact Nat.le_refl _⟩,z11_⟩
  ·rw [if_neg c3] at H
   have c3b0:decide (4294967296≤a0)=false:=decide_eq_false c3
   clear c3
   (first | rw [c3b0] | (simp only [i64_w,i32_w];rw [c3b0]) | skip)
   have H':=Aside0.mk H
   clear H
   go_wp2
   go_meet
   case rel=>exact ⟨_,(a0),(0),(z2_),(z2_),H',⟨by first | omega | exact Nat.le_refl _⟩,z11_⟩
 case rest =>
  clear HC2
  try clear c1
  try clear p2
  try clear c3
  try clear c3b0
  obtain ⟨kq,x0_1,x2_1,rfl,rfl,HA,HJ1,⟨mc1,rfl⟩⟩:=hcut
  cases kq with
  | zero=>exact absurd HA.out (by simp [bits_Len64.j0])
  | succ kj1 =>
   have H:=HA.out
   clear HA
   simp only [bits_Len64.j0] at H
   have HC4:=Aside0.mk H
   clear H
   go_upto_if 8 with (fail)
   go_cut [0,2] (fun v0 v2 wc=>∃ (kq:Nat) (x0_3:Int) (x2_3:Int),v0 = .int .u64 x0_3∧v2 = .int .i64 x2_3∧Aside0 (bits_Len64.j1 kq x0_3 x2_3=some r)∧Aside0 (kq≤kj1)∧Drawn0 w wc)
   case first =>
    have H:=HC4.out
    clear HC4
    by_cases c5:x0_1≥65536
    ·rw [if_pos c5] at H
     have c5b0:decide (65536≤x0_1)=true:=decide_eq_true c5
     clear c5
     (first | rw [c5b0] | (simp only [i64_w,i32_w];rw [c5b0]) | skip)
     have H':=Aside0.mk H
     clear H
     go_wp2
     go_meet
     case rel=>exact ⟨_,(x0_1 / 65536),(wrap64 (x2_1+16)),(z2_),(z2_),H',⟨z23_ HJ1.out⟩,z11_⟩
    ·rw [if_neg c5] at H
     have c5b0:decide (65536≤x0_1)=false:=decide_eq_false c5
     clear c5
     (first | rw [c5b0] | (simp only [i64_w,i32_w];rw [c5b0]) | skip)
     have H':=Aside0.mk H
     clear H
     go_wp2
     go_meet
     case rel=>exact ⟨_,(x0_1),(x2_1),(z2_),(z2_),H',⟨z23_ HJ1.out⟩,z11_⟩
   case rest =>
    clear HC4
    try clear c1
    try clear p2
    try clear c3
    try clear c3b0
    try clear c5
    try clear c5b0
    try clear p2
    obtain ⟨kq,x0_3,x2_3,rfl,rfl,HA,HJ3,⟨mc3,rfl⟩⟩:=hcut
    cases kq with
    | zero=>exact absurd HA.out (by simp [bits_Len64.j1])
    | succ kj3 =>
     have H:=HA.out
     clear HA
     simp only [bits_Len64.j1] at H
     by_cases c6:x0_3≥256
     ·rw [if_pos c6] at H
      have c6b0:decide (256≤x0_3)=true:=decide_eq_true c6
      clear c6
      obtain ⟨ji7,hji7⟩:∃ j_:Int,((x0_3 / 256) % 256)=j_:=⟨_,rfl⟩
      replace H:(if 0≤(ji7) then (if (ji7)<256 then (some (wrap64 ((wrap64 (x2_3+8))+(wrap64 (bt (⟨#[0,1,2,2,3,3,3,3,4,4,4,4,4,4,4,4,5,5,5,5,5,5,5,5,5,5,5,5,5,5,5,5,6,6,6,6,6,6,6,6,6,6,6,6,6,6,6,6,6,6,6,6,6,6,6,6,6,6,6,6,6,6,6,6,7,7,7,7,7,7,7,7,7,7,7,7,7,7,7,7,7,7,7,7,7,7,7,7,7,7,7,7,7,7,7,7,7,7,7,7,7,7,7,7,7,7,7,7,7,7,7,7,7,7,7,7,7,7,7,7,7,7,7,7,7,7,7,7,8,8,8,8,8,8,8,8,8,8,8,8,8,8,8,8,8,8,8,8,8,8,8,8,8,8,8,8,8,8,8,8,8,8,8,8,8,8,8,8,8,8,8,8,8,8,8,8,8,8,8,8,8,8,8,8,8,8,8,8,8,8,8,8,8,8,8,8,8,8,8,8,8,8,8,8,8,8,8,8,8,8,8,8,8,8,8,8,8,8,8,8,8,8,8,8,8,8,8,8,8,8,8,8,8,8,8,8,8,8,8,8,8,8,8,8,8,8,8,8,8,8,8,8,8,8,8,8]⟩:ByteArray) (ji7)))))) else (none)) else (none))=some r:=by first | (rw [hji7] at H;exact H) | (simp only [hji7] at H ⊢;exact H)
      by_cases c8:0≤(ji7)
      ·rw [if_pos c8] at H
       have c8b0:decide (0≤(ji7))=true:=decide_eq_true c8
       clear c8
       by_cases c9:(ji7)<256
       ·rw [if_pos c9] at H
        have c9b0:decide ((ji7)<256)=true:=decide_eq_true c9
        clear c9
        obtain rfl:=Option.some.inj H
        have p10:0≤((ji7):Int):=of_decide_eq_true (z1_)
        have q10:(ji7)<(256:Int):=of_decide_eq_true (z1_)
        have hx10:=bt_at (⟨#[0,1,2,2,3,3,3,3,4,4,4,4,4,4,4,4,5,5,5,5,5,5,5,5,5,5,5,5,5,5,5,5,6,6,6,6,6,6,6,6,6,6,6,6,6,6,6,6,6,6,6,6,6,6,6,6,6,6,6,6,6,6,6,6,7,7,7,7,7,7,7,7,7,7,7,7,7,7,7,7,7,7,7,7,7,7,7,7,7,7,7,7,7,7,7,7,7,7,7,7,7,7,7,7,7,7,7,7,7,7,7,7,7,7,7,7,7,7,7,7,7,7,7,7,7,7,7,7,8,8,8,8,8,8,8,8,8,8,8,8,8,8,8,8,8,8,8,8,8,8,8,8,8,8,8,8,8,8,8,8,8,8,8,8,8,8,8,8,8,8,8,8,8,8,8,8,8,8,8,8,8,8,8,8,8,8,8,8,8,8,8,8,8,8,8,8,8,8,8,8,8,8,8,8,8,8,8,8,8,8,8,8,8,8,8,8,8,8,8,8,8,8,8,8,8,8,8,8,8,8,8,8,8,8,8,8,8,8,8,8,8,8,8,8,8,8,8,8,8,8,8,8,8,8,8,8]⟩:ByteArray) (ji7)
        replace p10:=eq_true p10
        replace q10:=eq_true q10
        go_wp2
        go_ret
        exact ⟨by first | rfl | (simp;done) | (simp only [← hji7] <;> (first | rfl | simp)) | (simp [*];done),z11_⟩
       ·rw [if_neg c9] at H
        exact absurd H (by simp)
      ·rw [if_neg c8] at H
       exact absurd H (by simp)
     ·rw [if_neg c6] at H
      have c6b0:decide (256≤x0_3)=false:=decide_eq_false c6
      clear c6
      obtain ⟨ji11,hji11⟩:∃ j_:Int,((x0_3) % 256)=j_:=⟨_,rfl⟩
      replace H:(if 0≤(ji11) then (if (ji11)<256 then (some (wrap64 (x2_3+(wrap64 (bt (⟨#[0,1,2,2,3,3,3,3,4,4,4,4,4,4,4,4,5,5,5,5,5,5,5,5,5,5,5,5,5,5,5,5,6,6,6,6,6,6,6,6,6,6,6,6,6,6,6,6,6,6,6,6,6,6,6,6,6,6,6,6,6,6,6,6,7,7,7,7,7,7,7,7,7,7,7,7,7,7,7,7,7,7,7,7,7,7,7,7,7,7,7,7,7,7,7,7,7,7,7,7,7,7,7,7,7,7,7,7,7,7,7,7,7,7,7,7,7,7,7,7,7,7,7,7,7,7,7,7,8,8,8,8,8,8,8,8,8,8,8,8,8,8,8,8,8,8,8,8,8,8,8,8,8,8,8,8,8,8,8,8,8,8,8,8,8,8,8,8,8,8,8,8,8,8,8,8,8,8,8,8,8,8,8,8,8,8,8,8,8,8,8,8,8,8,8,8,8,8,8,8,8,8,8,8,8,8,8,8,8,8,8,8,8,8,8,8,8,8,8,8,8,8,8,8,8,8,8,8,8,8,8,8,8,8,8,8,8,8,8,8,8,8,8,8,8,8,8,8,8,8,8,8,8,8,8,8]⟩:ByteArray) (ji11)))))) else (none)) else (none))=some r:=by first | (rw [hji11] at H;exact H) | (simp only [hji11] at H ⊢;exact H)
      by_cases c12:0≤(ji11)
      ·rw [if_pos c12] at H
       have c12b0:decide (0≤(ji11))=true:=decide_eq_true c12
       clear c12
       by_cases c13:(ji11)<256
       ·rw [if_pos c13] at H
        have c13b0:decide ((ji11)<256)=true:=decide_eq_true c13
        clear c13
        obtain rfl:=Option.some.inj H
        have p14:0≤((ji11):Int):=of_decide_eq_true (z1_)
        have q14:(ji11)<(256:Int):=of_decide_eq_true (z1_)
        have hx14:=bt_at (⟨#[0,1,2,2,3,3,3,3,4,4,4,4,4,4,4,4,5,5,5,5,5,5,5,5,5,5,5,5,5,5,5,5,6,6,6,6,6,6,6,6,6,6,6,6,6,6,6,6,6,6,6,6,6,6,6,6,6,6,6,6,6,6,6,6,7,7,7,7,7,7,7,7,7,7,7,7,7,7,7,7,7,7,7,7,7,7,7,7,7,7,7,7,7,7,7,7,7,7,7,7,7,7,7,7,7,7,7,7,7,7,7,7,7,7,7,7,7,7,7,7,7,7,7,7,7,7,7,7,8,8,8,8,8,8,8,8,8,8,8,8,8,8,8,8,8,8,8,8,8,8,8,8,8,8,8,8,8,8,8,8,8,8,8,8,8,8,8,8,8,8,8,8,8,8,8,8,8,8,8,8,8,8,8,8,8,8,8,8,8,8,8,8,8,8,8,8,8,8,8,8,8,8,8,8,8,8,8,8,8,8,8,8,8,8,8,8,8,8,8,8,8,8,8,8,8,8,8,8,8,8,8,8,8,8,8,8,8,8,8,8,8,8,8,8,8,8,8,8,8,8,8,8,8,8,8,8]⟩:ByteArray) (ji11)
        replace p14:=eq_true p14
        replace q14:=eq_true q14
        go_wp2
        go_ret
        exact ⟨by first | rfl | (simp;done) | (simp only [← hji11] <;> (first | rfl | simp)) | (simp [*];done),z11_⟩
       ·rw [if_neg c13] at H
        exact absurd H (by simp)
      ·rw [if_neg c12] at H
       exact absurd H (by simp)


/-! ### bits_Len: function 111 -/
def bits_Len.f (k:Nat) (a0:Int):Option (Int):=(bits_Len64.f k a0).bind fun t612=>(some t612)
theorem bits_Len.mono:∀ a0 k,LeO (bits_Len.f k a0) (bits_Len.f (k+1) a0):=by
 intro a0 k
 unfold bits_Len.f
 repeat' first
   | (with_reducible exact bits_Len64.mono _ _)
   | (with_reducible exact LeO.refl _)
   | (with_reducible exact LeO.none _)
   | (with_reducible refine LeO.ite ?_ ?_)
   | (with_reducible refine LeO.bind ?_ (fun _=>?_))
   | exact bits_Len64.mono _ _
   | exact LeO.none _
   | refine LeO.ite ?_ ?_
   | refine LeO.bind ?_ (fun _=>?_)
set_option maxHeartbeats 8000000 in
set_option maxRecDepth 100000 in
theorem bits_Len.calls (k:Nat) (a0:Int) (r:Int) (w:World) (h:bits_Len.f k a0=some r) :
  Calls Try.prog 111 #[.int .u64 a0] w fun e w'=>e = .returned (.int .i64 r)∧Drawn0 w w':=by
 have H:((bits_Len64.f k a0).bind fun t612=>(some t612))=some r:=h
 clear h
 replace H:=Option.bind_eq_some_iff.mp H
 obtain ⟨t612,A20,H⟩:=H
 replace H:(some t612)=some r:=H
 have A2:=Aside0.mk A20
 clear A20
 obtain rfl:=Option.some.inj H
 go_enter Try.func111,Try.ntmps111
 go_wp2_with (first | ((with_reducible refine gc_ 127 ?_);refine gl_ (some 7) Try.func127 #[.int .u64 a0] ?_;(with_reducible refine (bits_Len64.calls k a0 t612 _ A2.out).mono ?_);rintro e w' ⟨rfl,⟨nd,rfl⟩⟩;refine ⟨_,rfl,?_⟩))
 go_ret
 exact ⟨z2_,z11_⟩


/-! ### impl_sorted_1: function 98 -/
def impl_sorted_1.f (k:Nat) (a0_0:Int) (a0_1:Int) (a0_2:Bool) (a0_3:ByteArray) (a1_0:Int) (a1_1:Int) (a1_2:Bool) (a1_3:ByteArray):Option (Int):=(impl_compareDots.f k a0_0 a0_1 a1_0 a1_1).bind fun t615=>(some t615)
theorem impl_sorted_1.mono:∀ a0 a1 a2 a3 a4 a5 a6 a7 k,LeO (impl_sorted_1.f k a0 a1 a2 a3 a4 a5 a6 a7) (impl_sorted_1.f (k+1) a0 a1 a2 a3 a4 a5 a6 a7):=by
 intro a0 a1 a2 a3 a4 a5 a6 a7 k
 unfold impl_sorted_1.f
 repeat' first
   | (with_reducible exact impl_compareDots.mono _ _ _ _ _)
   | (with_reducible exact LeO.refl _)
   | (with_reducible exact LeO.none _)
   | (with_reducible refine LeO.ite ?_ ?_)
   | (with_reducible refine LeO.bind ?_ (fun _=>?_))
   | exact impl_compareDots.mono _ _ _ _ _
   | exact LeO.none _
   | refine LeO.ite ?_ ?_
   | refine LeO.bind ?_ (fun _=>?_)
set_option maxHeartbeats 8000000 in
set_option maxRecDepth 100000 in
theorem impl_sorted_1.calls (k:Nat) (a0_0:Int) (a0_1:Int) (a0_2:Bool) (a0_3:ByteArray) (a1_0:Int) (a1_1:Int) (a1_2:Bool) (a1_3:ByteArray) (r:Int) (w:World) (h:impl_sorted_1.f k a0_0 a0_1 a0_2 a0_3 a1_0 a1_1 a1_2 a1_3=some r) :
  Calls Try.prog 98 #[.agg #[.int .i64 a0_0,.int .i64 a0_1,.bool a0_2,.string a0_3],.agg #[.int .i64 a1_0,.int .i64 a1_1,.bool a1_2,.string a1_3]] w fun e w'=>e = .returned (.int .i64 r)∧Below w.heap.size w w':=by
 have hu91:=Try.underlying91
 have hu56:=Try.underlying56
 have HB:=Aside0.mk (Below.refl w.heap.size w)
 have H:((impl_compareDots.f k a0_0 a0_1 a1_0 a1_1).bind fun t615=>(some t615))=some r:=h
 clear h
 replace H:=Option.bind_eq_some_iff.mp H
 obtain ⟨t615,A30,H⟩:=H
 replace H:(some t615)=some r:=H
 have A3:=Aside0.mk A30
 clear A30
 obtain rfl:=Option.some.inj H
 go_enter Try.func98,Try.ntmps98
 go_wp2_with (first | ((with_reducible refine gd_ 2 ?_);refine be_ 2 #[.int .i64 a0_0,.int .i64 a0_1,.bool a0_2,.string a0_3] 91 ?_;intro gb613 hg w4 hbox hb;refine as4_ (below_step (z3_ HB.out) hb) (hbox) ((z7_ HB.out:w.heap.size≤gb613)) ((z7_ HB.out:w.heap.size≤gb613)) ?_;clear HB;intro HB BK613 GW613 GE613;clear hb hbox hg) | ((with_reducible refine gd_ 3 ?_);refine be_ 3 #[.int .i64 a1_0,.int .i64 a1_1,.bool a1_2,.string a1_3] 91 ?_;intro gb614 hg w5 hbox hb;refine as7_ (blkB_ BK613.out hb) (below_step (z6_ HB.out GE613.out) hb) (hbox) ((z9_ HB.out GE613.out:w.heap.size≤gb614)) ((z9_ HB.out GE613.out:w.heap.size≤gb614)) (neL_ BK613.out hg) (neG_ BK613.out hg) ?_;clear BK613 HB;intro BK613 HB BK614 GW614 GE614 NB613_614 NB614_613;clear hb hbox hg;have hnb6:=NB613_614.out;have hnc6:=NB614_613.out;have ⟨hcz7_0,hcz7_1,hcz7_2,hcz7_3,hfz7_0,hfz7_1,hfz7_2,hfz7_3⟩:=cz4_ BK613.out;have ⟨hcz8_0,hcz8_1,hcz8_2,hcz8_3,hfz8_0,hfz8_1,hfz8_2,hfz8_3⟩:=cz4_ BK614.out) | ((with_reducible refine gc_ 90 ?_);refine gl_ (some 9) Try.func90 #[.agg #[.int .i64 a0_0,.int .i64 a0_1],.agg #[.int .i64 a1_0,.int .i64 a1_1]] ?_;(with_reducible refine (impl_compareDots.calls k a0_0 a0_1 a1_0 a1_1 t615 _ A3.out).mono ?_);rintro e w9 ⟨rfl,hb⟩;refine ⟨_,rfl,?_⟩;refine as3_ (blkB_ BK613.out hb) (blkB_ BK614.out hb) (below_step (z4_ HB.out GE613.out GE614.out) hb) ?_;clear BK613 BK614 HB;intro BK613 BK614 HB;(try clear hb)))
 go_ret
 exact ⟨z8_,z4_ HB.out GE613.out GE614.out⟩


/-! ### slices_insertionSortCmpFunc_impl_Sib_impl_sorted_1: function 118 -/
mutual
def slices_insertionSortCmpFunc_impl_Sib_impl_sorted_1.l0:Nat→List (S91)→Int→Int→Int→Option ((List (S91)))
 | 0,_,_,_,_=>none
 | k+1,x0,x1,x2,x8=>if x8<x2 then (slices_insertionSortCmpFunc_impl_Sib_impl_sorted_1.l1 k x0 x1 x2 x8 x8) else (some x0)
def slices_insertionSortCmpFunc_impl_Sib_impl_sorted_1.l1:Nat→List (S91)→Int→Int→Int→Int→Option ((List (S91)))
 | 0,_,_,_,_,_=>none
 | k+1,x0,x1,x2,x8,x9=>if x9>x1 then (if 0≤x9 then (if x9<(x0.length:Int) then (if 0≤(wrap64 (x9-1)) then (if (wrap64 (x9-1))<(x0.length:Int) then ((impl_sorted_1.f k ((rd_T91 x0 x9).f0.f0) ((rd_T91 x0 x9).f0.f1) ((rd_T91 x0 x9).f1) ((rd_T91 x0 x9).f2) ((rd_T91 x0 (wrap64 (x9-1))).f0.f0) ((rd_T91 x0 (wrap64 (x9-1))).f0.f1) ((rd_T91 x0 (wrap64 (x9-1))).f1) ((rd_T91 x0 (wrap64 (x9-1))).f2)).bind fun t618=>(slices_insertionSortCmpFunc_impl_Sib_impl_sorted_1.j2 k x0 x1 x2 x8 x9 (decide (t618<0)))) else (none)) else (none)) else (none)) else (none)) else (slices_insertionSortCmpFunc_impl_Sib_impl_sorted_1.j2 k x0 x1 x2 x8 x9 false)
def slices_insertionSortCmpFunc_impl_Sib_impl_sorted_1.j2:Nat→List (S91)→Int→Int→Int→Int→Bool→Option ((List (S91)))
 | 0,_,_,_,_,_,_=>none
 | k+1,x0,x1,x2,x8,x9,x34=>if x34=true then (if 0≤(wrap64 (x9-1)) then (if (wrap64 (x9-1))<(x0.length:Int) then (if 0≤x9 then (if x9<(x0.length:Int) then (slices_insertionSortCmpFunc_impl_Sib_impl_sorted_1.l1 k ((x0.set (x9:Int).toNat (⟨(⟨(rd_T91 x0 (wrap64 (x9-1))).f0.f0,(rd_T91 x0 (wrap64 (x9-1))).f0.f1⟩:S56),(rd_T91 x0 (wrap64 (x9-1))).f1,(rd_T91 x0 (wrap64 (x9-1))).f2⟩:S91)).set ((wrap64 (x9-1)):Int).toNat (⟨(⟨(rd_T91 x0 x9).f0.f0,(rd_T91 x0 x9).f0.f1⟩:S56),(rd_T91 x0 x9).f1,(rd_T91 x0 x9).f2⟩:S91)) x1 x2 x8 (wrap64 (x9-1))) else (none)) else (none)) else (none)) else (none)) else (slices_insertionSortCmpFunc_impl_Sib_impl_sorted_1.l0 k x0 x1 x2 (wrap64 (x8+1)))
end
def slices_insertionSortCmpFunc_impl_Sib_impl_sorted_1.f (k:Nat) (l0:List (S91)) (a1:Int) (a2:Int)  : Option ((List (S91))):=slices_insertionSortCmpFunc_impl_Sib_impl_sorted_1.l0 k l0 a1 a2 (wrap64 (a1+1))
theorem slices_insertionSortCmpFunc_impl_Sib_impl_sorted_1.mono_l:∀ k,(∀ y0 y1 y2 y3,LeO (slices_insertionSortCmpFunc_impl_Sib_impl_sorted_1.l0 k y0 y1 y2 y3) (slices_insertionSortCmpFunc_impl_Sib_impl_sorted_1.l0 (k+1) y0 y1 y2 y3))∧(∀ y0 y1 y2 y3 y4,LeO (slices_insertionSortCmpFunc_impl_Sib_impl_sorted_1.l1 k y0 y1 y2 y3 y4) (slices_insertionSortCmpFunc_impl_Sib_impl_sorted_1.l1 (k+1) y0 y1 y2 y3 y4))∧(∀ y0 y1 y2 y3 y4 y5,LeO (slices_insertionSortCmpFunc_impl_Sib_impl_sorted_1.j2 k y0 y1 y2 y3 y4 y5) (slices_insertionSortCmpFunc_impl_Sib_impl_sorted_1.j2 (k+1) y0 y1 y2 y3 y4 y5))
 | 0=>⟨fun _ _ _ _ r h=>by simp [slices_insertionSortCmpFunc_impl_Sib_impl_sorted_1.l0] at h,fun _ _ _ _ _ r h=>by simp [slices_insertionSortCmpFunc_impl_Sib_impl_sorted_1.l1] at h,fun _ _ _ _ _ _ r h=>by simp [slices_insertionSortCmpFunc_impl_Sib_impl_sorted_1.j2] at h⟩
 | k+1=>by
  obtain ⟨ih0,ih1,ih2⟩:=slices_insertionSortCmpFunc_impl_Sib_impl_sorted_1.mono_l k
  refine ⟨?_,?_,?_⟩
  ·intro y0 y1 y2 y3
   unfold slices_insertionSortCmpFunc_impl_Sib_impl_sorted_1.l0
   repeat' first
   | (with_reducible exact ih0 _ _ _ _)
   | (with_reducible exact ih1 _ _ _ _ _)
   | (with_reducible exact ih2 _ _ _ _ _ _)
   | (with_reducible exact impl_sorted_1.mono _ _ _ _ _ _ _ _ _)
   | (with_reducible exact LeO.refl _)
   | (with_reducible exact LeO.none _)
   | (with_reducible refine LeO.ite ?_ ?_)
   | (with_reducible refine LeO.bind ?_ (fun _=>?_))
   | exact ih0 _ _ _ _
   | exact ih1 _ _ _ _ _
   | exact ih2 _ _ _ _ _ _
   | exact impl_sorted_1.mono _ _ _ _ _ _ _ _ _
   | exact LeO.none _
   | refine LeO.ite ?_ ?_
   | refine LeO.bind ?_ (fun _=>?_)
  ·intro y0 y1 y2 y3 y4
   unfold slices_insertionSortCmpFunc_impl_Sib_impl_sorted_1.l1
   repeat' first
   | (with_reducible exact ih0 _ _ _ _)
   | (with_reducible exact ih1 _ _ _ _ _)
   | (with_reducible exact ih2 _ _ _ _ _ _)
   | (with_reducible exact impl_sorted_1.mono _ _ _ _ _ _ _ _ _)
   | (with_reducible exact LeO.refl _)
   | (with_reducible exact LeO.none _)
   | (with_reducible refine LeO.ite ?_ ?_)
   | (with_reducible refine LeO.bind ?_ (fun _=>?_))
   | exact ih0 _ _ _ _
   | exact ih1 _ _ _ _ _
   | exact ih2 _ _ _ _ _ _
   | exact impl_sorted_1.mono _ _ _ _ _ _ _ _ _
   | exact LeO.none _
   | refine LeO.ite ?_ ?_
   | refine LeO.bind ?_ (fun _=>?_)
  ·intro y0 y1 y2 y3 y4 y5
   unfold slices_insertionSortCmpFunc_impl_Sib_impl_sorted_1.j2
   repeat' first
   | (with_reducible exact ih0 _ _ _ _)
   | (with_reducible exact ih1 _ _ _ _ _)
   | (with_reducible exact ih2 _ _ _ _ _ _)
   | (with_reducible exact impl_sorted_1.mono _ _ _ _ _ _ _ _ _)
   | (with_reducible exact LeO.refl _)
   | (with_reducible exact LeO.none _)
   | (with_reducible refine LeO.ite ?_ ?_)
   | (with_reducible refine LeO.bind ?_ (fun _=>?_))
   | exact ih0 _ _ _ _
   | exact ih1 _ _ _ _ _
   | exact ih2 _ _ _ _ _ _
   | exact impl_sorted_1.mono _ _ _ _ _ _ _ _ _
   | exact LeO.none _
   | refine LeO.ite ?_ ?_
   | refine LeO.bind ?_ (fun _=>?_)
theorem slices_insertionSortCmpFunc_impl_Sib_impl_sorted_1.mono:∀ a0 a1 a2 k,LeO (slices_insertionSortCmpFunc_impl_Sib_impl_sorted_1.f k a0 a1 a2) (slices_insertionSortCmpFunc_impl_Sib_impl_sorted_1.f (k+1) a0 a1 a2):=by
 intro a0 a1 a2 k
 obtain ⟨ih0,ih1,ih2⟩:=slices_insertionSortCmpFunc_impl_Sib_impl_sorted_1.mono_l k
 unfold slices_insertionSortCmpFunc_impl_Sib_impl_sorted_1.f
 repeat' first
   | (with_reducible exact ih0 _ _ _ _)
   | (with_reducible exact ih1 _ _ _ _ _)
   | (with_reducible exact ih2 _ _ _ _ _ _)
   | (with_reducible exact impl_sorted_1.mono _ _ _ _ _ _ _ _ _)
   | (with_reducible exact LeO.refl _)
   | (with_reducible exact LeO.none _)
   | (with_reducible refine LeO.ite ?_ ?_)
   | (with_reducible refine LeO.bind ?_ (fun _=>?_))
   | exact ih0 _ _ _ _
   | exact ih1 _ _ _ _ _
   | exact ih2 _ _ _ _ _ _
   | exact impl_sorted_1.mono _ _ _ _ _ _ _ _ _
   | exact LeO.none _
   | refine LeO.ite ?_ ?_
   | refine LeO.bind ?_ (fun _=>?_)
def slices_insertionSortCmpFunc_impl_Sib_impl_sorted_1.T4:Bool × List (List Nat × List Nat):=(true,[([],[]),([],[]),([0,1],[0,1]),([2],[2]),([3],[3]),([3],[3]),([3],[3]),([5,6,3],[3,5,6]),([7,3],[3,7]),([3],[3]),([3],[3]),([10,3],[3,10]),([9,11,3],[3,9,11]),([12,3],[3,12]),([4,8,13,3,3],[3,4,8,13]),([14,3],[3,14]),([3,15],[3,15])])
def slices_insertionSortCmpFunc_impl_Sib_impl_sorted_1.B4:List Nat:=[0,0,3,7,15,15,15,111,239,15,15,1039,3599,7695,16383,32767,65535]
theorem slices_insertionSortCmpFunc_impl_Sib_impl_sorted_1.tab4:rtab .any (opsOf Try.f118 4)=slices_insertionSortCmpFunc_impl_Sib_impl_sorted_1.T4:=by kernel_rfl
theorem slices_insertionSortCmpFunc_impl_Sib_impl_sorted_1.bits4:waitsOk slices_insertionSortCmpFunc_impl_Sib_impl_sorted_1.T4.2 slices_insertionSortCmpFunc_impl_Sib_impl_sorted_1.B4=true:=by kernel_rfl
def slices_insertionSortCmpFunc_impl_Sib_impl_sorted_1.T6:Bool × List (List Nat × List Nat):=(true,[([],[]),([],[]),([],[]),([],[]),([3],[3]),([],[]),([],[]),([6],[6]),([5,7],[5,7]),([8],[8]),([],[]),([],[]),([10,11],[10,11]),([12],[12]),([0,1,0,1,5,6,7,8,9,13],[0,1]),([14,9,0,1,5,6,7,8,9,13],[9,14]),([2,4,0,1,2,3,4,5,6,7,8,9,10,11,12,13,14,15],[2,4]),([16,13,15,0,1,2,3,4,5,6,7,8,9,10,11,12,13,14,15],[13,16])])
def slices_insertionSortCmpFunc_impl_Sib_impl_sorted_1.B6:List Nat:=[0,0,0,0,8,0,0,64,224,480,0,0,3072,7168,16355,32739,65535,131071]
theorem slices_insertionSortCmpFunc_impl_Sib_impl_sorted_1.tab6:rtab .any (opsOf Try.f118 6)=slices_insertionSortCmpFunc_impl_Sib_impl_sorted_1.T6:=by kernel_rfl
theorem slices_insertionSortCmpFunc_impl_Sib_impl_sorted_1.bits6:waitsOk slices_insertionSortCmpFunc_impl_Sib_impl_sorted_1.T6.2 slices_insertionSortCmpFunc_impl_Sib_impl_sorted_1.B6=true:=by kernel_rfl
abbrev slices_insertionSortCmpFunc_impl_Sib_impl_sorted_1.q0:Array Bool:=#[O,O,O,O,O,O,O,O,O,O,O,O,O,O,O,O,O]
abbrev slices_insertionSortCmpFunc_impl_Sib_impl_sorted_1.q1:Array Bool:=#[I,O,O,O,O,O,O,O,O,O,O,O,O,O,O,O,O]
abbrev slices_insertionSortCmpFunc_impl_Sib_impl_sorted_1.q2:Array Bool:=#[I,I,O,O,O,O,O,O,O,O,O,O,O,O,O,O,O]
abbrev slices_insertionSortCmpFunc_impl_Sib_impl_sorted_1.q3:Array Bool:=#[I,I,I,O,O,O,O,O,O,O,O,O,O,O,O,O,O]
abbrev slices_insertionSortCmpFunc_impl_Sib_impl_sorted_1.q4:Array Bool:=#[I,I,I,I,O,O,O,O,O,O,O,O,O,O,O,O,O]
abbrev slices_insertionSortCmpFunc_impl_Sib_impl_sorted_1.q5:Array Bool:=#[I,I,I,I,I,O,O,O,O,O,O,O,O,O,O,O,O]
abbrev slices_insertionSortCmpFunc_impl_Sib_impl_sorted_1.q6:Array Bool:=#[I,I,I,I,I,I,O,O,O,O,O,O,O,O,O,O,O]
abbrev slices_insertionSortCmpFunc_impl_Sib_impl_sorted_1.q7:Array Bool:=#[I,I,I,I,I,I,I,O,O,O,O,O,O,O,O,O,O]
abbrev slices_insertionSortCmpFunc_impl_Sib_impl_sorted_1.q8:Array Bool:=#[I,I,I,I,I,I,I,I,O,O,O,O,O,O,O,O,O]
abbrev slices_insertionSortCmpFunc_impl_Sib_impl_sorted_1.q9:Array Bool:=#[I,I,I,I,I,I,I,I,I,I,I,I,I,O,O,O,O]
abbrev slices_insertionSortCmpFunc_impl_Sib_impl_sorted_1.q10:Array Bool:=#[I,I,I,I,I,I,I,I,I,I,I,I,I,I,O,O,O]
abbrev slices_insertionSortCmpFunc_impl_Sib_impl_sorted_1.q11:Array Bool:=#[I,I,I,I,I,I,I,I,I,I,I,I,I,I,I,O,O]
abbrev slices_insertionSortCmpFunc_impl_Sib_impl_sorted_1.q12:Array Bool:=#[I,I,I,I,I,I,I,I,I,I,I,I,I,I,I,I,O]
abbrev slices_insertionSortCmpFunc_impl_Sib_impl_sorted_1.q13:Array Bool:=#[I,I,I,I,I,I,I,I,I,I,I,I,I,I,I,I,I]
set_option maxHeartbeats 8000000 in
set_option maxRecDepth 100000 in
theorem slices_insertionSortCmpFunc_impl_Sib_impl_sorted_1.calls (k:Nat) (P0_:Nat→Prop) (u9000_:Value) (l0:List (S91)) (a1:Int) (a2:Int)  (r:List (S91)) (w0 w:World) (hB:Below w0.heap.size w0 w) (ho0:Kd.R k91 91 w w0.heap.size P0_ u9000_ l0) (h:slices_insertionSortCmpFunc_impl_Sib_impl_sorted_1.f k l0 a1 a2=some r) :
  Calls Try.prog 118 #[u9000_,.int .i64 a1,.int .i64 a2,.func (.func 98) #[] #[]] w fun e w'=>e = .returned (.tuple #[])∧Kd.R k91 91 w' w0.heap.size (fun k_=>(P0_ k_∨w.heap.size≤k_)) u9000_ r∧Below w0.heap.size w0 w'∧Kept w w' (fun k_=>P0_ k_):=by
 have hu91:=Try.underlying91
 have HO0:=Aside0.mk (show Kd.R k91 91 w w0.heap.size (fun k_=>(P0_ k_∨w.heap.size≤k_)) u9000_ l0 from Kd.R_mono ho0 (fun k_ hk=>(.inl hk)))
 have HK:=Aside0.mk (Kept.refl w (fun k_=>P0_ k_))
 have HW0:=Aside0.mk hB.size
 have HB:=Aside0.mk hB
 clear hB
 have H:(slices_insertionSortCmpFunc_impl_Sib_impl_sorted_1.l0 k l0 a1 a2 (wrap64 (a1+1)))=some r:=h
 clear h
 have H':=Aside0.mk H
 clear H
 go_enter Try.func118,Try.ntmps118
 go_wp2
 go_loopg [8] k (fun kq v8 w'=>∃ (x0_1:List (S91)) (x8_1:Int),v8 = .int .i64 x8_1∧Aside0 (slices_insertionSortCmpFunc_impl_Sib_impl_sorted_1.l0 kq x0_1 a1 a2 x8_1=some r)∧Aside0 (kq≤k)∧Aside0 (Kd.R k91 91 w' w0.heap.size (fun k_=>(P0_ k_∨w.heap.size≤k_)) u9000_ x0_1)∧Aside0 (Kept w w' (fun k_=>P0_ k_))∧Aside0 (Below w0.heap.size w0 w'))
 case atStart=>exact ⟨(l0),(wrap64 (a1+1)),(z2_),H',⟨Nat.le_refl _⟩,⟨z0_ HO0.out⟩,⟨z14_ HK.out⟩,⟨z3_ HB.out⟩⟩
 case round =>
  clear H'
  try clear p2
  obtain ⟨x0_1,x8_1,rfl,HA,HK1,HO_0,HK,HB⟩:=hrel
  cases gk with
  | zero=>exact absurd HA.out (by simp [slices_insertionSortCmpFunc_impl_Sib_impl_sorted_1.l0])
  | succ k1 =>
   have H:=HA.out
   clear HA
   simp only [slices_insertionSortCmpFunc_impl_Sib_impl_sorted_1.l0] at H
   by_cases c5:x8_1<a2
   ·rw [if_pos c5] at H
    have c5b0:decide (x8_1<a2)=true:=decide_eq_true c5
    clear c5
    have H':=Aside0.mk H
    clear H
    go_wp2
    go_loopg [9] k1 (fun kq v9 w'=>∃ (x0_2:List (S91)) (x9_2:Int),v9 = .int .i64 x9_2∧Aside0 (slices_insertionSortCmpFunc_impl_Sib_impl_sorted_1.l1 kq x0_2 a1 a2 x8_1 x9_2=some r)∧Aside0 (kq≤k1)∧Aside0 (Kd.R k91 91 w' w0.heap.size (fun k_=>(P0_ k_∨w.heap.size≤k_)) u9000_ x0_2)∧Aside0 (Kept w w' (fun k_=>P0_ k_))∧Aside0 (Below w0.heap.size w0 w'))
    case atStart=>exact ⟨(x0_1),(x8_1),(z2_),H',⟨Nat.le_refl _⟩,⟨z0_ HO_0.out⟩,⟨z14_ HK.out⟩,⟨z3_ HB.out⟩⟩
    case round =>
     clear H'
     try clear p2
     try clear c5
     try clear c5b0
     try clear p2
     obtain ⟨x0_2,x9_2,rfl,HA,HK2,HO_0,HK,HB⟩:=hrel
     cases gk with
     | zero=>exact absurd HA.out (by simp [slices_insertionSortCmpFunc_impl_Sib_impl_sorted_1.l1])
     | succ k2 =>
      have H:=HA.out
      clear HA
      simp only [slices_insertionSortCmpFunc_impl_Sib_impl_sorted_1.l1] at H
      have HC6:=Aside0.mk H
      clear H
      go_upto_region 4 with (fail)
      go_cut [34] (fun v34 wc=>∃ (kq:Nat) (x34_5:Bool),v34 = .bool x34_5∧Aside0 (slices_insertionSortCmpFunc_impl_Sib_impl_sorted_1.j2 kq x0_2 a1 a2 x8_1 x9_2 x34_5=some r)∧Aside0 (kq≤k2)∧Aside0 (Kd.R k91 91 wc w0.heap.size (fun k_=>(P0_ k_∨w.heap.size≤k_)) u9000_ x0_2)∧Aside0 (Kept w wc (fun k_=>P0_ k_))∧Aside0 (Below w0.heap.size w0 wc))
      case first =>
       have H:=HC6.out
       clear HC6
       by_cases c7:x9_2>a1
       ·rw [if_pos c7] at H
        have c7b0:decide (a1<x9_2)=true:=decide_eq_true c7
        clear c7
        (first | rw [c7b0] | (simp only [i64_w,i32_w];rw [c7b0]) | skip)
        by_cases c8:0≤x9_2
        ·rw [if_pos c8] at H
         have c8b0:decide (0≤x9_2)=true:=decide_eq_true c8
         clear c8
         by_cases c9:x9_2<(x0_2.length:Int)
         ·rw [if_pos c9] at H
          have c9b0:decide (x9_2<(x0_2.length:Int))=true:=decide_eq_true c9
          clear c9
          obtain ⟨ji10,hji10⟩:∃ j_:Int,(wrap64 (x9_2-1))=j_:=⟨_,rfl⟩
          replace H:(if 0≤(ji10) then (if (ji10)<(x0_2.length:Int) then ((impl_sorted_1.f k2 ((rd_T91 x0_2 x9_2).f0.f0) ((rd_T91 x0_2 x9_2).f0.f1) ((rd_T91 x0_2 x9_2).f1) ((rd_T91 x0_2 x9_2).f2) ((rd_T91 x0_2 (ji10)).f0.f0) ((rd_T91 x0_2 (ji10)).f0.f1) ((rd_T91 x0_2 (ji10)).f1) ((rd_T91 x0_2 (ji10)).f2)).bind fun t618=>(slices_insertionSortCmpFunc_impl_Sib_impl_sorted_1.j2 k2 x0_2 a1 a2 x8_1 x9_2 (decide (t618<0)))) else (none)) else (none))=some r:=by first | (rw [hji10] at H;exact H) | (simp only [hji10] at H ⊢;exact H)
          have hji10w:(IntKind.i64.wrap (x9_2-1))=ji10:=(i64_w _).trans hji10
          by_cases c11:0≤(ji10)
          ·rw [if_pos c11] at H
           have c11b0:decide (0≤(ji10))=true:=decide_eq_true c11
           clear c11
           by_cases c12:(ji10)<(x0_2.length:Int)
           ·rw [if_pos c12] at H
            have c12b0:decide ((ji10)<(x0_2.length:Int))=true:=decide_eq_true c12
            clear c12
            replace H:=Option.bind_eq_some_iff.mp H
            obtain ⟨t618,A130,H⟩:=H
            replace H:(slices_insertionSortCmpFunc_impl_Sib_impl_sorted_1.j2 k2 x0_2 a1 a2 x8_1 x9_2 (decide (t618<0)))=some r:=H
            have A13:=Aside0.mk A130
            clear A130
            have H':=Aside0.mk H
            clear H
            try go_wp2
            refine as3_ (Kd.R_drew HO_0.out) (Kept.drew HK.out) (below_drew1 HB.out) ?_
            clear HO_0 HK HB
            intro HO_0 HK HB
            obtain ⟨Ao15,co15,eo15⟩:=Kd.R_slice HO_0.out
            (first | subst eo15 | (injection eo15 with f1_ f2_ f3_;have f4_:=f1_.symm;have f5_:=f3_.symm;clear f1_ f2_ f3_;subst f4_;subst f5_))
            have p616:0≤(x9_2:Int):=of_decide_eq_true (z1_)
            have q616:x9_2<(x0_2.length:Int):=of_decide_eq_true (z1_)
            obtain ⟨ad616,e616,hx616_0,hx616_1,hx616_2,hx616_3⟩:=at_T91 (Kd.R_reads' HO_0.out).2.2 x9_2 p616 q616
            cases e616
            replace p616:=eq_true p616
            replace q616:=eq_true q616
            have p617:0≤((ji10):Int):=of_decide_eq_true (z1_)
            have q617:(ji10)<(x0_2.length:Int):=of_decide_eq_true (z1_)
            obtain ⟨ad617,e617,hx617_0,hx617_1,hx617_2,hx617_3⟩:=at_T91 (Kd.R_reads' HO_0.out).2.2 (ji10) p617 q617
            obtain rfl:ad616=ad617:=(by injection e617)
            replace p617:=eq_true p617
            replace q617:=eq_true q617
            refine start_ (n:=17) (S:=fun w'=>w'.cell? (ad616.add ((x9_2).toNat*4))=some (.int .i64 ((rd_T91 x0_2 x9_2).f0.f0))∧w'.cell? ⟨(ad616.add ((x9_2).toNat*4)).block,(ad616.add ((x9_2).toNat*4)).off+1,none⟩=some (.int .i64 ((rd_T91 x0_2 x9_2).f0.f1))∧w'.cell? ⟨(ad616.add ((x9_2).toNat*4)).block,(ad616.add ((x9_2).toNat*4)).off+2,none⟩=some (.bool ((rd_T91 x0_2 x9_2).f1))∧w'.cell? ⟨(ad616.add ((x9_2).toNat*4)).block,(ad616.add ((x9_2).toNat*4)).off+3,none⟩=some (.string ((rd_T91 x0_2 x9_2).f2))∧w'.cell? (ad616.add (((ji10)).toNat*4))=some (.int .i64 ((rd_T91 x0_2 (ji10)).f0.f0))∧w'.cell? ⟨(ad616.add (((ji10)).toNat*4)).block,(ad616.add (((ji10)).toNat*4)).off+1,none⟩=some (.int .i64 ((rd_T91 x0_2 (ji10)).f0.f1))∧w'.cell? ⟨(ad616.add (((ji10)).toNat*4)).block,(ad616.add (((ji10)).toNat*4)).off+2,none⟩=some (.bool ((rd_T91 x0_2 (ji10)).f1))∧w'.cell? ⟨(ad616.add (((ji10)).toNat*4)).block,(ad616.add (((ji10)).toNat*4)).off+3,none⟩=some (.string ((rd_T91 x0_2 (ji10)).f2))) (ds:=[]) slices_insertionSortCmpFunc_impl_Sib_impl_sorted_1.q0 (by kernel_rfl) rfl rfl ⟨hx616_0,hx616_1,hx616_2,hx616_3,hx617_0,hx617_1,hx617_2,hx617_3⟩ (fun hHeld=>?_);refine with_tabW slices_insertionSortCmpFunc_impl_Sib_impl_sorted_1.tab4 slices_insertionSortCmpFunc_impl_Sib_impl_sorted_1.bits4 (fun HT_ HW_=>?_)
            generalize wr.drew=w14 at HO_0 HK HB hx616_0 hx616_1 hx616_2 hx616_3 hx617_0 hx617_1 hx617_2 hx617_3 hHeld ⊢
            refine pu_ 0 18 slices_insertionSortCmpFunc_impl_Sib_impl_sorted_1.q1 HT_.out ?_
            refine pu_ 1 19 slices_insertionSortCmpFunc_impl_Sib_impl_sorted_1.q2 HT_.out ?_
            refine pu_ 2 20 slices_insertionSortCmpFunc_impl_Sib_impl_sorted_1.q3 HT_.out ?_
            refine pu_ 3 21 slices_insertionSortCmpFunc_impl_Sib_impl_sorted_1.q4 HT_.out ?_
            refine pu_ 4 22 slices_insertionSortCmpFunc_impl_Sib_impl_sorted_1.q5 HT_.out ?_
            refine pu_ 5 23 slices_insertionSortCmpFunc_impl_Sib_impl_sorted_1.q6 HT_.out ?_
            refine pu_ 6 24 slices_insertionSortCmpFunc_impl_Sib_impl_sorted_1.q7 HT_.out ?_
            refine pu_ 7 25 slices_insertionSortCmpFunc_impl_Sib_impl_sorted_1.q8 HT_.out ?_
            refine pu_ 9 27 #[I,I,I,I,I,I,I,I,O,I,O,O,O,O,O,O,O] HT_.out ?_
            refine pu_ 10 28 #[I,I,I,I,I,I,I,I,O,I,I,O,O,O,O,O,O] HT_.out ?_
            refine pu_ 11 29 #[I,I,I,I,I,I,I,I,O,I,I,I,O,O,O,O,O] HT_.out ?_
            refine pu_ 12 30 #[I,I,I,I,I,I,I,I,O,I,I,I,I,O,O,O,O] HT_.out ?_
            refine tk8_ 8 26 slices_insertionSortCmpFunc_impl_Sib_impl_sorted_1.q9 HT_.out HW_.out hHeld ?_
            refine tk8_ 13 31 slices_insertionSortCmpFunc_impl_Sib_impl_sorted_1.q10 HT_.out HW_.out hHeld ?_
            refine o1_ 14 32 slices_insertionSortCmpFunc_impl_Sib_impl_sorted_1.q11 HT_.out (fun K hK=>?_)
            refine goesD_ Try.func98 (by kernel_rfl) rfl #[.agg #[.int .i64 ((rd_T91 x0_2 x9_2).f0.f0),.int .i64 ((rd_T91 x0_2 x9_2).f0.f1),.bool ((rd_T91 x0_2 x9_2).f1),.string ((rd_T91 x0_2 x9_2).f2)],.agg #[.int .i64 ((rd_T91 x0_2 (ji10)).f0.f0),.int .i64 ((rd_T91 x0_2 (ji10)).f0.f1),.bool ((rd_T91 x0_2 (ji10)).f1),.string ((rd_T91 x0_2 (ji10)).f2)]] (by rfl) rfl rfl (by rfl) (by (try simp only [List.map_toArray,List.map_cons,List.map_nil]);first | done | (simp only [hji10];rfl) | rfl | (simp only [List.length_drop,List.length_take];rfl)) ?_
            with_reducible refine (impl_sorted_1.calls k2 ((rd_T91 x0_2 x9_2).f0.f0) ((rd_T91 x0_2 x9_2).f0.f1) ((rd_T91 x0_2 x9_2).f1) ((rd_T91 x0_2 x9_2).f2) ((rd_T91 x0_2 (ji10)).f0.f0) ((rd_T91 x0_2 (ji10)).f0.f1) ((rd_T91 x0_2 (ji10)).f1) ((rd_T91 x0_2 (ji10)).f2) t618 _ A13.out).mono ?_
            rintro e w16 ⟨rfl,hb⟩
            have HS0_:=(hb.cell (World.block_lt_of_cell? _ _ (hHeld.1))).trans (hHeld.1)
            have HS1_:=(hb.cell (World.block_lt_of_cell? _ _ (hHeld.2.1))).trans (hHeld.2.1)
            have HS2_:=(hb.cell (World.block_lt_of_cell? _ _ (hHeld.2.2.1))).trans (hHeld.2.2.1)
            have HS3_:=(hb.cell (World.block_lt_of_cell? _ _ (hHeld.2.2.2.1))).trans (hHeld.2.2.2.1)
            have HS4_:=(hb.cell (World.block_lt_of_cell? _ _ (hHeld.2.2.2.2.1))).trans (hHeld.2.2.2.2.1)
            have HS5_:=(hb.cell (World.block_lt_of_cell? _ _ (hHeld.2.2.2.2.2.1))).trans (hHeld.2.2.2.2.2.1)
            have HS6_:=(hb.cell (World.block_lt_of_cell? _ _ (hHeld.2.2.2.2.2.2.1))).trans (hHeld.2.2.2.2.2.2.1)
            have HS7_:=(hb.cell (World.block_lt_of_cell? _ _ (hHeld.2.2.2.2.2.2.2))).trans (hHeld.2.2.2.2.2.2.2)
            refine ⟨_,rfl,?_⟩
            refine as3_ (Kd.R_below (z0_ HO_0.out) hb) (Kept.below (S:=(fun k_=>P0_ k_)) (z14_ HK.out) hb) (below_step (z3_ HB.out) hb) ?_
            clear HO_0 HK HB
            intro HO_0 HK HB
            (try clear hb)
            refine hK.out _ _ ⟨HS0_,HS1_,HS2_,HS3_,HS4_,HS5_,HS6_,HS7_⟩ (fun hHeld=>?_)
            clear hK K
            refine nm_ 32 ?_
            refine pu_ 15 33 slices_insertionSortCmpFunc_impl_Sib_impl_sorted_1.q12 HT_.out ?_
            refine pu_ 16 34 slices_insertionSortCmpFunc_impl_Sib_impl_sorted_1.q13 HT_.out ?_
            refine done_ (done_of HT_.out (by kernel_rfl)) ?_
            try go_wp2
            go_meet
            case rel=>exact ⟨_,(decide (t618<0)),(z2_),H',⟨z29_ HK1.out HK2.out⟩,⟨z0_ HO_0.out⟩,⟨z14_ HK.out⟩,⟨z3_ HB.out⟩⟩
           ·rw [if_neg c12] at H
            exact absurd H (by simp)
          ·rw [if_neg c11] at H
           exact absurd H (by simp)
         ·rw [if_neg c9] at H
          exact absurd H (by simp)
        ·rw [if_neg c8] at H
         exact absurd H (by simp)
       ·rw [if_neg c7] at H
        have c7b0:decide (a1<x9_2)=false:=decide_eq_false c7
        clear c7
        (first | rw [c7b0] | (simp only [i64_w,i32_w];rw [c7b0]) | skip)
        have H':=Aside0.mk H
        clear H
        try go_wp2
        refine as3_ (Kd.R_drew HO_0.out) (Kept.drew HK.out) (below_drew1 HB.out) ?_
        clear HO_0 HK HB
        intro HO_0 HK HB
        refine start_ (n:=17) (S:=fun w'=>True) (ds:=[]) slices_insertionSortCmpFunc_impl_Sib_impl_sorted_1.q0 (by kernel_rfl) rfl rfl trivial (fun hHeld=>?_);refine with_tabW slices_insertionSortCmpFunc_impl_Sib_impl_sorted_1.tab4 slices_insertionSortCmpFunc_impl_Sib_impl_sorted_1.bits4 (fun HT_ HW_=>?_)
        generalize wr.drew=w17 at HO_0 HK HB hHeld ⊢
        refine pu_ 0 18 slices_insertionSortCmpFunc_impl_Sib_impl_sorted_1.q1 HT_.out ?_
        refine pu_ 1 19 slices_insertionSortCmpFunc_impl_Sib_impl_sorted_1.q2 HT_.out ?_
        refine pu_ 2 20 slices_insertionSortCmpFunc_impl_Sib_impl_sorted_1.q3 HT_.out ?_
        refine pu_ 3 21 slices_insertionSortCmpFunc_impl_Sib_impl_sorted_1.q4 HT_.out ?_
        refine pn_ 4 22 slices_insertionSortCmpFunc_impl_Sib_impl_sorted_1.q5 HT_.out ?_
        refine pn_ 5 23 slices_insertionSortCmpFunc_impl_Sib_impl_sorted_1.q6 HT_.out ?_
        refine pn_ 6 24 slices_insertionSortCmpFunc_impl_Sib_impl_sorted_1.q7 HT_.out ?_
        refine pn_ 7 25 slices_insertionSortCmpFunc_impl_Sib_impl_sorted_1.q8 HT_.out ?_
        refine pn_ 8 26 #[I,I,I,I,I,I,I,I,I,O,O,O,O,O,O,O,O] HT_.out ?_
        refine pn_ 9 27 #[I,I,I,I,I,I,I,I,I,I,O,O,O,O,O,O,O] HT_.out ?_
        refine pn_ 10 28 #[I,I,I,I,I,I,I,I,I,I,I,O,O,O,O,O,O] HT_.out ?_
        refine pn_ 11 29 #[I,I,I,I,I,I,I,I,I,I,I,I,O,O,O,O,O] HT_.out ?_
        refine pn_ 12 30 slices_insertionSortCmpFunc_impl_Sib_impl_sorted_1.q9 HT_.out ?_
        refine pn_ 13 31 slices_insertionSortCmpFunc_impl_Sib_impl_sorted_1.q10 HT_.out ?_
        refine pn_ 14 32 slices_insertionSortCmpFunc_impl_Sib_impl_sorted_1.q11 HT_.out ?_
        refine pn_ 15 33 slices_insertionSortCmpFunc_impl_Sib_impl_sorted_1.q12 HT_.out ?_
        refine pu_ 16 34 slices_insertionSortCmpFunc_impl_Sib_impl_sorted_1.q13 HT_.out ?_
        refine done_ (done_of HT_.out (by kernel_rfl)) ?_
        try go_wp2
        go_meet
        case rel=>exact ⟨_,(false),(z2_),H',⟨z29_ HK1.out HK2.out⟩,⟨z0_ HO_0.out⟩,⟨z14_ HK.out⟩,⟨z3_ HB.out⟩⟩
      case rest =>
       clear HC6
       try clear c1
       try clear p2
       try clear c5
       try clear c5b0
       try clear p6
       try clear q6
       try clear hx6
       try clear c7
       try clear c7b0
       try clear c8
       try clear c8b0
       try clear c9
       try clear c9b0
       try clear c11
       try clear c11b0
       try clear c12
       try clear c12b0
       try clear hx616_0
       try clear hx616_1
       try clear hx616_2
       try clear hx616_3
       try clear hx617_0
       try clear hx617_1
       try clear hx617_2
       try clear hx617_3
       try clear p2
       try clear p616
       try clear p617
       try clear q616
       try clear q617
       obtain ⟨kq,x34_5,rfl,HA,HJ5,HO_0,HK,HB⟩:=hcut
       cases kq with
       | zero=>exact absurd HA.out (by simp [slices_insertionSortCmpFunc_impl_Sib_impl_sorted_1.j2])
       | succ kj5 =>
        have H:=HA.out
        clear HA
        simp only [slices_insertionSortCmpFunc_impl_Sib_impl_sorted_1.j2] at H
        by_cases c18:x34_5=true
        ·subst c18
         have H1:(if 0≤(wrap64 (x9_2-1)) then (if (wrap64 (x9_2-1))<(x0_2.length:Int) then (if 0≤x9_2 then (if x9_2<(x0_2.length:Int) then (slices_insertionSortCmpFunc_impl_Sib_impl_sorted_1.l1 kj5 ((x0_2.set (x9_2:Int).toNat (⟨(⟨(rd_T91 x0_2 (wrap64 (x9_2-1))).f0.f0,(rd_T91 x0_2 (wrap64 (x9_2-1))).f0.f1⟩:S56),(rd_T91 x0_2 (wrap64 (x9_2-1))).f1,(rd_T91 x0_2 (wrap64 (x9_2-1))).f2⟩:S91)).set ((wrap64 (x9_2-1)):Int).toNat (⟨(⟨(rd_T91 x0_2 x9_2).f0.f0,(rd_T91 x0_2 x9_2).f0.f1⟩:S56),(rd_T91 x0_2 x9_2).f1,(rd_T91 x0_2 x9_2).f2⟩:S91)) a1 a2 x8_1 (wrap64 (x9_2-1))) else (none)) else (none)) else (none)) else (none))=some r:=by rw [if_pos rfl] at H;exact H
         clear H
         have H:=H1
         clear H1
         obtain ⟨ji19,hji19⟩:∃ j_:Int,(wrap64 (x9_2-1))=j_:=⟨_,rfl⟩
         replace H:(if 0≤(ji19) then (if (ji19)<(x0_2.length:Int) then (if 0≤x9_2 then (if x9_2<(x0_2.length:Int) then (slices_insertionSortCmpFunc_impl_Sib_impl_sorted_1.l1 kj5 ((x0_2.set (x9_2:Int).toNat (⟨(⟨(rd_T91 x0_2 (ji19)).f0.f0,(rd_T91 x0_2 (ji19)).f0.f1⟩:S56),(rd_T91 x0_2 (ji19)).f1,(rd_T91 x0_2 (ji19)).f2⟩:S91)).set ((ji19):Int).toNat (⟨(⟨(rd_T91 x0_2 x9_2).f0.f0,(rd_T91 x0_2 x9_2).f0.f1⟩:S56),(rd_T91 x0_2 x9_2).f1,(rd_T91 x0_2 x9_2).f2⟩:S91)) a1 a2 x8_1 ji19) else (none)) else (none)) else (none)) else (none))=some r:=by first | (rw [hji19] at H;exact H) | (simp only [hji19] at H ⊢;exact H)
         have hji19w:(IntKind.i64.wrap (x9_2-1))=ji19:=(i64_w _).trans hji19
         by_cases c20:0≤(ji19)
         ·rw [if_pos c20] at H
          have c20b0:decide (0≤(ji19))=true:=decide_eq_true c20
          clear c20
          by_cases c21:(ji19)<(x0_2.length:Int)
          ·rw [if_pos c21] at H
           have c21b0:decide ((ji19)<(x0_2.length:Int))=true:=decide_eq_true c21
           clear c21
           by_cases c22:0≤x9_2
           ·rw [if_pos c22] at H
            have c22b0:decide (0≤x9_2)=true:=decide_eq_true c22
            clear c22
            by_cases c23:x9_2<(x0_2.length:Int)
            ·rw [if_pos c23] at H
             have c23b0:decide (x9_2<(x0_2.length:Int))=true:=decide_eq_true c23
             clear c23
             obtain ⟨y621,hy621⟩:∃ y_:List (S91),y_=(x0_2.set (x9_2:Int).toNat (⟨(⟨(rd_T91 x0_2 (ji19)).f0.f0,(rd_T91 x0_2 (ji19)).f0.f1⟩:S56),(rd_T91 x0_2 (ji19)).f1,(rd_T91 x0_2 (ji19)).f2⟩:S91)):=⟨_,rfl⟩
             replace H:(slices_insertionSortCmpFunc_impl_Sib_impl_sorted_1.l1 kj5 (y621.set ((ji19):Int).toNat (⟨(⟨(rd_T91 x0_2 x9_2).f0.f0,(rd_T91 x0_2 x9_2).f0.f1⟩:S56),(rd_T91 x0_2 x9_2).f1,(rd_T91 x0_2 x9_2).f2⟩:S91)) a1 a2 x8_1 ji19)=some r:=by first | (rw [hy621];with_reducible exact H) | (have H2_:=(Option.bind_some _ _).symm.trans H;rw [hy621];with_reducible exact H2_) | (have H2_:=(Option.bind_some _ _).symm.trans H;with_reducible exact H2_) | with_reducible exact H | (rw [hy621];exact H) | exact H
             have Ny621:=Aside0.mk hy621
             clear hy621
             obtain ⟨y622,hy622⟩:∃ y_:List (S91),y_=(y621.set ((ji19):Int).toNat (⟨(⟨(rd_T91 x0_2 x9_2).f0.f0,(rd_T91 x0_2 x9_2).f0.f1⟩:S56),(rd_T91 x0_2 x9_2).f1,(rd_T91 x0_2 x9_2).f2⟩:S91)):=⟨_,rfl⟩
             replace H:(slices_insertionSortCmpFunc_impl_Sib_impl_sorted_1.l1 kj5 y622 a1 a2 x8_1 ji19)=some r:=by first | (rw [hy622];with_reducible exact H) | (have H2_:=(Option.bind_some _ _).symm.trans H;rw [hy622];with_reducible exact H2_) | (have H2_:=(Option.bind_some _ _).symm.trans H;with_reducible exact H2_) | with_reducible exact H | (rw [hy622];exact H) | exact H
             have Ny622:=Aside0.mk hy622
             clear hy622
             have H':=Aside0.mk H
             clear H
             try go_wp2
             refine as3_ (Kd.R_drew HO_0.out) (Kept.drew HK.out) (below_drew1 HB.out) ?_
             clear HO_0 HK HB
             intro HO_0 HK HB
             obtain ⟨Ao27,co27,eo27⟩:=Kd.R_slice HO_0.out
             (first | subst eo27 | (injection eo27 with f1_ f2_ f3_;have f4_:=f1_.symm;have f5_:=f3_.symm;clear f1_ f2_ f3_;subst f4_;subst f5_))
             have p619:0≤((ji19):Int):=of_decide_eq_true (z1_)
             have q619:(ji19)<(x0_2.length:Int):=of_decide_eq_true (z1_)
             obtain ⟨ad619,e619,hx619_0,hx619_1,hx619_2,hx619_3⟩:=at_T91 (Kd.R_reads' HO_0.out).2.2 (ji19) p619 q619
             cases e619
             replace p619:=eq_true p619
             replace q619:=eq_true q619
             have p620:0≤(x9_2:Int):=of_decide_eq_true (z1_)
             have q620:x9_2<(x0_2.length:Int):=of_decide_eq_true (z1_)
             obtain ⟨ad620,e620,hx620_0,hx620_1,hx620_2,hx620_3⟩:=at_T91 (Kd.R_reads' HO_0.out).2.2 x9_2 p620 q620
             obtain rfl:ad619=ad620:=(by injection e620)
             replace p620:=eq_true p620
             replace q620:=eq_true q620
             have p24:0≤(x9_2:Int):=of_decide_eq_true (z1_)
             have q24:(x9_2:Int)<((x0_2.length:Int):Int):=of_decide_eq_true (z1_)
             obtain ⟨go24,co24,eo24,gb24,gl24,cl24,HG24⟩:=Kd.R_form HO_0.out (by omega)
             (first | cases eo24 | (injection eo24 with ea_ en_ ec_;(first | subst ea_ | (injection ea_ with ea_;subst ea_));subst ec_;clear en_))
             have GB24:=Aside0.mk gb24
             have GG24:=Aside0.mk HG24
             clear gb24 gl24 HG24
             have HMgo24:=Aside0.mk (show (P0_ go24∨w.heap.size≤go24) from (HO_0.out.1 _ rfl))
             (first | simp only [add_plain] at hx619_0 | skip)
             (first | simp only [add_plain] at hx619_1 | skip)
             (first | simp only [add_plain] at hx619_2 | skip)
             (first | simp only [add_plain] at hx619_3 | skip)
             (first | simp only [add_plain] at hx620_0 | skip)
             (first | simp only [add_plain] at hx620_1 | skip)
             (first | simp only [add_plain] at hx620_2 | skip)
             (first | simp only [add_plain] at hx620_3 | skip)
             obtain ⟨ce24,hcl24,hM24,hcc24,hfr24⟩:=Kd.R_elem HO_0.out z91 (x9_2:Int) p24 q24
             obtain rfl:=k91_openM hM24
             have hx24_0:World.cell? _ ⟨go24,(x9_2:Int).toNat*4,none⟩=some (.int .i64 ((rd_T91 x0_2 x9_2).f0.f0)):=hcc24 0 _ rfl
             have hx24_1:World.cell? _ ⟨go24,(x9_2:Int).toNat*4+1,none⟩=some (.int .i64 ((rd_T91 x0_2 x9_2).f0.f1)):=hcc24 1 _ rfl
             have hx24_2:World.cell? _ ⟨go24,(x9_2:Int).toNat*4+2,none⟩=some (.bool ((rd_T91 x0_2 x9_2).f1)):=hcc24 2 _ rfl
             have hx24_3:World.cell? _ ⟨go24,(x9_2:Int).toNat*4+3,none⟩=some (.string ((rd_T91 x0_2 x9_2).f2)):=hcc24 3 _ rfl
             have hf24_0:World.frozen? _ ⟨go24,(x9_2:Int).toNat*4,none⟩=false:=hfr24 0
             have hf24_1:World.frozen? _ ⟨go24,(x9_2:Int).toNat*4+1,none⟩=false:=hfr24 1
             have hf24_2:World.frozen? _ ⟨go24,(x9_2:Int).toNat*4+2,none⟩=false:=hfr24 2
             have hf24_3:World.frozen? _ ⟨go24,(x9_2:Int).toNat*4+3,none⟩=false:=hfr24 3
             clear hcl24 hcc24 hfr24 hM24
             replace p24:=eq_true p24
             replace q24:=eq_true q24
             obtain ⟨ce28,hcl28,hM28,hcc28,hfr28⟩:=Kd.R_elem HO_0.out z91 (x9_2:Int) (of_decide_eq_true (z1_)) (by have h_:(x9_2:Int)<((x0_2.length:Int):Int):=of_decide_eq_true (by first | (with_reducible assumption) | assumption);first | exact h_ | (have e_:=(Kd.R_reads' HO_0.out).1;omega) | simpa using h_)
             obtain rfl:=k91_openM hM28
             have HP28:=(Kd.R_seg HO_0.out (x9_2:Int) (of_decide_eq_true (z1_)) (by have h_:(x9_2:Int)<((x0_2.length:Int):Int):=of_decide_eq_true (by first | (with_reducible assumption) | assumption);first | exact h_ | (have e_:=(Kd.R_reads' HO_0.out).1;omega) | simpa using h_) (seg:=[.int .i64 ((rd_T91 x0_2 (ji19)).f0.f0),.int .i64 ((rd_T91 x0_2 (ji19)).f0.f1),.bool ((rd_T91 x0_2 (ji19)).f1),.string ((rd_T91 x0_2 (ji19)).f2)]) (j:=0) hcl28 hcc28 (show 4≤4 from by decide) (x':=(⟨(⟨(rd_T91 x0_2 (ji19)).f0.f0,(rd_T91 x0_2 (ji19)).f0.f1⟩:S56),(rd_T91 x0_2 (ji19)).f1,(rd_T91 x0_2 (ji19)).f2⟩:S91)) (k91_mkM _ _ _ (⟨(⟨(rd_T91 x0_2 (ji19)).f0.f0,(rd_T91 x0_2 (ji19)).f0.f1⟩:S56),(rd_T91 x0_2 (ji19)).f1,(rd_T91 x0_2 (ji19)).f2⟩:S91) ) (fun _ hk=>hk)).1
             rw [← Ny621.out] at HP28
             have HQ28:=Aside0.mk HP28
             clear hcl28 hcc28 hfr28 hM28 HP28
             have p25:0≤((ji19):Int):=of_decide_eq_true (z1_)
             have q25:((ji19):Int)<((x0_2.length:Int):Int):=of_decide_eq_true (z1_)
             obtain ⟨ce25,hcl25,hM25,hcc25,hfr25⟩:=Kd.R_elem HQ28.out z91 ((ji19):Int) p25 q25
             obtain rfl:=k91_openM hM25
             have hx25_0:World.cell? _ ⟨go24,((ji19):Int).toNat*4,none⟩=some (.int .i64 ((rd_T91 y621 (ji19)).f0.f0)):=hcc25 0 _ rfl
             have hx25_1:World.cell? _ ⟨go24,((ji19):Int).toNat*4+1,none⟩=some (.int .i64 ((rd_T91 y621 (ji19)).f0.f1)):=hcc25 1 _ rfl
             have hx25_2:World.cell? _ ⟨go24,((ji19):Int).toNat*4+2,none⟩=some (.bool ((rd_T91 y621 (ji19)).f1)):=hcc25 2 _ rfl
             have hx25_3:World.cell? _ ⟨go24,((ji19):Int).toNat*4+3,none⟩=some (.string ((rd_T91 y621 (ji19)).f2)):=hcc25 3 _ rfl
             have hf25_0:World.frozen? _ ⟨go24,((ji19):Int).toNat*4,none⟩=false:=hfr25 0
             have hf25_1:World.frozen? _ ⟨go24,((ji19):Int).toNat*4+1,none⟩=false:=hfr25 1
             have hf25_2:World.frozen? _ ⟨go24,((ji19):Int).toNat*4+2,none⟩=false:=hfr25 2
             have hf25_3:World.frozen? _ ⟨go24,((ji19):Int).toNat*4+3,none⟩=false:=hfr25 3
             clear hcl25 hcc25 hfr25 hM25
             replace p25:=eq_true p25
             replace q25:=eq_true q25
             obtain ⟨ce29,hcl29,hM29,hcc29,hfr29⟩:=Kd.R_elem HQ28.out z91 ((ji19):Int) (of_decide_eq_true (z1_)) (by have h_:((ji19):Int)<((x0_2.length:Int):Int):=of_decide_eq_true (by first | (with_reducible assumption) | assumption);first | exact h_ | (have e_:=(Kd.R_reads' HO_0.out).1;omega) | simpa using h_)
             obtain rfl:=k91_openM hM29
             have HP29:=(Kd.R_seg HQ28.out ((ji19):Int) (of_decide_eq_true (z1_)) (by have h_:((ji19):Int)<((x0_2.length:Int):Int):=of_decide_eq_true (by first | (with_reducible assumption) | assumption);first | exact h_ | (have e_:=(Kd.R_reads' HO_0.out).1;omega) | simpa using h_) (seg:=[.int .i64 ((rd_T91 x0_2 x9_2).f0.f0),.int .i64 ((rd_T91 x0_2 x9_2).f0.f1),.bool ((rd_T91 x0_2 x9_2).f1),.string ((rd_T91 x0_2 x9_2).f2)]) (j:=0) hcl29 hcc29 (show 4≤4 from by decide) (x':=(⟨(⟨(rd_T91 x0_2 x9_2).f0.f0,(rd_T91 x0_2 x9_2).f0.f1⟩:S56),(rd_T91 x0_2 x9_2).f1,(rd_T91 x0_2 x9_2).f2⟩:S91)) (k91_mkM _ _ _ (⟨(⟨(rd_T91 x0_2 x9_2).f0.f0,(rd_T91 x0_2 x9_2).f0.f1⟩:S56),(rd_T91 x0_2 x9_2).f1,(rd_T91 x0_2 x9_2).f2⟩:S91) ) (fun _ hk=>hk)).1
             rw [← Ny622.out] at HP29
             have HQ29:=Aside0.mk HP29
             clear hcl29 hcc29 hfr29 hM29 HP29
             refine start_ (n:=18) (S:=fun w'=>w'.cell? ⟨go24,((ji19)).toNat*4,none⟩=some (.int .i64 ((rd_T91 x0_2 (ji19)).f0.f0))∧w'.cell? ⟨go24,((ji19)).toNat*4+1,none⟩=some (.int .i64 ((rd_T91 x0_2 (ji19)).f0.f1))∧w'.cell? ⟨go24,((ji19)).toNat*4+2,none⟩=some (.bool ((rd_T91 x0_2 (ji19)).f1))∧w'.cell? ⟨go24,((ji19)).toNat*4+3,none⟩=some (.string ((rd_T91 x0_2 (ji19)).f2))∧w'.cell? ⟨go24,((x9_2).toNat*4),none⟩=some (.int .i64 ((rd_T91 x0_2 x9_2).f0.f0))∧w'.cell? ⟨go24,((x9_2).toNat*4)+1,none⟩=some (.int .i64 ((rd_T91 x0_2 x9_2).f0.f1))∧w'.cell? ⟨go24,((x9_2).toNat*4)+2,none⟩=some (.bool ((rd_T91 x0_2 x9_2).f1))∧w'.cell? ⟨go24,((x9_2).toNat*4)+3,none⟩=some (.string ((rd_T91 x0_2 x9_2).f2))) (ds:=[15,17]) #[O,O,O,O,O,O,O,O,O,O,O,O,O,O,O,O,O,O] (by kernel_rfl) rfl rfl ⟨hx619_0,hx619_1,hx619_2,hx619_3,hx620_0,hx620_1,hx620_2,hx620_3⟩ (fun hHeld=>?_);refine with_tabW slices_insertionSortCmpFunc_impl_Sib_impl_sorted_1.tab6 slices_insertionSortCmpFunc_impl_Sib_impl_sorted_1.bits6 (fun HT_ HW_=>?_)
             generalize wc.drew=w26 at HO_0 HK HB GG24 HQ28 HQ29 hf24_0 hf24_1 hf24_2 hf24_3 hf25_0 hf25_1 hf25_2 hf25_3 hx24_0 hx24_1 hx24_2 hx24_3 hx25_0 hx25_1 hx25_2 hx25_3 hx619_0 hx619_1 hx619_2 hx619_3 hx620_0 hx620_1 hx620_2 hx620_3 hHeld ⊢
             have hne_:ji19.toNat*4≠x9_2.toNat*4:=by have a_:=of_eq_true p619;have b_:=of_eq_true p620;unfold wrap64 at hji19;omega
             have hz25_0:∀ V,(w26.setCell ⟨go24,(x9_2:Int).toNat*4,none⟩ V).cell? ⟨go24,((ji19):Int).toNat*4,none⟩=some (.int .i64 ((rd_T91 x0_2 (ji19)).f0.f0)):=fun V=>(World.cell?_setCell_other _ _ _ _ (by intro e_;injection e_;omega)).trans hx619_0
             have hz25_1:∀ V,(w26.setCell ⟨go24,(x9_2:Int).toNat*4+1,none⟩ V).cell? ⟨go24,((ji19):Int).toNat*4+1,none⟩=some (.int .i64 ((rd_T91 x0_2 (ji19)).f0.f1)):=fun V=>(World.cell?_setCell_other _ _ _ _ (by intro e_;injection e_;omega)).trans hx619_1
             have hz25_2:∀ V,(w26.setCell ⟨go24,(x9_2:Int).toNat*4+2,none⟩ V).cell? ⟨go24,((ji19):Int).toNat*4+2,none⟩=some (.bool ((rd_T91 x0_2 (ji19)).f1)):=fun V=>(World.cell?_setCell_other _ _ _ _ (by intro e_;injection e_;omega)).trans hx619_2
             have hz25_3:∀ V,(w26.setCell ⟨go24,(x9_2:Int).toNat*4+3,none⟩ V).cell? ⟨go24,((ji19):Int).toNat*4+3,none⟩=some (.string ((rd_T91 x0_2 (ji19)).f2)):=fun V=>(World.cell?_setCell_other _ _ _ _ (by intro e_;injection e_;omega)).trans hx619_3
             have hy25_0:w26.frozen? ⟨go24,((ji19):Int).toNat*4,none⟩=false:=by have h_:=hf25_0;first | exact h_ | simpa only [World.frozen?_setCell] using h_ | simpa [World.setCells] using h_
             have hy25_1:w26.frozen? ⟨go24,((ji19):Int).toNat*4+1,none⟩=false:=by have h_:=hf25_1;first | exact h_ | simpa only [World.frozen?_setCell] using h_ | simpa [World.setCells] using h_
             have hy25_2:w26.frozen? ⟨go24,((ji19):Int).toNat*4+2,none⟩=false:=by have h_:=hf25_2;first | exact h_ | simpa only [World.frozen?_setCell] using h_ | simpa [World.setCells] using h_
             have hy25_3:w26.frozen? ⟨go24,((ji19):Int).toNat*4+3,none⟩=false:=by have h_:=hf25_3;first | exact h_ | simpa only [World.frozen?_setCell] using h_ | simpa [World.setCells] using h_
             refine pu_ 0 37 #[I,O,O,O,O,O,O,O,O,O,O,O,O,O,O,O,O,O] HT_.out ?_
             refine pu_ 1 38 #[I,I,O,O,O,O,O,O,O,O,O,O,O,O,O,O,O,O] HT_.out ?_
             refine pu_ 2 39 #[I,I,I,O,O,O,O,O,O,O,O,O,O,O,O,O,O,O] HT_.out ?_
             refine pu_ 3 40 #[I,I,I,I,O,O,O,O,O,O,O,O,O,O,O,O,O,O] HT_.out ?_
             refine pu_ 4 41 #[I,I,I,I,I,O,O,O,O,O,O,O,O,O,O,O,O,O] HT_.out ?_
             refine pu_ 5 42 #[I,I,I,I,I,I,O,O,O,O,O,O,O,O,O,O,O,O] HT_.out ?_
             refine pu_ 6 43 #[I,I,I,I,I,I,I,O,O,O,O,O,O,O,O,O,O,O] HT_.out ?_
             refine pu_ 7 44 #[I,I,I,I,I,I,I,I,O,O,O,O,O,O,O,O,O,O] HT_.out ?_
             refine pu_ 8 45 #[I,I,I,I,I,I,I,I,I,O,O,O,O,O,O,O,O,O] HT_.out ?_
             refine pu_ 10 47 #[I,I,I,I,I,I,I,I,I,O,I,O,O,O,O,O,O,O] HT_.out ?_
             refine pu_ 11 48 #[I,I,I,I,I,I,I,I,I,O,I,I,O,O,O,O,O,O] HT_.out ?_
             refine pu_ 12 49 #[I,I,I,I,I,I,I,I,I,O,I,I,I,O,O,O,O,O] HT_.out ?_
             refine tk8_ 9 46 #[I,I,I,I,I,I,I,I,I,I,I,I,I,O,O,O,O,O] HT_.out HW_.out hHeld ?_
             refine tk8_ 13 50 #[I,I,I,I,I,I,I,I,I,I,I,I,I,I,O,O,O,O] HT_.out HW_.out hHeld ?_
             refine pu_ 14 51 #[I,I,I,I,I,I,I,I,I,I,I,I,I,I,I,O,O,O] HT_.out ?_
             refine last_ (i:=15) (N:=none) #[I,I,I,I,I,I,I,I,I,I,I,I,I,I,I,I,O,O] rfl rfl (one_of HT_.out (by kernel_rfl)) (by decide) (fun K hK=>?_)
             refine skip_ (w1:=?_) (by rfl) rfl ?_ ?_
             rotate_left
             ·go_simp
              rfl
             refine hK.out _ _ ?_
             clear hK K
             refine pu_ 16 52 #[I,I,I,I,I,I,I,I,I,I,I,I,I,I,I,I,I,O] HT_.out ?_
             refine last_ (i:=17) (N:=none) #[I,I,I,I,I,I,I,I,I,I,I,I,I,I,I,I,I,I] rfl rfl (one_of HT_.out (by kernel_rfl)) (by decide) (fun K hK=>?_)
             refine skip_ (w1:=?_) (by rfl) rfl ?_ ?_
             rotate_left
             ·go_simp
              rfl
             refine hK.out _ _ ?_
             clear hK K
             refine done_ (done_of HT_.out (by kernel_rfl)) ?_
             try go_wp2
             go_roundg kj5
             case measure=>have:=HK1.out;have:=HK2.out;have:=HJ5.out;omega
             case rel=>exact ⟨(y622),(ji19),(by first | rfl | (simp;done) | (simp only [← hji19] <;> (first | rfl | simp)) | (simp [*];done)),H',⟨by have:=HK1.out;have:=HK2.out;have:=HJ5.out;omega⟩,⟨z0_ HQ29.out⟩,⟨by repeat (first | (with_reducible first | exact HK.out | apply Kept.alloc | apply Kept.drewN | apply Kept.drew | refine Kept.setCell ?_ HMgo24.out _ | refine Kept.setCell ?_ HMgo24.out _ | refine Kept.setCell ?_ HMgo24.out _ | refine Kept.setCell ?_ HMgo24.out _ | refine Kept.setCell ?_ HMgo24.out _ | refine Kept.setCell ?_ HMgo24.out _ | refine Kept.setCell ?_ HMgo24.out _ | refine Kept.setCell ?_ HMgo24.out _) | exact HK.out)⟩,⟨by repeat (first | (with_reducible first | exact HB.out | apply below_alloc | apply pw_below_drewN | apply below_drew1 | refine below_set ?_ GB24.out | refine below_set ?_ GB24.out | refine below_set ?_ GB24.out | refine below_set ?_ GB24.out | refine below_set ?_ GB24.out | refine below_set ?_ GB24.out | refine below_set ?_ GB24.out | refine below_set ?_ GB24.out) | exact HB.out)⟩⟩
            ·rw [if_neg c23] at H
             exact absurd H (by simp)
           ·rw [if_neg c22] at H
            exact absurd H (by simp)
          ·rw [if_neg c21] at H
           exact absurd H (by simp)
         ·rw [if_neg c20] at H
          exact absurd H (by simp)
        ·replace c18:=Bool.eq_false_iff.mpr c18
         subst c18
         have H1:(slices_insertionSortCmpFunc_impl_Sib_impl_sorted_1.l0 kj5 x0_2 a1 a2 (wrap64 (x8_1+1)))=some r:=by rw [if_neg (show ¬ (false=true) by decide)] at H;exact H
         clear H
         have H:=H1
         clear H1
         have H':=Aside0.mk H
         clear H
         go_wp2
         go_roundg kj5
         case measure=>have:=HK1.out;have:=HK2.out;have:=HJ5.out;omega
         case rel=>exact ⟨(x0_2),(wrap64 (x8_1+1)),(z2_),H',⟨by have:=HK1.out;have:=HK2.out;have:=HJ5.out;omega⟩,⟨z0_ HO_0.out⟩,⟨z14_ HK.out⟩,⟨z3_ HB.out⟩⟩
   ·rw [if_neg c5] at H
    have c5b0:decide (x8_1<a2)=false:=decide_eq_false c5
    clear c5
    obtain rfl:=Option.some.inj H
    go_wp2
    first | go_end0 | ((try simp only [Exit.inBlock,Exit.then]);refine bodyPost_ret (results_none rfl _ _ _) rfl ?_)
    exact ⟨z8_,z0_ HO_0.out,z3_ HB.out,z14_ HK.out⟩


/-! ### slices_pdqsortCmpFunc_impl_Sib_impl_sorted_1: function 110 -/
mutual
def slices_pdqsortCmpFunc_impl_Sib_impl_sorted_1.l0:Nat→List (S91)→Int→Int→Option ((List (S91)))
 | 0,_,_,_=>none
 | k+1,x0,x1,x2=>if (wrap64 (x2-x1))≤12 then ((slices_insertionSortCmpFunc_impl_Sib_impl_sorted_1.f k x0 x1 x2).bind fun t623=>(some t623)) else (none)
def slices_pdqsortCmpFunc_impl_Sib_impl_sorted_1.f:Nat→List (S91)→Int→Int→Int→Option ((List (S91)))
 | 0,_,_,_,_=>none
 | k+1,l0,a1,a2,a3=>slices_pdqsortCmpFunc_impl_Sib_impl_sorted_1.l0 k l0 a1 a2
end
theorem slices_pdqsortCmpFunc_impl_Sib_impl_sorted_1.mono_l:∀ k,(∀ y0 y1 y2 y3,LeO (slices_pdqsortCmpFunc_impl_Sib_impl_sorted_1.f k y0 y1 y2 y3) (slices_pdqsortCmpFunc_impl_Sib_impl_sorted_1.f (k+1) y0 y1 y2 y3))∧(∀ y0 y1 y2,LeO (slices_pdqsortCmpFunc_impl_Sib_impl_sorted_1.l0 k y0 y1 y2) (slices_pdqsortCmpFunc_impl_Sib_impl_sorted_1.l0 (k+1) y0 y1 y2))
 | 0=>⟨fun _ _ _ _ r h=>by simp [slices_pdqsortCmpFunc_impl_Sib_impl_sorted_1.f] at h,fun _ _ _ r h=>by simp [slices_pdqsortCmpFunc_impl_Sib_impl_sorted_1.l0] at h⟩
 | k+1=>by
  obtain ⟨ih0,ih1⟩:=slices_pdqsortCmpFunc_impl_Sib_impl_sorted_1.mono_l k
  refine ⟨?_,?_⟩
  ·intro y0 y1 y2 y3
   unfold slices_pdqsortCmpFunc_impl_Sib_impl_sorted_1.f
   repeat' first
   | (with_reducible exact ih0 _ _ _ _)
   | (with_reducible exact ih1 _ _ _)
   | (with_reducible exact slices_insertionSortCmpFunc_impl_Sib_impl_sorted_1.mono _ _ _ _)
   | (with_reducible exact LeO.refl _)
   | (with_reducible exact LeO.none _)
   | (with_reducible refine LeO.ite ?_ ?_)
   | (with_reducible refine LeO.bind ?_ (fun _=>?_))
   | exact ih0 _ _ _ _
   | exact ih1 _ _ _
   | exact slices_insertionSortCmpFunc_impl_Sib_impl_sorted_1.mono _ _ _ _
   | exact LeO.none _
   | refine LeO.ite ?_ ?_
   | refine LeO.bind ?_ (fun _=>?_)
  ·intro y0 y1 y2
   unfold slices_pdqsortCmpFunc_impl_Sib_impl_sorted_1.l0
   repeat' first
   | (with_reducible exact ih0 _ _ _ _)
   | (with_reducible exact ih1 _ _ _)
   | (with_reducible exact slices_insertionSortCmpFunc_impl_Sib_impl_sorted_1.mono _ _ _ _)
   | (with_reducible exact LeO.refl _)
   | (with_reducible exact LeO.none _)
   | (with_reducible refine LeO.ite ?_ ?_)
   | (with_reducible refine LeO.bind ?_ (fun _=>?_))
   | exact ih0 _ _ _ _
   | exact ih1 _ _ _
   | exact slices_insertionSortCmpFunc_impl_Sib_impl_sorted_1.mono _ _ _ _
   | exact LeO.none _
   | refine LeO.ite ?_ ?_
   | refine LeO.bind ?_ (fun _=>?_)
theorem slices_pdqsortCmpFunc_impl_Sib_impl_sorted_1.mono:∀ a0 a1 a2 a3 k,LeO (slices_pdqsortCmpFunc_impl_Sib_impl_sorted_1.f k a0 a1 a2 a3) (slices_pdqsortCmpFunc_impl_Sib_impl_sorted_1.f (k+1) a0 a1 a2 a3):=by
 intro a0 a1 a2 a3 k
 obtain ⟨ih0,ih1⟩:=slices_pdqsortCmpFunc_impl_Sib_impl_sorted_1.mono_l k
 exact ih0 a0 a1 a2 a3
set_option maxHeartbeats 8000000 in
set_option maxRecDepth 100000 in
theorem slices_pdqsortCmpFunc_impl_Sib_impl_sorted_1.calls (k:Nat):∀ (P0_:Nat→Prop) (u9000_:Value) (l0:List (S91)) (a1:Int) (a2:Int) (a3:Int)  (r:List (S91)) (w0 w:World) (hB:Below w0.heap.size w0 w) (ho0:Kd.R k91 91 w w0.heap.size P0_ u9000_ l0) (h:slices_pdqsortCmpFunc_impl_Sib_impl_sorted_1.f k l0 a1 a2 a3=some r),
  Calls Try.prog 110 #[u9000_,.int .i64 a1,.int .i64 a2,.int .i64 a3,.func (.func 98) #[] #[]] w fun e w'=>e = .returned (.tuple #[])∧Kd.R k91 91 w' w0.heap.size (fun k_=>(P0_ k_∨w.heap.size≤k_)) u9000_ r∧Below w0.heap.size w0 w'∧Kept w w' (fun k_=>P0_ k_):=by
 induction k using Nat.strongRecOn with
 | _ k ih =>
 intro P0_ u9000_ l0 a1 a2 a3 r w0 w hB ho0 h
 cases k with
 | zero=>exact absurd h (by simp [slices_pdqsortCmpFunc_impl_Sib_impl_sorted_1.f])
 | succ k =>
 simp only [slices_pdqsortCmpFunc_impl_Sib_impl_sorted_1.f] at h
 have hu91:=Try.underlying91
 have HO0:=Aside0.mk (show Kd.R k91 91 w w0.heap.size (fun k_=>(P0_ k_∨w.heap.size≤k_)) u9000_ l0 from Kd.R_mono ho0 (fun k_ hk=>(.inl hk)))
 have HK:=Aside0.mk (Kept.refl w (fun k_=>P0_ k_))
 have HW0:=Aside0.mk hB.size
 have HB:=Aside0.mk hB
 clear hB
 have H:(slices_pdqsortCmpFunc_impl_Sib_impl_sorted_1.l0 k l0 a1 a2)=some r:=h
 clear h
 have H':=Aside0.mk H
 clear H
 go_enter Try.func110,Try.ntmps110
 go_wp2
 go_loopg [1,2] k (fun kq v1 v2 w'=>∃ (x0_1:List (S91)) (x1_1:Int) (x2_1:Int),v1 = .int .i64 x1_1∧v2 = .int .i64 x2_1∧Aside0 (slices_pdqsortCmpFunc_impl_Sib_impl_sorted_1.l0 kq x0_1 x1_1 x2_1=some r)∧Aside0 (kq≤k)∧Aside0 (Kd.R k91 91 w' w0.heap.size (fun k_=>(P0_ k_∨w.heap.size≤k_)) u9000_ x0_1)∧Aside0 (Kept w w' (fun k_=>P0_ k_))∧Aside0 (Below w0.heap.size w0 w'))
 case atStart=>exact ⟨(l0),(a1),(a2),(z2_),(z2_),H',⟨Nat.le_refl _⟩,⟨z0_ HO0.out⟩,⟨z14_ HK.out⟩,⟨z3_ HB.out⟩⟩
 case round =>
  clear H'
  try clear p2
  obtain ⟨x0_1,x1_1,x2_1,rfl,rfl,HA,HK1,HO_0,HK,HB⟩:=hrel
  cases gk with
  | zero=>exact absurd HA.out (by simp [slices_pdqsortCmpFunc_impl_Sib_impl_sorted_1.l0])
  | succ k1 =>
   have H:=HA.out
   clear HA
   simp only [slices_pdqsortCmpFunc_impl_Sib_impl_sorted_1.l0] at H
   by_cases c6:(wrap64 (x2_1-x1_1))≤12
   ·rw [if_pos c6] at H
    have c6b0:decide ((wrap64 (x2_1-x1_1))≤12)=true:=decide_eq_true c6
    clear c6
    replace H:=Option.bind_eq_some_iff.mp H
    obtain ⟨t623,A70,H⟩:=H
    replace H:(some t623)=some r:=H
    have A7:=Aside0.mk A70
    clear A70
    obtain rfl:=Option.some.inj H
    obtain ⟨Ao8,co8,eo8⟩:=Kd.R_slice HO_0.out
    subst eo8
    go_wp2_with (first | ((with_reducible refine gc_ 118 ?_);refine gl_ (some 30) Try.func118 #[.slice Ao8 x0_1.length co8,.int .i64 x1_1,.int .i64 x2_1,.func (.func 98) #[] #[]] ?_;(with_reducible refine (slices_insertionSortCmpFunc_impl_Sib_impl_sorted_1.calls k1 (fun k_=>some k_=(.slice Ao8 x0_1.length co8:Value).ownBlock) (.slice Ao8 x0_1.length co8) x0_1 x1_1 x2_1  t623 w0 _ ?s1 ?s2 A7.out).mono ?_);(case s1=>repeat (first | (with_reducible first | exact HB.out | apply below_alloc | apply pw_below_drewN | apply below_drew1) | exact HB.out));(case s2=>exact Kd.R_tight rfl HO_0.out);rintro e w9 ⟨rfl,hy0,hb,hkp⟩;refine ⟨_,rfl,?_⟩;refine as3_ (Kd.R_reok rfl hy0 (fun k_ e_=>HO_0.out.1 k_ e_)) (Kept.then_ (S:=(fun k_=>P0_ k_)) (z14_ HK.out) hkp (fun k_ hs_=>(fun e_=>(HO_0.out.1 k_ e_.symm)) hs_)) (hb) ?_;clear HO_0 HK HB;intro HO_0 HK HB;(try clear hb);(try clear hkp);(try clear hy0)))
    first | go_end0 | ((try simp only [Exit.inBlock,Exit.then]);refine bodyPost_ret (results_none rfl _ _ _) rfl ?_)
    exact ⟨z8_,z0_ HO_0.out,z3_ HB.out,z14_ HK.out⟩
   ·rw [if_neg c6] at H
    exact absurd H (by simp)


/-! ### slices_SortFunc_impl_Sib_impl_Sib_impl_sorted_1: function 97 -/
def slices_SortFunc_impl_Sib_impl_Sib_impl_sorted_1.f (k:Nat) (l0:List (S91))  : Option ((List (S91))):=(bits_Len.f k (IntKind.u64.wrap ((l0.length:Int)))).bind fun t624=>((slices_pdqsortCmpFunc_impl_Sib_impl_sorted_1.f k l0 0 (l0.length:Int) t624).bind fun t625=>(some t625))
theorem slices_SortFunc_impl_Sib_impl_Sib_impl_sorted_1.mono:∀ a0 k,LeO (slices_SortFunc_impl_Sib_impl_Sib_impl_sorted_1.f k a0) (slices_SortFunc_impl_Sib_impl_Sib_impl_sorted_1.f (k+1) a0):=by
 intro a0 k
 unfold slices_SortFunc_impl_Sib_impl_Sib_impl_sorted_1.f
 repeat' first
   | (with_reducible exact bits_Len.mono _ _)
   | (with_reducible exact slices_pdqsortCmpFunc_impl_Sib_impl_sorted_1.mono _ _ _ _ _)
   | (with_reducible exact LeO.refl _)
   | (with_reducible exact LeO.none _)
   | (with_reducible refine LeO.ite ?_ ?_)
   | (with_reducible refine LeO.bind ?_ (fun _=>?_))
   | exact bits_Len.mono _ _
   | exact slices_pdqsortCmpFunc_impl_Sib_impl_sorted_1.mono _ _ _ _ _
   | exact LeO.none _
   | refine LeO.ite ?_ ?_
   | refine LeO.bind ?_ (fun _=>?_)
set_option maxHeartbeats 8000000 in
set_option maxRecDepth 100000 in
theorem slices_SortFunc_impl_Sib_impl_Sib_impl_sorted_1.calls (k:Nat) (P0_:Nat→Prop) (u9000_:Value) (l0:List (S91))  (r:List (S91)) (w0 w:World) (hB:Below w0.heap.size w0 w) (ho0:Kd.R k91 91 w w0.heap.size P0_ u9000_ l0) (h:slices_SortFunc_impl_Sib_impl_Sib_impl_sorted_1.f k l0=some r) :
  Calls Try.prog 97 #[u9000_,.func (.func 98) #[] #[]] w fun e w'=>e = .returned (.tuple #[])∧Kd.R k91 91 w' w0.heap.size (fun k_=>(P0_ k_∨w.heap.size≤k_)) u9000_ r∧Below w0.heap.size w0 w'∧Kept w w' (fun k_=>P0_ k_):=by
 have HO0:=Aside0.mk (show Kd.R k91 91 w w0.heap.size (fun k_=>(P0_ k_∨w.heap.size≤k_)) u9000_ l0 from Kd.R_mono ho0 (fun k_ hk=>(.inl hk)))
 have HK:=Aside0.mk (Kept.refl w (fun k_=>P0_ k_))
 have HW0:=Aside0.mk hB.size
 have HB:=Aside0.mk hB
 clear hB
 have H:((bits_Len.f k (IntKind.u64.wrap ((l0.length:Int)))).bind fun t624=>((slices_pdqsortCmpFunc_impl_Sib_impl_sorted_1.f k l0 0 (l0.length:Int) t624).bind fun t625=>(some t625)))=some r:=h
 clear h
 replace H:=Option.bind_eq_some_iff.mp H
 obtain ⟨t624,A30,H⟩:=H
 replace H:((slices_pdqsortCmpFunc_impl_Sib_impl_sorted_1.f k l0 0 (l0.length:Int) t624).bind fun t625=>(some t625))=some r:=H
 have A3:=Aside0.mk A30
 clear A30
 replace H:=Option.bind_eq_some_iff.mp H
 obtain ⟨t625,A40,H⟩:=H
 replace H:(some t625)=some r:=H
 have A4:=Aside0.mk A40
 clear A40
 obtain rfl:=Option.some.inj H
 obtain ⟨Ao5,co5,eo5⟩:=Kd.R_slice HO0.out
 subst eo5
 go_enter Try.func97,Try.ntmps97
 go_wp2_with (first | ((with_reducible refine gc_ 111 ?_);refine gl_ (some 11) Try.func111 #[.int .u64 (IntKind.u64.wrap ((l0.length:Int)))] ?_;(with_reducible refine (bits_Len.calls k (IntKind.u64.wrap ((l0.length:Int))) t624 _ A3.out).mono ?_);rintro e w' ⟨rfl,⟨nd,rfl⟩⟩;refine ⟨_,rfl,?_⟩) | ((with_reducible refine gc_ 110 ?_);refine gl_ (some 13) Try.func110 #[.slice Ao5 l0.length co5,.int .i64 0,.int .i64 (l0.length:Int),.int .i64 t624,.func (.func 98) #[] #[]] ?_;(with_reducible refine (slices_pdqsortCmpFunc_impl_Sib_impl_sorted_1.calls k (fun k_=>some k_=(.slice Ao5 l0.length co5:Value).ownBlock) (.slice Ao5 l0.length co5) l0 0 (l0.length:Int) t624  t625 w0 _ ?s1 ?s2 A4.out).mono ?_);(case s1=>repeat (first | (with_reducible first | exact HB.out | apply below_alloc | apply pw_below_drewN | apply below_drew1) | exact HB.out));(case s2=>exact Kd.R_tight rfl HO0.out);rintro e w6 ⟨rfl,hy0,hb,hkp⟩;refine ⟨_,rfl,?_⟩;refine as3_ (Kd.R_reok rfl hy0 (fun k_ e_=>HO0.out.1 k_ e_)) (Kept.then_ (S:=(fun k_=>P0_ k_)) (z14_ HK.out) hkp (fun k_ hs_=>(fun e_=>(HO0.out.1 k_ e_.symm)) hs_)) (hb) ?_;clear HO0 HK HB;intro HO0 HK HB;(try clear hb);(try clear hkp);(try clear hy0)))
 first | go_end0 | ((try simp only [Exit.inBlock,Exit.then]);refine bodyPost_ret (results_none rfl _ _ _) rfl ?_)
 exact ⟨z8_,z0_ HO0.out,z3_ HB.out,z14_ HK.out⟩


/-! ### impl_sorted: function 65 -/
def impl_sorted.f (k:Nat) (l0:List (S91)):Option ((List (S91))):=(slices_SortFunc_impl_Sib_impl_Sib_impl_sorted_1.f k l0).bind fun t626=>(some t626)
theorem impl_sorted.mono:∀ a0 k,LeO (impl_sorted.f k a0) (impl_sorted.f (k+1) a0):=by
 intro a0 k
 unfold impl_sorted.f
 repeat' first
   | (with_reducible exact slices_SortFunc_impl_Sib_impl_Sib_impl_sorted_1.mono _ _)
   | (with_reducible exact LeO.refl _)
   | (with_reducible exact LeO.none _)
   | (with_reducible refine LeO.ite ?_ ?_)
   | (with_reducible refine LeO.bind ?_ (fun _=>?_))
   | exact slices_SortFunc_impl_Sib_impl_Sib_impl_sorted_1.mono _ _
   | exact LeO.none _
   | refine LeO.ite ?_ ?_
   | refine LeO.bind ?_ (fun _=>?_)
set_option maxHeartbeats 8000000 in
set_option maxRecDepth 100000 in
theorem impl_sorted.calls (k:Nat) (P0_:Nat→Prop) (u9000_:Value) (l0:List (S91)) (r:List (S91)) (w0 w:World) (hB:Below w0.heap.size w0 w) (ho0:Kd.R k91 91 w w0.heap.size P0_ u9000_ l0) (h:impl_sorted.f k l0=some r) :
  Calls Try.prog 65 #[u9000_] w fun e w'=>∃ v0_:Value,e = .returned (v0_)∧Kd.R k91 91 w' w0.heap.size (fun k_=>(P0_ k_∨w.heap.size≤k_)) v0_ r∧Below w0.heap.size w0 w'∧Kept w w' (fun k_=>P0_ k_):=by
 have HO0:=Aside0.mk (show Kd.R k91 91 w w0.heap.size (fun k_=>(P0_ k_∨w.heap.size≤k_)) u9000_ l0 from Kd.R_mono ho0 (fun k_ hk=>(.inl hk)))
 have HK:=Aside0.mk (Kept.refl w (fun k_=>P0_ k_))
 have HW0:=Aside0.mk hB.size
 have HB:=Aside0.mk hB
 clear hB
 have H:((slices_SortFunc_impl_Sib_impl_Sib_impl_sorted_1.f k l0).bind fun t626=>(some t626))=some r:=h
 clear h
 replace H:=Option.bind_eq_some_iff.mp H
 obtain ⟨t626,A20,H⟩:=H
 replace H:(some t626)=some r:=H
 have A2:=Aside0.mk A20
 clear A20
 obtain rfl:=Option.some.inj H
 obtain ⟨Ao3,co3,eo3⟩:=Kd.R_slice HO0.out
 subst eo3
 go_enter Try.func65,Try.ntmps65
 go_wp2_with (first | ((with_reducible refine gc_ 97 ?_);refine gl_ (some 4) Try.func97 #[.slice Ao3 l0.length co3,.func (.func 98) #[] #[]] ?_;(with_reducible refine (slices_SortFunc_impl_Sib_impl_Sib_impl_sorted_1.calls k (fun k_=>some k_=(.slice Ao3 l0.length co3:Value).ownBlock) (.slice Ao3 l0.length co3) l0  t626 w0 _ ?s1 ?s2 A2.out).mono ?_);(case s1=>repeat (first | (with_reducible first | exact HB.out | apply below_alloc | apply pw_below_drewN | apply below_drew1) | exact HB.out));(case s2=>exact Kd.R_tight rfl HO0.out);rintro e w4 ⟨rfl,hy0,hb,hkp⟩;refine ⟨_,rfl,?_⟩;refine as3_ (Kd.R_reok rfl hy0 (fun k_ e_=>HO0.out.1 k_ e_)) (Kept.then_ (S:=(fun k_=>P0_ k_)) (z14_ HK.out) hkp (fun k_ hs_=>(fun e_=>(HO0.out.1 k_ e_.symm)) hs_)) (hb) ?_;clear HO0 HK HB;intro HO0 HK HB;(try clear hb);(try clear hkp);(try clear hy0)))
 go_ret
 exact ⟨_,z8_,z0_ HO0.out,z3_ HB.out,z14_ HK.out⟩


/-! ### impl_setPut: function 77 -/
mutual
def impl_setPut.j0:Nat→List (S56)→Int→ByteArray→Bool→Bool→List (S56)→List (S91)→Option ((List (S56)) × (List (S91)) × Int × Int × Int)
 | 0,_,_,_,_,_,_,_=>none
 | k+1,x1,x2,x3,x4,x34,x830000,x830001=>if x34=true then (some (([]:List (S56)),([]:List (S91)),0,0,1)) else ((impl_seenJoin.f k x830000 x1).bind fun t835=>((impl_seenOf.f k t835 x2).bind fun t838=>(impl_setPut.l0 k x1 t835 x830001 (x830001.length:Int) 0 x2 (wrap64 (t838+1)) (([(⟨(⟨x2,wrap64 (t838+1)⟩:S56),x4,x3⟩:S91)]:List (S91))))))
def impl_setPut.l0:Nat→List (S56)→List (S56)→List (S91)→Int→Int→Int→Int→List (S91)→Option ((List (S56)) × (List (S91)) × Int × Int × Int)
 | 0,_,_,_,_,_,_,_,_=>none
 | k+1,x1,x11,x53,x54,x55,x840000,x840001,x844001=>if x55<x54 then (if 0≤x55 then (if x55<(x53.length:Int) then ((impl_seenHas.f k x1 ((rd_T91 x53 x55).f0.f0) ((rd_T91 x53 x55).f0.f1)).bind fun t846=>(if t846=true then (impl_setPut.l0 k x1 x11 x53 x54 (wrap64 (x55+1)) x840000 x840001 x844001) else (if x844001.length<3518437208883 then (impl_setPut.l0 k x1 x11 x53 x54 (wrap64 (x55+1)) x840000 x840001 (x844001 ++ [(⟨(⟨(rd_T91 x53 x55).f0.f0,(rd_T91 x53 x55).f0.f1⟩:S56),(rd_T91 x53 x55).f1,(rd_T91 x53 x55).f2⟩:S91)])) else (none)))) else (none)) else (none)) else (if x840001>1000000 then (impl_setPut.j2 k x11 true x840000 x840001 x844001) else (impl_setPut.j2 k x11 (decide ((x844001.length:Int)>8)) x840000 x840001 x844001))
def impl_setPut.j2:Nat→List (S56)→Bool→Int→Int→List (S91)→Option ((List (S56)) × (List (S91)) × Int × Int × Int)
 | 0,_,_,_,_,_=>none
 | k+1,x11,x79,x840000,x840001,x844001=>if x79=true then (some (([]:List (S56)),([]:List (S91)),0,0,9)) else ((impl_seenJoin.f k x11 (([(⟨x840000,x840001⟩:S56)]:List (S56)))).bind fun t853=>((impl_sorted.f k x844001).bind fun t856=>(some (t853,t856,x840000,x840001,0))))
end
def impl_setPut.f (k:Nat) (l0_0:List (S56)) (l0_1:List (S91)) (l1:List (S56)) (a2:Int) (a3:ByteArray) (a4:Bool):Option ((List (S56)) × (List (S91)) × Int × Int × Int):=(impl_SetRight.f k l0_0 l0_1).bind fun t831=>(if t831=true then ((impl_seenRight.f k l1).bind fun t832=>(if t832=true then ((impl_isNode.f a2).bind fun t833=>(if t833=true then ((impl_isData.f a3 a4).bind fun t834=>(impl_setPut.j0 k l1 a2 a3 a4 (!t834) l0_0 l0_1)) else (impl_setPut.j0 k l1 a2 a3 a4 true l0_0 l0_1))) else (impl_setPut.j0 k l1 a2 a3 a4 true l0_0 l0_1))) else (impl_setPut.j0 k l1 a2 a3 a4 true l0_0 l0_1))
theorem impl_setPut.mono_l:∀ k,(∀ y0 y1 y2 y3 y4 y5 y6,LeO (impl_setPut.j0 k y0 y1 y2 y3 y4 y5 y6) (impl_setPut.j0 (k+1) y0 y1 y2 y3 y4 y5 y6))∧(∀ y0 y1 y2 y3 y4 y5 y6 y7,LeO (impl_setPut.l0 k y0 y1 y2 y3 y4 y5 y6 y7) (impl_setPut.l0 (k+1) y0 y1 y2 y3 y4 y5 y6 y7))∧(∀ y0 y1 y2 y3 y4,LeO (impl_setPut.j2 k y0 y1 y2 y3 y4) (impl_setPut.j2 (k+1) y0 y1 y2 y3 y4))
 | 0=>⟨fun _ _ _ _ _ _ _ r h=>by simp [impl_setPut.j0] at h,fun _ _ _ _ _ _ _ _ r h=>by simp [impl_setPut.l0] at h,fun _ _ _ _ _ r h=>by simp [impl_setPut.j2] at h⟩
 | k+1=>by
  obtain ⟨ih0,ih1,ih2⟩:=impl_setPut.mono_l k
  refine ⟨?_,?_,?_⟩
  ·intro y0 y1 y2 y3 y4 y5 y6
   unfold impl_setPut.j0
   repeat' first
   | (with_reducible exact ih0 _ _ _ _ _ _ _)
   | (with_reducible exact ih1 _ _ _ _ _ _ _ _)
   | (with_reducible exact ih2 _ _ _ _ _)
   | (with_reducible exact impl_SetRight.mono _ _ _)
   | (with_reducible exact impl_seenHas.mono _ _ _ _)
   | (with_reducible exact impl_seenJoin.mono _ _ _)
   | (with_reducible exact impl_seenOf.mono _ _ _)
   | (with_reducible exact impl_seenRight.mono _ _)
   | (with_reducible exact impl_sorted.mono _ _)
   | (with_reducible exact LeO.refl _)
   | (with_reducible exact LeO.none _)
   | (with_reducible refine LeO.ite ?_ ?_)
   | (with_reducible refine LeO.bind ?_ (fun _=>?_))
   | exact ih0 _ _ _ _ _ _ _
   | exact ih1 _ _ _ _ _ _ _ _
   | exact ih2 _ _ _ _ _
   | exact impl_SetRight.mono _ _ _
   | exact impl_seenHas.mono _ _ _ _
   | exact impl_seenJoin.mono _ _ _
   | exact impl_seenOf.mono _ _ _
   | exact impl_seenRight.mono _ _
   | exact impl_sorted.mono _ _
   | exact LeO.none _
   | refine LeO.ite ?_ ?_
   | refine LeO.bind ?_ (fun _=>?_)
  ·intro y0 y1 y2 y3 y4 y5 y6 y7
   unfold impl_setPut.l0
   repeat' first
   | (with_reducible exact ih0 _ _ _ _ _ _ _)
   | (with_reducible exact ih1 _ _ _ _ _ _ _ _)
   | (with_reducible exact ih2 _ _ _ _ _)
   | (with_reducible exact impl_SetRight.mono _ _ _)
   | (with_reducible exact impl_seenHas.mono _ _ _ _)
   | (with_reducible exact impl_seenJoin.mono _ _ _)
   | (with_reducible exact impl_seenOf.mono _ _ _)
   | (with_reducible exact impl_seenRight.mono _ _)
   | (with_reducible exact impl_sorted.mono _ _)
   | (with_reducible exact LeO.refl _)
   | (with_reducible exact LeO.none _)
   | (with_reducible refine LeO.ite ?_ ?_)
   | (with_reducible refine LeO.bind ?_ (fun _=>?_))
   | exact ih0 _ _ _ _ _ _ _
   | exact ih1 _ _ _ _ _ _ _ _
   | exact ih2 _ _ _ _ _
   | exact impl_SetRight.mono _ _ _
   | exact impl_seenHas.mono _ _ _ _
   | exact impl_seenJoin.mono _ _ _
   | exact impl_seenOf.mono _ _ _
   | exact impl_seenRight.mono _ _
   | exact impl_sorted.mono _ _
   | exact LeO.none _
   | refine LeO.ite ?_ ?_
   | refine LeO.bind ?_ (fun _=>?_)
  ·intro y0 y1 y2 y3 y4
   unfold impl_setPut.j2
   repeat' first
   | (with_reducible exact ih0 _ _ _ _ _ _ _)
   | (with_reducible exact ih1 _ _ _ _ _ _ _ _)
   | (with_reducible exact ih2 _ _ _ _ _)
   | (with_reducible exact impl_SetRight.mono _ _ _)
   | (with_reducible exact impl_seenHas.mono _ _ _ _)
   | (with_reducible exact impl_seenJoin.mono _ _ _)
   | (with_reducible exact impl_seenOf.mono _ _ _)
   | (with_reducible exact impl_seenRight.mono _ _)
   | (with_reducible exact impl_sorted.mono _ _)
   | (with_reducible exact LeO.refl _)
   | (with_reducible exact LeO.none _)
   | (with_reducible refine LeO.ite ?_ ?_)
   | (with_reducible refine LeO.bind ?_ (fun _=>?_))
   | exact ih0 _ _ _ _ _ _ _
   | exact ih1 _ _ _ _ _ _ _ _
   | exact ih2 _ _ _ _ _
   | exact impl_SetRight.mono _ _ _
   | exact impl_seenHas.mono _ _ _ _
   | exact impl_seenJoin.mono _ _ _
   | exact impl_seenOf.mono _ _ _
   | exact impl_seenRight.mono _ _
   | exact impl_sorted.mono _ _
   | exact LeO.none _
   | refine LeO.ite ?_ ?_
   | refine LeO.bind ?_ (fun _=>?_)
theorem impl_setPut.mono:∀ a0 a1 a2 a3 a4 a5 k,LeO (impl_setPut.f k a0 a1 a2 a3 a4 a5) (impl_setPut.f (k+1) a0 a1 a2 a3 a4 a5):=by
 intro a0 a1 a2 a3 a4 a5 k
 obtain ⟨ih0,ih1,ih2⟩:=impl_setPut.mono_l k
 unfold impl_setPut.f
 repeat' first
   | (with_reducible exact ih0 _ _ _ _ _ _ _)
   | (with_reducible exact ih1 _ _ _ _ _ _ _ _)
   | (with_reducible exact ih2 _ _ _ _ _)
   | (with_reducible exact impl_SetRight.mono _ _ _)
   | (with_reducible exact impl_seenHas.mono _ _ _ _)
   | (with_reducible exact impl_seenJoin.mono _ _ _)
   | (with_reducible exact impl_seenOf.mono _ _ _)
   | (with_reducible exact impl_seenRight.mono _ _)
   | (with_reducible exact impl_sorted.mono _ _)
   | (with_reducible exact LeO.refl _)
   | (with_reducible exact LeO.none _)
   | (with_reducible refine LeO.ite ?_ ?_)
   | (with_reducible refine LeO.bind ?_ (fun _=>?_))
   | exact ih0 _ _ _ _ _ _ _
   | exact ih1 _ _ _ _ _ _ _ _
   | exact ih2 _ _ _ _ _
   | exact impl_SetRight.mono _ _ _
   | exact impl_seenHas.mono _ _ _ _
   | exact impl_seenJoin.mono _ _ _
   | exact impl_seenOf.mono _ _ _
   | exact impl_seenRight.mono _ _
   | exact impl_sorted.mono _ _
   | exact LeO.none _
   | refine LeO.ite ?_ ?_
   | refine LeO.bind ?_ (fun _=>?_)
def impl_setPut.T14:Bool × List (List Nat × List Nat):=(true,[([],[]),([],[]),([1],[1]),([0,2],[0,2]),([],[]),([4],[4]),([5,3],[5]),([0,1,2,3,4,5],[]),([7,3,6,0,1,2,3,4,5],[3,7]),([0,1,2,3,4,5,6,7,8],[]),([9,6,8,0,1,2,3,4,5,6,7,8],[6,9])])
def impl_setPut.B14:List Nat:=[0,0,2,7,0,16,63,63,255,511,1023]
theorem impl_setPut.tab14:rtab .any (opsOf Try.f77 14)=impl_setPut.T14:=by kernel_rfl
theorem impl_setPut.bits14:waitsOk impl_setPut.T14.2 impl_setPut.B14=true:=by kernel_rfl
set_option maxHeartbeats 8000000 in
set_option maxRecDepth 100000 in
theorem impl_setPut.calls (k:Nat) (A0_0:Option Addr) (c0_0:Nat) (l0_0:List (S56)) (A0_1:Option Addr) (c0_1:Nat) (l0_1:List (S91)) (A1:Option Addr) (c1:Nat) (l1:List (S56)) (a2:Int) (a3:ByteArray) (a4:Bool) (r1:List (S56)) (r2:List (S91)) (r3:Int) (r4:Int) (r5:Int) (w:World) (hr0_0:Kd.C k56 w A0_0 l0_0.length l0_0) (hc0_0:l0_0.length≤c0_0) (hr0_1:Kd.C k91 w A0_1 l0_1.length l0_1) (hc0_1:l0_1.length≤c0_1) (hr1:Kd.C k56 w A1 l1.length l1) (hc1:l1.length≤c1) (h:impl_setPut.f k l0_0 l0_1 l1 a2 a3 a4=some (r1,r2,r3,r4,r5)) :
  Calls Try.prog 77 #[.agg #[.slice A0_0 l0_0.length c0_0,.slice A0_1 l0_1.length c0_1],.slice A1 l1.length c1,.int .i64 a2,.string a3,.bool a4] w fun e w'=>∃ v0_ v1_:Value,e = .returned (.agg #[v0_,v1_,.int .i64 r3,.int .i64 r4,.int .i64 r5])∧Kd.R k56 56 w' w.heap.size (fun _=>True) v0_ r1∧Kd.R k91 91 w' w.heap.size (fun _=>True) v1_ r2∧Below w.heap.size w w':=by
 have hu40:=Try.underlying40
 have hu58:=Try.underlying58
 have hu56:=Try.underlying56
 have hu91:=Try.underlying91
 have HR0_0:=Aside0.mk hr0_0
 have HC0_0:=Aside0.mk hc0_0
 clear hr0_0 hc0_0
 have HR0_1:=Aside0.mk hr0_1
 have HC0_1:=Aside0.mk hc0_1
 clear hr0_1 hc0_1
 have HR1:=Aside0.mk hr1
 have HC1:=Aside0.mk hc1
 clear hr1 hc1
 have HB:=Aside0.mk (Below.refl w.heap.size w)
 have H:((impl_SetRight.f k l0_0 l0_1).bind fun t831=>(if t831=true then ((impl_seenRight.f k l1).bind fun t832=>(if t832=true then ((impl_isNode.f a2).bind fun t833=>(if t833=true then ((impl_isData.f a3 a4).bind fun t834=>(impl_setPut.j0 k l1 a2 a3 a4 (!t834) l0_0 l0_1)) else (impl_setPut.j0 k l1 a2 a3 a4 true l0_0 l0_1))) else (impl_setPut.j0 k l1 a2 a3 a4 true l0_0 l0_1))) else (impl_setPut.j0 k l1 a2 a3 a4 true l0_0 l0_1)))=some (r1,r2,r3,r4,r5):=h
 clear h
 have HC6:=Aside0.mk H
 clear H
 go_enter Try.func77,Try.ntmps77
 go_upto_region 1 with (first | ((with_reducible refine gd_ 5 ?_);(try (refine gate_guard (by rfl) ?_;dsimp only));refine be_ 5 #[.slice A0_0 l0_0.length c0_0,.slice A0_1 l0_1.length c0_1] 40 ?_;intro gb829 hg w7 hbox hb;refine as4_ (below_step (z3_ HB.out) hb) (hbox) ((z7_ HB.out:w.heap.size≤gb829)) ((z7_ HB.out:w.heap.size≤gb829)) ?_;clear HB;intro HB BK829 GW829 GE829;clear hb hbox hg) | ((with_reducible refine gd_ 10 ?_);(try (refine gate_guard (by rfl) ?_;dsimp only));refine be_ 10 #[.slice none 0 0,.slice none 0 0,.int .i64 0,.int .i64 0,.int .i64 0] 58 ?_;intro gb830 hg w8 hbox hb;refine as7_ (blkB_ BK829.out hb) (below_step (z6_ HB.out GE829.out) hb) (hbox) ((z9_ HB.out GE829.out:w.heap.size≤gb830)) ((z9_ HB.out GE829.out:w.heap.size≤gb830)) (neL_ BK829.out hg) (neG_ BK829.out hg) ?_;clear BK829 HB;intro BK829 HB BK830 GW830 GE830 NB829_830 NB830_829;clear hb hbox hg))
 (try simp only [Act.put,sa_,s0_,ss_])
 go_cut [34] (fun v34 wc=>∃ (kq:Nat) (x34_5:Bool),v34 = .bool x34_5∧Aside0 (impl_setPut.j0 kq l1 a2 a3 a4 x34_5 l0_0 l0_1=some (r1,r2,r3,r4,r5))∧Aside0 (kq≤k)∧Aside0 (wc.heap[gb829]? = some (.cells #[(.slice A0_0 l0_0.length c0_0),(.slice A0_1 l0_1.length c0_1)] 40 (0,0)))∧Aside0 (wc.heap[gb830]? = some (.cells #[(.slice none 0 0),(.slice none 0 0),.int .i64 0,.int .i64 0,.int .i64 0] 58 (0,0)))∧Aside0 (Below w.heap.size w wc))
 case first =>
  have H:=HC6.out
  clear HC6
  replace H:=Option.bind_eq_some_iff.mp H
  obtain ⟨t831,A90,H⟩:=H
  replace H:(if t831=true then ((impl_seenRight.f k l1).bind fun t832=>(if t832=true then ((impl_isNode.f a2).bind fun t833=>(if t833=true then ((impl_isData.f a3 a4).bind fun t834=>(impl_setPut.j0 k l1 a2 a3 a4 (!t834) l0_0 l0_1)) else (impl_setPut.j0 k l1 a2 a3 a4 true l0_0 l0_1))) else (impl_setPut.j0 k l1 a2 a3 a4 true l0_0 l0_1))) else (impl_setPut.j0 k l1 a2 a3 a4 true l0_0 l0_1))=some (r1,r2,r3,r4,r5):=H
  have A9:=Aside0.mk A90
  clear A90
  by_cases c10:t831=true
  ·subst c10
   have H1:((impl_seenRight.f k l1).bind fun t832=>(if t832=true then ((impl_isNode.f a2).bind fun t833=>(if t833=true then ((impl_isData.f a3 a4).bind fun t834=>(impl_setPut.j0 k l1 a2 a3 a4 (!t834) l0_0 l0_1)) else (impl_setPut.j0 k l1 a2 a3 a4 true l0_0 l0_1))) else (impl_setPut.j0 k l1 a2 a3 a4 true l0_0 l0_1)))=some (r1,r2,r3,r4,r5):=by rw [if_pos rfl] at H;exact H
   clear H
   have H:=H1
   clear H1
   replace H:=Option.bind_eq_some_iff.mp H
   obtain ⟨t832,A110,H⟩:=H
   replace H:(if t832=true then ((impl_isNode.f a2).bind fun t833=>(if t833=true then ((impl_isData.f a3 a4).bind fun t834=>(impl_setPut.j0 k l1 a2 a3 a4 (!t834) l0_0 l0_1)) else (impl_setPut.j0 k l1 a2 a3 a4 true l0_0 l0_1))) else (impl_setPut.j0 k l1 a2 a3 a4 true l0_0 l0_1))=some (r1,r2,r3,r4,r5):=H
   have A11:=Aside0.mk A110
   clear A110
   by_cases c12:t832=true
   ·subst c12
    have H1:((impl_isNode.f a2).bind fun t833=>(if t833=true then ((impl_isData.f a3 a4).bind fun t834=>(impl_setPut.j0 k l1 a2 a3 a4 (!t834) l0_0 l0_1)) else (impl_setPut.j0 k l1 a2 a3 a4 true l0_0 l0_1)))=some (r1,r2,r3,r4,r5):=by rw [if_pos rfl] at H;exact H
    clear H
    have H:=H1
    clear H1
    replace H:=Option.bind_eq_some_iff.mp H
    obtain ⟨t833,A130,H⟩:=H
    replace H:(if t833=true then ((impl_isData.f a3 a4).bind fun t834=>(impl_setPut.j0 k l1 a2 a3 a4 (!t834) l0_0 l0_1)) else (impl_setPut.j0 k l1 a2 a3 a4 true l0_0 l0_1))=some (r1,r2,r3,r4,r5):=H
    have A13:=Aside0.mk A130
    clear A130
    by_cases c14:t833=true
    ·subst c14
     have H1:((impl_isData.f a3 a4).bind fun t834=>(impl_setPut.j0 k l1 a2 a3 a4 (!t834) l0_0 l0_1))=some (r1,r2,r3,r4,r5):=by rw [if_pos rfl] at H;exact H
     clear H
     have H:=H1
     clear H1
     replace H:=Option.bind_eq_some_iff.mp H
     obtain ⟨t834,A150,H⟩:=H
     replace H:(impl_setPut.j0 k l1 a2 a3 a4 (!t834) l0_0 l0_1)=some (r1,r2,r3,r4,r5):=H
     have A15:=Aside0.mk A150
     clear A150
     have H':=Aside0.mk H
     clear H
     have hnb16:=NB829_830.out
     have hnc16:=NB830_829.out
     have ⟨hcz17_0,hcz17_1,hfz17_0,hfz17_1⟩:=cz2_ BK829.out
     go_wp2_with (first | ((with_reducible refine gc_ 56 ?_);refine gl_ (some 17) Try.func56 #[.agg #[.slice A0_0 l0_0.length c0_0,.slice A0_1 l0_1.length c0_1]] ?_;(with_reducible refine (impl_SetRight.calls k _ _ l0_0 _ _ l0_1 true _ ?s1 ?s2 ?s3 ?s4 A9.out).mono ?_);(case s1=>repeat (first | exact (Kd.C_below HR0_0.out HB.out) | (with_reducible refine Kd.C_alloc ?_ _) | (with_reducible refine Kd.C_drewN ?_ _) | (with_reducible refine Kd.C_drew ?_)));(case s2=>exact HC0_0.out);(case s3=>repeat (first | exact (Kd.C_below HR0_1.out HB.out) | (with_reducible refine Kd.C_alloc ?_ _) | (with_reducible refine Kd.C_drewN ?_ _) | (with_reducible refine Kd.C_drew ?_)));(case s4=>exact HC0_1.out);rintro e w18 ⟨rfl,hb⟩;refine ⟨_,rfl,?_⟩;refine as3_ (blkB_ BK829.out hb) (blkB_ BK830.out hb) (below_step (z4_ HB.out GE829.out GE830.out) hb) ?_;clear BK829 BK830 HB;intro BK829 BK830 HB;(try clear hb)) | (go_at_call 87;(with_reducible refine (impl_seenRight.calls k _ _ l1 true _ ?s1 ?s2 A11.out).mono ?_);(case s1=>repeat (first | exact (Kd.C_below HR1.out HB.out) | (with_reducible refine Kd.C_alloc ?_ _) | (with_reducible refine Kd.C_drewN ?_ _) | (with_reducible refine Kd.C_drew ?_)));(case s2=>exact HC1.out);rintro e w19 ⟨rfl,hb⟩;refine as3_ (blkB_ BK829.out hb) (blkB_ BK830.out hb) (below_step (z4_ HB.out GE829.out GE830.out) hb) ?_;clear BK829 BK830 HB;intro BK829 BK830 HB;(try clear hb)) | (go_at_call 86;(with_reducible refine (impl_isNode.calls a2 true _ A13.out).mono ?_);rintro e w' ⟨rfl,⟨nd,rfl⟩⟩) | (go_at_call 89;(with_reducible refine (impl_isData.calls a3 a4 t834 _ A15.out).mono ?_);rintro e w' ⟨rfl,⟨nd,rfl⟩⟩))
     go_meet
     case rel=>exact ⟨_,(!t834),(z2_),H',⟨by first | omega | exact Nat.le_refl _⟩,⟨z5_ BK829.out⟩,⟨z5_ BK830.out⟩,⟨z4_ HB.out GE829.out GE830.out⟩⟩
    ·replace c14:=Bool.eq_false_iff.mpr c14
     subst c14
     have H1:(impl_setPut.j0 k l1 a2 a3 a4 true l0_0 l0_1)=some (r1,r2,r3,r4,r5):=by rw [if_neg (show ¬ (false=true) by decide)] at H;exact H
     clear H
     have H:=H1
     clear H1
     have H':=Aside0.mk H
     clear H
     have hnb20:=NB829_830.out
     have hnc20:=NB830_829.out
     have ⟨hcz21_0,hcz21_1,hfz21_0,hfz21_1⟩:=cz2_ BK829.out
     go_wp2_with (first | ((with_reducible refine gc_ 56 ?_);refine gl_ (some 17) Try.func56 #[.agg #[.slice A0_0 l0_0.length c0_0,.slice A0_1 l0_1.length c0_1]] ?_;(with_reducible refine (impl_SetRight.calls k _ _ l0_0 _ _ l0_1 true _ ?s1 ?s2 ?s3 ?s4 A9.out).mono ?_);(case s1=>repeat (first | exact (Kd.C_below HR0_0.out HB.out) | (with_reducible refine Kd.C_alloc ?_ _) | (with_reducible refine Kd.C_drewN ?_ _) | (with_reducible refine Kd.C_drew ?_)));(case s2=>exact HC0_0.out);(case s3=>repeat (first | exact (Kd.C_below HR0_1.out HB.out) | (with_reducible refine Kd.C_alloc ?_ _) | (with_reducible refine Kd.C_drewN ?_ _) | (with_reducible refine Kd.C_drew ?_)));(case s4=>exact HC0_1.out);rintro e w22 ⟨rfl,hb⟩;refine ⟨_,rfl,?_⟩;refine as3_ (blkB_ BK829.out hb) (blkB_ BK830.out hb) (below_step (z4_ HB.out GE829.out GE830.out) hb) ?_;clear BK829 BK830 HB;intro BK829 BK830 HB;(try clear hb)) | (go_at_call 87;(with_reducible refine (impl_seenRight.calls k _ _ l1 true _ ?s1 ?s2 A11.out).mono ?_);(case s1=>repeat (first | exact (Kd.C_below HR1.out HB.out) | (with_reducible refine Kd.C_alloc ?_ _) | (with_reducible refine Kd.C_drewN ?_ _) | (with_reducible refine Kd.C_drew ?_)));(case s2=>exact HC1.out);rintro e w23 ⟨rfl,hb⟩;refine as3_ (blkB_ BK829.out hb) (blkB_ BK830.out hb) (below_step (z4_ HB.out GE829.out GE830.out) hb) ?_;clear BK829 BK830 HB;intro BK829 BK830 HB;(try clear hb)) | (go_at_call 86;(with_reducible refine (impl_isNode.calls a2 false _ A13.out).mono ?_);rintro e w' ⟨rfl,⟨nd,rfl⟩⟩))
     go_meet
     case rel=>exact ⟨_,(true),(z2_),H',⟨by first | omega | exact Nat.le_refl _⟩,⟨z5_ BK829.out⟩,⟨z5_ BK830.out⟩,⟨z4_ HB.out GE829.out GE830.out⟩⟩
   ·replace c12:=Bool.eq_false_iff.mpr c12
    subst c12
    have H1:(impl_setPut.j0 k l1 a2 a3 a4 true l0_0 l0_1)=some (r1,r2,r3,r4,r5):=by rw [if_neg (show ¬ (false=true) by decide)] at H;exact H
    clear H
    have H:=H1
    clear H1
    have H':=Aside0.mk H
    clear H
    have hnb24:=NB829_830.out
    have hnc24:=NB830_829.out
    have ⟨hcz25_0,hcz25_1,hfz25_0,hfz25_1⟩:=cz2_ BK829.out
    go_wp2_with (first | ((with_reducible refine gc_ 56 ?_);refine gl_ (some 17) Try.func56 #[.agg #[.slice A0_0 l0_0.length c0_0,.slice A0_1 l0_1.length c0_1]] ?_;(with_reducible refine (impl_SetRight.calls k _ _ l0_0 _ _ l0_1 true _ ?s1 ?s2 ?s3 ?s4 A9.out).mono ?_);(case s1=>repeat (first | exact (Kd.C_below HR0_0.out HB.out) | (with_reducible refine Kd.C_alloc ?_ _) | (with_reducible refine Kd.C_drewN ?_ _) | (with_reducible refine Kd.C_drew ?_)));(case s2=>exact HC0_0.out);(case s3=>repeat (first | exact (Kd.C_below HR0_1.out HB.out) | (with_reducible refine Kd.C_alloc ?_ _) | (with_reducible refine Kd.C_drewN ?_ _) | (with_reducible refine Kd.C_drew ?_)));(case s4=>exact HC0_1.out);rintro e w26 ⟨rfl,hb⟩;refine ⟨_,rfl,?_⟩;refine as3_ (blkB_ BK829.out hb) (blkB_ BK830.out hb) (below_step (z4_ HB.out GE829.out GE830.out) hb) ?_;clear BK829 BK830 HB;intro BK829 BK830 HB;(try clear hb)) | (go_at_call 87;(with_reducible refine (impl_seenRight.calls k _ _ l1 false _ ?s1 ?s2 A11.out).mono ?_);(case s1=>repeat (first | exact (Kd.C_below HR1.out HB.out) | (with_reducible refine Kd.C_alloc ?_ _) | (with_reducible refine Kd.C_drewN ?_ _) | (with_reducible refine Kd.C_drew ?_)));(case s2=>exact HC1.out);rintro e w27 ⟨rfl,hb⟩;refine as3_ (blkB_ BK829.out hb) (blkB_ BK830.out hb) (below_step (z4_ HB.out GE829.out GE830.out) hb) ?_;clear BK829 BK830 HB;intro BK829 BK830 HB;(try clear hb)))
    go_meet
    case rel=>exact ⟨_,(true),(z2_),H',⟨by first | omega | exact Nat.le_refl _⟩,⟨z5_ BK829.out⟩,⟨z5_ BK830.out⟩,⟨z4_ HB.out GE829.out GE830.out⟩⟩
  ·replace c10:=Bool.eq_false_iff.mpr c10
   subst c10
   have H1:(impl_setPut.j0 k l1 a2 a3 a4 true l0_0 l0_1)=some (r1,r2,r3,r4,r5):=by rw [if_neg (show ¬ (false=true) by decide)] at H;exact H
   clear H
   have H:=H1
   clear H1
   have H':=Aside0.mk H
   clear H
   have hnb28:=NB829_830.out
   have hnc28:=NB830_829.out
   have ⟨hcz29_0,hcz29_1,hfz29_0,hfz29_1⟩:=cz2_ BK829.out
   go_wp2_with (first | ((with_reducible refine gc_ 56 ?_);refine gl_ (some 17) Try.func56 #[.agg #[.slice A0_0 l0_0.length c0_0,.slice A0_1 l0_1.length c0_1]] ?_;(with_reducible refine (impl_SetRight.calls k _ _ l0_0 _ _ l0_1 false _ ?s1 ?s2 ?s3 ?s4 A9.out).mono ?_);(case s1=>repeat (first | exact (Kd.C_below HR0_0.out HB.out) | (with_reducible refine Kd.C_alloc ?_ _) | (with_reducible refine Kd.C_drewN ?_ _) | (with_reducible refine Kd.C_drew ?_)));(case s2=>exact HC0_0.out);(case s3=>repeat (first | exact (Kd.C_below HR0_1.out HB.out) | (with_reducible refine Kd.C_alloc ?_ _) | (with_reducible refine Kd.C_drewN ?_ _) | (with_reducible refine Kd.C_drew ?_)));(case s4=>exact HC0_1.out);rintro e w30 ⟨rfl,hb⟩;refine ⟨_,rfl,?_⟩;refine as3_ (blkB_ BK829.out hb) (blkB_ BK830.out hb) (below_step (z4_ HB.out GE829.out GE830.out) hb) ?_;clear BK829 BK830 HB;intro BK829 BK830 HB;(try clear hb)))
   go_meet
   case rel=>exact ⟨_,(true),(z2_),H',⟨by first | omega | exact Nat.le_refl _⟩,⟨z5_ BK829.out⟩,⟨z5_ BK830.out⟩,⟨z4_ HB.out GE829.out GE830.out⟩⟩
 case rest =>
  clear HC6
  try clear c1
  try clear c2
  try clear p2
  try clear c5
  try clear c7
  try clear c10
  try clear c12
  try clear c14
  try clear c16
  try clear c20
  try clear c24
  try clear c28
  try clear hcz17_0
  try clear hcz17_1
  try clear hcz21_0
  try clear hcz21_1
  try clear hcz25_0
  try clear hcz25_1
  try clear hcz29_0
  try clear hcz29_1
  try clear hfz17_0
  try clear hfz17_1
  try clear hfz21_0
  try clear hfz21_1
  try clear hfz25_0
  try clear hfz25_1
  try clear hfz29_0
  try clear hfz29_1
  obtain ⟨kq,x34_5,rfl,HA,HJ5,BK829,BK830,HB⟩:=hcut
  cases kq with
  | zero=>exact absurd HA.out (by simp [impl_setPut.j0])
  | succ kj5 =>
   have H:=HA.out
   clear HA
   simp only [impl_setPut.j0] at H
   by_cases c31:x34_5=true
   ·subst c31
    have H1:(some (([]:List (S56)),([]:List (S91)),0,0,1))=some (r1,r2,r3,r4,r5):=by rw [if_pos rfl] at H;exact H
    clear H
    have H:=H1
    clear H1
    simp only [Option.some.injEq,Prod.mk.injEq] at H
    obtain ⟨rfl,rfl,rfl,rfl,rfl⟩:=H
    have hnb32:=NB830_829.out
    have hnc32:=NB829_830.out
    have ⟨hcz33_0,hcz33_1,hcz33_2,hcz33_3,hcz33_4,hfz33_0,hfz33_1,hfz33_2,hfz33_3,hfz33_4⟩:=cz5_ BK830.out
    go_wp2
    refine bodyPost_ret (results_cell_row rfl _ _ gb830 58 #[.slice none 0 0,.slice none 0 0,.int .i64 0,.int .i64 0,.int .i64 1] (0,0) _ rfl (z24_ BK830.out) Try.underlying58 rfl (by kernel_rfl)) rfl ?_
    exact ⟨_,_,z8_,z26_,z26_,z4_ HB.out GE829.out GE830.out⟩
   ·replace c31:=Bool.eq_false_iff.mpr c31
    subst c31
    have H1:((impl_seenJoin.f kj5 l0_0 l1).bind fun t835=>((impl_seenOf.f kj5 t835 a2).bind fun t838=>(impl_setPut.l0 kj5 l1 t835 l0_1 (l0_1.length:Int) 0 a2 (wrap64 (t838+1)) (([(⟨(⟨a2,wrap64 (t838+1)⟩:S56),a4,a3⟩:S91)]:List (S91))))))=some (r1,r2,r3,r4,r5):=by rw [if_neg (show ¬ (false=true) by decide)] at H;exact H
    clear H
    have H:=H1
    clear H1
    replace H:=Option.bind_eq_some_iff.mp H
    obtain ⟨t835,A340,H⟩:=H
    replace H:((impl_seenOf.f kj5 t835 a2).bind fun t838=>(impl_setPut.l0 kj5 l1 t835 l0_1 (l0_1.length:Int) 0 a2 (wrap64 (t838+1)) (([(⟨(⟨a2,wrap64 (t838+1)⟩:S56),a4,a3⟩:S91)]:List (S91)))))=some (r1,r2,r3,r4,r5):=H
    have A34:=Aside0.mk A340
    clear A340
    replace H:=Option.bind_eq_some_iff.mp H
    obtain ⟨t838,A350,H⟩:=H
    replace H:(impl_setPut.l0 kj5 l1 t835 l0_1 (l0_1.length:Int) 0 a2 (wrap64 (t838+1)) (([(⟨(⟨a2,wrap64 (t838+1)⟩:S56),a4,a3⟩:S91)]:List (S91))))=some (r1,r2,r3,r4,r5):=H
    have A35:=Aside0.mk A350
    clear A350
    obtain ⟨y840,hy840⟩:∃ y_:List (S91),y_=(([(⟨(⟨a2,wrap64 (t838+1)⟩:S56),a4,a3⟩:S91)]:List (S91))):=⟨_,rfl⟩
    replace H:(impl_setPut.l0 kj5 l1 t835 l0_1 (l0_1.length:Int) 0 a2 (wrap64 (t838+1)) y840)=some (r1,r2,r3,r4,r5):=by first | (rw [hy840];with_reducible exact H) | (have H2_:=(Option.bind_some _ _).symm.trans H;rw [hy840];with_reducible exact H2_) | (have H2_:=(Option.bind_some _ _).symm.trans H;with_reducible exact H2_) | with_reducible exact H | (rw [hy840];exact H) | exact H
    have Ny840:=Aside0.mk hy840
    clear hy840
    have H':=Aside0.mk H
    clear H
    have hnb36:=NB829_830.out
    have hnc36:=NB830_829.out
    have ⟨hcz37_0,hcz37_1,hfz37_0,hfz37_1⟩:=cz2_ BK829.out
    go_wp2_with (first | ((with_reducible refine gc_ 62 ?_);refine gl_ (some 39) Try.func62 #[.slice A0_0 l0_0.length c0_0,.slice A1 l1.length c1] ?_;(with_reducible refine (impl_seenJoin.calls kj5 _ _ l0_0 _ _ l1 t835 _ ?s1 ?s2 ?s3 ?s4 A34.out).mono ?_);(case s1=>repeat (first | exact (Kd.C_below HR0_0.out HB.out) | (with_reducible refine Kd.C_alloc ?_ _) | (with_reducible refine Kd.C_drewN ?_ _) | (with_reducible refine Kd.C_drew ?_)));(case s2=>exact HC0_0.out);(case s3=>repeat (first | exact (Kd.C_below HR1.out HB.out) | (with_reducible refine Kd.C_alloc ?_ _) | (with_reducible refine Kd.C_drewN ?_ _) | (with_reducible refine Kd.C_drew ?_)));(case s4=>exact HC1.out);rintro e w38 ⟨v836,rfl,ho0,hb⟩;refine ⟨_,rfl,?_⟩;refine as4_ (Kd.R_lower ho0 (below_size (z4_ HB.out GE829.out GE830.out))) (blkB_ BK829.out hb) (blkB_ BK830.out hb) (below_step (z4_ HB.out GE829.out GE830.out) hb) ?_;clear BK829 BK830 HB;intro HO837 BK829 BK830 HB;(try clear hb);(try clear ho0);obtain ⟨Ao39,co39,eo39⟩:=Kd.R_slice HO837.out;subst eo39) | ((with_reducible refine gc_ 94 ?_);refine gl_ (some 43) Try.func94 #[.slice Ao39 t835.length co39,.int .i64 a2] ?_;(with_reducible refine (impl_seenOf.calls kj5 _ _ t835 a2 t838 _ ?s1 ?s2 A35.out).mono ?_);(case s1=>repeat (first | exact (Kd.R_reads' HO837.out).2.2 | (with_reducible refine Kd.C_alloc ?_ _) | (with_reducible refine Kd.C_drewN ?_ _) | (with_reducible refine Kd.C_drew ?_)));(case s2=>exact (Kd.R_reads' HO837.out).2.1);rintro e w40 ⟨rfl,hb⟩;refine ⟨_,rfl,?_⟩;refine as4_ (Kd.R_below (z0_ HO837.out) hb) (blkB_ BK829.out hb) (blkB_ BK830.out hb) (below_step (z4_ HB.out GE829.out GE830.out) hb) ?_;clear HO837 BK829 BK830 HB;intro HO837 BK829 BK830 HB;(try clear hb)) | ((with_reducible refine gd_ 12 ?_);(try (refine gate_guard (by rfl) ?_;dsimp only));refine be_ 12 #[.int .i64 0,.int .i64 0] 56 ?_;intro gb839 hg w41 hbox hb;refine as11_ (Kd.R_below (Kd.R_elderB (z0_ HO837.out) gb839 (Nat.le_of_eq hg.symm)) hb) (blkB_ BK829.out hb) (blkB_ BK830.out hb) (below_step (z4_ HB.out GE829.out GE830.out) hb) (hbox) ((z20_ HB.out GE829.out GE830.out:w.heap.size≤gb839)) ((z20_ HB.out GE829.out GE830.out:w.heap.size≤gb839)) (neL_ BK829.out hg) (neG_ BK829.out hg) (neL_ BK830.out hg) (neG_ BK830.out hg) ?_;clear HO837 BK829 BK830 HB;intro HO837 BK829 BK830 HB BK839 GW839 GE839 NB829_839 NB839_829 NB830_839 NB839_830;clear hb hbox hg;have hnb42:=NB839_829.out;have hnc42:=NB829_839.out;have hnb43:=NB839_830.out;have hnc43:=NB830_839.out;have ⟨hcz44_0,hcz44_1,hfz44_0,hfz44_1⟩:=cz2_ BK839.out) | ((with_reducible refine gd_ 50 ?_);(try (refine gate_guard (by rfl) ?_;dsimp only));refine Kd.R_lit k91 _ 91 ?hg (N:=50) ?hd (xs:=([(⟨(⟨a2,wrap64 (t838+1)⟩:S56),a4,a3⟩:S91)]:List (S91))) (inner:=[.int .i64 a2,.int .i64 (wrap64 (t838+1)),.bool a4,.string a3]) (ok:=fun _=>True) (okp:=fun _=>True) ?hr ?hp (fun _ hk=>hk) trivial (Below.refl _ _) (Nat.le_refl _) (by simp) ?_;(case hd=>rfl);(case hg=>rfl);(case hr=>first | (go_simp;done) | (go_simp;rfl));(case hp=>exact (Reps.c4 (show Kd.M k91 _ _ _ (⟨(⟨a2,wrap64 (t838+1)⟩:S56),a4,a3⟩:S91) [.int .i64 a2,.int .i64 (wrap64 (t838+1)),.bool a4,.string a3] from (k91_mkM _ _ _ (⟨(⟨a2,wrap64 (t838+1)⟩:S56),a4,a3⟩:S91) )) (Reps.none _ _)));intro v841 w45 ho46 hb hg_ hnew_;clear hg_ hnew_;(first | rw [← Ny840.out] at ho46 | (simp only [Int.reduceToNat] at ho46;rw [← Ny840.out] at ho46));refine as6_ (Kd.R_below (by (with_reducible repeat (first | apply Kd.R_alloc | apply Kd.R_drewN | apply Kd.R_drew));exact (Kd.R_mono (rf2_ (Kd.R_mono HO837.out (fun k_ hk=>(⟨hk,hk.2⟩:_∧k_≠gb839))) (fun _ hk=>hk.2)) (fun _ h_=>h_.1))) hb) (Kd.R_lower ho46 (below_size (z13_ HB.out GE829.out GE830.out GE839.out))) (blk_below (g:=gb829) (o:=.cells #[.slice A0_0 l0_0.length c0_0,.slice A0_1 l0_1.length c0_1] 40 (0,0)) (z18_ NB829_839.out BK829.out) hb) (blk_below (g:=gb830) (o:=.cells #[.slice none 0 0,.slice none 0 0,.int .i64 0,.int .i64 0,.int .i64 0] 58 (0,0)) (z18_ NB830_839.out BK830.out) hb) (blk_below (g:=gb839) (o:=.cells #[.int .i64 a2,.int .i64 (wrap64 (t838+1))] 56 (0,0)) (z21_ BK839.out) hb) (below_step (z13_ HB.out GE829.out GE830.out GE839.out) hb) ?_;clear HO837 BK829 BK830 BK839 HB;intro HO837 HO842 BK829 BK830 BK839 HB;clear hb ho46;obtain ⟨Ao47,co47,eo47⟩:=Kd.R_slice HO842.out;subst eo47) | ((with_reducible refine gd_ 13 ?_);(try (refine gate_guard (by rfl) ?_;dsimp only));refine be_ 13 #[.slice none 0 0,.slice none 0 0] 40 ?_;intro gb843 hg w48 hbox hb;refine as15_ (Kd.R_below (z0_ HO837.out) hb) (Kd.R_below (z0_ HO842.out) hb) (blkB_ BK829.out hb) (blkB_ BK830.out hb) (blkB_ BK839.out hb) (below_step (z13_ HB.out GE829.out GE830.out GE839.out) hb) (hbox) ((z30_ HB.out GE829.out GE830.out GE839.out:w.heap.size≤gb843)) ((z30_ HB.out GE829.out GE830.out GE839.out:w.heap.size≤gb843)) (neL_ BK829.out hg) (neG_ BK829.out hg) (neL_ BK830.out hg) (neG_ BK830.out hg) (neL_ BK839.out hg) (neG_ BK839.out hg) ?_;clear HO837 HO842 BK829 BK830 BK839 HB;intro HO837 HO842 BK829 BK830 BK839 HB BK843 GW843 GE843 NB829_843 NB843_829 NB830_843 NB843_830 NB839_843 NB843_839;clear hb hbox hg;have hnb49:=NB843_829.out;have hnc49:=NB829_843.out;have hnb50:=NB843_830.out;have hnc50:=NB830_843.out;have hnb51:=NB843_839.out;have hnc51:=NB839_843.out;have ⟨hcz52_0,hcz52_1,hfz52_0,hfz52_1⟩:=cz2_ BK843.out;have ⟨hcz53_0,hcz53_1,hfz53_0,hfz53_1⟩:=cz2_ BK829.out))
    go_loopg [55] kj5 (fun kq v55 w'=>∃ (x55_2:Int) (x844001_2:List (S91)) (u844001:Value),v55 = .int .i64 x55_2∧Aside0 (impl_setPut.l0 kq l1 t835 l0_1 (l0_1.length:Int) x55_2 a2 (wrap64 (t838+1)) x844001_2=some (r1,r2,r3,r4,r5))∧Aside0 (kq≤kj5)∧Aside0 (Kd.R k56 56 w' w.heap.size (fun k_=>k_≠gb839) (.slice Ao39 t835.length co39) t835)∧Aside0 (Kd.R k91 91 w' w.heap.size (fun _=>True) u844001 x844001_2)∧Aside0 (w'.heap[gb829]? = some (.cells #[(.slice A0_0 l0_0.length c0_0),(.slice A0_1 l0_1.length c0_1)] 40 (0,0)))∧Aside0 (w'.heap[gb830]? = some (.cells #[(.slice none 0 0),(.slice none 0 0),.int .i64 0,.int .i64 0,.int .i64 0] 58 (0,0)))∧Aside0 (w'.heap[gb839]? = some (.cells #[.int .i64 a2,.int .i64 (wrap64 (t838+1))] 56 (0,0)))∧Aside0 (w'.heap[gb843]? = some (.cells #[(.slice none 0 0),u844001] 40 (0,0)))∧Aside0 (Below w.heap.size w w'))
    case atStart=>exact ⟨(0),(y840),(.slice Ao47 y840.length co47),(z2_),H',⟨Nat.le_refl _⟩,⟨by (with_reducible repeat (first | apply Kd.R_alloc | apply Kd.R_drewN | apply Kd.R_drew));exact Kd.R_mono (rf2_ (Kd.R_types HO837.out BK843.out (by decide)) (fun _ hk=>hk.2)) (fun _ hk=>hk.1.2)⟩,⟨by (with_reducible repeat (first | apply Kd.R_alloc | apply Kd.R_drewN | apply Kd.R_drew));exact Kd.R_mono (rf2_ (Kd.R_types HO842.out BK843.out (by decide)) (fun _ hk=>hk.2)) (fun _ hk=>trivial)⟩,⟨z18_ NB829_843.out BK829.out⟩,⟨z18_ NB830_843.out BK830.out⟩,⟨z18_ NB839_843.out BK839.out⟩,⟨z21_ BK843.out⟩,⟨z10_ HB.out GE829.out GE830.out GE839.out GE843.out⟩⟩
    case round =>
     clear H'
     try clear c1
     try clear c2
     try clear p2
     try clear c3
     try clear c4
     try clear c5
     try clear c6
     try clear p6
     try clear c7
     try clear c9
     try clear c10
     try clear c12
     try clear c14
     try clear c16
     try clear c20
     try clear c24
     try clear c28
     try clear c31
     try clear c32
     try clear c36
     try clear c42
     try clear c43
     try clear c49
     try clear c50
     try clear c51
     try clear hcz17_0
     try clear hcz17_1
     try clear hcz21_0
     try clear hcz21_1
     try clear hcz25_0
     try clear hcz25_1
     try clear hcz29_0
     try clear hcz29_1
     try clear hcz33_0
     try clear hcz33_1
     try clear hcz33_2
     try clear hcz33_3
     try clear hcz33_4
     try clear hcz37_0
     try clear hcz37_1
     try clear hcz44_0
     try clear hcz44_1
     try clear hcz52_0
     try clear hcz52_1
     try clear hcz53_0
     try clear hcz53_1
     try clear hfz17_0
     try clear hfz17_1
     try clear hfz21_0
     try clear hfz21_1
     try clear hfz25_0
     try clear hfz25_1
     try clear hfz29_0
     try clear hfz29_1
     try clear hfz33_0
     try clear hfz33_1
     try clear hfz33_2
     try clear hfz33_3
     try clear hfz33_4
     try clear hfz37_0
     try clear hfz37_1
     try clear hfz44_0
     try clear hfz44_1
     try clear hfz52_0
     try clear hfz52_1
     try clear hfz53_0
     try clear hfz53_1
     try clear p2
     obtain ⟨x55_2,x844001_2,u844001,rfl,HA,HK2,HO_11,HO_844001,BK829,BK830,BK839,BK843,HB⟩:=hrel
     cases gk with
     | zero=>exact absurd HA.out (by simp [impl_setPut.l0])
     | succ k2 =>
      have H:=HA.out
      clear HA
      simp only [impl_setPut.l0] at H
      by_cases c54:x55_2<(l0_1.length:Int)
      ·rw [if_pos c54] at H
       have c54b0:decide (x55_2<(l0_1.length:Int))=true:=decide_eq_true c54
       clear c54
       by_cases c55:0≤x55_2
       ·rw [if_pos c55] at H
        have c55b0:decide (0≤x55_2)=true:=decide_eq_true c55
        clear c55
        by_cases c56:x55_2<(l0_1.length:Int)
        ·rw [if_pos c56] at H
         have c56b0:decide (x55_2<(l0_1.length:Int))=true:=decide_eq_true c56
         clear c56
         replace H:=Option.bind_eq_some_iff.mp H
         obtain ⟨t846,A570,H⟩:=H
         replace H:(if t846=true then (impl_setPut.l0 k2 l1 t835 l0_1 (l0_1.length:Int) (wrap64 (x55_2+1)) a2 (wrap64 (t838+1)) x844001_2) else (if x844001_2.length<3518437208883 then (impl_setPut.l0 k2 l1 t835 l0_1 (l0_1.length:Int) (wrap64 (x55_2+1)) a2 (wrap64 (t838+1)) (x844001_2 ++ [(⟨(⟨(rd_T91 l0_1 x55_2).f0.f0,(rd_T91 l0_1 x55_2).f0.f1⟩:S56),(rd_T91 l0_1 x55_2).f1,(rd_T91 l0_1 x55_2).f2⟩:S91)])) else (none)))=some (r1,r2,r3,r4,r5):=H
         have A57:=Aside0.mk A570
         clear A570
         by_cases c58:t846=true
         ·subst c58
          have H1:(impl_setPut.l0 k2 l1 t835 l0_1 (l0_1.length:Int) (wrap64 (x55_2+1)) a2 (wrap64 (t838+1)) x844001_2)=some (r1,r2,r3,r4,r5):=by rw [if_pos rfl] at H;exact H
          clear H
          have H:=H1
          clear H1
          have H':=Aside0.mk H
          clear H
          have p844:0≤(x55_2:Int):=of_decide_eq_true (z1_)
          have q844:x55_2<(l0_1.length:Int):=of_decide_eq_true (z1_)
          obtain ⟨ad844,e844,hx844_0,hx844_1,hx844_2,hx844_3⟩:=at_T91 HR0_1.out x55_2 p844 q844
          cases e844
          replace hx844_0:=(HB.out.cell (World.block_lt_of_cell? w _ hx844_0)).trans hx844_0
          replace hx844_1:=(HB.out.cell (World.block_lt_of_cell? w _ hx844_1)).trans hx844_1
          replace hx844_2:=(HB.out.cell (World.block_lt_of_cell? w _ hx844_2)).trans hx844_2
          replace hx844_3:=(HB.out.cell (World.block_lt_of_cell? w _ hx844_3)).trans hx844_3
          replace p844:=eq_true p844
          replace q844:=eq_true q844
          go_wp2_with (first | ((with_reducible refine gd_ 15 ?_);(try (refine gate_guard (by rfl) ?_;dsimp only));refine be_ 15 #[.int .i64 0,.int .i64 0,.bool false,.string (⟨#[]⟩:ByteArray)] 91 ?_;intro gb845 hg w59 hbox hb;refine as18_ (Kd.R_below (z0_ HO_11.out) hb) (Kd.R_below (Kd.R_elderB (z0_ HO_844001.out) gb845 (Nat.le_of_eq hg.symm)) hb) (blkB_ BK829.out hb) (blkB_ BK830.out hb) (blkB_ BK839.out hb) (blkB_ BK843.out hb) (below_step (z10_ HB.out GE829.out GE830.out GE839.out GE843.out) hb) (hbox) ((z34_ HB.out GE829.out GE830.out GE839.out GE843.out:w.heap.size≤gb845)) ((z34_ HB.out GE829.out GE830.out GE839.out GE843.out:w.heap.size≤gb845)) (neL_ BK829.out hg) (neG_ BK829.out hg) (neL_ BK830.out hg) (neG_ BK830.out hg) (neL_ BK839.out hg) (neG_ BK839.out hg) (neL_ BK843.out hg) (neG_ BK843.out hg) ?_;clear HO_11 HO_844001 BK829 BK830 BK839 BK843 HB;intro HO_11 HO_844001 BK829 BK830 BK839 BK843 HB BK845 GW845 GE845 NB829_845 NB845_829 NB830_845 NB845_830 NB839_845 NB845_839 NB843_845 NB845_843;clear hb hbox hg;have hnb60:=NB845_829.out;have hnc60:=NB829_845.out;have hnb61:=NB845_830.out;have hnc61:=NB830_845.out;have hnb62:=NB845_839.out;have hnc62:=NB839_845.out;have hnb63:=NB845_843.out;have hnc63:=NB843_845.out;have ⟨hcz64_0,hcz64_1,hcz64_2,hcz64_3,hfz64_0,hfz64_1,hfz64_2,hfz64_3⟩:=cz4_ BK845.out) | ((with_reducible refine gc_ 64 ?_);refine gl_ (some 62) Try.func64 #[.slice A1 l1.length c1,.agg #[.int .i64 ((rd_T91 l0_1 x55_2).f0.f0),.int .i64 ((rd_T91 l0_1 x55_2).f0.f1)]] ?_;(with_reducible refine (impl_seenHas.calls k2 _ _ l1 ((rd_T91 l0_1 x55_2).f0.f0) ((rd_T91 l0_1 x55_2).f0.f1) true _ ?s1 ?s2 A57.out).mono ?_);(case s1=>exact Kd.C_below HR1.out (z25_ HB.out GE829.out GE830.out GE839.out GE843.out GE845.out));(case s2=>exact HC1.out);rintro e w65 ⟨rfl,hb⟩;refine ⟨_,rfl,?_⟩;refine as8_ (Kd.R_below (by (with_reducible repeat (first | apply Kd.R_alloc | apply Kd.R_drewN | apply Kd.R_drew));exact (Kd.R_mono (rf4_ (Kd.R_types HO_11.out BK845.out (by decide)) (fun _ hk=>hk.2)) (fun _ h_=>h_.1))) hb) (Kd.R_below (by (with_reducible repeat (first | apply Kd.R_alloc | apply Kd.R_drewN | apply Kd.R_drew));exact (Kd.R_mono (rf4_ (Kd.R_mono HO_844001.out (fun k_ hk=>(⟨hk,hk.2⟩:_∧k_≠gb845))) (fun _ hk=>hk.2)) (fun _ h_=>h_.1))) hb) (blk_below (g:=gb829) (o:=.cells #[.slice A0_0 l0_0.length c0_0,.slice (some ad844) l0_1.length c0_1] 40 (0,0)) (z15_ NB829_845.out BK829.out) hb) (blk_below (g:=gb830) (o:=.cells #[.slice none 0 0,.slice none 0 0,.int .i64 0,.int .i64 0,.int .i64 0] 58 (0,0)) (z15_ NB830_845.out BK830.out) hb) (blk_below (g:=gb839) (o:=.cells #[.int .i64 a2,.int .i64 (wrap64 (t838+1))] 56 (0,0)) (z15_ NB839_845.out BK839.out) hb) (blk_below (g:=gb843) (o:=.cells #[.slice none 0 0,u844001] 40 (0,0)) (z15_ NB843_845.out BK843.out) hb) (blk_below (g:=gb845) (o:=.cells #[.int .i64 ((rd_T91 l0_1 x55_2).f0.f0),.int .i64 ((rd_T91 l0_1 x55_2).f0.f1),.bool ((rd_T91 l0_1 x55_2).f1),.string ((rd_T91 l0_1 x55_2).f2)] 91 (0,0)) (z19_ BK845.out) hb) (below_step (z25_ HB.out GE829.out GE830.out GE839.out GE843.out GE845.out) hb) ?_;clear HO_11 HO_844001 BK829 BK830 BK839 BK843 BK845 HB;intro HO_11 HO_844001 BK829 BK830 BK839 BK843 BK845 HB;(try clear hb);(try clear hb2);(try clear hk);(try clear hi)))
          go_roundg k2
          case measure=>have:=HJ5.out;have:=HK2.out;omega
          case rel=>exact ⟨(wrap64 (x55_2+1)),(x844001_2),(u844001),(z2_),H',⟨by have:=HJ5.out;have:=HK2.out;omega⟩,⟨z0_ HO_11.out⟩,⟨by (with_reducible repeat (first | apply Kd.R_alloc | apply Kd.R_drewN | apply Kd.R_drew));exact Kd.R_mono HO_844001.out (fun _ hk=>trivial)⟩,⟨z5_ BK829.out⟩,⟨z5_ BK830.out⟩,⟨z5_ BK839.out⟩,⟨z5_ BK843.out⟩,⟨z25_ HB.out GE829.out GE830.out GE839.out GE843.out GE845.out⟩⟩
         ·replace c58:=Bool.eq_false_iff.mpr c58
          subst c58
          have H1:(if x844001_2.length<3518437208883 then (impl_setPut.l0 k2 l1 t835 l0_1 (l0_1.length:Int) (wrap64 (x55_2+1)) a2 (wrap64 (t838+1)) (x844001_2 ++ [(⟨(⟨(rd_T91 l0_1 x55_2).f0.f0,(rd_T91 l0_1 x55_2).f0.f1⟩:S56),(rd_T91 l0_1 x55_2).f1,(rd_T91 l0_1 x55_2).f2⟩:S91)])) else (none))=some (r1,r2,r3,r4,r5):=by rw [if_neg (show ¬ (false=true) by decide)] at H;exact H
          clear H
          have H:=H1
          clear H1
          by_cases c66:x844001_2.length<3518437208883
          ·rw [if_pos c66] at H
           have LMc66:=Aside0.mk c66
           clear c66
           obtain ⟨y847,hy847⟩:∃ y_:List (S91),y_=(x844001_2 ++ [(⟨(⟨(rd_T91 l0_1 x55_2).f0.f0,(rd_T91 l0_1 x55_2).f0.f1⟩:S56),(rd_T91 l0_1 x55_2).f1,(rd_T91 l0_1 x55_2).f2⟩:S91)]):=⟨_,rfl⟩
           replace H:(impl_setPut.l0 k2 l1 t835 l0_1 (l0_1.length:Int) (wrap64 (x55_2+1)) a2 (wrap64 (t838+1)) y847)=some (r1,r2,r3,r4,r5):=by first | (rw [hy847];with_reducible exact H) | (have H2_:=(Option.bind_some _ _).symm.trans H;rw [hy847];with_reducible exact H2_) | (have H2_:=(Option.bind_some _ _).symm.trans H;with_reducible exact H2_) | with_reducible exact H | (rw [hy847];exact H) | exact H
           have Ny847:=Aside0.mk hy847
           clear hy847
           have H':=Aside0.mk H
           clear H
           have p844:0≤(x55_2:Int):=of_decide_eq_true (z1_)
           have q844:x55_2<(l0_1.length:Int):=of_decide_eq_true (z1_)
           obtain ⟨ad844,e844,hx844_0,hx844_1,hx844_2,hx844_3⟩:=at_T91 HR0_1.out x55_2 p844 q844
           cases e844
           replace hx844_0:=(HB.out.cell (World.block_lt_of_cell? w _ hx844_0)).trans hx844_0
           replace hx844_1:=(HB.out.cell (World.block_lt_of_cell? w _ hx844_1)).trans hx844_1
           replace hx844_2:=(HB.out.cell (World.block_lt_of_cell? w _ hx844_2)).trans hx844_2
           replace hx844_3:=(HB.out.cell (World.block_lt_of_cell? w _ hx844_3)).trans hx844_3
           replace p844:=eq_true p844
           replace q844:=eq_true q844
           go_wp2_with (first | ((with_reducible refine gd_ 15 ?_);(try (refine gate_guard (by rfl) ?_;dsimp only));refine be_ 15 #[.int .i64 0,.int .i64 0,.bool false,.string (⟨#[]⟩:ByteArray)] 91 ?_;intro gb845 hg w67 hbox hb;refine as18_ (Kd.R_below (z0_ HO_11.out) hb) (Kd.R_below (Kd.R_elderB (z0_ HO_844001.out) gb845 (Nat.le_of_eq hg.symm)) hb) (blkB_ BK829.out hb) (blkB_ BK830.out hb) (blkB_ BK839.out hb) (blkB_ BK843.out hb) (below_step (z10_ HB.out GE829.out GE830.out GE839.out GE843.out) hb) (hbox) ((z34_ HB.out GE829.out GE830.out GE839.out GE843.out:w.heap.size≤gb845)) ((z34_ HB.out GE829.out GE830.out GE839.out GE843.out:w.heap.size≤gb845)) (neL_ BK829.out hg) (neG_ BK829.out hg) (neL_ BK830.out hg) (neG_ BK830.out hg) (neL_ BK839.out hg) (neG_ BK839.out hg) (neL_ BK843.out hg) (neG_ BK843.out hg) ?_;clear HO_11 HO_844001 BK829 BK830 BK839 BK843 HB;intro HO_11 HO_844001 BK829 BK830 BK839 BK843 HB BK845 GW845 GE845 NB829_845 NB845_829 NB830_845 NB845_830 NB839_845 NB845_839 NB843_845 NB845_843;clear hb hbox hg;have hnb68:=NB845_829.out;have hnc68:=NB829_845.out;have hnb69:=NB845_830.out;have hnc69:=NB830_845.out;have hnb70:=NB845_839.out;have hnc70:=NB839_845.out;have hnb71:=NB845_843.out;have hnc71:=NB843_845.out;have ⟨hcz72_0,hcz72_1,hcz72_2,hcz72_3,hfz72_0,hfz72_1,hfz72_2,hfz72_3⟩:=cz4_ BK845.out) | ((with_reducible refine gc_ 64 ?_);refine gl_ (some 62) Try.func64 #[.slice A1 l1.length c1,.agg #[.int .i64 ((rd_T91 l0_1 x55_2).f0.f0),.int .i64 ((rd_T91 l0_1 x55_2).f0.f1)]] ?_;(with_reducible refine (impl_seenHas.calls k2 _ _ l1 ((rd_T91 l0_1 x55_2).f0.f0) ((rd_T91 l0_1 x55_2).f0.f1) false _ ?s1 ?s2 A57.out).mono ?_);(case s1=>exact Kd.C_below HR1.out (z25_ HB.out GE829.out GE830.out GE839.out GE843.out GE845.out));(case s2=>exact HC1.out);rintro e w73 ⟨rfl,hb⟩;refine ⟨_,rfl,?_⟩;refine as8_ (Kd.R_below (by (with_reducible repeat (first | apply Kd.R_alloc | apply Kd.R_drewN | apply Kd.R_drew));exact (Kd.R_mono (rf4_ (Kd.R_types HO_11.out BK845.out (by decide)) (fun _ hk=>hk.2)) (fun _ h_=>h_.1))) hb) (Kd.R_below (by (with_reducible repeat (first | apply Kd.R_alloc | apply Kd.R_drewN | apply Kd.R_drew));exact (Kd.R_mono (rf4_ (Kd.R_mono HO_844001.out (fun k_ hk=>(⟨hk,hk.2⟩:_∧k_≠gb845))) (fun _ hk=>hk.2)) (fun _ h_=>h_.1))) hb) (blk_below (g:=gb829) (o:=.cells #[.slice A0_0 l0_0.length c0_0,.slice (some ad844) l0_1.length c0_1] 40 (0,0)) (z15_ NB829_845.out BK829.out) hb) (blk_below (g:=gb830) (o:=.cells #[.slice none 0 0,.slice none 0 0,.int .i64 0,.int .i64 0,.int .i64 0] 58 (0,0)) (z15_ NB830_845.out BK830.out) hb) (blk_below (g:=gb839) (o:=.cells #[.int .i64 a2,.int .i64 (wrap64 (t838+1))] 56 (0,0)) (z15_ NB839_845.out BK839.out) hb) (blk_below (g:=gb843) (o:=.cells #[.slice none 0 0,u844001] 40 (0,0)) (z15_ NB843_845.out BK843.out) hb) (blk_below (g:=gb845) (o:=.cells #[.int .i64 ((rd_T91 l0_1 x55_2).f0.f0),.int .i64 ((rd_T91 l0_1 x55_2).f0.f1),.bool ((rd_T91 l0_1 x55_2).f1),.string ((rd_T91 l0_1 x55_2).f2)] 91 (0,0)) (z19_ BK845.out) hb) (below_step (z25_ HB.out GE829.out GE830.out GE839.out GE843.out GE845.out) hb) ?_;clear HO_11 HO_844001 BK829 BK830 BK839 BK843 BK845 HB;intro HO_11 HO_844001 BK829 BK830 BK839 BK843 BK845 HB;(try clear hb);(try clear hb2);(try clear hk);(try clear hi);have hnb74:=NB843_829.out;have hnc74:=NB829_843.out;have hnb75:=NB843_830.out;have hnc75:=NB830_843.out;have hnb76:=NB843_839.out;have hnc76:=NB839_843.out;have ⟨hcz77_0,hcz77_1,hfz77_0,hfz77_1⟩:=cz2_ BK843.out;have ⟨hcz78_0,hcz78_1,hcz78_2,hcz78_3,hfz78_0,hfz78_1,hfz78_2,hfz78_3⟩:=cz4_ BK845.out) | ((with_reducible refine gate_builtin (b:=.append) (xs:=#[.tmp 65,.tmp 67]) rfl ?_);(try (refine gate_guard (by rfl) ?_;dsimp only));at_builtin;refine Kd.R_append k91 (w0:=w) w.heap.size rfl (.tmp 65) (.tmp 67) 38 91 (.agg #[(.int .i64 0),(.int .i64 0),(.bool false),(.string ⟨#[]⟩)]) 40 rfl Try.underlying38 info91 rfl (by decide) (by omega) u844001 x844001_2 (⟨(⟨(rd_T91 l0_1 x55_2).f0.f0,(rd_T91 l0_1 x55_2).f0.f1⟩:S56),(rd_T91 l0_1 x55_2).f1,(rd_T91 l0_1 x55_2).f2⟩:S91) [.int .i64 ((rd_T91 l0_1 x55_2).f0.f0),.int .i64 ((rd_T91 l0_1 x55_2).f0.f1),.bool ((rd_T91 l0_1 x55_2).f1),.string ((rd_T91 l0_1 x55_2).f2)] (fun k_=>k_≠gb845) (fun _=>False) rfl rfl ?aP (fun _ hk=>hk.elim) ?aF ?aO ?aB ?aS ?aL ?_;(case aP=>exact k91_mkM _ _ _ (⟨(⟨(rd_T91 l0_1 x55_2).f0.f0,(rd_T91 l0_1 x55_2).f0.f1⟩:S56),(rd_T91 l0_1 x55_2).f1,(rd_T91 l0_1 x55_2).f2⟩:S91));(case aB=>exact (z25_ HB.out GE829.out GE830.out GE839.out GE843.out GE845.out));(case aF=>exact (fun k_ hk=>Kd.freshB (g:=gb845) (o:=.cells #[.int .i64 ((rd_T91 l0_1 x55_2).f0.f0),.int .i64 ((rd_T91 l0_1 x55_2).f0.f1),.bool ((rd_T91 l0_1 x55_2).f1),.string ((rd_T91 l0_1 x55_2).f2)] 91 (0,0)) (z5_ BK845.out) k_ hk));(case aO=>exact (by (with_reducible repeat (first | apply Kd.R_alloc | apply Kd.R_drewN | apply Kd.R_drew));exact Kd.R_mono HO_844001.out (fun _ hk=>hk.2)));(case aS=>exact (below_size (z25_ HB.out GE829.out GE830.out GE839.out GE843.out GE845.out)));(case aL=>have:=LMc66.out;omega);intro v848 w79 ho hb hg hat;rw [← Ny847.out] at ho;refine as8_ (Kd.R_over' (z0_ HO_11.out) (Kd.R_typed (z0_ HO_844001.out)) (by decide) hg) (blk_grown (g:=gb829) (o:=.cells #[.slice A0_0 l0_0.length c0_0,.slice (some ad844) l0_1.length c0_1] 40 (0,0)) (z5_ BK829.out) hg (Kd.R_ne HO_844001.out BK829.out (by decide))) (blk_grown (g:=gb830) (o:=.cells #[.slice none 0 0,.slice none 0 0,.int .i64 0,.int .i64 0,.int .i64 0] 58 (0,0)) (z5_ BK830.out) hg (Kd.R_ne HO_844001.out BK830.out (by decide))) (blk_grown (g:=gb839) (o:=.cells #[.int .i64 a2,.int .i64 (wrap64 (t838+1))] 56 (0,0)) (z5_ BK839.out) hg (Kd.R_ne HO_844001.out BK839.out (by decide))) (blk_grown (g:=gb843) (o:=.cells #[.slice none 0 0,u844001] 40 (0,0)) (z5_ BK843.out) hg (Kd.R_ne HO_844001.out BK843.out (by decide))) (blk_grown (g:=gb845) (o:=.cells #[.int .i64 ((rd_T91 l0_1 x55_2).f0.f0),.int .i64 ((rd_T91 l0_1 x55_2).f0.f1),.bool ((rd_T91 l0_1 x55_2).f1),.string ((rd_T91 l0_1 x55_2).f2)] 91 (0,0)) (z5_ BK845.out) hg (Kd.R_away HO_844001.out (fun _ hk=>hk.2))) (hb) (ho) ?_;clear HO_11 BK829 BK830 BK839 BK843 BK845 HB HO_844001;intro HO_11 BK829 BK830 BK839 BK843 BK845 HB HO849;clear ho hb hg hat;obtain ⟨Ao80,co80,eo80⟩:=Kd.R_slice HO849.out;subst eo80;have ⟨hcz81_0,hcz81_1,hfz81_0,hfz81_1⟩:=cz2_ BK843.out))
           go_roundg k2
           case measure=>have:=HJ5.out;have:=HK2.out;omega
           case rel=>exact ⟨(wrap64 (x55_2+1)),(y847),(.slice Ao80 y847.length co80),(z2_),H',⟨by have:=HJ5.out;have:=HK2.out;omega⟩,⟨by (with_reducible repeat (first | apply Kd.R_alloc | apply Kd.R_drewN | apply Kd.R_drew));exact Kd.R_mono (Kd.R_far (p:=⟨gb843,1,none⟩) (Kd.R_types HO_11.out BK843.out (by decide)) (fun _ hk=>hk.2) (.slice Ao80 y847.length co80)) (fun _ hk=>hk.1)⟩,⟨by (with_reducible repeat (first | apply Kd.R_alloc | apply Kd.R_drewN | apply Kd.R_drew));exact Kd.R_mono (Kd.R_far (p:=⟨gb843,1,none⟩) (Kd.R_types HO849.out BK843.out (by decide)) (fun _ hk=>hk.2) (.slice Ao80 y847.length co80)) (fun _ hk=>trivial)⟩,⟨z16_ NB829_843.out BK829.out⟩,⟨z16_ NB830_843.out BK830.out⟩,⟨z16_ NB839_843.out BK839.out⟩,⟨by (with_reducible repeat (first | refine blk_drewN ?_ _ | refine blk_drew ?_ | refine blk_alloc ?_ _));refine blk_put (cs:=#[.slice none 0 0,u844001]) ?_ 1 _ rfl;(with_reducible repeat (first | refine blk_drewN ?_ _ | refine blk_drew ?_ | refine blk_alloc ?_ _));exact BK843.out⟩,⟨z25_ HB.out GE829.out GE830.out GE839.out GE843.out GE845.out⟩⟩
          ·rw [if_neg c66] at H
           exact absurd H (by simp)
        ·rw [if_neg c56] at H
         exact absurd H (by simp)
       ·rw [if_neg c55] at H
        exact absurd H (by simp)
      ·rw [if_neg c54] at H
       have c54b0:decide (x55_2<(l0_1.length:Int))=false:=decide_eq_false c54
       clear c54
       have HC82:=Aside0.mk H
       clear H
       go_upto_region 12 with (fail)
       go_cut [79] (fun v79 wc=>∃ (kq:Nat) (x79_81:Bool),v79 = .bool x79_81∧Aside0 (impl_setPut.j2 kq t835 x79_81 a2 (wrap64 (t838+1)) x844001_2=some (r1,r2,r3,r4,r5))∧Aside0 (kq≤k2)∧Aside0 (Kd.R k56 56 wc w.heap.size (fun k_=>k_≠gb839) (.slice Ao39 t835.length co39) t835)∧Aside0 (Kd.R k91 91 wc w.heap.size (fun _=>True) u844001 x844001_2)∧Aside0 (wc.heap[gb829]? = some (.cells #[(.slice A0_0 l0_0.length c0_0),(.slice A0_1 l0_1.length c0_1)] 40 (0,0)))∧Aside0 (wc.heap[gb830]? = some (.cells #[(.slice none 0 0),(.slice none 0 0),.int .i64 0,.int .i64 0,.int .i64 0] 58 (0,0)))∧Aside0 (wc.heap[gb839]? = some (.cells #[.int .i64 a2,.int .i64 (wrap64 (t838+1))] 56 (0,0)))∧Aside0 (wc.heap[gb843]? = some (.cells #[(.slice none 0 0),u844001] 40 (0,0)))∧Aside0 (Below w.heap.size w wc))
       case first =>
        have H:=HC82.out
        clear HC82
        by_cases c83:(wrap64 (t838+1))>1000000
        ·rw [if_pos c83] at H
         have c83b0:decide (1000000<(wrap64 (t838+1)))=true:=decide_eq_true c83
         clear c83
         (first | rw [c83b0] | (simp only [i64_w,i32_w];rw [c83b0]) | skip)
         have H':=Aside0.mk H
         clear H
         have hnb84:=NB839_829.out
         have hnc84:=NB829_839.out
         have hnb85:=NB839_830.out
         have hnc85:=NB830_839.out
         have hnb86:=NB839_843.out
         have hnc86:=NB843_839.out
         have ⟨hcz87_0,hcz87_1,hfz87_0,hfz87_1⟩:=cz2_ BK839.out
         go_wp2
         go_meet
         case rel=>exact ⟨_,(true),(z2_),H',⟨z29_ HJ5.out HK2.out⟩,⟨z0_ HO_11.out⟩,⟨z0_ HO_844001.out⟩,⟨z5_ BK829.out⟩,⟨z5_ BK830.out⟩,⟨z5_ BK839.out⟩,⟨z5_ BK843.out⟩,⟨z10_ HB.out GE829.out GE830.out GE839.out GE843.out⟩⟩
        ·rw [if_neg c83] at H
         have c83b0:decide (1000000<(wrap64 (t838+1)))=false:=decide_eq_false c83
         clear c83
         (first | rw [c83b0] | (simp only [i64_w,i32_w];rw [c83b0]) | skip)
         have H':=Aside0.mk H
         clear H
         have hnb88:=NB839_829.out
         have hnc88:=NB829_839.out
         have hnb89:=NB839_830.out
         have hnc89:=NB830_839.out
         have hnb90:=NB839_843.out
         have hnc90:=NB843_839.out
         have ⟨hcz91_0,hcz91_1,hfz91_0,hfz91_1⟩:=cz2_ BK839.out
         have hnb92:=NB843_829.out
         have hnc92:=NB829_843.out
         have hnb93:=NB843_830.out
         have hnc93:=NB830_843.out
         have ⟨hcz94_0,hcz94_1,hfz94_0,hfz94_1⟩:=cz2_ BK843.out
         obtain ⟨Ao95,co95,eo95⟩:=Kd.R_slice HO_844001.out
         subst eo95
         go_wp2
         go_meet
         case rel=>exact ⟨_,(decide ((x844001_2.length:Int)>8)),(z2_),H',⟨z29_ HJ5.out HK2.out⟩,⟨z0_ HO_11.out⟩,⟨z0_ HO_844001.out⟩,⟨z5_ BK829.out⟩,⟨z5_ BK830.out⟩,⟨z5_ BK839.out⟩,⟨z5_ BK843.out⟩,⟨z10_ HB.out GE829.out GE830.out GE839.out GE843.out⟩⟩
       case rest =>
        clear HC82
        try clear c1
        try clear c2
        try clear p2
        try clear c3
        try clear c4
        try clear c5
        try clear c6
        try clear p6
        try clear c7
        try clear c8
        try clear p8
        try clear q8
        try clear hx8
        try clear c9
        try clear c10
        try clear c12
        try clear c14
        try clear c16
        try clear c20
        try clear c24
        try clear c28
        try clear c31
        try clear c32
        try clear c36
        try clear c42
        try clear c43
        try clear c49
        try clear c50
        try clear c51
        try clear c54
        try clear c54b0
        try clear c55
        try clear c55b0
        try clear c56
        try clear c56b0
        try clear c58
        try clear c60
        try clear c61
        try clear c62
        try clear c63
        try clear c64
        try clear p64
        try clear c66
        try clear c68
        try clear c69
        try clear c70
        try clear c71
        try clear c74
        try clear c75
        try clear c76
        try clear c77
        try clear c83
        try clear c83b0
        try clear c84
        try clear p84
        try clear q84
        try clear hx84
        try clear c85
        try clear c86
        try clear c88
        try clear c89
        try clear c90
        try clear c92
        try clear c93
        try clear c94
        try clear hcz17_0
        try clear hcz17_1
        try clear hcz21_0
        try clear hcz21_1
        try clear hcz25_0
        try clear hcz25_1
        try clear hcz29_0
        try clear hcz29_1
        try clear hcz33_0
        try clear hcz33_1
        try clear hcz33_2
        try clear hcz33_3
        try clear hcz33_4
        try clear hcz37_0
        try clear hcz37_1
        try clear hcz44_0
        try clear hcz44_1
        try clear hcz52_0
        try clear hcz52_1
        try clear hcz53_0
        try clear hcz53_1
        try clear hcz64_0
        try clear hcz64_1
        try clear hcz64_2
        try clear hcz64_3
        try clear hcz72_0
        try clear hcz72_1
        try clear hcz72_2
        try clear hcz72_3
        try clear hcz77_0
        try clear hcz77_1
        try clear hcz78_0
        try clear hcz78_1
        try clear hcz78_2
        try clear hcz78_3
        try clear hcz81_0
        try clear hcz81_1
        try clear hcz87_0
        try clear hcz87_1
        try clear hcz91_0
        try clear hcz91_1
        try clear hcz94_0
        try clear hcz94_1
        try clear hfz17_0
        try clear hfz17_1
        try clear hfz21_0
        try clear hfz21_1
        try clear hfz25_0
        try clear hfz25_1
        try clear hfz29_0
        try clear hfz29_1
        try clear hfz33_0
        try clear hfz33_1
        try clear hfz33_2
        try clear hfz33_3
        try clear hfz33_4
        try clear hfz37_0
        try clear hfz37_1
        try clear hfz44_0
        try clear hfz44_1
        try clear hfz52_0
        try clear hfz52_1
        try clear hfz53_0
        try clear hfz53_1
        try clear hfz64_0
        try clear hfz64_1
        try clear hfz64_2
        try clear hfz64_3
        try clear hfz72_0
        try clear hfz72_1
        try clear hfz72_2
        try clear hfz72_3
        try clear hfz77_0
        try clear hfz77_1
        try clear hfz78_0
        try clear hfz78_1
        try clear hfz78_2
        try clear hfz78_3
        try clear hfz81_0
        try clear hfz81_1
        try clear hfz87_0
        try clear hfz87_1
        try clear hfz91_0
        try clear hfz91_1
        try clear hfz94_0
        try clear hfz94_1
        try clear hx844_0
        try clear hx844_1
        try clear hx844_2
        try clear hx844_3
        try clear p2
        try clear p6
        try clear p844
        try clear q844
        obtain ⟨kq,x79_81,rfl,HA,HJ81,HO_11,HO_844001,BK829,BK830,BK839,BK843,HB⟩:=hcut
        cases kq with
        | zero=>exact absurd HA.out (by simp [impl_setPut.j2])
        | succ kj81 =>
         have H:=HA.out
         clear HA
         simp only [impl_setPut.j2] at H
         by_cases c96:x79_81=true
         ·subst c96
          have H1:(some (([]:List (S56)),([]:List (S91)),0,0,9))=some (r1,r2,r3,r4,r5):=by rw [if_pos rfl] at H;exact H
          clear H
          have H:=H1
          clear H1
          simp only [Option.some.injEq,Prod.mk.injEq] at H
          obtain ⟨rfl,rfl,rfl,rfl,rfl⟩:=H
          have hnb97:=NB830_829.out
          have hnc97:=NB829_830.out
          have hnb98:=NB830_839.out
          have hnc98:=NB839_830.out
          have hnb99:=NB830_843.out
          have hnc99:=NB843_830.out
          have ⟨hcz100_0,hcz100_1,hcz100_2,hcz100_3,hcz100_4,hfz100_0,hfz100_1,hfz100_2,hfz100_3,hfz100_4⟩:=cz5_ BK830.out
          go_wp2
          refine bodyPost_ret (results_cell_row rfl _ _ gb830 58 #[.slice none 0 0,.slice none 0 0,.int .i64 0,.int .i64 0,.int .i64 9] (0,0) _ rfl (z24_ BK830.out) Try.underlying58 rfl (by kernel_rfl)) rfl ?_
          exact ⟨_,_,z8_,z26_,z26_,z10_ HB.out GE829.out GE830.out GE839.out GE843.out⟩
         ·replace c96:=Bool.eq_false_iff.mpr c96
          subst c96
          have H1:((impl_seenJoin.f kj81 t835 (([(⟨a2,(wrap64 (t838+1))⟩:S56)]:List (S56)))).bind fun t853=>((impl_sorted.f kj81 x844001_2).bind fun t856=>(some (t853,t856,a2,(wrap64 (t838+1)),0))))=some (r1,r2,r3,r4,r5):=by rw [if_neg (show ¬ (false=true) by decide)] at H;exact H
          clear H
          have H:=H1
          clear H1
          obtain ⟨y850,hy850⟩:∃ y_:List (S56),y_=(([(⟨a2,(wrap64 (t838+1))⟩:S56)]:List (S56))):=⟨_,rfl⟩
          replace H:((impl_seenJoin.f kj81 t835 y850).bind fun t853=>((impl_sorted.f kj81 x844001_2).bind fun t856=>(some (t853,t856,a2,(wrap64 (t838+1)),0))))=some (r1,r2,r3,r4,r5):=by first | (rw [hy850];with_reducible exact H) | (have H2_:=(Option.bind_some _ _).symm.trans H;rw [hy850];with_reducible exact H2_) | (have H2_:=(Option.bind_some _ _).symm.trans H;with_reducible exact H2_) | with_reducible exact H | (rw [hy850];exact H) | exact H
          have Ny850:=Aside0.mk hy850
          clear hy850
          replace H:=Option.bind_eq_some_iff.mp H
          obtain ⟨t853,A1010,H⟩:=H
          replace H:((impl_sorted.f kj81 x844001_2).bind fun t856=>(some (t853,t856,a2,(wrap64 (t838+1)),0)))=some (r1,r2,r3,r4,r5):=H
          have A101:=Aside0.mk A1010
          clear A1010
          replace H:=Option.bind_eq_some_iff.mp H
          obtain ⟨t856,A1020,H⟩:=H
          replace H:(some (t853,t856,a2,(wrap64 (t838+1)),0))=some (r1,r2,r3,r4,r5):=H
          have A102:=Aside0.mk A1020
          clear A1020
          simp only [Option.some.injEq,Prod.mk.injEq] at H
          obtain ⟨rfl,rfl,rfl,rfl,rfl⟩:=H
          try go_wp2
          refine as7_ (Kd.R_drew HO_11.out) (Kd.R_drew HO_844001.out) (blk_drew BK829.out) (blk_drew BK830.out) (blk_drew BK839.out) (blk_drew BK843.out) (below_drew1 HB.out) ?_
          clear HO_11 HO_844001 BK829 BK830 BK839 BK843 HB
          intro HO_11 HO_844001 BK829 BK830 BK839 BK843 HB
          refine start_ (n:=11) (S:=fun w'=>w'.cell? ⟨gb839,0,none⟩=some (.int .i64 a2)∧w'.cell? ⟨gb839,1,none⟩=some (.int .i64 (wrap64 (t838+1)))∧w'.cell? ⟨gb843,0,none⟩=some (.slice none 0 0)∧w'.cell? ⟨gb843,1,none⟩=some (u844001)) (ds:=[8,10]) #[O,O,O,O,O,O,O,O,O,O,O] (by kernel_rfl) rfl rfl (cj2_ BK839.out (cc2_ BK843.out)) (fun hHeld=>?_);refine with_tabW impl_setPut.tab14 impl_setPut.bits14 (fun HT_ HW_=>?_)
          generalize wc.drew=w103 at HO_11 HO_844001 BK829 BK830 BK839 BK843 HB hHeld ⊢
          refine pu_ 0 81 #[I,O,O,O,O,O,O,O,O,O,O] HT_.out ?_
          refine pu_ 4 85 #[I,O,O,O,I,O,O,O,O,O,O] HT_.out ?_
          refine tk4_ 1 82 #[I,I,O,O,I,O,O,O,O,O,O] HT_.out HW_.out hHeld ?_
          refine tk4_ 5 86 #[I,I,O,O,I,I,O,O,O,O,O] HT_.out HW_.out hHeld ?_
          refine o1_ 2 83 #[I,I,I,O,I,I,O,O,O,O,O] HT_.out (fun K hK=>?_)
          refine Kd.R_lit_step k56 _ 56 ?hg (N:=83) ?hd (xs:=([(⟨a2,(wrap64 (t838+1))⟩:S56)]:List (S56))) (inner:=[.int .i64 a2,.int .i64 (wrap64 (t838+1))]) (ok:=fun _=>True) (okp:=fun _=>True) ?hr ?hp (fun _ hk=>hk) trivial (Below.refl _ _) (Nat.le_refl _) (by simp) ?_;(case hd=>rfl);(case hg=>rfl);(case hr=>first | (go_simp;done) | (go_simp;rfl));(case hp=>exact (Reps.c2 (show Kd.M k56 _ _ _ (⟨a2,(wrap64 (t838+1))⟩:S56) [.int .i64 a2,.int .i64 (wrap64 (t838+1))] from (k56_mkM _ _ _ (⟨a2,(wrap64 (t838+1))⟩:S56) )) (Reps.none _ _)))
          intro v851 w104 ho105 hb hg_ hnew_
          clear hg_ hnew_
          (first | rw [← Ny850.out] at ho105 | (simp only [Int.reduceToNat] at ho105;rw [← Ny850.out] at ho105))
          refine as8_ (Kd.R_elder' (z0_ HO_11.out) (Kd.R_base ho105) hb) (Kd.R_below (z0_ HO_844001.out) hb) (Kd.R_lower (Kd.R_newB (Kd.R_new' ho105 (Kd.R_lt (z0_ HO_11.out))) (g:=gb839) (o:=.cells #[.int .i64 a2,.int .i64 (wrap64 (t838+1))] 56 (0,0)) (z5_ BK839.out)) (below_size (z10_ HB.out GE829.out GE830.out GE839.out GE843.out))) (blkB_ BK829.out hb) (blkB_ BK830.out hb) (blkB_ BK839.out hb) (blkB_ BK843.out hb) (below_step (z10_ HB.out GE829.out GE830.out GE839.out GE843.out) hb) ?_
          clear HO_11 HO_844001 BK829 BK830 BK839 BK843 HB
          intro HO_11 HO_844001 HO852 BK829 BK830 BK839 BK843 HB
          clear hb ho105
          obtain ⟨Ao106,co106,eo106⟩:=Kd.R_slice HO852.out
          (first | subst eo106 | (injection eo106 with f1_ f2_ f3_;have f4_:=f1_.symm;have f5_:=f3_.symm;clear f1_ f2_ f3_;subst f4_;subst f5_))
          refine hK.out _ _ (cj2_ BK839.out (cc2_ BK843.out)) (fun hHeld=>?_)
          clear hK K
          refine nm_ 83 ?_
          refine o1_ 3 84 #[I,I,I,I,I,I,O,O,O,O,O] HT_.out (fun K hK=>?_)
          refine gs_ Try.func62 #[.slice Ao39 t835.length co39,.slice Ao106 y850.length co106] ?_
          with_reducible refine (impl_seenJoin.calls kj81 _ _ t835 _ _ y850 t853 _ ?s1 ?s2 ?s3 ?s4 A101.out).mono ?_
          (case s1=>repeat (first | exact (Kd.R_reads' HO_11.out).2.2 | (with_reducible refine Kd.C_alloc ?_ _) | (with_reducible refine Kd.C_drewN ?_ _) | (with_reducible refine Kd.C_drew ?_)))
          (case s2=>exact (Kd.R_reads' HO_11.out).2.1)
          (case s3=>repeat (first | exact (Kd.R_reads' HO852.out).2.2 | (with_reducible refine Kd.C_alloc ?_ _) | (with_reducible refine Kd.C_drewN ?_ _) | (with_reducible refine Kd.C_drew ?_)))
          (case s4=>exact (Kd.R_reads' HO852.out).2.1)
          rintro e w107 ⟨v854,rfl,ho0,hb⟩
          refine ⟨_,rfl,?_⟩
          refine as9_ (Kd.R_elder' (z0_ HO_11.out) (Kd.R_base ho0) hb) (Kd.R_below (z0_ HO_844001.out) hb) (Kd.R_elder' (z0_ HO852.out) (Kd.R_base ho0) hb) (Kd.R_lower (Kd.R_newB (Kd.R_new' (Kd.R_new' ho0 (Kd.R_lt (z0_ HO_11.out))) (Kd.R_lt (z0_ HO852.out))) (g:=gb839) (o:=.cells #[.int .i64 a2,.int .i64 (wrap64 (t838+1))] 56 (0,0)) (z5_ BK839.out)) (below_size (z10_ HB.out GE829.out GE830.out GE839.out GE843.out))) (blkB_ BK829.out hb) (blkB_ BK830.out hb) (blkB_ BK839.out hb) (blkB_ BK843.out hb) (below_step (z10_ HB.out GE829.out GE830.out GE839.out GE843.out) hb) ?_
          clear HO_11 HO_844001 HO852 BK829 BK830 BK839 BK843 HB
          intro HO_11 HO_844001 HO852 HO855 BK829 BK830 BK839 BK843 HB
          (try clear hb)
          (try clear ho0)
          obtain ⟨Ao108,co108,eo108⟩:=Kd.R_slice HO_844001.out
          (first | subst eo108 | (injection eo108 with f1_ f2_ f3_;have f4_:=f1_.symm;have f5_:=f3_.symm;clear f1_ f2_ f3_;subst f4_;subst f5_))
          refine hK.out _ _ (cj2_ BK839.out (cc2_ BK843.out)) (fun hHeld=>?_)
          clear hK K
          refine nm_ 84 ?_
          refine pu_ 7 88 #[I,I,I,I,I,I,O,I,O,O,O] HT_.out ?_
          refine o1_ 6 87 #[I,I,I,I,I,I,I,I,O,O,O] HT_.out (fun K hK=>?_)
          refine gs_ Try.func65 #[.slice Ao108 x844001_2.length co108] ?_
          with_reducible refine (impl_sorted.calls kj81 (fun k_=>some k_=(.slice Ao108 x844001_2.length co108:Value).ownBlock) (.slice Ao108 x844001_2.length co108) x844001_2 t856 w _ ?s1 ?s2 A102.out).mono ?_
          (case s1=>repeat (first | (with_reducible first | exact HB.out | apply below_alloc | apply pw_below_drewN | apply below_drew1 | refine below_set ?_ GE829.out | refine below_set ?_ GE830.out | refine below_set ?_ GE839.out | refine below_set ?_ GE843.out) | exact HB.out))
          (case s2=>exact Kd.R_tight rfl HO_844001.out)
          rintro e w109 ⟨v857,rfl,ho0,hb,hkp⟩
          refine ⟨_,rfl,?_⟩
          refine as9_ (Kd.R_mono (ok':=fun k_=>some k_≠(.slice Ao106 y850.length co106:Value).ownBlock∧some k_≠(v854:Value).ownBlock∧k_≠gb839) (Kd.R_keptB ((Kd.R_apart' HO_11.out (Kd.R_typed HO_844001.out) (by decide))) hkp (fun k_ hk_ hs_=>(hk_.2) hs_)) (fun k_ hk_=>⟨hk_.1.1.1.2,hk_.1.1.2,hk_.1.1.1.1⟩)) (blk_kept (z5_ BK829.out) hkp (fun hs_=>(fun e_=>(Kd.R_ne HO_844001.out BK829.out (by decide)) e_) hs_)) (blk_kept (z5_ BK830.out) hkp (fun hs_=>(fun e_=>(Kd.R_ne HO_844001.out BK830.out (by decide)) e_) hs_)) (blk_kept (z5_ BK839.out) hkp (fun hs_=>(fun e_=>(Kd.R_ne HO_844001.out BK839.out (by decide)) e_) hs_)) (blk_kept (z5_ BK843.out) hkp (fun hs_=>(fun e_=>(Kd.R_ne HO_844001.out BK843.out (by decide)) e_) hs_)) (Kd.R_mono (ok':=fun k_=>some k_≠(.slice Ao39 t835.length co39:Value).ownBlock∧some k_≠(v854:Value).ownBlock∧k_≠gb839) (Kd.R_keptB ((Kd.R_apart' HO852.out (Kd.R_typed HO_844001.out) (by decide))) hkp (fun k_ hk_ hs_=>(hk_.2) hs_)) (fun k_ hk_=>⟨hk_.1.1.1.1.2,hk_.1.1.2,hk_.1.1.1.2⟩)) (Kd.R_mono (ok':=fun k_=>some k_≠(.slice Ao39 t835.length co39:Value).ownBlock∧some k_≠(.slice Ao106 y850.length co106:Value).ownBlock∧k_≠gb839) (Kd.R_keptB ((Kd.R_apart' HO855.out (Kd.R_typed HO_844001.out) (by decide))) hkp (fun k_ hk_ hs_=>(hk_.2) hs_)) (fun k_ hk_=>⟨hk_.1.1.1.1.2,hk_.1.1.1.2,hk_.1.1.2⟩)) (Kd.R_mono (ok':=fun k_=>True) ho0 (fun k_ hk_=>trivial)) (hb) ?_
          clear HO_11 BK829 BK830 BK839 BK843 HO852 HO855 HB HO_844001
          intro HO_11 BK829 BK830 BK839 BK843 HO852 HO855 HO858 HB
          (try clear hb)
          (try clear hkp)
          (try clear ho0)
          obtain ⟨Ao110,co110,eo110⟩:=Kd.R_slice HO855.out
          (first | subst eo110 | (injection eo110 with f1_ f2_ f3_;have f4_:=f1_.symm;have f5_:=f3_.symm;clear f1_ f2_ f3_;subst f4_;subst f5_))
          obtain ⟨Ao112,co112,eo112⟩:=Kd.R_slice HO858.out
          (first | subst eo112 | (injection eo112 with f1_ f2_ f3_;have f4_:=f1_.symm;have f5_:=f3_.symm;clear f1_ f2_ f3_;subst f4_;subst f5_))
          refine hK.out _ _ (cj2_ BK839.out (cc2_ BK843.out)) (fun hHeld=>?_)
          clear hK K
          refine nm_ 87 ?_
          refine last_ (i:=8) (N:=none) #[I,I,I,I,I,I,I,I,I,O,O] rfl rfl (one_of HT_.out (by kernel_rfl)) (by decide) (fun K hK=>?_)
          have hs111:w109.cell? ⟨gb843,0,none⟩=some (.slice none 0 0):=(blk_cell BK843.out 0).trans rfl
          have hfs111:=blk_frozen BK843.out 0
          have hns111_0:=NB829_843.out
          have hns111_1:=NB830_843.out
          have hns111_2:=NB839_843.out
          have hms111_0:=NB843_829.out
          have hms111_1:=NB843_830.out
          have hms111_2:=NB843_839.out
          refine skip_ (w1:=?_) (by rfl) rfl ?_ ?_
          rotate_left
          ·go_simp
           rfl
          refine hK.out _ _ ?_
          clear hK K
          refine pu_ 9 89 #[I,I,I,I,I,I,I,I,I,I,O] HT_.out ?_
          refine last_ (i:=10) (N:=none) #[I,I,I,I,I,I,I,I,I,I,I] rfl rfl (one_of HT_.out (by kernel_rfl)) (by decide) (fun K hK=>?_)
          have hs113:w109.cell? ⟨gb843,1,none⟩=some (.slice Ao108 x844001_2.length co108):=(blk_cell BK843.out 1).trans rfl
          have hfs113:=blk_frozen BK843.out 1
          have hns113_0:=NB829_843.out
          have hns113_1:=NB830_843.out
          have hns113_2:=NB839_843.out
          have hms113_0:=NB843_829.out
          have hms113_1:=NB843_830.out
          have hms113_2:=NB843_839.out
          refine skip_ (w1:=?_) (by rfl) rfl ?_ ?_
          rotate_left
          ·go_simp
           rfl
          refine hK.out _ _ ?_
          clear hK K
          refine done_ (done_of HT_.out (by kernel_rfl)) ?_
          have hnb114:=NB843_829.out
          have hnc114:=NB829_843.out
          have hnb115:=NB843_830.out
          have hnc115:=NB830_843.out
          have hnb116:=NB843_839.out
          have hnc116:=NB839_843.out
          have ⟨hcz117_0,hcz117_1,hfz117_0,hfz117_1⟩:=cz2_ BK843.out
          have hnb118:=NB839_829.out
          have hnc118:=NB829_839.out
          have hnb119:=NB839_830.out
          have hnc119:=NB830_839.out
          have ⟨hcz120_0,hcz120_1,hfz120_0,hfz120_1⟩:=cz2_ BK839.out
          have hnb121:=NB830_829.out
          have hnc121:=NB829_830.out
          have ⟨hcz122_0,hcz122_1,hcz122_2,hcz122_3,hcz122_4,hfz122_0,hfz122_1,hfz122_2,hfz122_3,hfz122_4⟩:=cz5_ BK830.out
          try go_wp2
          refine bodyPost_ret (results_cell_row rfl _ _ gb830 58 #[.slice Ao110 t853.length co110,.slice Ao112 t856.length co112,.int .i64 a2,.int .i64 (wrap64 (t838+1)),.int .i64 0] (0,0) _ rfl (by (with_reducible repeat (first | refine blk_drewN ?_ _ | refine blk_drew ?_ | refine blk_alloc ?_ _));apply put5_;(with_reducible repeat (first | refine blk_drewN ?_ _ | refine blk_drew ?_ | refine blk_alloc ?_ _));refine blk_far ?_ NB830_843.out _;(with_reducible repeat (first | refine blk_drewN ?_ _ | refine blk_drew ?_ | refine blk_alloc ?_ _));refine blk_far ?_ NB830_843.out _;(with_reducible repeat (first | refine blk_drewN ?_ _ | refine blk_drew ?_ | refine blk_alloc ?_ _));exact BK830.out) Try.underlying58 rfl (by kernel_rfl)) rfl ?_
          exact ⟨_,_,z8_,by (with_reducible repeat (first | apply Kd.R_alloc | apply Kd.R_drewN | apply Kd.R_drew));exact Kd.R_mono (rf5_ (Kd.R_far (p:=⟨gb843,1,none⟩) (Kd.R_far (p:=⟨gb843,0,none⟩) (Kd.R_types (Kd.R_types HO855.out BK843.out (by decide)) BK830.out (by decide)) (fun _ hk=>hk.1.2) (.slice Ao110 t853.length co110)) (fun _ hk=>hk.1.2) (.slice Ao112 t856.length co112)) (fun _ hk=>hk.2)) (fun _ hk=>trivial),by (with_reducible repeat (first | apply Kd.R_alloc | apply Kd.R_drewN | apply Kd.R_drew));exact Kd.R_mono (rf5_ (Kd.R_far (p:=⟨gb843,1,none⟩) (Kd.R_far (p:=⟨gb843,0,none⟩) (Kd.R_types (Kd.R_types HO858.out BK843.out (by decide)) BK830.out (by decide)) (fun _ hk=>hk.1.2) (.slice Ao110 t853.length co110)) (fun _ hk=>hk.1.2) (.slice Ao112 t856.length co112)) (fun _ hk=>hk.2)) (fun _ hk=>trivial),z10_ HB.out GE829.out GE830.out GE839.out GE843.out⟩

end Go.Proofs.Ytphbgcfpcadabaa.P
