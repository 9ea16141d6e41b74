/- For all messages, kinds and sets the program's MsgTurn and the reference's return the same, of its own memory, and leave what they are given. No condition. (Part 3 of 6: written by programs of this workplace and by hand, merged.) -/
import Derived.Test.YtphbgcfpcadabaaMFnExactMsgTurna
import Derived.Test.YtphbgcfpcadabaaMFnExactMsgTurnb
set_option linter.unusedVariables false
set_option linter.unusedSimpArgs false

namespace Go.Proofs.Ytphbgcfpcadabaa.P
open Go.RowKit Go.Proofs.YtphbgcfpcadabaaW.PrintWords Go.Proofs.YtphbgcfpcadabaaW.PrintLast Go.Proofs.YtphbgcfpcadabaaW.PrintMore
attribute [local go_sem] max2_int min2_int max_two min_two max_three min_three max_four min_four   -- for this text's walks alone
set_option linter.unusedVariables false
set_option linter.unusedSimpArgs false

/-! ### impl_SetRight: function 56 -/
mutual
def impl_SetRight.j0:Nat→Bool→List (S56)→List (S91)→Option (Bool)
 | 0,_,_,_=>none
 | k+1,x14,x282000,x282001=>if x14=true then (some false) else (impl_SetRight.l0 k x282001 (x282001.length:Int) 0 x282000 x282001)
def impl_SetRight.l0:Nat→List (S91)→Int→Int→List (S56)→List (S91)→Option (Bool)
 | 0,_,_,_,_,_=>none
 | k+1,x16,x17,x18,x282000,x282001=>if x18<x17 then (if 0≤x18 then (if x18<(x16.length:Int) then ((impl_isDot.f ((rd_T91 x16 x18).f0.f0) ((rd_T91 x16 x18).f0.f1)).bind fun t285=>(if t285=true then ((impl_seenHas.f k x282000 ((rd_T91 x16 x18).f0.f0) ((rd_T91 x16 x18).f0.f1)).bind fun t286=>(if t286=true then ((impl_isData.f ((rd_T91 x16 x18).f2) ((rd_T91 x16 x18).f1)).bind fun t287=>(if t287=true then (if x18>0 then (if 0≤(wrap64 (x18-1)) then (if (wrap64 (x18-1))<(x282001.length:Int) then ((impl_compareDots.f k ((rd_T91 x282001 (wrap64 (x18-1))).f0.f0) ((rd_T91 x282001 (wrap64 (x18-1))).f0.f1) ((rd_T91 x16 x18).f0.f0) ((rd_T91 x16 x18).f0.f1)).bind fun t289=>(impl_SetRight.j2 k x16 x17 x18 (decide (t289≥0)) x282000 x282001)) else (none)) else (none)) else (impl_SetRight.j2 k x16 x17 x18 false x282000 x282001)) else (impl_SetRight.j2 k x16 x17 x18 true x282000 x282001))) else (impl_SetRight.j2 k x16 x17 x18 true x282000 x282001))) else (impl_SetRight.j2 k x16 x17 x18 true x282000 x282001))) else (none)) else (none)) else (some true)
def impl_SetRight.j2:Nat→List (S91)→Int→Int→Bool→List (S56)→List (S91)→Option (Bool)
 | 0,_,_,_,_,_,_=>none
 | k+1,x16,x17,x18,x59,x282000,x282001=>if x59=true then (some false) else (impl_SetRight.l0 k x16 x17 (wrap64 (x18+1)) x282000 x282001)
end
def impl_SetRight.f (k:Nat) (l0_0:List (S56)) (l0_1:List (S91)):Option (Bool):=(impl_seenRight.f k l0_0).bind fun t282=>(if t282=true then (impl_SetRight.j0 k (decide ((l0_1.length:Int)>8)) l0_0 l0_1) else (impl_SetRight.j0 k true l0_0 l0_1))
theorem impl_SetRight.mono_l:∀ k,(∀ y0 y1 y2,LeO (impl_SetRight.j0 k y0 y1 y2) (impl_SetRight.j0 (k+1) y0 y1 y2))∧(∀ y0 y1 y2 y3 y4,LeO (impl_SetRight.l0 k y0 y1 y2 y3 y4) (impl_SetRight.l0 (k+1) y0 y1 y2 y3 y4))∧(∀ y0 y1 y2 y3 y4 y5,LeO (impl_SetRight.j2 k y0 y1 y2 y3 y4 y5) (impl_SetRight.j2 (k+1) y0 y1 y2 y3 y4 y5))
 | 0=>⟨fun _ _ _ r h=>by simp [impl_SetRight.j0] at h,fun _ _ _ _ _ r h=>by simp [impl_SetRight.l0] at h,fun _ _ _ _ _ _ r h=>by simp [impl_SetRight.j2] at h⟩
 | k+1=>by
  obtain ⟨ih0,ih1,ih2⟩:=impl_SetRight.mono_l k
  refine ⟨?_,?_,?_⟩
  ·intro y0 y1 y2
   unfold impl_SetRight.j0
   repeat' first
   | (with_reducible exact ih0 _ _ _)
   | (with_reducible exact ih1 _ _ _ _ _)
   | (with_reducible exact ih2 _ _ _ _ _ _)
   | (with_reducible exact impl_compareDots.mono _ _ _ _ _)
   | (with_reducible exact impl_seenHas.mono _ _ _ _)
   | (with_reducible exact impl_seenRight.mono _ _)
   | (with_reducible exact LeO.refl _)
   | (with_reducible exact LeO.none _)
   | (with_reducible refine LeO.ite ?_ ?_)
   | (with_reducible refine LeO.bind ?_ (fun _=>?_))
   | exact ih0 _ _ _
   | exact ih1 _ _ _ _ _
   | exact ih2 _ _ _ _ _ _
   | exact impl_compareDots.mono _ _ _ _ _
   | exact impl_seenHas.mono _ _ _ _
   | exact impl_seenRight.mono _ _
   | exact LeO.none _
   | refine LeO.ite ?_ ?_
   | refine LeO.bind ?_ (fun _=>?_)
  ·intro y0 y1 y2 y3 y4
   unfold impl_SetRight.l0
   repeat' first
   | (with_reducible exact ih0 _ _ _)
   | (with_reducible exact ih1 _ _ _ _ _)
   | (with_reducible exact ih2 _ _ _ _ _ _)
   | (with_reducible exact impl_compareDots.mono _ _ _ _ _)
   | (with_reducible exact impl_seenHas.mono _ _ _ _)
   | (with_reducible exact impl_seenRight.mono _ _)
   | (with_reducible exact LeO.refl _)
   | (with_reducible exact LeO.none _)
   | (with_reducible refine LeO.ite ?_ ?_)
   | (with_reducible refine LeO.bind ?_ (fun _=>?_))
   | exact ih0 _ _ _
   | exact ih1 _ _ _ _ _
   | exact ih2 _ _ _ _ _ _
   | exact impl_compareDots.mono _ _ _ _ _
   | exact impl_seenHas.mono _ _ _ _
   | exact impl_seenRight.mono _ _
   | exact LeO.none _
   | refine LeO.ite ?_ ?_
   | refine LeO.bind ?_ (fun _=>?_)
  ·intro y0 y1 y2 y3 y4 y5
   unfold impl_SetRight.j2
   repeat' first
   | (with_reducible exact ih0 _ _ _)
   | (with_reducible exact ih1 _ _ _ _ _)
   | (with_reducible exact ih2 _ _ _ _ _ _)
   | (with_reducible exact impl_compareDots.mono _ _ _ _ _)
   | (with_reducible exact impl_seenHas.mono _ _ _ _)
   | (with_reducible exact impl_seenRight.mono _ _)
   | (with_reducible exact LeO.refl _)
   | (with_reducible exact LeO.none _)
   | (with_reducible refine LeO.ite ?_ ?_)
   | (with_reducible refine LeO.bind ?_ (fun _=>?_))
   | exact ih0 _ _ _
   | exact ih1 _ _ _ _ _
   | exact ih2 _ _ _ _ _ _
   | exact impl_compareDots.mono _ _ _ _ _
   | exact impl_seenHas.mono _ _ _ _
   | exact impl_seenRight.mono _ _
   | exact LeO.none _
   | refine LeO.ite ?_ ?_
   | refine LeO.bind ?_ (fun _=>?_)
theorem impl_SetRight.mono:∀ a0 a1 k,LeO (impl_SetRight.f k a0 a1) (impl_SetRight.f (k+1) a0 a1):=by
 intro a0 a1 k
 obtain ⟨ih0,ih1,ih2⟩:=impl_SetRight.mono_l k
 unfold impl_SetRight.f
 repeat' first
   | (with_reducible exact ih0 _ _ _)
   | (with_reducible exact ih1 _ _ _ _ _)
   | (with_reducible exact ih2 _ _ _ _ _ _)
   | (with_reducible exact impl_compareDots.mono _ _ _ _ _)
   | (with_reducible exact impl_seenHas.mono _ _ _ _)
   | (with_reducible exact impl_seenRight.mono _ _)
   | (with_reducible exact LeO.refl _)
   | (with_reducible exact LeO.none _)
   | (with_reducible refine LeO.ite ?_ ?_)
   | (with_reducible refine LeO.bind ?_ (fun _=>?_))
   | exact ih0 _ _ _
   | exact ih1 _ _ _ _ _
   | exact ih2 _ _ _ _ _ _
   | exact impl_compareDots.mono _ _ _ _ _
   | exact impl_seenHas.mono _ _ _ _
   | exact impl_seenRight.mono _ _
   | exact LeO.none _
   | refine LeO.ite ?_ ?_
   | refine LeO.bind ?_ (fun _=>?_)
def impl_SetRight.T6:Bool × List (List Nat × List Nat):=(true,[([],[]),([0],[0]),([1],[1]),([2],[2]),([3,2],[3]),([4],[4]),([5,4],[4,5]),([4],[4]),([7,4],[4,7]),([6,8,4,4],[4,6,8]),([9,4],[4,9]),([4,10],[4,10]),([11,9],[11]),([12],[12]),([13,12],[12,13]),([12],[12]),([15,12],[12,15]),([14,16,12,12],[12,14,16]),([17,12],[12,17]),([12,18],[12,18]),([19,17],[19]),([20],[20]),([21,20],[20,21]),([22,20,20],[20,22]),([23],[23]),([24,23],[23,24]),([23],[23]),([26,23],[23,26]),([25,27,23],[23,25,27]),([28,23],[23,28]),([29,23],[23,29]),([23],[23]),([31,23],[23,31]),([30,32,23,23],[23,30,32]),([33,23],[23,33]),([23,34,20],[20,23,34]),([20,35],[20,35])])
def impl_SetRight.B6:List Nat:=[0,1,3,7,15,31,63,31,159,511,1023,2047,4095,8191,16383,8191,40959,131071,262143,524287,1048575,2097151,4194303,8388607,16777215,33554431,16777215,83886079,268435455,536870911,1073741823,16777215,2164260863,8589934591,17179869183,34359738367,68719476735]
theorem impl_SetRight.tab6:rtab .any (opsOf Try.f56 6)=impl_SetRight.T6:=by kernel_rfl
theorem impl_SetRight.bits6:waitsOk impl_SetRight.T6.2 impl_SetRight.B6=true:=by kernel_rfl
abbrev impl_SetRight.q0:Array Bool:=#[O,O,O,O,O,O,O,O,O,O,O,O,O,O,O,O,O,O,O,O,O,O,O,O,O,O,O,O,O,O,O,O,O,O,O,O,O]
abbrev impl_SetRight.q1:Array Bool:=#[I,O,O,O,O,O,O,O,O,O,O,O,O,O,O,O,O,O,O,O,O,O,O,O,O,O,O,O,O,O,O,O,O,O,O,O,O]
abbrev impl_SetRight.q2:Array Bool:=#[I,I,O,O,O,O,O,O,O,O,O,O,O,O,O,O,O,O,O,O,O,O,O,O,O,O,O,O,O,O,O,O,O,O,O,O,O]
abbrev impl_SetRight.q3:Array Bool:=#[I,I,I,O,O,O,O,O,O,O,O,O,O,O,O,O,O,O,O,O,O,O,O,O,O,O,O,O,O,O,O,O,O,O,O,O,O]
abbrev impl_SetRight.q4:Array Bool:=#[I,I,I,I,O,O,O,O,O,O,O,O,O,O,O,O,O,O,O,O,O,O,O,O,O,O,O,O,O,O,O,O,O,O,O,O,O]
abbrev impl_SetRight.q5:Array Bool:=#[I,I,I,I,I,O,O,O,O,O,O,O,O,O,O,O,O,O,O,O,O,O,O,O,O,O,O,O,O,O,O,O,O,O,O,O,O]
abbrev impl_SetRight.q6:Array Bool:=#[I,I,I,I,I,I,O,O,O,O,O,O,O,O,O,O,O,O,O,O,O,O,O,O,O,O,O,O,O,O,O,O,O,O,O,O,O]
abbrev impl_SetRight.q7:Array Bool:=#[I,I,I,I,I,I,O,I,O,O,O,O,O,O,O,O,O,O,O,O,O,O,O,O,O,O,O,O,O,O,O,O,O,O,O,O,O]
abbrev impl_SetRight.q8:Array Bool:=#[I,I,I,I,I,I,I,I,O,O,O,O,O,O,O,O,O,O,O,O,O,O,O,O,O,O,O,O,O,O,O,O,O,O,O,O,O]
abbrev impl_SetRight.q9:Array Bool:=#[I,I,I,I,I,I,I,I,I,O,O,O,O,O,O,O,O,O,O,O,O,O,O,O,O,O,O,O,O,O,O,O,O,O,O,O,O]
abbrev impl_SetRight.q10:Array Bool:=#[I,I,I,I,I,I,I,I,I,I,O,O,O,O,O,O,O,O,O,O,O,O,O,O,O,O,O,O,O,O,O,O,O,O,O,O,O]
abbrev impl_SetRight.q11:Array Bool:=#[I,I,I,I,I,I,I,I,I,I,I,O,O,O,O,O,O,O,O,O,O,O,O,O,O,O,O,O,O,O,O,O,O,O,O,O,O]
abbrev impl_SetRight.q12:Array Bool:=#[I,I,I,I,I,I,I,I,I,I,I,I,O,O,O,O,O,O,O,O,O,O,O,O,O,O,O,O,O,O,O,O,O,O,O,O,O]
abbrev impl_SetRight.q13:Array Bool:=#[I,I,I,I,I,I,I,I,I,I,I,I,I,O,O,O,O,O,O,O,O,O,O,O,O,O,O,O,O,O,O,O,O,O,O,O,O]
abbrev impl_SetRight.q14:Array Bool:=#[I,I,I,I,I,I,I,I,I,I,I,I,I,I,O,O,O,O,O,O,O,O,O,O,O,O,O,O,O,O,O,O,O,O,O,O,O]
abbrev impl_SetRight.q15:Array Bool:=#[I,I,I,I,I,I,I,I,I,I,I,I,I,I,O,I,O,O,O,O,O,O,O,O,O,O,O,O,O,O,O,O,O,O,O,O,O]
abbrev impl_SetRight.q16:Array Bool:=#[I,I,I,I,I,I,I,I,I,I,I,I,I,I,I,I,O,O,O,O,O,O,O,O,O,O,O,O,O,O,O,O,O,O,O,O,O]
abbrev impl_SetRight.q17:Array Bool:=#[I,I,I,I,I,I,I,I,I,I,I,I,I,I,I,I,I,O,O,O,O,O,O,O,O,O,O,O,O,O,O,O,O,O,O,O,O]
abbrev impl_SetRight.q18:Array Bool:=#[I,I,I,I,I,I,I,I,I,I,I,I,I,I,I,I,I,I,O,O,O,O,O,O,O,O,O,O,O,O,O,O,O,O,O,O,O]
abbrev impl_SetRight.q19:Array Bool:=#[I,I,I,I,I,I,I,I,I,I,I,I,I,I,I,I,I,I,I,O,O,O,O,O,O,O,O,O,O,O,O,O,O,O,O,O,O]
abbrev impl_SetRight.q20:Array Bool:=#[I,I,I,I,I,I,I,I,I,I,I,I,I,I,I,I,I,I,I,I,O,O,O,O,O,O,O,O,O,O,O,O,O,O,O,O,O]
abbrev impl_SetRight.q21:Array Bool:=#[I,I,I,I,I,I,I,I,I,I,I,I,I,I,I,I,I,I,I,I,I,O,O,O,O,O,O,O,O,O,O,O,O,O,O,O,O]
abbrev impl_SetRight.q22:Array Bool:=#[I,I,I,I,I,I,I,I,I,I,I,I,I,I,I,I,I,I,I,I,I,I,O,O,O,O,O,O,O,O,O,O,O,O,O,O,O]
abbrev impl_SetRight.q23:Array Bool:=#[I,I,I,I,I,I,I,I,I,I,I,I,I,I,I,I,I,I,I,I,I,I,I,O,O,O,O,O,O,O,O,O,O,O,O,O,O]
abbrev impl_SetRight.q24:Array Bool:=#[I,I,I,I,I,I,I,I,I,I,I,I,I,I,I,I,I,I,I,I,I,I,I,I,O,O,O,O,O,O,O,O,O,O,O,O,O]
abbrev impl_SetRight.q25:Array Bool:=#[I,I,I,I,I,I,I,I,I,I,I,I,I,I,I,I,I,I,I,I,I,I,I,I,I,O,O,O,O,O,O,O,O,O,O,O,O]
abbrev impl_SetRight.q26:Array Bool:=#[I,I,I,I,I,I,I,I,I,I,I,I,I,I,I,I,I,I,I,I,I,I,I,I,I,I,I,I,I,I,I,I,O,O,O,O,O]
abbrev impl_SetRight.q27:Array Bool:=#[I,I,I,I,I,I,I,I,I,I,I,I,I,I,I,I,I,I,I,I,I,I,I,I,I,I,I,I,I,I,I,I,I,O,O,O,O]
abbrev impl_SetRight.q28:Array Bool:=#[I,I,I,I,I,I,I,I,I,I,I,I,I,I,I,I,I,I,I,I,I,I,I,I,I,I,I,I,I,I,I,I,I,I,O,O,O]
abbrev impl_SetRight.q29:Array Bool:=#[I,I,I,I,I,I,I,I,I,I,I,I,I,I,I,I,I,I,I,I,I,I,I,I,I,I,I,I,I,I,I,I,I,I,I,O,O]
abbrev impl_SetRight.q30:Array Bool:=#[I,I,I,I,I,I,I,I,I,I,I,I,I,I,I,I,I,I,I,I,I,I,I,I,I,I,I,I,I,I,I,I,I,I,I,I,O]
abbrev impl_SetRight.q31:Array Bool:=#[I,I,I,I,I,I,I,I,I,I,I,I,I,I,I,I,I,I,I,I,I,I,I,I,I,I,I,I,I,I,I,I,I,I,I,I,I]
abbrev impl_SetRight.q32:Array Bool:=#[I,I,I,I,I,I,I,I,I,I,I,I,I,I,I,I,I,I,I,I,I,I,I,I,I,I,O,O,O,O,O,O,O,O,O,O,O]
abbrev impl_SetRight.q33:Array Bool:=#[I,I,I,I,I,I,I,I,I,I,I,I,I,I,I,I,I,I,I,I,I,I,I,I,I,I,I,O,O,O,O,O,O,O,O,O,O]
abbrev impl_SetRight.q34:Array Bool:=#[I,I,I,I,I,I,I,I,I,I,I,I,I,I,I,I,I,I,I,I,I,I,I,I,I,I,I,I,O,O,O,O,O,O,O,O,O]
abbrev impl_SetRight.q35:Array Bool:=#[I,I,I,I,I,I,I,I,I,I,I,I,I,I,I,I,I,I,I,I,I,I,I,I,I,I,I,I,I,O,O,O,O,O,O,O,O]
abbrev impl_SetRight.q36:Array Bool:=#[I,I,I,I,I,I,I,I,I,I,I,I,I,I,I,I,I,I,I,I,I,I,I,I,I,I,I,I,I,I,O,O,O,O,O,O,O]
abbrev impl_SetRight.q37:Array Bool:=#[I,I,I,I,I,I,I,I,I,I,I,I,I,I,I,I,I,I,I,I,I,I,I,I,I,I,I,I,I,I,I,O,O,O,O,O,O]
abbrev impl_SetRight.q38:Array Bool:=#[I,I,I,I,I,I,I,I,I,I,I,I,I,I,I,O,O,O,O,O,O,O,O,O,O,O,O,O,O,O,O,O,O,O,O,O,O]
set_option maxHeartbeats 8000000 in
set_option maxRecDepth 100000 in
theorem impl_SetRight.calls (k:Nat) (A0_0:Option Addr) (c0_0:Nat) (l0_0:List (S56)) (A0_1:Option Addr) (c0_1:Nat) (l0_1:List (S91)) (r:Bool) (w:World) (hr0_0:Kd.C k56 w A0_0 l0_0.length l0_0) (hc0_0:l0_0.length≤c0_0) (hr0_1:Kd.C k91 w A0_1 l0_1.length l0_1) (hc0_1:l0_1.length≤c0_1) (h:impl_SetRight.f k l0_0 l0_1=some r) :
  Calls Try.prog 56 #[.agg #[.slice A0_0 l0_0.length c0_0,.slice A0_1 l0_1.length c0_1]] w fun e w'=>e = .returned (.bool r)∧Below w.heap.size w w':=by
 have hu40:=Try.underlying40
 have hu91:=Try.underlying91
 have hu56:=Try.underlying56
 have HR0_0:=Aside0.mk hr0_0
 have HC0_0:=Aside0.mk hc0_0
 clear hr0_0 hc0_0
 have HR0_1:=Aside0.mk hr0_1
 have HC0_1:=Aside0.mk hc0_1
 clear hr0_1 hc0_1
 have HB:=Aside0.mk (Below.refl w.heap.size w)
 have H:((impl_seenRight.f k l0_0).bind fun t282=>(if t282=true then (impl_SetRight.j0 k (decide ((l0_1.length:Int)>8)) l0_0 l0_1) else (impl_SetRight.j0 k true l0_0 l0_1)))=some r:=h
 clear h
 have HC2:=Aside0.mk H
 clear H
 go_enter Try.func56,Try.ntmps56
 go_upto_region 1 with (first | ((with_reducible refine gd_ 1 ?_);(try (refine gate_guard (by rfl) ?_;dsimp only));refine be_ 1 #[.slice A0_0 l0_0.length c0_0,.slice A0_1 l0_1.length c0_1] 40 ?_;intro gb281 hg w3 hbox hb;refine as4_ (below_step (z5_ HB.out) hb) (hbox) ((z7_ HB.out:w.heap.size≤gb281)) ((z7_ HB.out:w.heap.size≤gb281)) ?_;clear HB;intro HB BK281 GW281 GE281;clear hb hbox hg))
 (try simp only [Act.put,sa_,s0_,ss_])
 go_cut [14] (fun v14 wc=>∃ (kq:Nat) (x14_1:Bool),v14 = .bool x14_1∧Aside0 (impl_SetRight.j0 kq x14_1 l0_0 l0_1=some r)∧Aside0 (kq≤k)∧Aside0 (wc.heap[gb281]? = some (.cells #[(.slice A0_0 l0_0.length c0_0),(.slice A0_1 l0_1.length c0_1)] 40 (0,0)))∧Aside0 (Below w.heap.size w wc))
 case first =>
  have H:=HC2.out
  clear HC2
  replace H:=Option.bind_eq_some_iff.mp H
  obtain ⟨t282,A40,H⟩:=H
  replace H:(if t282=true then (impl_SetRight.j0 k (decide ((l0_1.length:Int)>8)) l0_0 l0_1) else (impl_SetRight.j0 k true l0_0 l0_1))=some r:=H
  have A4:=Aside0.mk A40
  clear A40
  by_cases c5:t282=true
  ·subst c5
   have H1:(impl_SetRight.j0 k (decide ((l0_1.length:Int)>8)) l0_0 l0_1)=some r:=by rw [if_pos rfl] at H;exact H
   clear H
   have H:=H1
   clear H1
   have H':=Aside0.mk H
   clear H
   have ⟨hcz6_0,hcz6_1,hfz6_0,hfz6_1⟩:=cz2_ BK281.out
   go_wp2_with (first | ((with_reducible refine gc_ 87 ?_);refine gl_ (some 7) Try.func87 #[.slice A0_0 l0_0.length c0_0] ?_;(with_reducible refine (impl_seenRight.calls k _ _ l0_0 true _ ?s1 ?s2 A4.out).mono ?_);(case s1=>repeat (first | exact (Kd.C_below HR0_0.out HB.out) | (with_reducible refine Kd.C_alloc ?_ _) | (with_reducible refine Kd.C_drewN ?_ _) | (with_reducible refine Kd.C_drew ?_)));(case s2=>exact HC0_0.out);rintro e w7 ⟨rfl,hb⟩;refine ⟨_,rfl,?_⟩;refine as2_ (blkB_ BK281.out hb) (below_step (z4_ HB.out GE281.out) hb) ?_;clear BK281 HB;intro BK281 HB;(try clear hb);have ⟨hcz8_0,hcz8_1,hfz8_0,hfz8_1⟩:=cz2_ BK281.out))
   go_meet
   case rel=>exact ⟨_,(decide ((l0_1.length:Int)>8)),(z2_),H',⟨by first | omega | exact Nat.le_refl _⟩,⟨z3_ BK281.out⟩,⟨z4_ HB.out GE281.out⟩⟩
  ·replace c5:=Bool.eq_false_iff.mpr c5
   subst c5
   have H1:(impl_SetRight.j0 k true l0_0 l0_1)=some r:=by rw [if_neg (show ¬ (false=true) by decide)] at H;exact H
   clear H
   have H:=H1
   clear H1
   have H':=Aside0.mk H
   clear H
   have ⟨hcz9_0,hcz9_1,hfz9_0,hfz9_1⟩:=cz2_ BK281.out
   go_wp2_with (first | ((with_reducible refine gc_ 87 ?_);refine gl_ (some 7) Try.func87 #[.slice A0_0 l0_0.length c0_0] ?_;(with_reducible refine (impl_seenRight.calls k _ _ l0_0 false _ ?s1 ?s2 A4.out).mono ?_);(case s1=>repeat (first | exact (Kd.C_below HR0_0.out HB.out) | (with_reducible refine Kd.C_alloc ?_ _) | (with_reducible refine Kd.C_drewN ?_ _) | (with_reducible refine Kd.C_drew ?_)));(case s2=>exact HC0_0.out);rintro e w10 ⟨rfl,hb⟩;refine ⟨_,rfl,?_⟩;refine as2_ (blkB_ BK281.out hb) (below_step (z4_ HB.out GE281.out) hb) ?_;clear BK281 HB;intro BK281 HB;(try clear hb)))
   go_meet
   case rel=>exact ⟨_,(true),(z2_),H',⟨by first | omega | exact Nat.le_refl _⟩,⟨z3_ BK281.out⟩,⟨z4_ HB.out GE281.out⟩⟩
 case rest =>
  clear HC2
  try clear p2
  try clear c5
  try clear c8
  try clear hcz6_0
  try clear hcz6_1
  try clear hcz8_0
  try clear hcz8_1
  try clear hcz9_0
  try clear hcz9_1
  try clear hfz6_0
  try clear hfz6_1
  try clear hfz8_0
  try clear hfz8_1
  try clear hfz9_0
  try clear hfz9_1
  obtain ⟨kq,x14_1,rfl,HA,HJ1,BK281,HB⟩:=hcut
  cases kq with
  | zero=>exact absurd HA.out (by simp [impl_SetRight.j0])
  | succ kj1 =>
   have H:=HA.out
   clear HA
   simp only [impl_SetRight.j0] at H
   by_cases c11:x14_1=true
   ·subst c11
    have H1:(some false)=some r:=by rw [if_pos rfl] at H;exact H
    clear H
    have H:=H1
    clear H1
    obtain rfl:=Option.some.inj H
    go_wp2
    go_ret
    exact ⟨z8_,z4_ HB.out GE281.out⟩
   ·replace c11:=Bool.eq_false_iff.mpr c11
    subst c11
    have H1:(impl_SetRight.l0 kj1 l0_1 (l0_1.length:Int) 0 l0_0 l0_1)=some r:=by rw [if_neg (show ¬ (false=true) by decide)] at H;exact H
    clear H
    have H:=H1
    clear H1
    have H':=Aside0.mk H
    clear H
    have ⟨hcz12_0,hcz12_1,hfz12_0,hfz12_1⟩:=cz2_ BK281.out
    go_wp2
    go_loopg [18] kj1 (fun kq v18 w'=>∃ (x18_2:Int),v18 = .int .i64 x18_2∧Aside0 (impl_SetRight.l0 kq l0_1 (l0_1.length:Int) x18_2 l0_0 l0_1=some r)∧Aside0 (kq≤kj1)∧Aside0 (w'.heap[gb281]? = some (.cells #[(.slice A0_0 l0_0.length c0_0),(.slice A0_1 l0_1.length c0_1)] 40 (0,0)))∧Aside0 (Below w.heap.size w w'))
    case atStart=>exact ⟨(0),(z2_),H',⟨Nat.le_refl _⟩,⟨z3_ BK281.out⟩,⟨z4_ HB.out GE281.out⟩⟩
    case round =>
     clear H'
     try clear c1
     try clear p2
     try clear c5
     try clear c8
     try clear c11
     try clear hcz12_0
     try clear hcz12_1
     try clear hcz6_0
     try clear hcz6_1
     try clear hcz8_0
     try clear hcz8_1
     try clear hcz9_0
     try clear hcz9_1
     try clear hfz12_0
     try clear hfz12_1
     try clear hfz6_0
     try clear hfz6_1
     try clear hfz8_0
     try clear hfz8_1
     try clear hfz9_0
     try clear hfz9_1
     try clear p2
     obtain ⟨x18_2,rfl,HA,HK2,BK281,HB⟩:=hrel
     cases gk with
     | zero=>exact absurd HA.out (by simp [impl_SetRight.l0])
     | succ k2 =>
      have H:=HA.out
      clear HA
      simp only [impl_SetRight.l0] at H
      by_cases c13:x18_2<(l0_1.length:Int)
      ·rw [if_pos c13] at H
       have c13b0:decide (x18_2<(l0_1.length:Int))=true:=decide_eq_true c13
       clear c13
       by_cases c14:0≤x18_2
       ·rw [if_pos c14] at H
        have c14b0:decide (0≤x18_2)=true:=decide_eq_true c14
        clear c14
        by_cases c15:x18_2<(l0_1.length:Int)
        ·rw [if_pos c15] at H
         have c15b0:decide (x18_2<(l0_1.length:Int))=true:=decide_eq_true c15
         clear c15
         have HC16:=Aside0.mk H
         clear H
         have p283:0≤(x18_2:Int):=of_decide_eq_true (z1_)
         have q283:x18_2<(l0_1.length:Int):=of_decide_eq_true (z1_)
         obtain ⟨ad283,e283,hx283_0,hx283_1,hx283_2,hx283_3⟩:=at_T91 HR0_1.out x18_2 p283 q283
         cases e283
         replace hx283_0:=(HB.out.cell (World.block_lt_of_cell? w _ hx283_0)).trans hx283_0
         replace hx283_1:=(HB.out.cell (World.block_lt_of_cell? w _ hx283_1)).trans hx283_1
         replace hx283_2:=(HB.out.cell (World.block_lt_of_cell? w _ hx283_2)).trans hx283_2
         replace hx283_3:=(HB.out.cell (World.block_lt_of_cell? w _ hx283_3)).trans hx283_3
         replace p283:=eq_true p283
         replace q283:=eq_true q283
         go_upto_region 6 with (first | ((with_reducible refine gd_ 4 ?_);(try (refine gate_guard (by rfl) ?_;dsimp only));refine be_ 4 #[.int .i64 0,.int .i64 0,.bool false,.string (⟨#[]⟩:ByteArray)] 91 ?_;intro gb284 hg w17 hbox hb;refine as7_ (blkB_ BK281.out hb) (below_step (z4_ HB.out GE281.out) hb) (hbox) ((z11_ HB.out GE281.out:w.heap.size≤gb284)) ((z11_ HB.out GE281.out:w.heap.size≤gb284)) (neL_ BK281.out hg) (neG_ BK281.out hg) ?_;clear BK281 HB;intro BK281 HB BK284 GW284 GE284 NB281_284 NB284_281;clear hb hbox hg;have hnb18:=NB284_281.out;have hnc18:=NB281_284.out;have ⟨hcz19_0,hcz19_1,hcz19_2,hcz19_3,hfz19_0,hfz19_1,hfz19_2,hfz19_3⟩:=cz4_ BK284.out))
         (try simp only [Act.put,sa_,s0_,ss_])
         go_cut [59] (fun v59 wc=>∃ (kq:Nat) (x59_15:Bool),v59 = .bool x59_15∧Aside0 (impl_SetRight.j2 kq l0_1 (l0_1.length:Int) x18_2 x59_15 l0_0 l0_1=some r)∧Aside0 (kq≤k2)∧Aside0 (wc.heap[gb281]? = some (.cells #[(.slice A0_0 l0_0.length c0_0),(.slice (some ad283) l0_1.length c0_1)] 40 (0,0)))∧Aside0 (wc.heap[gb284]? = some (.cells #[.int .i64 ((rd_T91 l0_1 x18_2).f0.f0),.int .i64 ((rd_T91 l0_1 x18_2).f0.f1),.bool ((rd_T91 l0_1 x18_2).f1),.string ((rd_T91 l0_1 x18_2).f2)] 91 (0,0)))∧Aside0 (Below w.heap.size w wc))
         case first =>
          have H:=HC16.out
          clear HC16
          replace H:=Option.bind_eq_some_iff.mp H
          obtain ⟨t285,A200,H⟩:=H
          replace H:(if t285=true then ((impl_seenHas.f k2 l0_0 ((rd_T91 l0_1 x18_2).f0.f0) ((rd_T91 l0_1 x18_2).f0.f1)).bind fun t286=>(if t286=true then ((impl_isData.f ((rd_T91 l0_1 x18_2).f2) ((rd_T91 l0_1 x18_2).f1)).bind fun t287=>(if t287=true then (if x18_2>0 then (if 0≤(wrap64 (x18_2-1)) then (if (wrap64 (x18_2-1))<(l0_1.length:Int) then ((impl_compareDots.f k2 ((rd_T91 l0_1 (wrap64 (x18_2-1))).f0.f0) ((rd_T91 l0_1 (wrap64 (x18_2-1))).f0.f1) ((rd_T91 l0_1 x18_2).f0.f0) ((rd_T91 l0_1 x18_2).f0.f1)).bind fun t289=>(impl_SetRight.j2 k2 l0_1 (l0_1.length:Int) x18_2 (decide (t289≥0)) l0_0 l0_1)) else (none)) else (none)) else (impl_SetRight.j2 k2 l0_1 (l0_1.length:Int) x18_2 false l0_0 l0_1)) else (impl_SetRight.j2 k2 l0_1 (l0_1.length:Int) x18_2 true l0_0 l0_1))) else (impl_SetRight.j2 k2 l0_1 (l0_1.length:Int) x18_2 true l0_0 l0_1))) else (impl_SetRight.j2 k2 l0_1 (l0_1.length:Int) x18_2 true l0_0 l0_1))=some r:=H
          have A20:=Aside0.mk A200
          clear A200
          by_cases c21:t285=true
          ·subst c21
           have H1:((impl_seenHas.f k2 l0_0 ((rd_T91 l0_1 x18_2).f0.f0) ((rd_T91 l0_1 x18_2).f0.f1)).bind fun t286=>(if t286=true then ((impl_isData.f ((rd_T91 l0_1 x18_2).f2) ((rd_T91 l0_1 x18_2).f1)).bind fun t287=>(if t287=true then (if x18_2>0 then (if 0≤(wrap64 (x18_2-1)) then (if (wrap64 (x18_2-1))<(l0_1.length:Int) then ((impl_compareDots.f k2 ((rd_T91 l0_1 (wrap64 (x18_2-1))).f0.f0) ((rd_T91 l0_1 (wrap64 (x18_2-1))).f0.f1) ((rd_T91 l0_1 x18_2).f0.f0) ((rd_T91 l0_1 x18_2).f0.f1)).bind fun t289=>(impl_SetRight.j2 k2 l0_1 (l0_1.length:Int) x18_2 (decide (t289≥0)) l0_0 l0_1)) else (none)) else (none)) else (impl_SetRight.j2 k2 l0_1 (l0_1.length:Int) x18_2 false l0_0 l0_1)) else (impl_SetRight.j2 k2 l0_1 (l0_1.length:Int) x18_2 true l0_0 l0_1))) else (impl_SetRight.j2 k2 l0_1 (l0_1.length:Int) x18_2 true l0_0 l0_1)))=some r:=by rw [if_pos rfl] at H;exact H
           clear H
           have H:=H1
           clear H1
           replace H:=Option.bind_eq_some_iff.mp H
           obtain ⟨t286,A220,H⟩:=H
           replace H:(if t286=true then ((impl_isData.f ((rd_T91 l0_1 x18_2).f2) ((rd_T91 l0_1 x18_2).f1)).bind fun t287=>(if t287=true then (if x18_2>0 then (if 0≤(wrap64 (x18_2-1)) then (if (wrap64 (x18_2-1))<(l0_1.length:Int) then ((impl_compareDots.f k2 ((rd_T91 l0_1 (wrap64 (x18_2-1))).f0.f0) ((rd_T91 l0_1 (wrap64 (x18_2-1))).f0.f1) ((rd_T91 l0_1 x18_2).f0.f0) ((rd_T91 l0_1 x18_2).f0.f1)).bind fun t289=>(impl_SetRight.j2 k2 l0_1 (l0_1.length:Int) x18_2 (decide (t289≥0)) l0_0 l0_1)) else (none)) else (none)) else (impl_SetRight.j2 k2 l0_1 (l0_1.length:Int) x18_2 false l0_0 l0_1)) else (impl_SetRight.j2 k2 l0_1 (l0_1.length:Int) x18_2 true l0_0 l0_1))) else (impl_SetRight.j2 k2 l0_1 (l0_1.length:Int) x18_2 true l0_0 l0_1))=some r:=H
           have A22:=Aside0.mk A220
           clear A220
           by_cases c23:t286=true
           ·subst c23
            have H1:((impl_isData.f ((rd_T91 l0_1 x18_2).f2) ((rd_T91 l0_1 x18_2).f1)).bind fun t287=>(if t287=true then (if x18_2>0 then (if 0≤(wrap64 (x18_2-1)) then (if (wrap64 (x18_2-1))<(l0_1.length:Int) then ((impl_compareDots.f k2 ((rd_T91 l0_1 (wrap64 (x18_2-1))).f0.f0) ((rd_T91 l0_1 (wrap64 (x18_2-1))).f0.f1) ((rd_T91 l0_1 x18_2).f0.f0) ((rd_T91 l0_1 x18_2).f0.f1)).bind fun t289=>(impl_SetRight.j2 k2 l0_1 (l0_1.length:Int) x18_2 (decide (t289≥0)) l0_0 l0_1)) else (none)) else (none)) else (impl_SetRight.j2 k2 l0_1 (l0_1.length:Int) x18_2 false l0_0 l0_1)) else (impl_SetRight.j2 k2 l0_1 (l0_1.length:Int) x18_2 true l0_0 l0_1)))=some r:=by rw [if_pos rfl] at H;exact H
            clear H
            have H:=H1
            clear H1
            replace H:=Option.bind_eq_some_iff.mp H
            obtain ⟨t287,A240,H⟩:=H
            replace H:(if t287=true then (if x18_2>0 then (if 0≤(wrap64 (x18_2-1)) then (if (wrap64 (x18_2-1))<(l0_1.length:Int) then ((impl_compareDots.f k2 ((rd_T91 l0_1 (wrap64 (x18_2-1))).f0.f0) ((rd_T91 l0_1 (wrap64 (x18_2-1))).f0.f1) ((rd_T91 l0_1 x18_2).f0.f0) ((rd_T91 l0_1 x18_2).f0.f1)).bind fun t289=>(impl_SetRight.j2 k2 l0_1 (l0_1.length:Int) x18_2 (decide (t289≥0)) l0_0 l0_1)) else (none)) else (none)) else (impl_SetRight.j2 k2 l0_1 (l0_1.length:Int) x18_2 false l0_0 l0_1)) else (impl_SetRight.j2 k2 l0_1 (l0_1.length:Int) x18_2 true l0_0 l0_1))=some r:=H
            have A24:=Aside0.mk A240
            clear A240
            by_cases c25:t287=true
            ·subst c25
             have H1:(if x18_2>0 then (if 0≤(wrap64 (x18_2-1)) then (if (wrap64 (x18_2-1))<(l0_1.length:Int) then ((impl_compareDots.f k2 ((rd_T91 l0_1 (wrap64 (x18_2-1))).f0.f0) ((rd_T91 l0_1 (wrap64 (x18_2-1))).f0.f1) ((rd_T91 l0_1 x18_2).f0.f0) ((rd_T91 l0_1 x18_2).f0.f1)).bind fun t289=>(impl_SetRight.j2 k2 l0_1 (l0_1.length:Int) x18_2 (decide (t289≥0)) l0_0 l0_1)) else (none)) else (none)) else (impl_SetRight.j2 k2 l0_1 (l0_1.length:Int) x18_2 false l0_0 l0_1))=some r:=by rw [if_pos rfl] at H;exact H
             clear H
             have H:=H1
             clear H1
             by_cases c26:x18_2>0
             ·rw [if_pos c26] at H
              have c26b0:decide (0<x18_2)=true:=decide_eq_true c26
              clear c26
              (first | rw [c26b0] | (simp only [i64_w,i32_w];rw [c26b0]) | skip)
              obtain ⟨ji27,hji27⟩:∃ j_:Int,(wrap64 (x18_2-1))=j_:=⟨_,rfl⟩
              replace H:(if 0≤(ji27) then (if (ji27)<(l0_1.length:Int) then ((impl_compareDots.f k2 ((rd_T91 l0_1 (ji27)).f0.f0) ((rd_T91 l0_1 (ji27)).f0.f1) ((rd_T91 l0_1 x18_2).f0.f0) ((rd_T91 l0_1 x18_2).f0.f1)).bind fun t289=>(impl_SetRight.j2 k2 l0_1 (l0_1.length:Int) x18_2 (decide (t289≥0)) l0_0 l0_1)) else (none)) else (none))=some r:=by first | (rw [hji27] at H;exact H) | (simp only [hji27] at H ⊢;exact H)
              (try rw [hji27] at A20)
              (try rw [hji27] at A22)
              (try rw [hji27] at A24)
              have hji27w:(IntKind.i64.wrap (x18_2-1))=ji27:=(i64_w _).trans hji27
              by_cases c28:0≤(ji27)
              ·rw [if_pos c28] at H
               have c28b0:decide (0≤(ji27))=true:=decide_eq_true c28
               clear c28
               by_cases c29:(ji27)<(l0_1.length:Int)
               ·rw [if_pos c29] at H
                have c29b0:decide ((ji27)<(l0_1.length:Int))=true:=decide_eq_true c29
                clear c29
                replace H:=Option.bind_eq_some_iff.mp H
                obtain ⟨t289,A300,H⟩:=H
                replace H:(impl_SetRight.j2 k2 l0_1 (l0_1.length:Int) x18_2 (decide (t289≥0)) l0_0 l0_1)=some r:=H
                have A30:=Aside0.mk A300
                clear A300
                have H':=Aside0.mk H
                clear H
                try go_wp2
                have n0_:Aside0 (((((w17.setCell ⟨gb284,0,none⟩ (.int .i64 ((rd_T91 l0_1 x18_2).f0.f0))).setCell ⟨gb284,1,none⟩ (.int .i64 ((rd_T91 l0_1 x18_2).f0.f1))).setCell ⟨gb284,2,none⟩ (.bool ((rd_T91 l0_1 x18_2).f1))).setCell ⟨gb284,3,none⟩ (.string ((rd_T91 l0_1 x18_2).f2))).heap[gb281]? = some (.cells #[.slice A0_0 l0_0.length c0_0,.slice (some ad283) l0_1.length c0_1] 40 (0,0))):=⟨z26_ NB281_284.out BK281.out⟩
                have n1_:Aside0 (((((w17.setCell ⟨gb284,0,none⟩ (.int .i64 ((rd_T91 l0_1 x18_2).f0.f0))).setCell ⟨gb284,1,none⟩ (.int .i64 ((rd_T91 l0_1 x18_2).f0.f1))).setCell ⟨gb284,2,none⟩ (.bool ((rd_T91 l0_1 x18_2).f1))).setCell ⟨gb284,3,none⟩ (.string ((rd_T91 l0_1 x18_2).f2))).heap[gb284]? = some (.cells #[.int .i64 ((rd_T91 l0_1 x18_2).f0.f0),.int .i64 ((rd_T91 l0_1 x18_2).f0.f1),.bool ((rd_T91 l0_1 x18_2).f1),.string ((rd_T91 l0_1 x18_2).f2)] 91 (0,0))):=⟨z27_ BK284.out⟩
                have n2_:Aside0 (Below w.heap.size w ((((w17.setCell ⟨gb284,0,none⟩ (.int .i64 ((rd_T91 l0_1 x18_2).f0.f0))).setCell ⟨gb284,1,none⟩ (.int .i64 ((rd_T91 l0_1 x18_2).f0.f1))).setCell ⟨gb284,2,none⟩ (.bool ((rd_T91 l0_1 x18_2).f1))).setCell ⟨gb284,3,none⟩ (.string ((rd_T91 l0_1 x18_2).f2)))):=⟨z6_ HB.out GE281.out GE284.out⟩
                (try clear BK281)
                (try clear BK284)
                (try clear HB)
                generalize ((((w17.setCell ⟨gb284,0,none⟩ (.int .i64 ((rd_T91 l0_1 x18_2).f0.f0))).setCell ⟨gb284,1,none⟩ (.int .i64 ((rd_T91 l0_1 x18_2).f0.f1))).setCell ⟨gb284,2,none⟩ (.bool ((rd_T91 l0_1 x18_2).f1))).setCell ⟨gb284,3,none⟩ (.string ((rd_T91 l0_1 x18_2).f2)))=w31 at n0_ n1_ n2_ ⊢
                have BK281:=n0_
                have BK284:=n1_
                have HB:=n2_
                clear n0_ n1_ n2_
                refine as3_ (blk_drew BK281.out) (blk_drew BK284.out) (below_drew1 HB.out) ?_
                clear BK281 BK284 HB
                intro BK281 BK284 HB
                have p288:0≤((ji27):Int):=of_decide_eq_true (z1_)
                have q288:(ji27)<(l0_1.length:Int):=of_decide_eq_true (z1_)
                obtain ⟨ad288,e288,hx288_0,hx288_1,hx288_2,hx288_3⟩:=at_T91 HR0_1.out (ji27) p288 q288
                have hw288_3:=hx288_3
                have hw288_2:=hx288_2
                have hw288_1:=hx288_1
                have hw288_0:=hx288_0
                obtain rfl:ad283=ad288:=(by injection e288)
                replace hx288_0:=(HB.out.cell (World.block_lt_of_cell? w _ hx288_0)).trans hx288_0
                replace hx288_1:=(HB.out.cell (World.block_lt_of_cell? w _ hx288_1)).trans hx288_1
                replace hx288_2:=(HB.out.cell (World.block_lt_of_cell? w _ hx288_2)).trans hx288_2
                replace hx288_3:=(HB.out.cell (World.block_lt_of_cell? w _ hx288_3)).trans hx288_3
                replace p288:=eq_true p288
                replace q288:=eq_true q288
                refine start_ (n:=37) (S:=fun w'=>w'.cell? ⟨gb284,0,none⟩=some (.int .i64 ((rd_T91 l0_1 x18_2).f0.f0))∧w'.cell? ⟨gb284,1,none⟩=some (.int .i64 ((rd_T91 l0_1 x18_2).f0.f1))∧w'.cell? ⟨gb284,2,none⟩=some (.bool ((rd_T91 l0_1 x18_2).f1))∧w'.cell? ⟨gb284,3,none⟩=some (.string ((rd_T91 l0_1 x18_2).f2))∧w'.cell? ⟨gb281,0,none⟩=some (.slice A0_0 l0_0.length c0_0)∧w'.cell? ⟨gb281,1,none⟩=some (.slice (some ad283) l0_1.length c0_1)∧w'.cell? (ad283.add (((ji27)).toNat*4))=some (.int .i64 ((rd_T91 l0_1 (ji27)).f0.f0))∧w'.cell? ⟨(ad283.add (((ji27)).toNat*4)).block,(ad283.add (((ji27)).toNat*4)).off+1,none⟩=some (.int .i64 ((rd_T91 l0_1 (ji27)).f0.f1))∧w'.cell? ⟨(ad283.add (((ji27)).toNat*4)).block,(ad283.add (((ji27)).toNat*4)).off+2,none⟩=some (.bool ((rd_T91 l0_1 (ji27)).f1))∧w'.cell? ⟨(ad283.add (((ji27)).toNat*4)).block,(ad283.add (((ji27)).toNat*4)).off+3,none⟩=some (.string ((rd_T91 l0_1 (ji27)).f2))) (ds:=[]) impl_SetRight.q0 (by kernel_rfl) rfl rfl (cj4_ BK284.out (cj2_ BK281.out ⟨((HB.out.cell (World.block_lt_of_cell? w _ hw288_0)).trans hw288_0),⟨((HB.out.cell (World.block_lt_of_cell? w _ hw288_1)).trans hw288_1),⟨((HB.out.cell (World.block_lt_of_cell? w _ hw288_2)).trans hw288_2),((HB.out.cell (World.block_lt_of_cell? w _ hw288_3)).trans hw288_3)⟩⟩⟩)) (fun hHeld=>?_);refine with_tabW impl_SetRight.tab6 impl_SetRight.bits6 (fun HT_ HW_=>?_)
                generalize w31.drew=w32 at BK281 BK284 HB hx288_0 hx288_1 hx288_2 hx288_3 hHeld ⊢
                refine pu_ 0 23 impl_SetRight.q1 HT_.out ?_
                refine tk10_ 1 24 impl_SetRight.q2 HT_.out HW_.out hHeld ?_
                refine o1_ 2 25 impl_SetRight.q3 HT_.out (fun K hK=>?_)
                refine gs_ Try.func88 #[.agg #[.int .i64 ((rd_T91 l0_1 x18_2).f0.f0),.int .i64 ((rd_T91 l0_1 x18_2).f0.f1)]] ?_
                with_reducible refine (impl_isDot.calls ((rd_T91 l0_1 x18_2).f0.f0) ((rd_T91 l0_1 x18_2).f0.f1) true _ A20.out).mono ?_
                rintro e w33 ⟨rfl,hb⟩
                refine ⟨_,rfl,?_⟩
                refine as3_ (blkB_ BK281.out hb) (blkB_ BK284.out hb) (below_step (z6_ HB.out GE281.out GE284.out) hb) ?_
                clear BK281 BK284 HB
                intro BK281 BK284 HB
                (try clear hb)
                refine hK.out _ _ (cj4_ BK284.out (cj2_ BK281.out ⟨((HB.out.cell (World.block_lt_of_cell? w _ hw288_0)).trans hw288_0),⟨((HB.out.cell (World.block_lt_of_cell? w _ hw288_1)).trans hw288_1),⟨((HB.out.cell (World.block_lt_of_cell? w _ hw288_2)).trans hw288_2),((HB.out.cell (World.block_lt_of_cell? w _ hw288_3)).trans hw288_3)⟩⟩⟩)) (fun hHeld=>?_)
                clear hK K
                refine nm_ 25 ?_
                refine pu_ 3 26 impl_SetRight.q4 HT_.out ?_
                refine pu_ 4 27 impl_SetRight.q5 HT_.out ?_
                refine pu_ 5 28 impl_SetRight.q6 HT_.out ?_
                refine pu_ 7 30 impl_SetRight.q7 HT_.out ?_
                refine tk10_ 6 29 impl_SetRight.q8 HT_.out HW_.out hHeld ?_
                refine tk10_ 8 31 impl_SetRight.q9 HT_.out HW_.out hHeld ?_
                refine o1_ 9 32 impl_SetRight.q10 HT_.out (fun K hK=>?_)
                refine gs_ Try.func64 #[.slice A0_0 l0_0.length c0_0,.agg #[.int .i64 ((rd_T91 l0_1 x18_2).f0.f0),.int .i64 ((rd_T91 l0_1 x18_2).f0.f1)]] ?_
                with_reducible refine (impl_seenHas.calls k2 _ _ l0_0 ((rd_T91 l0_1 x18_2).f0.f0) ((rd_T91 l0_1 x18_2).f0.f1) true _ ?s1 ?s2 A22.out).mono ?_
                (case s1=>repeat (first | exact (Kd.C_below HR0_0.out HB.out) | (with_reducible refine Kd.C_alloc ?_ _) | (with_reducible refine Kd.C_drewN ?_ _) | (with_reducible refine Kd.C_drew ?_)))
                (case s2=>exact HC0_0.out)
                rintro e w34 ⟨rfl,hb⟩
                refine ⟨_,rfl,?_⟩
                refine as3_ (blkB_ BK281.out hb) (blkB_ BK284.out hb) (below_step (z6_ HB.out GE281.out GE284.out) hb) ?_
                clear BK281 BK284 HB
                intro BK281 BK284 HB
                (try clear hb)
                refine hK.out _ _ (cj4_ BK284.out (cj2_ BK281.out ⟨((HB.out.cell (World.block_lt_of_cell? w _ hw288_0)).trans hw288_0),⟨((HB.out.cell (World.block_lt_of_cell? w _ hw288_1)).trans hw288_1),⟨((HB.out.cell (World.block_lt_of_cell? w _ hw288_2)).trans hw288_2),((HB.out.cell (World.block_lt_of_cell? w _ hw288_3)).trans hw288_3)⟩⟩⟩)) (fun hHeld=>?_)
                clear hK K
                refine nm_ 32 ?_
                refine pu_ 10 33 impl_SetRight.q11 HT_.out ?_
                refine pu_ 11 34 impl_SetRight.q12 HT_.out ?_
                refine pu_ 12 35 impl_SetRight.q13 HT_.out ?_
                refine pu_ 13 36 impl_SetRight.q14 HT_.out ?_
                refine pu_ 15 38 impl_SetRight.q15 HT_.out ?_
                refine tk10_ 14 37 impl_SetRight.q16 HT_.out HW_.out hHeld ?_
                refine tk10_ 16 39 impl_SetRight.q17 HT_.out HW_.out hHeld ?_
                refine o1_ 17 40 impl_SetRight.q18 HT_.out (fun K hK=>?_)
                refine gs_ Try.func89 #[.string ((rd_T91 l0_1 x18_2).f2),.bool ((rd_T91 l0_1 x18_2).f1)] ?_
                with_reducible refine (impl_isData.calls ((rd_T91 l0_1 x18_2).f2) ((rd_T91 l0_1 x18_2).f1) true _ A24.out).mono ?_
                rintro e w' ⟨rfl,⟨nd,rfl⟩⟩
                refine ⟨_,rfl,?_⟩
                refine hK.out _ _ (cj4_ BK284.out (cj2_ BK281.out ⟨((HB.out.cell (World.block_lt_of_cell? w _ hw288_0)).trans hw288_0),⟨((HB.out.cell (World.block_lt_of_cell? w _ hw288_1)).trans hw288_1),⟨((HB.out.cell (World.block_lt_of_cell? w _ hw288_2)).trans hw288_2),((HB.out.cell (World.block_lt_of_cell? w _ hw288_3)).trans hw288_3)⟩⟩⟩)) (fun hHeld=>?_)
                clear hK K
                refine nm_ 40 ?_
                refine pu_ 18 41 impl_SetRight.q19 HT_.out ?_
                refine pu_ 19 42 impl_SetRight.q20 HT_.out ?_
                refine pu_ 20 43 impl_SetRight.q21 HT_.out ?_
                refine pu_ 21 44 impl_SetRight.q22 HT_.out ?_
                refine pu_ 22 45 impl_SetRight.q23 HT_.out ?_
                refine pu_ 23 46 impl_SetRight.q24 HT_.out ?_
                refine pu_ 24 47 impl_SetRight.q25 HT_.out ?_
                refine pu_ 26 49 #[I,I,I,I,I,I,I,I,I,I,I,I,I,I,I,I,I,I,I,I,I,I,I,I,I,O,I,O,O,O,O,O,O,O,O,O,O] HT_.out ?_
                refine pu_ 27 50 #[I,I,I,I,I,I,I,I,I,I,I,I,I,I,I,I,I,I,I,I,I,I,I,I,I,O,I,I,O,O,O,O,O,O,O,O,O] HT_.out ?_
                refine pu_ 31 54 #[I,I,I,I,I,I,I,I,I,I,I,I,I,I,I,I,I,I,I,I,I,I,I,I,I,O,I,I,O,O,O,I,O,O,O,O,O] HT_.out ?_
                refine tk10_ 25 48 #[I,I,I,I,I,I,I,I,I,I,I,I,I,I,I,I,I,I,I,I,I,I,I,I,I,I,I,I,O,O,O,I,O,O,O,O,O] HT_.out HW_.out hHeld ?_
                refine pu_ 28 51 #[I,I,I,I,I,I,I,I,I,I,I,I,I,I,I,I,I,I,I,I,I,I,I,I,I,I,I,I,I,O,O,I,O,O,O,O,O] HT_.out ?_
                refine pu_ 29 52 #[I,I,I,I,I,I,I,I,I,I,I,I,I,I,I,I,I,I,I,I,I,I,I,I,I,I,I,I,I,I,O,I,O,O,O,O,O] HT_.out ?_
                refine tk10_ 30 53 impl_SetRight.q26 HT_.out HW_.out hHeld ?_
                refine tk10_ 32 55 impl_SetRight.q27 HT_.out HW_.out hHeld ?_
                refine o1_ 33 56 impl_SetRight.q28 HT_.out (fun K hK=>?_)
                refine goes_ Try.func90 (by kernel_rfl) rfl #[.agg #[.int .i64 ((rd_T91 l0_1 (ji27)).f0.f0),.int .i64 ((rd_T91 l0_1 (ji27)).f0.f1)],.agg #[.int .i64 ((rd_T91 l0_1 x18_2).f0.f0),.int .i64 ((rd_T91 l0_1 x18_2).f0.f1)]] (by rfl) rfl rfl (by (try simp only [List.map_toArray,List.map_cons,List.map_nil]);first | done | (simp only [hji27];rfl) | rfl | (simp only [List.length_drop,List.length_take];rfl)) ?_
                with_reducible refine (impl_compareDots.calls k2 ((rd_T91 l0_1 (ji27)).f0.f0) ((rd_T91 l0_1 (ji27)).f0.f1) ((rd_T91 l0_1 x18_2).f0.f0) ((rd_T91 l0_1 x18_2).f0.f1) t289 _ A30.out).mono ?_
                rintro e w35 ⟨rfl,hb⟩
                refine ⟨_,rfl,?_⟩
                refine as3_ (blkB_ BK281.out hb) (blkB_ BK284.out hb) (below_step (z6_ HB.out GE281.out GE284.out) hb) ?_
                clear BK281 BK284 HB
                intro BK281 BK284 HB
                (try clear hb)
                refine hK.out _ _ (cj4_ BK284.out (cj2_ BK281.out ⟨((HB.out.cell (World.block_lt_of_cell? w _ hw288_0)).trans hw288_0),⟨((HB.out.cell (World.block_lt_of_cell? w _ hw288_1)).trans hw288_1),⟨((HB.out.cell (World.block_lt_of_cell? w _ hw288_2)).trans hw288_2),((HB.out.cell (World.block_lt_of_cell? w _ hw288_3)).trans hw288_3)⟩⟩⟩)) (fun hHeld=>?_)
                clear hK K
                refine nm_ 56 ?_
                refine pu_ 34 57 impl_SetRight.q29 HT_.out ?_
                refine pu_ 35 58 impl_SetRight.q30 HT_.out ?_
                refine pu_ 36 59 impl_SetRight.q31 HT_.out ?_
                refine done_ (done_of HT_.out (by kernel_rfl)) ?_
                try go_wp2
                go_meet
                case rel=>exact ⟨_,(decide (t289≥0)),(z2_),H',⟨z31_ HJ1.out HK2.out⟩,⟨z3_ BK281.out⟩,⟨z3_ BK284.out⟩,⟨z6_ HB.out GE281.out GE284.out⟩⟩
               ·rw [if_neg c29] at H
                exact absurd H (by simp)
              ·rw [if_neg c28] at H
               exact absurd H (by simp)
             ·rw [if_neg c26] at H
              have c26b0:decide (0<x18_2)=false:=decide_eq_false c26
              clear c26
              (first | rw [c26b0] | (simp only [i64_w,i32_w];rw [c26b0]) | skip)
              have H':=Aside0.mk H
              clear H
              try go_wp2
              have n0_:Aside0 (((((w17.setCell ⟨gb284,0,none⟩ (.int .i64 ((rd_T91 l0_1 x18_2).f0.f0))).setCell ⟨gb284,1,none⟩ (.int .i64 ((rd_T91 l0_1 x18_2).f0.f1))).setCell ⟨gb284,2,none⟩ (.bool ((rd_T91 l0_1 x18_2).f1))).setCell ⟨gb284,3,none⟩ (.string ((rd_T91 l0_1 x18_2).f2))).heap[gb281]? = some (.cells #[.slice A0_0 l0_0.length c0_0,.slice (some ad283) l0_1.length c0_1] 40 (0,0))):=⟨z26_ NB281_284.out BK281.out⟩
              have n1_:Aside0 (((((w17.setCell ⟨gb284,0,none⟩ (.int .i64 ((rd_T91 l0_1 x18_2).f0.f0))).setCell ⟨gb284,1,none⟩ (.int .i64 ((rd_T91 l0_1 x18_2).f0.f1))).setCell ⟨gb284,2,none⟩ (.bool ((rd_T91 l0_1 x18_2).f1))).setCell ⟨gb284,3,none⟩ (.string ((rd_T91 l0_1 x18_2).f2))).heap[gb284]? = some (.cells #[.int .i64 ((rd_T91 l0_1 x18_2).f0.f0),.int .i64 ((rd_T91 l0_1 x18_2).f0.f1),.bool ((rd_T91 l0_1 x18_2).f1),.string ((rd_T91 l0_1 x18_2).f2)] 91 (0,0))):=⟨z27_ BK284.out⟩
              have n2_:Aside0 (Below w.heap.size w ((((w17.setCell ⟨gb284,0,none⟩ (.int .i64 ((rd_T91 l0_1 x18_2).f0.f0))).setCell ⟨gb284,1,none⟩ (.int .i64 ((rd_T91 l0_1 x18_2).f0.f1))).setCell ⟨gb284,2,none⟩ (.bool ((rd_T91 l0_1 x18_2).f1))).setCell ⟨gb284,3,none⟩ (.string ((rd_T91 l0_1 x18_2).f2)))):=⟨z6_ HB.out GE281.out GE284.out⟩
              (try clear BK281)
              (try clear BK284)
              (try clear HB)
              generalize ((((w17.setCell ⟨gb284,0,none⟩ (.int .i64 ((rd_T91 l0_1 x18_2).f0.f0))).setCell ⟨gb284,1,none⟩ (.int .i64 ((rd_T91 l0_1 x18_2).f0.f1))).setCell ⟨gb284,2,none⟩ (.bool ((rd_T91 l0_1 x18_2).f1))).setCell ⟨gb284,3,none⟩ (.string ((rd_T91 l0_1 x18_2).f2)))=w36 at n0_ n1_ n2_ ⊢
              have BK281:=n0_
              have BK284:=n1_
              have HB:=n2_
              clear n0_ n1_ n2_
              refine as3_ (blk_drew BK281.out) (blk_drew BK284.out) (below_drew1 HB.out) ?_
              clear BK281 BK284 HB
              intro BK281 BK284 HB
              refine start_ (n:=37) (S:=fun w'=>w'.cell? ⟨gb284,0,none⟩=some (.int .i64 ((rd_T91 l0_1 x18_2).f0.f0))∧w'.cell? ⟨gb284,1,none⟩=some (.int .i64 ((rd_T91 l0_1 x18_2).f0.f1))∧w'.cell? ⟨gb284,2,none⟩=some (.bool ((rd_T91 l0_1 x18_2).f1))∧w'.cell? ⟨gb284,3,none⟩=some (.string ((rd_T91 l0_1 x18_2).f2))∧w'.cell? ⟨gb281,0,none⟩=some (.slice A0_0 l0_0.length c0_0)∧w'.cell? ⟨gb281,1,none⟩=some (.slice (some ad283) l0_1.length c0_1)) (ds:=[]) impl_SetRight.q0 (by kernel_rfl) rfl rfl (cj4_ BK284.out (cc2_ BK281.out)) (fun hHeld=>?_);refine with_tabW impl_SetRight.tab6 impl_SetRight.bits6 (fun HT_ HW_=>?_)
              generalize w36.drew=w37 at BK281 BK284 HB hHeld ⊢
              refine pu_ 0 23 impl_SetRight.q1 HT_.out ?_
              refine tk6_ 1 24 impl_SetRight.q2 HT_.out HW_.out hHeld ?_
              refine o1_ 2 25 impl_SetRight.q3 HT_.out (fun K hK=>?_)
              refine gs_ Try.func88 #[.agg #[.int .i64 ((rd_T91 l0_1 x18_2).f0.f0),.int .i64 ((rd_T91 l0_1 x18_2).f0.f1)]] ?_
              with_reducible refine (impl_isDot.calls ((rd_T91 l0_1 x18_2).f0.f0) ((rd_T91 l0_1 x18_2).f0.f1) true _ A20.out).mono ?_
              rintro e w38 ⟨rfl,hb⟩
              refine ⟨_,rfl,?_⟩
              refine as3_ (blkB_ BK281.out hb) (blkB_ BK284.out hb) (below_step (z6_ HB.out GE281.out GE284.out) hb) ?_
              clear BK281 BK284 HB
              intro BK281 BK284 HB
              (try clear hb)
              refine hK.out _ _ (cj4_ BK284.out (cc2_ BK281.out)) (fun hHeld=>?_)
              clear hK K
              refine nm_ 25 ?_
              refine pu_ 3 26 impl_SetRight.q4 HT_.out ?_
              refine pu_ 4 27 impl_SetRight.q5 HT_.out ?_
              refine pu_ 5 28 impl_SetRight.q6 HT_.out ?_
              refine pu_ 7 30 impl_SetRight.q7 HT_.out ?_
              refine tk6_ 6 29 impl_SetRight.q8 HT_.out HW_.out hHeld ?_
              refine tk6_ 8 31 impl_SetRight.q9 HT_.out HW_.out hHeld ?_
              refine o1_ 9 32 impl_SetRight.q10 HT_.out (fun K hK=>?_)
              refine gs_ Try.func64 #[.slice A0_0 l0_0.length c0_0,.agg #[.int .i64 ((rd_T91 l0_1 x18_2).f0.f0),.int .i64 ((rd_T91 l0_1 x18_2).f0.f1)]] ?_
              with_reducible refine (impl_seenHas.calls k2 _ _ l0_0 ((rd_T91 l0_1 x18_2).f0.f0) ((rd_T91 l0_1 x18_2).f0.f1) true _ ?s1 ?s2 A22.out).mono ?_
              (case s1=>repeat (first | exact (Kd.C_below HR0_0.out HB.out) | (with_reducible refine Kd.C_alloc ?_ _) | (with_reducible refine Kd.C_drewN ?_ _) | (with_reducible refine Kd.C_drew ?_)))
              (case s2=>exact HC0_0.out)
              rintro e w39 ⟨rfl,hb⟩
              refine ⟨_,rfl,?_⟩
              refine as3_ (blkB_ BK281.out hb) (blkB_ BK284.out hb) (below_step (z6_ HB.out GE281.out GE284.out) hb) ?_
              clear BK281 BK284 HB
              intro BK281 BK284 HB
              (try clear hb)
              refine hK.out _ _ (cj4_ BK284.out (cc2_ BK281.out)) (fun hHeld=>?_)
              clear hK K
              refine nm_ 32 ?_
              refine pu_ 10 33 impl_SetRight.q11 HT_.out ?_
              refine pu_ 11 34 impl_SetRight.q12 HT_.out ?_
              refine pu_ 12 35 impl_SetRight.q13 HT_.out ?_
              refine pu_ 13 36 impl_SetRight.q14 HT_.out ?_
              refine pu_ 15 38 impl_SetRight.q15 HT_.out ?_
              refine tk6_ 14 37 impl_SetRight.q16 HT_.out HW_.out hHeld ?_
              refine tk6_ 16 39 impl_SetRight.q17 HT_.out HW_.out hHeld ?_
              refine o1_ 17 40 impl_SetRight.q18 HT_.out (fun K hK=>?_)
              refine gs_ Try.func89 #[.string ((rd_T91 l0_1 x18_2).f2),.bool ((rd_T91 l0_1 x18_2).f1)] ?_
              with_reducible refine (impl_isData.calls ((rd_T91 l0_1 x18_2).f2) ((rd_T91 l0_1 x18_2).f1) true _ A24.out).mono ?_
              rintro e w' ⟨rfl,⟨nd,rfl⟩⟩
              refine ⟨_,rfl,?_⟩
              refine hK.out _ _ (cj4_ BK284.out (cc2_ BK281.out)) (fun hHeld=>?_)
              clear hK K
              refine nm_ 40 ?_
              refine pu_ 18 41 impl_SetRight.q19 HT_.out ?_
              refine pu_ 19 42 impl_SetRight.q20 HT_.out ?_
              refine pu_ 20 43 impl_SetRight.q21 HT_.out ?_
              refine pu_ 21 44 impl_SetRight.q22 HT_.out ?_
              refine pu_ 22 45 impl_SetRight.q23 HT_.out ?_
              refine pu_ 23 46 impl_SetRight.q24 HT_.out ?_
              refine pn_ 24 47 impl_SetRight.q25 HT_.out ?_
              refine pn_ 25 48 impl_SetRight.q32 HT_.out ?_
              refine pn_ 26 49 impl_SetRight.q33 HT_.out ?_
              refine pn_ 27 50 impl_SetRight.q34 HT_.out ?_
              refine pn_ 28 51 impl_SetRight.q35 HT_.out ?_
              refine pn_ 29 52 impl_SetRight.q36 HT_.out ?_
              refine pn_ 30 53 impl_SetRight.q37 HT_.out ?_
              refine pn_ 31 54 impl_SetRight.q26 HT_.out ?_
              refine pn_ 32 55 impl_SetRight.q27 HT_.out ?_
              refine pn_ 33 56 impl_SetRight.q28 HT_.out ?_
              refine pn_ 34 57 impl_SetRight.q29 HT_.out ?_
              refine pu_ 35 58 impl_SetRight.q30 HT_.out ?_
              refine pu_ 36 59 impl_SetRight.q31 HT_.out ?_
              refine done_ (done_of HT_.out (by kernel_rfl)) ?_
              try go_wp2
              go_meet
              case rel=>exact ⟨_,(false),(z2_),H',⟨z31_ HJ1.out HK2.out⟩,⟨z3_ BK281.out⟩,⟨z3_ BK284.out⟩,⟨z6_ HB.out GE281.out GE284.out⟩⟩
            ·replace c25:=Bool.eq_false_iff.mpr c25
             subst c25
             have H1:(impl_SetRight.j2 k2 l0_1 (l0_1.length:Int) x18_2 true l0_0 l0_1)=some r:=by rw [if_neg (show ¬ (false=true) by decide)] at H;exact H
             clear H
             have H:=H1
             clear H1
             have H':=Aside0.mk H
             clear H
             try go_wp2
             have n0_:Aside0 (((((w17.setCell ⟨gb284,0,none⟩ (.int .i64 ((rd_T91 l0_1 x18_2).f0.f0))).setCell ⟨gb284,1,none⟩ (.int .i64 ((rd_T91 l0_1 x18_2).f0.f1))).setCell ⟨gb284,2,none⟩ (.bool ((rd_T91 l0_1 x18_2).f1))).setCell ⟨gb284,3,none⟩ (.string ((rd_T91 l0_1 x18_2).f2))).heap[gb281]? = some (.cells #[.slice A0_0 l0_0.length c0_0,.slice (some ad283) l0_1.length c0_1] 40 (0,0))):=⟨z26_ NB281_284.out BK281.out⟩
             have n1_:Aside0 (((((w17.setCell ⟨gb284,0,none⟩ (.int .i64 ((rd_T91 l0_1 x18_2).f0.f0))).setCell ⟨gb284,1,none⟩ (.int .i64 ((rd_T91 l0_1 x18_2).f0.f1))).setCell ⟨gb284,2,none⟩ (.bool ((rd_T91 l0_1 x18_2).f1))).setCell ⟨gb284,3,none⟩ (.string ((rd_T91 l0_1 x18_2).f2))).heap[gb284]? = some (.cells #[.int .i64 ((rd_T91 l0_1 x18_2).f0.f0),.int .i64 ((rd_T91 l0_1 x18_2).f0.f1),.bool ((rd_T91 l0_1 x18_2).f1),.string ((rd_T91 l0_1 x18_2).f2)] 91 (0,0))):=⟨z27_ BK284.out⟩
             have n2_:Aside0 (Below w.heap.size w ((((w17.setCell ⟨gb284,0,none⟩ (.int .i64 ((rd_T91 l0_1 x18_2).f0.f0))).setCell ⟨gb284,1,none⟩ (.int .i64 ((rd_T91 l0_1 x18_2).f0.f1))).setCell ⟨gb284,2,none⟩ (.bool ((rd_T91 l0_1 x18_2).f1))).setCell ⟨gb284,3,none⟩ (.string ((rd_T91 l0_1 x18_2).f2)))):=⟨z6_ HB.out GE281.out GE284.out⟩
             (try clear BK281)
             (try clear BK284)
             (try clear HB)
             generalize ((((w17.setCell ⟨gb284,0,none⟩ (.int .i64 ((rd_T91 l0_1 x18_2).f0.f0))).setCell ⟨gb284,1,none⟩ (.int .i64 ((rd_T91 l0_1 x18_2).f0.f1))).setCell ⟨gb284,2,none⟩ (.bool ((rd_T91 l0_1 x18_2).f1))).setCell ⟨gb284,3,none⟩ (.string ((rd_T91 l0_1 x18_2).f2)))=w40 at n0_ n1_ n2_ ⊢
             have BK281:=n0_
             have BK284:=n1_
             have HB:=n2_
             clear n0_ n1_ n2_
             refine as3_ (blk_drew BK281.out) (blk_drew BK284.out) (below_drew1 HB.out) ?_
             clear BK281 BK284 HB
             intro BK281 BK284 HB
             refine start_ (n:=37) (S:=fun w'=>w'.cell? ⟨gb284,0,none⟩=some (.int .i64 ((rd_T91 l0_1 x18_2).f0.f0))∧w'.cell? ⟨gb284,1,none⟩=some (.int .i64 ((rd_T91 l0_1 x18_2).f0.f1))∧w'.cell? ⟨gb284,2,none⟩=some (.bool ((rd_T91 l0_1 x18_2).f1))∧w'.cell? ⟨gb284,3,none⟩=some (.string ((rd_T91 l0_1 x18_2).f2))∧w'.cell? ⟨gb281,0,none⟩=some (.slice A0_0 l0_0.length c0_0)∧w'.cell? ⟨gb281,1,none⟩=some (.slice (some ad283) l0_1.length c0_1)) (ds:=[]) impl_SetRight.q0 (by kernel_rfl) rfl rfl (cj4_ BK284.out (cc2_ BK281.out)) (fun hHeld=>?_);refine with_tabW impl_SetRight.tab6 impl_SetRight.bits6 (fun HT_ HW_=>?_)
             generalize w40.drew=w41 at BK281 BK284 HB hHeld ⊢
             refine pu_ 0 23 impl_SetRight.q1 HT_.out ?_
             refine tk6_ 1 24 impl_SetRight.q2 HT_.out HW_.out hHeld ?_
             refine o1_ 2 25 impl_SetRight.q3 HT_.out (fun K hK=>?_)
             refine gs_ Try.func88 #[.agg #[.int .i64 ((rd_T91 l0_1 x18_2).f0.f0),.int .i64 ((rd_T91 l0_1 x18_2).f0.f1)]] ?_
             with_reducible refine (impl_isDot.calls ((rd_T91 l0_1 x18_2).f0.f0) ((rd_T91 l0_1 x18_2).f0.f1) true _ A20.out).mono ?_
             rintro e w42 ⟨rfl,hb⟩
             refine ⟨_,rfl,?_⟩
             refine as3_ (blkB_ BK281.out hb) (blkB_ BK284.out hb) (below_step (z6_ HB.out GE281.out GE284.out) hb) ?_
             clear BK281 BK284 HB
             intro BK281 BK284 HB
             (try clear hb)
             refine hK.out _ _ (cj4_ BK284.out (cc2_ BK281.out)) (fun hHeld=>?_)
             clear hK K
             refine nm_ 25 ?_
             refine pu_ 3 26 impl_SetRight.q4 HT_.out ?_
             refine pu_ 4 27 impl_SetRight.q5 HT_.out ?_
             refine pu_ 5 28 impl_SetRight.q6 HT_.out ?_
             refine pu_ 7 30 impl_SetRight.q7 HT_.out ?_
             refine tk6_ 6 29 impl_SetRight.q8 HT_.out HW_.out hHeld ?_
             refine tk6_ 8 31 impl_SetRight.q9 HT_.out HW_.out hHeld ?_
             refine o1_ 9 32 impl_SetRight.q10 HT_.out (fun K hK=>?_)
             refine gs_ Try.func64 #[.slice A0_0 l0_0.length c0_0,.agg #[.int .i64 ((rd_T91 l0_1 x18_2).f0.f0),.int .i64 ((rd_T91 l0_1 x18_2).f0.f1)]] ?_
             with_reducible refine (impl_seenHas.calls k2 _ _ l0_0 ((rd_T91 l0_1 x18_2).f0.f0) ((rd_T91 l0_1 x18_2).f0.f1) true _ ?s1 ?s2 A22.out).mono ?_
             (case s1=>repeat (first | exact (Kd.C_below HR0_0.out HB.out) | (with_reducible refine Kd.C_alloc ?_ _) | (with_reducible refine Kd.C_drewN ?_ _) | (with_reducible refine Kd.C_drew ?_)))
             (case s2=>exact HC0_0.out)
             rintro e w43 ⟨rfl,hb⟩
             refine ⟨_,rfl,?_⟩
             refine as3_ (blkB_ BK281.out hb) (blkB_ BK284.out hb) (below_step (z6_ HB.out GE281.out GE284.out) hb) ?_
             clear BK281 BK284 HB
             intro BK281 BK284 HB
             (try clear hb)
             refine hK.out _ _ (cj4_ BK284.out (cc2_ BK281.out)) (fun hHeld=>?_)
             clear hK K
             refine nm_ 32 ?_
             refine pu_ 10 33 impl_SetRight.q11 HT_.out ?_
             refine pu_ 11 34 impl_SetRight.q12 HT_.out ?_
             refine pu_ 12 35 impl_SetRight.q13 HT_.out ?_
             refine pu_ 13 36 impl_SetRight.q14 HT_.out ?_
             refine pu_ 15 38 impl_SetRight.q15 HT_.out ?_
             refine tk6_ 14 37 impl_SetRight.q16 HT_.out HW_.out hHeld ?_
             refine tk6_ 16 39 impl_SetRight.q17 HT_.out HW_.out hHeld ?_
             refine o1_ 17 40 impl_SetRight.q18 HT_.out (fun K hK=>?_)
             refine gs_ Try.func89 #[.string ((rd_T91 l0_1 x18_2).f2),.bool ((rd_T91 l0_1 x18_2).f1)] ?_
             with_reducible refine (impl_isData.calls ((rd_T91 l0_1 x18_2).f2) ((rd_T91 l0_1 x18_2).f1) false _ A24.out).mono ?_
             rintro e w' ⟨rfl,⟨nd,rfl⟩⟩
             refine ⟨_,rfl,?_⟩
             refine hK.out _ _ (cj4_ BK284.out (cc2_ BK281.out)) (fun hHeld=>?_)
             clear hK K
             refine nm_ 40 ?_
             refine pu_ 18 41 impl_SetRight.q19 HT_.out ?_
             refine pu_ 19 42 impl_SetRight.q20 HT_.out ?_
             refine pu_ 20 43 impl_SetRight.q21 HT_.out ?_
             refine pn_ 21 44 impl_SetRight.q22 HT_.out ?_
             refine pn_ 22 45 impl_SetRight.q23 HT_.out ?_
             refine pn_ 23 46 impl_SetRight.q24 HT_.out ?_
             refine pn_ 24 47 impl_SetRight.q25 HT_.out ?_
             refine pn_ 25 48 impl_SetRight.q32 HT_.out ?_
             refine pn_ 26 49 impl_SetRight.q33 HT_.out ?_
             refine pn_ 27 50 impl_SetRight.q34 HT_.out ?_
             refine pn_ 28 51 impl_SetRight.q35 HT_.out ?_
             refine pn_ 29 52 impl_SetRight.q36 HT_.out ?_
             refine pn_ 30 53 impl_SetRight.q37 HT_.out ?_
             refine pn_ 31 54 impl_SetRight.q26 HT_.out ?_
             refine pn_ 32 55 impl_SetRight.q27 HT_.out ?_
             refine pn_ 33 56 impl_SetRight.q28 HT_.out ?_
             refine pn_ 34 57 impl_SetRight.q29 HT_.out ?_
             refine pn_ 35 58 impl_SetRight.q30 HT_.out ?_
             refine pu_ 36 59 impl_SetRight.q31 HT_.out ?_
             refine done_ (done_of HT_.out (by kernel_rfl)) ?_
             try go_wp2
             go_meet
             case rel=>exact ⟨_,(true),(z2_),H',⟨z31_ HJ1.out HK2.out⟩,⟨z3_ BK281.out⟩,⟨z3_ BK284.out⟩,⟨z6_ HB.out GE281.out GE284.out⟩⟩
           ·replace c23:=Bool.eq_false_iff.mpr c23
            subst c23
            have H1:(impl_SetRight.j2 k2 l0_1 (l0_1.length:Int) x18_2 true l0_0 l0_1)=some r:=by rw [if_neg (show ¬ (false=true) by decide)] at H;exact H
            clear H
            have H:=H1
            clear H1
            have H':=Aside0.mk H
            clear H
            try go_wp2
            have n0_:Aside0 (((((w17.setCell ⟨gb284,0,none⟩ (.int .i64 ((rd_T91 l0_1 x18_2).f0.f0))).setCell ⟨gb284,1,none⟩ (.int .i64 ((rd_T91 l0_1 x18_2).f0.f1))).setCell ⟨gb284,2,none⟩ (.bool ((rd_T91 l0_1 x18_2).f1))).setCell ⟨gb284,3,none⟩ (.string ((rd_T91 l0_1 x18_2).f2))).heap[gb281]? = some (.cells #[.slice A0_0 l0_0.length c0_0,.slice (some ad283) l0_1.length c0_1] 40 (0,0))):=⟨z26_ NB281_284.out BK281.out⟩
            have n1_:Aside0 (((((w17.setCell ⟨gb284,0,none⟩ (.int .i64 ((rd_T91 l0_1 x18_2).f0.f0))).setCell ⟨gb284,1,none⟩ (.int .i64 ((rd_T91 l0_1 x18_2).f0.f1))).setCell ⟨gb284,2,none⟩ (.bool ((rd_T91 l0_1 x18_2).f1))).setCell ⟨gb284,3,none⟩ (.string ((rd_T91 l0_1 x18_2).f2))).heap[gb284]? = some (.cells #[.int .i64 ((rd_T91 l0_1 x18_2).f0.f0),.int .i64 ((rd_T91 l0_1 x18_2).f0.f1),.bool ((rd_T91 l0_1 x18_2).f1),.string ((rd_T91 l0_1 x18_2).f2)] 91 (0,0))):=⟨z27_ BK284.out⟩
            have n2_:Aside0 (Below w.heap.size w ((((w17.setCell ⟨gb284,0,none⟩ (.int .i64 ((rd_T91 l0_1 x18_2).f0.f0))).setCell ⟨gb284,1,none⟩ (.int .i64 ((rd_T91 l0_1 x18_2).f0.f1))).setCell ⟨gb284,2,none⟩ (.bool ((rd_T91 l0_1 x18_2).f1))).setCell ⟨gb284,3,none⟩ (.string ((rd_T91 l0_1 x18_2).f2)))):=⟨z6_ HB.out GE281.out GE284.out⟩
            (try clear BK281)
            (try clear BK284)
            (try clear HB)
            generalize ((((w17.setCell ⟨gb284,0,none⟩ (.int .i64 ((rd_T91 l0_1 x18_2).f0.f0))).setCell ⟨gb284,1,none⟩ (.int .i64 ((rd_T91 l0_1 x18_2).f0.f1))).setCell ⟨gb284,2,none⟩ (.bool ((rd_T91 l0_1 x18_2).f1))).setCell ⟨gb284,3,none⟩ (.string ((rd_T91 l0_1 x18_2).f2)))=w44 at n0_ n1_ n2_ ⊢
            have BK281:=n0_
            have BK284:=n1_
            have HB:=n2_
            clear n0_ n1_ n2_
            refine as3_ (blk_drew BK281.out) (blk_drew BK284.out) (below_drew1 HB.out) ?_
            clear BK281 BK284 HB
            intro BK281 BK284 HB
            refine start_ (n:=37) (S:=fun w'=>w'.cell? ⟨gb284,0,none⟩=some (.int .i64 ((rd_T91 l0_1 x18_2).f0.f0))∧w'.cell? ⟨gb284,1,none⟩=some (.int .i64 ((rd_T91 l0_1 x18_2).f0.f1))∧w'.cell? ⟨gb284,2,none⟩=some (.bool ((rd_T91 l0_1 x18_2).f1))∧w'.cell? ⟨gb284,3,none⟩=some (.string ((rd_T91 l0_1 x18_2).f2))∧w'.cell? ⟨gb281,0,none⟩=some (.slice A0_0 l0_0.length c0_0)∧w'.cell? ⟨gb281,1,none⟩=some (.slice (some ad283) l0_1.length c0_1)) (ds:=[]) impl_SetRight.q0 (by kernel_rfl) rfl rfl (cj4_ BK284.out (cc2_ BK281.out)) (fun hHeld=>?_);refine with_tabW impl_SetRight.tab6 impl_SetRight.bits6 (fun HT_ HW_=>?_)
            generalize w44.drew=w45 at BK281 BK284 HB hHeld ⊢
            refine pu_ 0 23 impl_SetRight.q1 HT_.out ?_
            refine tk6_ 1 24 impl_SetRight.q2 HT_.out HW_.out hHeld ?_
            refine o1_ 2 25 impl_SetRight.q3 HT_.out (fun K hK=>?_)
            refine gs_ Try.func88 #[.agg #[.int .i64 ((rd_T91 l0_1 x18_2).f0.f0),.int .i64 ((rd_T91 l0_1 x18_2).f0.f1)]] ?_
            with_reducible refine (impl_isDot.calls ((rd_T91 l0_1 x18_2).f0.f0) ((rd_T91 l0_1 x18_2).f0.f1) true _ A20.out).mono ?_
            rintro e w46 ⟨rfl,hb⟩
            refine ⟨_,rfl,?_⟩
            refine as3_ (blkB_ BK281.out hb) (blkB_ BK284.out hb) (below_step (z6_ HB.out GE281.out GE284.out) hb) ?_
            clear BK281 BK284 HB
            intro BK281 BK284 HB
            (try clear hb)
            refine hK.out _ _ (cj4_ BK284.out (cc2_ BK281.out)) (fun hHeld=>?_)
            clear hK K
            refine nm_ 25 ?_
            refine pu_ 3 26 impl_SetRight.q4 HT_.out ?_
            refine pu_ 4 27 impl_SetRight.q5 HT_.out ?_
            refine pu_ 5 28 impl_SetRight.q6 HT_.out ?_
            refine pu_ 7 30 impl_SetRight.q7 HT_.out ?_
            refine tk6_ 6 29 impl_SetRight.q8 HT_.out HW_.out hHeld ?_
            refine tk6_ 8 31 impl_SetRight.q9 HT_.out HW_.out hHeld ?_
            refine o1_ 9 32 impl_SetRight.q10 HT_.out (fun K hK=>?_)
            refine gs_ Try.func64 #[.slice A0_0 l0_0.length c0_0,.agg #[.int .i64 ((rd_T91 l0_1 x18_2).f0.f0),.int .i64 ((rd_T91 l0_1 x18_2).f0.f1)]] ?_
            with_reducible refine (impl_seenHas.calls k2 _ _ l0_0 ((rd_T91 l0_1 x18_2).f0.f0) ((rd_T91 l0_1 x18_2).f0.f1) false _ ?s1 ?s2 A22.out).mono ?_
            (case s1=>repeat (first | exact (Kd.C_below HR0_0.out HB.out) | (with_reducible refine Kd.C_alloc ?_ _) | (with_reducible refine Kd.C_drewN ?_ _) | (with_reducible refine Kd.C_drew ?_)))
            (case s2=>exact HC0_0.out)
            rintro e w47 ⟨rfl,hb⟩
            refine ⟨_,rfl,?_⟩
            refine as3_ (blkB_ BK281.out hb) (blkB_ BK284.out hb) (below_step (z6_ HB.out GE281.out GE284.out) hb) ?_
            clear BK281 BK284 HB
            intro BK281 BK284 HB
            (try clear hb)
            refine hK.out _ _ (cj4_ BK284.out (cc2_ BK281.out)) (fun hHeld=>?_)
            clear hK K
            refine nm_ 32 ?_
            refine pu_ 10 33 impl_SetRight.q11 HT_.out ?_
            refine pu_ 11 34 impl_SetRight.q12 HT_.out ?_
            refine pu_ 12 35 impl_SetRight.q13 HT_.out ?_
            refine pn_ 13 36 impl_SetRight.q14 HT_.out ?_
            refine pn_ 14 37 impl_SetRight.q38 HT_.out ?_
            refine pn_ 15 38 impl_SetRight.q16 HT_.out ?_
            refine pn_ 16 39 impl_SetRight.q17 HT_.out ?_
            refine pn_ 17 40 impl_SetRight.q18 HT_.out ?_
            refine pn_ 18 41 impl_SetRight.q19 HT_.out ?_
            refine pu_ 19 42 impl_SetRight.q20 HT_.out ?_
            refine pu_ 20 43 impl_SetRight.q21 HT_.out ?_
            refine pn_ 21 44 impl_SetRight.q22 HT_.out ?_
            refine pn_ 22 45 impl_SetRight.q23 HT_.out ?_
            refine pn_ 23 46 impl_SetRight.q24 HT_.out ?_
            refine pn_ 24 47 impl_SetRight.q25 HT_.out ?_
            refine pn_ 25 48 impl_SetRight.q32 HT_.out ?_
            refine pn_ 26 49 impl_SetRight.q33 HT_.out ?_
            refine pn_ 27 50 impl_SetRight.q34 HT_.out ?_
            refine pn_ 28 51 impl_SetRight.q35 HT_.out ?_
            refine pn_ 29 52 impl_SetRight.q36 HT_.out ?_
            refine pn_ 30 53 impl_SetRight.q37 HT_.out ?_
            refine pn_ 31 54 impl_SetRight.q26 HT_.out ?_
            refine pn_ 32 55 impl_SetRight.q27 HT_.out ?_
            refine pn_ 33 56 impl_SetRight.q28 HT_.out ?_
            refine pn_ 34 57 impl_SetRight.q29 HT_.out ?_
            refine pn_ 35 58 impl_SetRight.q30 HT_.out ?_
            refine pu_ 36 59 impl_SetRight.q31 HT_.out ?_
            refine done_ (done_of HT_.out (by kernel_rfl)) ?_
            try go_wp2
            go_meet
            case rel=>exact ⟨_,(true),(z2_),H',⟨z31_ HJ1.out HK2.out⟩,⟨z3_ BK281.out⟩,⟨z3_ BK284.out⟩,⟨z6_ HB.out GE281.out GE284.out⟩⟩
          ·replace c21:=Bool.eq_false_iff.mpr c21
           subst c21
           have H1:(impl_SetRight.j2 k2 l0_1 (l0_1.length:Int) x18_2 true l0_0 l0_1)=some r:=by rw [if_neg (show ¬ (false=true) by decide)] at H;exact H
           clear H
           have H:=H1
           clear H1
           have H':=Aside0.mk H
           clear H
           try go_wp2
           have n0_:Aside0 (((((w17.setCell ⟨gb284,0,none⟩ (.int .i64 ((rd_T91 l0_1 x18_2).f0.f0))).setCell ⟨gb284,1,none⟩ (.int .i64 ((rd_T91 l0_1 x18_2).f0.f1))).setCell ⟨gb284,2,none⟩ (.bool ((rd_T91 l0_1 x18_2).f1))).setCell ⟨gb284,3,none⟩ (.string ((rd_T91 l0_1 x18_2).f2))).heap[gb281]? = some (.cells #[.slice A0_0 l0_0.length c0_0,.slice (some ad283) l0_1.length c0_1] 40 (0,0))):=⟨z26_ NB281_284.out BK281.out⟩
           have n1_:Aside0 (((((w17.setCell ⟨gb284,0,none⟩ (.int .i64 ((rd_T91 l0_1 x18_2).f0.f0))).setCell ⟨gb284,1,none⟩ (.int .i64 ((rd_T91 l0_1 x18_2).f0.f1))).setCell ⟨gb284,2,none⟩ (.bool ((rd_T91 l0_1 x18_2).f1))).setCell ⟨gb284,3,none⟩ (.string ((rd_T91 l0_1 x18_2).f2))).heap[gb284]? = some (.cells #[.int .i64 ((rd_T91 l0_1 x18_2).f0.f0),.int .i64 ((rd_T91 l0_1 x18_2).f0.f1),.bool ((rd_T91 l0_1 x18_2).f1),.string ((rd_T91 l0_1 x18_2).f2)] 91 (0,0))):=⟨z27_ BK284.out⟩
           have n2_:Aside0 (Below w.heap.size w ((((w17.setCell ⟨gb284,0,none⟩ (.int .i64 ((rd_T91 l0_1 x18_2).f0.f0))).setCell ⟨gb284,1,none⟩ (.int .i64 ((rd_T91 l0_1 x18_2).f0.f1))).setCell ⟨gb284,2,none⟩ (.bool ((rd_T91 l0_1 x18_2).f1))).setCell ⟨gb284,3,none⟩ (.string ((rd_T91 l0_1 x18_2).f2)))):=⟨z6_ HB.out GE281.out GE284.out⟩
           (try clear BK281)
           (try clear BK284)
           (try clear HB)
           generalize ((((w17.setCell ⟨gb284,0,none⟩ (.int .i64 ((rd_T91 l0_1 x18_2).f0.f0))).setCell ⟨gb284,1,none⟩ (.int .i64 ((rd_T91 l0_1 x18_2).f0.f1))).setCell ⟨gb284,2,none⟩ (.bool ((rd_T91 l0_1 x18_2).f1))).setCell ⟨gb284,3,none⟩ (.string ((rd_T91 l0_1 x18_2).f2)))=w48 at n0_ n1_ n2_ ⊢
           have BK281:=n0_
           have BK284:=n1_
           have HB:=n2_
           clear n0_ n1_ n2_
           refine as3_ (blk_drew BK281.out) (blk_drew BK284.out) (below_drew1 HB.out) ?_
           clear BK281 BK284 HB
           intro BK281 BK284 HB
           refine start_ (n:=37) (S:=fun w'=>w'.cell? ⟨gb284,0,none⟩=some (.int .i64 ((rd_T91 l0_1 x18_2).f0.f0))∧w'.cell? ⟨gb284,1,none⟩=some (.int .i64 ((rd_T91 l0_1 x18_2).f0.f1))∧w'.cell? ⟨gb284,2,none⟩=some (.bool ((rd_T91 l0_1 x18_2).f1))∧w'.cell? ⟨gb284,3,none⟩=some (.string ((rd_T91 l0_1 x18_2).f2))) (ds:=[]) impl_SetRight.q0 (by kernel_rfl) rfl rfl (cc4_ BK284.out) (fun hHeld=>?_);refine with_tabW impl_SetRight.tab6 impl_SetRight.bits6 (fun HT_ HW_=>?_)
           generalize w48.drew=w49 at BK281 BK284 HB hHeld ⊢
           refine pu_ 0 23 impl_SetRight.q1 HT_.out ?_
           refine tk4_ 1 24 impl_SetRight.q2 HT_.out HW_.out hHeld ?_
           refine o1_ 2 25 impl_SetRight.q3 HT_.out (fun K hK=>?_)
           refine gs_ Try.func88 #[.agg #[.int .i64 ((rd_T91 l0_1 x18_2).f0.f0),.int .i64 ((rd_T91 l0_1 x18_2).f0.f1)]] ?_
           with_reducible refine (impl_isDot.calls ((rd_T91 l0_1 x18_2).f0.f0) ((rd_T91 l0_1 x18_2).f0.f1) false _ A20.out).mono ?_
           rintro e w50 ⟨rfl,hb⟩
           refine ⟨_,rfl,?_⟩
           refine as3_ (blkB_ BK281.out hb) (blkB_ BK284.out hb) (below_step (z6_ HB.out GE281.out GE284.out) hb) ?_
           clear BK281 BK284 HB
           intro BK281 BK284 HB
           (try clear hb)
           refine hK.out _ _ (cc4_ BK284.out) (fun hHeld=>?_)
           clear hK K
           refine nm_ 25 ?_
           refine pu_ 3 26 impl_SetRight.q4 HT_.out ?_
           refine pu_ 4 27 impl_SetRight.q5 HT_.out ?_
           refine pn_ 5 28 impl_SetRight.q6 HT_.out ?_
           refine pn_ 6 29 #[I,I,I,I,I,I,I,O,O,O,O,O,O,O,O,O,O,O,O,O,O,O,O,O,O,O,O,O,O,O,O,O,O,O,O,O,O] HT_.out ?_
           refine pn_ 7 30 impl_SetRight.q8 HT_.out ?_
           refine pn_ 8 31 impl_SetRight.q9 HT_.out ?_
           refine pn_ 9 32 impl_SetRight.q10 HT_.out ?_
           refine pn_ 10 33 impl_SetRight.q11 HT_.out ?_
           refine pu_ 11 34 impl_SetRight.q12 HT_.out ?_
           refine pu_ 12 35 impl_SetRight.q13 HT_.out ?_
           refine pn_ 13 36 impl_SetRight.q14 HT_.out ?_
           refine pn_ 14 37 impl_SetRight.q38 HT_.out ?_
           refine pn_ 15 38 impl_SetRight.q16 HT_.out ?_
           refine pn_ 16 39 impl_SetRight.q17 HT_.out ?_
           refine pn_ 17 40 impl_SetRight.q18 HT_.out ?_
           refine pn_ 18 41 impl_SetRight.q19 HT_.out ?_
           refine pu_ 19 42 impl_SetRight.q20 HT_.out ?_
           refine pu_ 20 43 impl_SetRight.q21 HT_.out ?_
           refine pn_ 21 44 impl_SetRight.q22 HT_.out ?_
           refine pn_ 22 45 impl_SetRight.q23 HT_.out ?_
           refine pn_ 23 46 impl_SetRight.q24 HT_.out ?_
           refine pn_ 24 47 impl_SetRight.q25 HT_.out ?_
           refine pn_ 25 48 impl_SetRight.q32 HT_.out ?_
           refine pn_ 26 49 impl_SetRight.q33 HT_.out ?_
           refine pn_ 27 50 impl_SetRight.q34 HT_.out ?_
           refine pn_ 28 51 impl_SetRight.q35 HT_.out ?_
           refine pn_ 29 52 impl_SetRight.q36 HT_.out ?_
           refine pn_ 30 53 impl_SetRight.q37 HT_.out ?_
           refine pn_ 31 54 impl_SetRight.q26 HT_.out ?_
           refine pn_ 32 55 impl_SetRight.q27 HT_.out ?_
           refine pn_ 33 56 impl_SetRight.q28 HT_.out ?_
           refine pn_ 34 57 impl_SetRight.q29 HT_.out ?_
           refine pn_ 35 58 impl_SetRight.q30 HT_.out ?_
           refine pu_ 36 59 impl_SetRight.q31 HT_.out ?_
           refine done_ (done_of HT_.out (by kernel_rfl)) ?_
           try go_wp2
           go_meet
           case rel=>exact ⟨_,(true),(z2_),H',⟨z31_ HJ1.out HK2.out⟩,⟨z3_ BK281.out⟩,⟨z3_ BK284.out⟩,⟨z6_ HB.out GE281.out GE284.out⟩⟩
         case rest =>
          clear HC16
          try clear c2
          try clear p2
          try clear c6
          try clear c8
          try clear c21
          try clear c23
          obtain ⟨kq,x59_15,rfl,HA,HJ15,BK281,BK284,HB⟩:=hcut
          cases kq with
          | zero=>exact absurd HA.out (by simp [impl_SetRight.j2])
          | succ kj15 =>
           have H:=HA.out
           clear HA
           simp only [impl_SetRight.j2] at H
           by_cases c51:x59_15=true
           ·subst c51
            have H1:(some false)=some r:=by rw [if_pos rfl] at H;exact H
            clear H
            have H:=H1
            clear H1
            obtain rfl:=Option.some.inj H
            go_wp2
            go_ret
            exact ⟨z8_,z6_ HB.out GE281.out GE284.out⟩
           ·replace c51:=Bool.eq_false_iff.mpr c51
            subst c51
            have H1:(impl_SetRight.l0 kj15 l0_1 (l0_1.length:Int) (wrap64 (x18_2+1)) l0_0 l0_1)=some r:=by rw [if_neg (show ¬ (false=true) by decide)] at H;exact H
            clear H
            have H:=H1
            clear H1
            have H':=Aside0.mk H
            clear H
            go_wp2
            go_roundg kj15
            case measure=>have:=HJ1.out;have:=HK2.out;have:=HJ15.out;omega
            case rel=>exact ⟨(wrap64 (x18_2+1)),(z2_),H',⟨by have:=HJ1.out;have:=HK2.out;have:=HJ15.out;omega⟩,⟨z3_ BK281.out⟩,⟨z6_ HB.out GE281.out GE284.out⟩⟩
        ·rw [if_neg c15] at H
         exact absurd H (by simp)
       ·rw [if_neg c14] at H
        exact absurd H (by simp)
      ·rw [if_neg c13] at H
       have c13b0:decide (x18_2<(l0_1.length:Int))=false:=decide_eq_false c13
       clear c13
       obtain rfl:=Option.some.inj H
       go_wp2
       go_ret
       exact ⟨z8_,z4_ HB.out GE281.out⟩


/-! ### impl_size: function 79 -/
def impl_size.f (a0:ByteArray):Option (Int):=some (a0.size:Int)
set_option maxHeartbeats 8000000 in
set_option maxRecDepth 100000 in
theorem impl_size.calls (a0:ByteArray) (r:Int) (w:World) (h:impl_size.f a0=some r) :
  Calls Try.prog 79 #[.string a0] w fun e w'=>e = .returned (.int .i64 r)∧Drawn0 w w':=by
 have H:(some (a0.size:Int))=some r:=h
 clear h
 obtain rfl:=Option.some.inj H
 go_enter Try.func79,Try.ntmps79
 go_wp2
 go_ret
 exact ⟨z2_,z10_⟩


/-! ### impl_NameRight: function 48 -/
mutual
def impl_NameRight.j0:Nat→ByteArray→Bool→Option (Bool)
 | 0,_,_=>none
 | k+1,x0,x18=>if x18=true then (some false) else (impl_NameRight.l0 k x0 (x0.size:Int) 0)
def impl_NameRight.l0:Nat→ByteArray→Int→Int→Option (Bool)
 | 0,_,_,_=>none
 | k+1,x0,x20,x21=>if x21<x20 then (if 0≤x21 then (if x21<(x0.size:Int) then (if (bt x0 x21)≥97 then (if (bt x0 x21)≤122 then (impl_NameRight.l0 k x0 x20 (wrap64 (x21+1))) else (if (bt x0 x21)≥48 then (if (bt x0 x21)≤57 then (impl_NameRight.l0 k x0 x20 (wrap64 (x21+1))) else (if ((bt x0 x21)=95) then (impl_NameRight.l0 k x0 x20 (wrap64 (x21+1))) else (some false))) else (if ((bt x0 x21)=95) then (impl_NameRight.l0 k x0 x20 (wrap64 (x21+1))) else (some false)))) else (if (bt x0 x21)≥48 then (if (bt x0 x21)≤57 then (impl_NameRight.l0 k x0 x20 (wrap64 (x21+1))) else (if ((bt x0 x21)=95) then (impl_NameRight.l0 k x0 x20 (wrap64 (x21+1))) else (some false))) else (if ((bt x0 x21)=95) then (impl_NameRight.l0 k x0 x20 (wrap64 (x21+1))) else (some false)))) else (none)) else (none)) else (some true)
end
def impl_NameRight.f (k:Nat) (a0:ByteArray):Option (Bool):=(impl_size.f a0).bind fun t256=>((impl_within.f t256 1 20).bind fun t257=>(if t257=true then (if 0<(a0.size:Int) then (if (bt a0 0)<97 then (impl_NameRight.j0 k a0 true) else (impl_NameRight.j0 k a0 (decide ((bt a0 0)>122)))) else (none)) else (impl_NameRight.j0 k a0 true)))
theorem impl_NameRight.mono_l:∀ k,(∀ y0 y1,LeO (impl_NameRight.j0 k y0 y1) (impl_NameRight.j0 (k+1) y0 y1))∧(∀ y0 y1 y2,LeO (impl_NameRight.l0 k y0 y1 y2) (impl_NameRight.l0 (k+1) y0 y1 y2))
 | 0=>⟨fun _ _ r h=>by simp [impl_NameRight.j0] at h,fun _ _ _ r h=>by simp [impl_NameRight.l0] at h⟩
 | k+1=>by
  obtain ⟨ih0,ih1⟩:=impl_NameRight.mono_l k
  refine ⟨?_,?_⟩
  ·intro y0 y1
   unfold impl_NameRight.j0
   repeat' first
   | (with_reducible exact ih0 _ _)
   | (with_reducible exact ih1 _ _ _)
   | (with_reducible exact LeO.refl _)
   | (with_reducible exact LeO.none _)
   | (with_reducible refine LeO.ite ?_ ?_)
   | (with_reducible refine LeO.bind ?_ (fun _=>?_))
   | exact ih0 _ _
   | exact ih1 _ _ _
   | exact LeO.none _
   | refine LeO.ite ?_ ?_
   | refine LeO.bind ?_ (fun _=>?_)
  ·intro y0 y1 y2
   unfold impl_NameRight.l0
   repeat' first
   | (with_reducible exact ih0 _ _)
   | (with_reducible exact ih1 _ _ _)
   | (with_reducible exact LeO.refl _)
   | (with_reducible exact LeO.none _)
   | (with_reducible refine LeO.ite ?_ ?_)
   | (with_reducible refine LeO.bind ?_ (fun _=>?_))
   | exact ih0 _ _
   | exact ih1 _ _ _
   | exact LeO.none _
   | refine LeO.ite ?_ ?_
   | refine LeO.bind ?_ (fun _=>?_)
theorem impl_NameRight.mono:∀ a0 k,LeO (impl_NameRight.f k a0) (impl_NameRight.f (k+1) a0):=by
 intro a0 k
 obtain ⟨ih0,ih1⟩:=impl_NameRight.mono_l k
 unfold impl_NameRight.f
 repeat' first
   | (with_reducible exact ih0 _ _)
   | (with_reducible exact ih1 _ _ _)
   | (with_reducible exact LeO.refl _)
   | (with_reducible exact LeO.none _)
   | (with_reducible refine LeO.ite ?_ ?_)
   | (with_reducible refine LeO.bind ?_ (fun _=>?_))
   | exact ih0 _ _
   | exact ih1 _ _ _
   | exact LeO.none _
   | refine LeO.ite ?_ ?_
   | refine LeO.bind ?_ (fun _=>?_)
set_option maxHeartbeats 8000000 in
set_option maxRecDepth 100000 in
theorem impl_NameRight.calls (k:Nat) (a0:ByteArray) (r:Bool) (w:World) (h:impl_NameRight.f k a0=some r) :
  Calls Try.prog 48 #[.string a0] w fun e w'=>e = .returned (.bool r)∧Drawn0 w w':=by
 have H:((impl_size.f a0).bind fun t256=>((impl_within.f t256 1 20).bind fun t257=>(if t257=true then (if 0<(a0.size:Int) then (if (bt a0 0)<97 then (impl_NameRight.j0 k a0 true) else (impl_NameRight.j0 k a0 (decide ((bt a0 0)>122)))) else (none)) else (impl_NameRight.j0 k a0 true))))=some r:=h
 clear h
 have HC2:=Aside0.mk H
 clear H
 go_enter Try.func48,Try.ntmps48
 go_upto_region 1 with (fail)
 go_cut [18] (fun v18 wc=>∃ (kq:Nat) (x18_1:Bool),v18 = .bool x18_1∧Aside0 (impl_NameRight.j0 kq a0 x18_1=some r)∧Aside0 (kq≤k)∧Drawn0 w wc)
 case first =>
  have H:=HC2.out
  clear HC2
  replace H:=Option.bind_eq_some_iff.mp H
  obtain ⟨t256,A30,H⟩:=H
  replace H:((impl_within.f t256 1 20).bind fun t257=>(if t257=true then (if 0<(a0.size:Int) then (if (bt a0 0)<97 then (impl_NameRight.j0 k a0 true) else (impl_NameRight.j0 k a0 (decide ((bt a0 0)>122)))) else (none)) else (impl_NameRight.j0 k a0 true)))=some r:=H
  have A3:=Aside0.mk A30
  clear A30
  replace H:=Option.bind_eq_some_iff.mp H
  obtain ⟨t257,A40,H⟩:=H
  replace H:(if t257=true then (if 0<(a0.size:Int) then (if (bt a0 0)<97 then (impl_NameRight.j0 k a0 true) else (impl_NameRight.j0 k a0 (decide ((bt a0 0)>122)))) else (none)) else (impl_NameRight.j0 k a0 true))=some r:=H
  have A4:=Aside0.mk A40
  clear A40
  by_cases c5:t257=true
  ·subst c5
   have H1:(if 0<(a0.size:Int) then (if (bt a0 0)<97 then (impl_NameRight.j0 k a0 true) else (impl_NameRight.j0 k a0 (decide ((bt a0 0)>122)))) else (none))=some r:=by rw [if_pos rfl] at H;exact H
   clear H
   have H:=H1
   clear H1
   by_cases c6:0<(a0.size:Int)
   ·rw [if_pos c6] at H
    have c6b0:decide (0<(a0.size:Int))=true:=decide_eq_true c6
    have c6b1:decide (0<a0.size)=true:=decide_eq_true (by omega)
    clear c6
    (first | rw [c6b0] | (simp only [i64_w,i32_w];rw [c6b0]) | skip)
    by_cases c8:(bt a0 0)<97
    ·rw [if_pos c8] at H
     have c8b0:decide ((bt a0 0)<97)=true:=decide_eq_true c8
     clear c8
     have H':=Aside0.mk H
     clear H
     go_wp2_with (first | ((with_reducible refine gc_ 79 ?_);refine gl_ (some 6) Try.func79 #[.string a0] ?_;(with_reducible refine (impl_size.calls a0 t256 _ A3.out).mono ?_);rintro e w' ⟨rfl,⟨nd,rfl⟩⟩;refine ⟨_,rfl,?_⟩) | ((with_reducible refine gc_ 41 ?_);refine gl_ (some 7) Try.func41 #[.int .i64 t256,.int .i64 1,.int .i64 20] ?_;(with_reducible refine (impl_within.calls t256 1 20 true _ A4.out).mono ?_);rintro e w' ⟨rfl,⟨nd,rfl⟩⟩;refine ⟨_,rfl,?_⟩;have p7:0≤(0:Int):=(by omega);have q7:0<a0.size:=(z44_);have hx7:∀ h:0<a0.size,((a0[0]'h).toNat:Int)=bt a0 0:=bt_at a0 0;clear p7;have qi7:(0<(a0.size:Int))=True:=eq_true (of_decide_eq_true (z1_));replace q7:=eq_true q7))
     go_meet
     case rel=>exact ⟨_,(true),(z2_),H',⟨by first | omega | exact Nat.le_refl _⟩,z10_⟩
    ·rw [if_neg c8] at H
     have c8b0:decide ((bt a0 0)<97)=false:=decide_eq_false c8
     clear c8
     have H':=Aside0.mk H
     clear H
     go_wp2_with (first | ((with_reducible refine gc_ 79 ?_);refine gl_ (some 6) Try.func79 #[.string a0] ?_;(with_reducible refine (impl_size.calls a0 t256 _ A3.out).mono ?_);rintro e w' ⟨rfl,⟨nd,rfl⟩⟩;refine ⟨_,rfl,?_⟩) | ((with_reducible refine gc_ 41 ?_);refine gl_ (some 7) Try.func41 #[.int .i64 t256,.int .i64 1,.int .i64 20] ?_;(with_reducible refine (impl_within.calls t256 1 20 true _ A4.out).mono ?_);rintro e w' ⟨rfl,⟨nd,rfl⟩⟩;refine ⟨_,rfl,?_⟩;have p7:0≤(0:Int):=(by omega);have q7:0<a0.size:=(z44_);have hx7:∀ h:0<a0.size,((a0[0]'h).toNat:Int)=bt a0 0:=bt_at a0 0;clear p7;have qi7:(0<(a0.size:Int))=True:=eq_true (of_decide_eq_true (z1_));replace q7:=eq_true q7;have p9:0≤(0:Int):=(by omega);have q9:0<a0.size:=(z44_);have hx9:∀ h:0<a0.size,((a0[0]'h).toNat:Int)=bt a0 0:=bt_at a0 0;clear p9;have qi9:(0<(a0.size:Int))=True:=eq_true (of_decide_eq_true (z1_));replace q9:=eq_true q9))
     go_meet
     case rel=>exact ⟨_,(decide ((bt a0 0)>122)),(z2_),H',⟨by first | omega | exact Nat.le_refl _⟩,z10_⟩
   ·rw [if_neg c6] at H
    exact absurd H (by simp)
  ·replace c5:=Bool.eq_false_iff.mpr c5
   subst c5
   have H1:(impl_NameRight.j0 k a0 true)=some r:=by rw [if_neg (show ¬ (false=true) by decide)] at H;exact H
   clear H
   have H:=H1
   clear H1
   have H':=Aside0.mk H
   clear H
   go_wp2_with (first | ((with_reducible refine gc_ 79 ?_);refine gl_ (some 6) Try.func79 #[.string a0] ?_;(with_reducible refine (impl_size.calls a0 t256 _ A3.out).mono ?_);rintro e w' ⟨rfl,⟨nd,rfl⟩⟩;refine ⟨_,rfl,?_⟩) | ((with_reducible refine gc_ 41 ?_);refine gl_ (some 7) Try.func41 #[.int .i64 t256,.int .i64 1,.int .i64 20] ?_;(with_reducible refine (impl_within.calls t256 1 20 false _ A4.out).mono ?_);rintro e w' ⟨rfl,⟨nd,rfl⟩⟩;refine ⟨_,rfl,?_⟩))
   go_meet
   case rel=>exact ⟨_,(true),(z2_),H',⟨by first | omega | exact Nat.le_refl _⟩,z10_⟩
 case rest =>
  clear HC2
  try clear p2
  try clear c4
  try clear c5
  try clear c6
  try clear c6b0
  try clear c6b1
  try clear c7
  try clear p7
  try clear q7
  try clear hx7
  try clear qi7
  try clear c8
  try clear c8b0
  try clear p9
  try clear q9
  try clear hx9
  try clear qi9
  try clear p7
  try clear p9
  try clear q7
  try clear q9
  obtain ⟨kq,x18_1,rfl,HA,HJ1,⟨mc1,rfl⟩⟩:=hcut
  cases kq with
  | zero=>exact absurd HA.out (by simp [impl_NameRight.j0])
  | succ kj1 =>
   have H:=HA.out
   clear HA
   simp only [impl_NameRight.j0] at H
   by_cases c10:x18_1=true
   ·subst c10
    have H1:(some false)=some r:=by rw [if_pos rfl] at H;exact H
    clear H
    have H:=H1
    clear H1
    obtain rfl:=Option.some.inj H
    go_wp2
    go_ret
    exact ⟨z2_,z10_⟩
   ·replace c10:=Bool.eq_false_iff.mpr c10
    subst c10
    have H1:(impl_NameRight.l0 kj1 a0 (a0.size:Int) 0)=some r:=by rw [if_neg (show ¬ (false=true) by decide)] at H;exact H
    clear H
    have H:=H1
    clear H1
    have H':=Aside0.mk H
    clear H
    go_wp2
    go_loopg [21] kj1 (fun kq v21 w'=>∃ (x21_2:Int),v21 = .int .i64 x21_2∧Aside0 (impl_NameRight.l0 kq a0 (a0.size:Int) x21_2=some r)∧Aside0 (kq≤kj1)∧Drawn0 w w')
    case atStart=>exact ⟨(0),(z2_),H',⟨Nat.le_refl _⟩,z10_⟩
    case round =>
     clear H'
     try clear c1
     try clear p2
     try clear c4
     try clear c5
     try clear c6
     try clear c6b0
     try clear c6b1
     try clear c7
     try clear p7
     try clear q7
     try clear hx7
     try clear qi7
     try clear c8
     try clear c8b0
     try clear p9
     try clear q9
     try clear hx9
     try clear qi9
     try clear c10
     try clear p2
     try clear p7
     try clear p9
     try clear q7
     try clear q9
     obtain ⟨x21_2,rfl,HA,HK2,⟨m2,rfl⟩⟩:=hrel
     cases gk with
     | zero=>exact absurd HA.out (by simp [impl_NameRight.l0])
     | succ k2 =>
      have H:=HA.out
      clear HA
      simp only [impl_NameRight.l0] at H
      by_cases c11:x21_2<(a0.size:Int)
      ·rw [if_pos c11] at H
       have c11b0:decide (x21_2<(a0.size:Int))=true:=decide_eq_true c11
       clear c11
       by_cases c12:0≤x21_2
       ·rw [if_pos c12] at H
        have c12b0:decide (0≤x21_2)=true:=decide_eq_true c12
        clear c12
        by_cases c13:x21_2<(a0.size:Int)
        ·rw [if_pos c13] at H
         have c13b0:decide (x21_2<(a0.size:Int))=true:=decide_eq_true c13
         clear c13
         by_cases c15:(bt a0 x21_2)≥97
         ·rw [if_pos c15] at H
          have c15b0:decide (97≤(bt a0 x21_2))=true:=decide_eq_true c15
          clear c15
          by_cases c16:(bt a0 x21_2)≤122
          ·rw [if_pos c16] at H
           have c16b0:decide ((bt a0 x21_2)≤122)=true:=decide_eq_true c16
           clear c16
           have H':=Aside0.mk H
           clear H
           have p14:0≤(x21_2:Int):=of_decide_eq_true (z1_)
           have q14:x21_2<(a0.size:Int):=of_decide_eq_true (z1_)
           have hx14:=bt_at a0 x21_2
           replace p14:=eq_true p14
           replace q14:=eq_true q14
           go_wp2
           go_roundg k2
           case measure=>have:=HJ1.out;have:=HK2.out;omega
           case rel=>exact ⟨(wrap64 (x21_2+1)),(z2_),H',⟨z22_ HJ1.out HK2.out⟩,z10_⟩
          ·rw [if_neg c16] at H
           have c16b0:decide ((bt a0 x21_2)≤122)=false:=decide_eq_false c16
           clear c16
           by_cases c17:(bt a0 x21_2)≥48
           ·rw [if_pos c17] at H
            have c17b0:decide (48≤(bt a0 x21_2))=true:=decide_eq_true c17
            clear c17
            by_cases c18:(bt a0 x21_2)≤57
            ·rw [if_pos c18] at H
             have c18b0:decide ((bt a0 x21_2)≤57)=true:=decide_eq_true c18
             clear c18
             have H':=Aside0.mk H
             clear H
             have p14:0≤(x21_2:Int):=of_decide_eq_true (z1_)
             have q14:x21_2<(a0.size:Int):=of_decide_eq_true (z1_)
             have hx14:=bt_at a0 x21_2
             replace p14:=eq_true p14
             replace q14:=eq_true q14
             go_wp2
             go_roundg k2
             case measure=>have:=HJ1.out;have:=HK2.out;omega
             case rel=>exact ⟨(wrap64 (x21_2+1)),(z2_),H',⟨z22_ HJ1.out HK2.out⟩,z10_⟩
            ·rw [if_neg c18] at H
             have c18b0:decide ((bt a0 x21_2)≤57)=false:=decide_eq_false c18
             clear c18
             by_cases c19:((bt a0 x21_2)=95)
             ·rw [if_pos c19] at H
              have c19b0:((bt a0 x21_2) == 95)=true:=beq_iff_eq.mpr c19
              have c19b1:((bt a0 x21_2) != 95)=false:=bne_eq_false_iff_eq.mpr c19
              clear c19
              have H':=Aside0.mk H
              clear H
              have p14:0≤(x21_2:Int):=of_decide_eq_true (z1_)
              have q14:x21_2<(a0.size:Int):=of_decide_eq_true (z1_)
              have hx14:=bt_at a0 x21_2
              replace p14:=eq_true p14
              replace q14:=eq_true q14
              go_wp2
              go_roundg k2
              case measure=>have:=HJ1.out;have:=HK2.out;omega
              case rel=>exact ⟨(wrap64 (x21_2+1)),(z2_),H',⟨z22_ HJ1.out HK2.out⟩,z10_⟩
             ·rw [if_neg c19] at H
              have c19b0:((bt a0 x21_2) == 95)=false:=beq_eq_false_iff_ne.mpr c19
              have c19b1:((bt a0 x21_2) != 95)=true:=bne_iff_ne.mpr c19
              obtain rfl:=Option.some.inj H
              have p14:0≤(x21_2:Int):=of_decide_eq_true (z1_)
              have q14:x21_2<(a0.size:Int):=of_decide_eq_true (z1_)
              have hx14:=bt_at a0 x21_2
              replace p14:=eq_true p14
              replace q14:=eq_true q14
              go_wp2
              go_ret
              exact ⟨z2_,z10_⟩
           ·rw [if_neg c17] at H
            have c17b0:decide (48≤(bt a0 x21_2))=false:=decide_eq_false c17
            clear c17
            by_cases c20:((bt a0 x21_2)=95)
            ·rw [if_pos c20] at H
             have c20b0:((bt a0 x21_2) == 95)=true:=beq_iff_eq.mpr c20
             have c20b1:((bt a0 x21_2) != 95)=false:=bne_eq_false_iff_eq.mpr c20
             clear c20
             have H':=Aside0.mk H
             clear H
             have p14:0≤(x21_2:Int):=of_decide_eq_true (z1_)
             have q14:x21_2<(a0.size:Int):=of_decide_eq_true (z1_)
             have hx14:=bt_at a0 x21_2
             replace p14:=eq_true p14
             replace q14:=eq_true q14
             go_wp2
             go_roundg k2
             case measure=>have:=HJ1.out;have:=HK2.out;omega
             case rel=>exact ⟨(wrap64 (x21_2+1)),(z2_),H',⟨z22_ HJ1.out HK2.out⟩,z10_⟩
            ·rw [if_neg c20] at H
             have c20b0:((bt a0 x21_2) == 95)=false:=beq_eq_false_iff_ne.mpr c20
             have c20b1:((bt a0 x21_2) != 95)=true:=bne_iff_ne.mpr c20
             obtain rfl:=Option.some.inj H
             have p14:0≤(x21_2:Int):=of_decide_eq_true (z1_)
             have q14:x21_2<(a0.size:Int):=of_decide_eq_true (z1_)
             have hx14:=bt_at a0 x21_2
             replace p14:=eq_true p14
             replace q14:=eq_true q14
             go_wp2
             go_ret
             exact ⟨z2_,z10_⟩
         ·rw [if_neg c15] at H
          have c15b0:decide (97≤(bt a0 x21_2))=false:=decide_eq_false c15
          clear c15
          by_cases c21:(bt a0 x21_2)≥48
          ·rw [if_pos c21] at H
           have c21b0:decide (48≤(bt a0 x21_2))=true:=decide_eq_true c21
           clear c21
           by_cases c22:(bt a0 x21_2)≤57
           ·rw [if_pos c22] at H
            have c22b0:decide ((bt a0 x21_2)≤57)=true:=decide_eq_true c22
            clear c22
            have H':=Aside0.mk H
            clear H
            have p14:0≤(x21_2:Int):=of_decide_eq_true (z1_)
            have q14:x21_2<(a0.size:Int):=of_decide_eq_true (z1_)
            have hx14:=bt_at a0 x21_2
            replace p14:=eq_true p14
            replace q14:=eq_true q14
            go_wp2
            go_roundg k2
            case measure=>have:=HJ1.out;have:=HK2.out;omega
            case rel=>exact ⟨(wrap64 (x21_2+1)),(z2_),H',⟨z22_ HJ1.out HK2.out⟩,z10_⟩
           ·rw [if_neg c22] at H
            have c22b0:decide ((bt a0 x21_2)≤57)=false:=decide_eq_false c22
            clear c22
            by_cases c23:((bt a0 x21_2)=95)
            ·rw [if_pos c23] at H
             have c23b0:((bt a0 x21_2) == 95)=true:=beq_iff_eq.mpr c23
             have c23b1:((bt a0 x21_2) != 95)=false:=bne_eq_false_iff_eq.mpr c23
             clear c23
             have H':=Aside0.mk H
             clear H
             have p14:0≤(x21_2:Int):=of_decide_eq_true (z1_)
             have q14:x21_2<(a0.size:Int):=of_decide_eq_true (z1_)
             have hx14:=bt_at a0 x21_2
             replace p14:=eq_true p14
             replace q14:=eq_true q14
             go_wp2
             go_roundg k2
             case measure=>have:=HJ1.out;have:=HK2.out;omega
             case rel=>exact ⟨(wrap64 (x21_2+1)),(z2_),H',⟨z22_ HJ1.out HK2.out⟩,z10_⟩
            ·rw [if_neg c23] at H
             have c23b0:((bt a0 x21_2) == 95)=false:=beq_eq_false_iff_ne.mpr c23
             have c23b1:((bt a0 x21_2) != 95)=true:=bne_iff_ne.mpr c23
             obtain rfl:=Option.some.inj H
             have p14:0≤(x21_2:Int):=of_decide_eq_true (z1_)
             have q14:x21_2<(a0.size:Int):=of_decide_eq_true (z1_)
             have hx14:=bt_at a0 x21_2
             replace p14:=eq_true p14
             replace q14:=eq_true q14
             go_wp2
             go_ret
             exact ⟨z2_,z10_⟩
          ·rw [if_neg c21] at H
           have c21b0:decide (48≤(bt a0 x21_2))=false:=decide_eq_false c21
           clear c21
           by_cases c24:((bt a0 x21_2)=95)
           ·rw [if_pos c24] at H
            have c24b0:((bt a0 x21_2) == 95)=true:=beq_iff_eq.mpr c24
            have c24b1:((bt a0 x21_2) != 95)=false:=bne_eq_false_iff_eq.mpr c24
            clear c24
            have H':=Aside0.mk H
            clear H
            have p14:0≤(x21_2:Int):=of_decide_eq_true (z1_)
            have q14:x21_2<(a0.size:Int):=of_decide_eq_true (z1_)
            have hx14:=bt_at a0 x21_2
            replace p14:=eq_true p14
            replace q14:=eq_true q14
            go_wp2
            go_roundg k2
            case measure=>have:=HJ1.out;have:=HK2.out;omega
            case rel=>exact ⟨(wrap64 (x21_2+1)),(z2_),H',⟨z22_ HJ1.out HK2.out⟩,z10_⟩
           ·rw [if_neg c24] at H
            have c24b0:((bt a0 x21_2) == 95)=false:=beq_eq_false_iff_ne.mpr c24
            have c24b1:((bt a0 x21_2) != 95)=true:=bne_iff_ne.mpr c24
            obtain rfl:=Option.some.inj H
            have p14:0≤(x21_2:Int):=of_decide_eq_true (z1_)
            have q14:x21_2<(a0.size:Int):=of_decide_eq_true (z1_)
            have hx14:=bt_at a0 x21_2
            replace p14:=eq_true p14
            replace q14:=eq_true q14
            go_wp2
            go_ret
            exact ⟨z2_,z10_⟩
        ·rw [if_neg c13] at H
         exact absurd H (by simp)
       ·rw [if_neg c12] at H
        exact absurd H (by simp)
      ·rw [if_neg c11] at H
       have c11b0:decide (x21_2<(a0.size:Int))=false:=decide_eq_false c11
       clear c11
       obtain rfl:=Option.some.inj H
       go_wp2
       go_ret
       exact ⟨z2_,z10_⟩


/-! ### impl_MsgRight: function 55 -/
mutual
def impl_MsgRight.j0:Nat→Bool→Int→Int→Int→Int→ByteArray→Int→List (S56)→List (S91)→Option (Bool)
 | 0,_,_,_,_,_,_,_,_,_=>none
 | k+1,x43,x291000,x291001,x291002,x291003,x291004,x291005,x291006,x291007=>if x43=true then (some false) else (if x291000=3 then (impl_MsgRight.j1 k true x291000 x291001 x291002 x291003 x291004 x291005 x291006 x291007) else (impl_MsgRight.j1 k (x291000 == 4) x291000 x291001 x291002 x291003 x291004 x291005 x291006 x291007))
def impl_MsgRight.j1:Nat→Bool→Int→Int→Int→Int→ByteArray→Int→List (S56)→List (S91)→Option (Bool)
 | 0,_,_,_,_,_,_,_,_,_=>none
 | k+1,x3,x291000,x291001,x291002,x291003,x291004,x291005,x291006,x291007=>if x3=true then (if (x291006.length:Int)=0 then (impl_MsgRight.j2 k true x291000 x291001 x291002 x291003 x291004 x291005 x291006 x291007) else (if x291000=1 then (impl_MsgRight.j2 k (decide ((x291006.length:Int)>0)) x291000 x291001 x291002 x291003 x291004 x291005 x291006 x291007) else (impl_MsgRight.j2 k false x291000 x291001 x291002 x291003 x291004 x291005 x291006 x291007))) else (if x291003=0 then (impl_MsgRight.j2 k true x291000 x291001 x291002 x291003 x291004 x291005 x291006 x291007) else (if x291000=1 then (impl_MsgRight.j2 k (decide ((x291006.length:Int)>0)) x291000 x291001 x291002 x291003 x291004 x291005 x291006 x291007) else (impl_MsgRight.j2 k false x291000 x291001 x291002 x291003 x291004 x291005 x291006 x291007)))
def impl_MsgRight.j2:Nat→Bool→Int→Int→Int→Int→ByteArray→Int→List (S56)→List (S91)→Option (Bool)
 | 0,_,_,_,_,_,_,_,_,_=>none
 | k+1,x80,x291000,x291001,x291002,x291003,x291004,x291005,x291006,x291007=>if x80=true then (some false) else (if x291000=1 then (some ((x291007.length:Int) == 0)) else (if x291000=4 then (some ((x291007.length:Int) == 0)) else (some true)))
end
def impl_MsgRight.f (k:Nat) (a0_0:Int) (a0_1:Int) (a0_2:Int) (a0_3:Int) (a0_4:ByteArray) (a0_5:Int) (l0_6:List (S56)) (l0_7:List (S91)):Option (Bool):=(impl_within.f a0_0 1 4).bind fun t291=>(if t291=true then ((impl_isNode.f a0_1).bind fun t292=>(if t292=true then ((impl_isNode.f a0_2).bind fun t293=>(if t293=true then ((impl_isNode.f a0_5).bind fun t294=>(if t294=true then ((impl_within.f a0_3 0 1000000).bind fun t295=>(if t295=true then ((impl_NameRight.f k a0_4).bind fun t296=>(if t296=true then ((impl_SetRight.f k l0_6 l0_7).bind fun t297=>(impl_MsgRight.j0 k (!t297) a0_0 a0_1 a0_2 a0_3 a0_4 a0_5 l0_6 l0_7)) else (impl_MsgRight.j0 k true a0_0 a0_1 a0_2 a0_3 a0_4 a0_5 l0_6 l0_7))) else (impl_MsgRight.j0 k true a0_0 a0_1 a0_2 a0_3 a0_4 a0_5 l0_6 l0_7))) else (impl_MsgRight.j0 k true a0_0 a0_1 a0_2 a0_3 a0_4 a0_5 l0_6 l0_7))) else (impl_MsgRight.j0 k true a0_0 a0_1 a0_2 a0_3 a0_4 a0_5 l0_6 l0_7))) else (impl_MsgRight.j0 k true a0_0 a0_1 a0_2 a0_3 a0_4 a0_5 l0_6 l0_7))) else (impl_MsgRight.j0 k true a0_0 a0_1 a0_2 a0_3 a0_4 a0_5 l0_6 l0_7))
theorem impl_MsgRight.mono_l:∀ k,(∀ y0 y1 y2 y3 y4 y5 y6 y7 y8,LeO (impl_MsgRight.j0 k y0 y1 y2 y3 y4 y5 y6 y7 y8) (impl_MsgRight.j0 (k+1) y0 y1 y2 y3 y4 y5 y6 y7 y8))∧(∀ y0 y1 y2 y3 y4 y5 y6 y7 y8,LeO (impl_MsgRight.j1 k y0 y1 y2 y3 y4 y5 y6 y7 y8) (impl_MsgRight.j1 (k+1) y0 y1 y2 y3 y4 y5 y6 y7 y8))∧(∀ y0 y1 y2 y3 y4 y5 y6 y7 y8,LeO (impl_MsgRight.j2 k y0 y1 y2 y3 y4 y5 y6 y7 y8) (impl_MsgRight.j2 (k+1) y0 y1 y2 y3 y4 y5 y6 y7 y8))
 | 0=>⟨fun _ _ _ _ _ _ _ _ _ r h=>by simp [impl_MsgRight.j0] at h,fun _ _ _ _ _ _ _ _ _ r h=>by simp [impl_MsgRight.j1] at h,fun _ _ _ _ _ _ _ _ _ r h=>by simp [impl_MsgRight.j2] at h⟩
 | k+1=>by
  obtain ⟨ih0,ih1,ih2⟩:=impl_MsgRight.mono_l k
  refine ⟨?_,?_,?_⟩
  ·intro y0 y1 y2 y3 y4 y5 y6 y7 y8
   unfold impl_MsgRight.j0
   repeat' first
   | (with_reducible exact ih0 _ _ _ _ _ _ _ _ _)
   | (with_reducible exact ih1 _ _ _ _ _ _ _ _ _)
   | (with_reducible exact ih2 _ _ _ _ _ _ _ _ _)
   | (with_reducible exact impl_NameRight.mono _ _)
   | (with_reducible exact impl_SetRight.mono _ _ _)
   | (with_reducible exact LeO.refl _)
   | (with_reducible exact LeO.none _)
   | (with_reducible refine LeO.ite ?_ ?_)
   | (with_reducible refine LeO.bind ?_ (fun _=>?_))
   | exact ih0 _ _ _ _ _ _ _ _ _
   | exact ih1 _ _ _ _ _ _ _ _ _
   | exact ih2 _ _ _ _ _ _ _ _ _
   | exact impl_NameRight.mono _ _
   | exact impl_SetRight.mono _ _ _
   | exact LeO.none _
   | refine LeO.ite ?_ ?_
   | refine LeO.bind ?_ (fun _=>?_)
  ·intro y0 y1 y2 y3 y4 y5 y6 y7 y8
   unfold impl_MsgRight.j1
   repeat' first
   | (with_reducible exact ih0 _ _ _ _ _ _ _ _ _)
   | (with_reducible exact ih1 _ _ _ _ _ _ _ _ _)
   | (with_reducible exact ih2 _ _ _ _ _ _ _ _ _)
   | (with_reducible exact impl_NameRight.mono _ _)
   | (with_reducible exact impl_SetRight.mono _ _ _)
   | (with_reducible exact LeO.refl _)
   | (with_reducible exact LeO.none _)
   | (with_reducible refine LeO.ite ?_ ?_)
   | (with_reducible refine LeO.bind ?_ (fun _=>?_))
   | exact ih0 _ _ _ _ _ _ _ _ _
   | exact ih1 _ _ _ _ _ _ _ _ _
   | exact ih2 _ _ _ _ _ _ _ _ _
   | exact impl_NameRight.mono _ _
   | exact impl_SetRight.mono _ _ _
   | exact LeO.none _
   | refine LeO.ite ?_ ?_
   | refine LeO.bind ?_ (fun _=>?_)
  ·intro y0 y1 y2 y3 y4 y5 y6 y7 y8
   unfold impl_MsgRight.j2
   repeat' first
   | (with_reducible exact ih0 _ _ _ _ _ _ _ _ _)
   | (with_reducible exact ih1 _ _ _ _ _ _ _ _ _)
   | (with_reducible exact ih2 _ _ _ _ _ _ _ _ _)
   | (with_reducible exact impl_NameRight.mono _ _)
   | (with_reducible exact impl_SetRight.mono _ _ _)
   | (with_reducible exact LeO.refl _)
   | (with_reducible exact LeO.none _)
   | (with_reducible refine LeO.ite ?_ ?_)
   | (with_reducible refine LeO.bind ?_ (fun _=>?_))
   | exact ih0 _ _ _ _ _ _ _ _ _
   | exact ih1 _ _ _ _ _ _ _ _ _
   | exact ih2 _ _ _ _ _ _ _ _ _
   | exact impl_NameRight.mono _ _
   | exact impl_SetRight.mono _ _ _
   | exact LeO.none _
   | refine LeO.ite ?_ ?_
   | refine LeO.bind ?_ (fun _=>?_)
theorem impl_MsgRight.mono:∀ a0 a1 a2 a3 a4 a5 a6 a7 k,LeO (impl_MsgRight.f k a0 a1 a2 a3 a4 a5 a6 a7) (impl_MsgRight.f (k+1) a0 a1 a2 a3 a4 a5 a6 a7):=by
 intro a0 a1 a2 a3 a4 a5 a6 a7 k
 obtain ⟨ih0,ih1,ih2⟩:=impl_MsgRight.mono_l k
 unfold impl_MsgRight.f
 repeat' first
   | (with_reducible exact ih0 _ _ _ _ _ _ _ _ _)
   | (with_reducible exact ih1 _ _ _ _ _ _ _ _ _)
   | (with_reducible exact ih2 _ _ _ _ _ _ _ _ _)
   | (with_reducible exact impl_NameRight.mono _ _)
   | (with_reducible exact impl_SetRight.mono _ _ _)
   | (with_reducible exact LeO.refl _)
   | (with_reducible exact LeO.none _)
   | (with_reducible refine LeO.ite ?_ ?_)
   | (with_reducible refine LeO.bind ?_ (fun _=>?_))
   | exact ih0 _ _ _ _ _ _ _ _ _
   | exact ih1 _ _ _ _ _ _ _ _ _
   | exact ih2 _ _ _ _ _ _ _ _ _
   | exact impl_NameRight.mono _ _
   | exact impl_SetRight.mono _ _ _
   | exact LeO.none _
   | refine LeO.ite ?_ ?_
   | refine LeO.bind ?_ (fun _=>?_)
set_option maxHeartbeats 8000000 in
set_option maxRecDepth 100000 in
theorem impl_MsgRight.calls (k:Nat) (a0_0:Int) (a0_1:Int) (a0_2:Int) (a0_3:Int) (a0_4:ByteArray) (a0_5:Int) (A0_6:Option Addr) (c0_6:Nat) (l0_6:List (S56)) (A0_7:Option Addr) (c0_7:Nat) (l0_7:List (S91)) (r:Bool) (w:World) (hr0_6:Kd.C k56 w A0_6 l0_6.length l0_6) (hc0_6:l0_6.length≤c0_6) (hr0_7:Kd.C k91 w A0_7 l0_7.length l0_7) (hc0_7:l0_7.length≤c0_7) (h:impl_MsgRight.f k a0_0 a0_1 a0_2 a0_3 a0_4 a0_5 l0_6 l0_7=some r) :
  Calls Try.prog 55 #[.agg #[.int .i64 a0_0,.int .i64 a0_1,.int .i64 a0_2,.int .i64 a0_3,.string a0_4,.int .i64 a0_5,.slice A0_6 l0_6.length c0_6,.slice A0_7 l0_7.length c0_7]] w fun e w'=>e = .returned (.bool r)∧Below w.heap.size w w':=by
 have hu42:=Try.underlying42
 have hu40:=Try.underlying40
 have HR0_6:=Aside0.mk hr0_6
 have HC0_6:=Aside0.mk hc0_6
 clear hr0_6 hc0_6
 have HR0_7:=Aside0.mk hr0_7
 have HC0_7:=Aside0.mk hc0_7
 clear hr0_7 hc0_7
 have HB:=Aside0.mk (Below.refl w.heap.size w)
 have H:((impl_within.f a0_0 1 4).bind fun t291=>(if t291=true then ((impl_isNode.f a0_1).bind fun t292=>(if t292=true then ((impl_isNode.f a0_2).bind fun t293=>(if t293=true then ((impl_isNode.f a0_5).bind fun t294=>(if t294=true then ((impl_within.f a0_3 0 1000000).bind fun t295=>(if t295=true then ((impl_NameRight.f k a0_4).bind fun t296=>(if t296=true then ((impl_SetRight.f k l0_6 l0_7).bind fun t297=>(impl_MsgRight.j0 k (!t297) a0_0 a0_1 a0_2 a0_3 a0_4 a0_5 l0_6 l0_7)) else (impl_MsgRight.j0 k true a0_0 a0_1 a0_2 a0_3 a0_4 a0_5 l0_6 l0_7))) else (impl_MsgRight.j0 k true a0_0 a0_1 a0_2 a0_3 a0_4 a0_5 l0_6 l0_7))) else (impl_MsgRight.j0 k true a0_0 a0_1 a0_2 a0_3 a0_4 a0_5 l0_6 l0_7))) else (impl_MsgRight.j0 k true a0_0 a0_1 a0_2 a0_3 a0_4 a0_5 l0_6 l0_7))) else (impl_MsgRight.j0 k true a0_0 a0_1 a0_2 a0_3 a0_4 a0_5 l0_6 l0_7))) else (impl_MsgRight.j0 k true a0_0 a0_1 a0_2 a0_3 a0_4 a0_5 l0_6 l0_7)))=some r:=h
 clear h
 have HC2:=Aside0.mk H
 clear H
 go_enter Try.func55,Try.ntmps55
 go_upto_region 1 with (first | ((with_reducible refine gd_ 1 ?_);(try (refine gate_guard (by rfl) ?_;dsimp only));refine be_ 1 #[.int .i64 a0_0,.int .i64 a0_1,.int .i64 a0_2,.int .i64 a0_3,.string a0_4,.int .i64 a0_5,.slice A0_6 l0_6.length c0_6,.slice A0_7 l0_7.length c0_7] 42 ?_;intro gb290 hg w3 hbox hb;refine as4_ (below_step (z5_ HB.out) hb) (hbox) ((z7_ HB.out:w.heap.size≤gb290)) ((z7_ HB.out:w.heap.size≤gb290)) ?_;clear HB;intro HB BK290 GW290 GE290;clear hb hbox hg))
 (try simp only [Act.put,sa_,s0_,ss_])
 go_cut [43] (fun v43 wc=>∃ (kq:Nat) (x43_1:Bool),v43 = .bool x43_1∧Aside0 (impl_MsgRight.j0 kq x43_1 a0_0 a0_1 a0_2 a0_3 a0_4 a0_5 l0_6 l0_7=some r)∧Aside0 (kq≤k)∧Aside0 (wc.heap[gb290]? = some (.cells #[.int .i64 a0_0,.int .i64 a0_1,.int .i64 a0_2,.int .i64 a0_3,.string a0_4,.int .i64 a0_5,(.slice A0_6 l0_6.length c0_6),(.slice A0_7 l0_7.length c0_7)] 42 (0,0)))∧Aside0 (Below w.heap.size w wc))
 case first =>
  have H:=HC2.out
  clear HC2
  replace H:=Option.bind_eq_some_iff.mp H
  obtain ⟨t291,A40,H⟩:=H
  replace H:(if t291=true then ((impl_isNode.f a0_1).bind fun t292=>(if t292=true then ((impl_isNode.f a0_2).bind fun t293=>(if t293=true then ((impl_isNode.f a0_5).bind fun t294=>(if t294=true then ((impl_within.f a0_3 0 1000000).bind fun t295=>(if t295=true then ((impl_NameRight.f k a0_4).bind fun t296=>(if t296=true then ((impl_SetRight.f k l0_6 l0_7).bind fun t297=>(impl_MsgRight.j0 k (!t297) a0_0 a0_1 a0_2 a0_3 a0_4 a0_5 l0_6 l0_7)) else (impl_MsgRight.j0 k true a0_0 a0_1 a0_2 a0_3 a0_4 a0_5 l0_6 l0_7))) else (impl_MsgRight.j0 k true a0_0 a0_1 a0_2 a0_3 a0_4 a0_5 l0_6 l0_7))) else (impl_MsgRight.j0 k true a0_0 a0_1 a0_2 a0_3 a0_4 a0_5 l0_6 l0_7))) else (impl_MsgRight.j0 k true a0_0 a0_1 a0_2 a0_3 a0_4 a0_5 l0_6 l0_7))) else (impl_MsgRight.j0 k true a0_0 a0_1 a0_2 a0_3 a0_4 a0_5 l0_6 l0_7))) else (impl_MsgRight.j0 k true a0_0 a0_1 a0_2 a0_3 a0_4 a0_5 l0_6 l0_7))=some r:=H
  have A4:=Aside0.mk A40
  clear A40
  by_cases c5:t291=true
  ·subst c5
   have H1:((impl_isNode.f a0_1).bind fun t292=>(if t292=true then ((impl_isNode.f a0_2).bind fun t293=>(if t293=true then ((impl_isNode.f a0_5).bind fun t294=>(if t294=true then ((impl_within.f a0_3 0 1000000).bind fun t295=>(if t295=true then ((impl_NameRight.f k a0_4).bind fun t296=>(if t296=true then ((impl_SetRight.f k l0_6 l0_7).bind fun t297=>(impl_MsgRight.j0 k (!t297) a0_0 a0_1 a0_2 a0_3 a0_4 a0_5 l0_6 l0_7)) else (impl_MsgRight.j0 k true a0_0 a0_1 a0_2 a0_3 a0_4 a0_5 l0_6 l0_7))) else (impl_MsgRight.j0 k true a0_0 a0_1 a0_2 a0_3 a0_4 a0_5 l0_6 l0_7))) else (impl_MsgRight.j0 k true a0_0 a0_1 a0_2 a0_3 a0_4 a0_5 l0_6 l0_7))) else (impl_MsgRight.j0 k true a0_0 a0_1 a0_2 a0_3 a0_4 a0_5 l0_6 l0_7))) else (impl_MsgRight.j0 k true a0_0 a0_1 a0_2 a0_3 a0_4 a0_5 l0_6 l0_7)))=some r:=by rw [if_pos rfl] at H;exact H
   clear H
   have H:=H1
   clear H1
   replace H:=Option.bind_eq_some_iff.mp H
   obtain ⟨t292,A60,H⟩:=H
   replace H:(if t292=true then ((impl_isNode.f a0_2).bind fun t293=>(if t293=true then ((impl_isNode.f a0_5).bind fun t294=>(if t294=true then ((impl_within.f a0_3 0 1000000).bind fun t295=>(if t295=true then ((impl_NameRight.f k a0_4).bind fun t296=>(if t296=true then ((impl_SetRight.f k l0_6 l0_7).bind fun t297=>(impl_MsgRight.j0 k (!t297) a0_0 a0_1 a0_2 a0_3 a0_4 a0_5 l0_6 l0_7)) else (impl_MsgRight.j0 k true a0_0 a0_1 a0_2 a0_3 a0_4 a0_5 l0_6 l0_7))) else (impl_MsgRight.j0 k true a0_0 a0_1 a0_2 a0_3 a0_4 a0_5 l0_6 l0_7))) else (impl_MsgRight.j0 k true a0_0 a0_1 a0_2 a0_3 a0_4 a0_5 l0_6 l0_7))) else (impl_MsgRight.j0 k true a0_0 a0_1 a0_2 a0_3 a0_4 a0_5 l0_6 l0_7))) else (impl_MsgRight.j0 k true a0_0 a0_1 a0_2 a0_3 a0_4 a0_5 l0_6 l0_7))=some r:=H
   have A6:=Aside0.mk A60
   clear A60
   by_cases c7:t292=true
   ·subst c7
    have H1:((impl_isNode.f a0_2).bind fun t293=>(if t293=true then ((impl_isNode.f a0_5).bind fun t294=>(if t294=true then ((impl_within.f a0_3 0 1000000).bind fun t295=>(if t295=true then ((impl_NameRight.f k a0_4).bind fun t296=>(if t296=true then ((impl_SetRight.f k l0_6 l0_7).bind fun t297=>(impl_MsgRight.j0 k (!t297) a0_0 a0_1 a0_2 a0_3 a0_4 a0_5 l0_6 l0_7)) else (impl_MsgRight.j0 k true a0_0 a0_1 a0_2 a0_3 a0_4 a0_5 l0_6 l0_7))) else (impl_MsgRight.j0 k true a0_0 a0_1 a0_2 a0_3 a0_4 a0_5 l0_6 l0_7))) else (impl_MsgRight.j0 k true a0_0 a0_1 a0_2 a0_3 a0_4 a0_5 l0_6 l0_7))) else (impl_MsgRight.j0 k true a0_0 a0_1 a0_2 a0_3 a0_4 a0_5 l0_6 l0_7)))=some r:=by rw [if_pos rfl] at H;exact H
    clear H
    have H:=H1
    clear H1
    replace H:=Option.bind_eq_some_iff.mp H
    obtain ⟨t293,A80,H⟩:=H
    replace H:(if t293=true then ((impl_isNode.f a0_5).bind fun t294=>(if t294=true then ((impl_within.f a0_3 0 1000000).bind fun t295=>(if t295=true then ((impl_NameRight.f k a0_4).bind fun t296=>(if t296=true then ((impl_SetRight.f k l0_6 l0_7).bind fun t297=>(impl_MsgRight.j0 k (!t297) a0_0 a0_1 a0_2 a0_3 a0_4 a0_5 l0_6 l0_7)) else (impl_MsgRight.j0 k true a0_0 a0_1 a0_2 a0_3 a0_4 a0_5 l0_6 l0_7))) else (impl_MsgRight.j0 k true a0_0 a0_1 a0_2 a0_3 a0_4 a0_5 l0_6 l0_7))) else (impl_MsgRight.j0 k true a0_0 a0_1 a0_2 a0_3 a0_4 a0_5 l0_6 l0_7))) else (impl_MsgRight.j0 k true a0_0 a0_1 a0_2 a0_3 a0_4 a0_5 l0_6 l0_7))=some r:=H
    have A8:=Aside0.mk A80
    clear A80
    by_cases c9:t293=true
    ·subst c9
     have H1:((impl_isNode.f a0_5).bind fun t294=>(if t294=true then ((impl_within.f a0_3 0 1000000).bind fun t295=>(if t295=true then ((impl_NameRight.f k a0_4).bind fun t296=>(if t296=true then ((impl_SetRight.f k l0_6 l0_7).bind fun t297=>(impl_MsgRight.j0 k (!t297) a0_0 a0_1 a0_2 a0_3 a0_4 a0_5 l0_6 l0_7)) else (impl_MsgRight.j0 k true a0_0 a0_1 a0_2 a0_3 a0_4 a0_5 l0_6 l0_7))) else (impl_MsgRight.j0 k true a0_0 a0_1 a0_2 a0_3 a0_4 a0_5 l0_6 l0_7))) else (impl_MsgRight.j0 k true a0_0 a0_1 a0_2 a0_3 a0_4 a0_5 l0_6 l0_7)))=some r:=by rw [if_pos rfl] at H;exact H
     clear H
     have H:=H1
     clear H1
     replace H:=Option.bind_eq_some_iff.mp H
     obtain ⟨t294,A100,H⟩:=H
     replace H:(if t294=true then ((impl_within.f a0_3 0 1000000).bind fun t295=>(if t295=true then ((impl_NameRight.f k a0_4).bind fun t296=>(if t296=true then ((impl_SetRight.f k l0_6 l0_7).bind fun t297=>(impl_MsgRight.j0 k (!t297) a0_0 a0_1 a0_2 a0_3 a0_4 a0_5 l0_6 l0_7)) else (impl_MsgRight.j0 k true a0_0 a0_1 a0_2 a0_3 a0_4 a0_5 l0_6 l0_7))) else (impl_MsgRight.j0 k true a0_0 a0_1 a0_2 a0_3 a0_4 a0_5 l0_6 l0_7))) else (impl_MsgRight.j0 k true a0_0 a0_1 a0_2 a0_3 a0_4 a0_5 l0_6 l0_7))=some r:=H
     have A10:=Aside0.mk A100
     clear A100
     by_cases c11:t294=true
     ·subst c11
      have H1:((impl_within.f a0_3 0 1000000).bind fun t295=>(if t295=true then ((impl_NameRight.f k a0_4).bind fun t296=>(if t296=true then ((impl_SetRight.f k l0_6 l0_7).bind fun t297=>(impl_MsgRight.j0 k (!t297) a0_0 a0_1 a0_2 a0_3 a0_4 a0_5 l0_6 l0_7)) else (impl_MsgRight.j0 k true a0_0 a0_1 a0_2 a0_3 a0_4 a0_5 l0_6 l0_7))) else (impl_MsgRight.j0 k true a0_0 a0_1 a0_2 a0_3 a0_4 a0_5 l0_6 l0_7)))=some r:=by rw [if_pos rfl] at H;exact H
      clear H
      have H:=H1
      clear H1
      replace H:=Option.bind_eq_some_iff.mp H
      obtain ⟨t295,A120,H⟩:=H
      replace H:(if t295=true then ((impl_NameRight.f k a0_4).bind fun t296=>(if t296=true then ((impl_SetRight.f k l0_6 l0_7).bind fun t297=>(impl_MsgRight.j0 k (!t297) a0_0 a0_1 a0_2 a0_3 a0_4 a0_5 l0_6 l0_7)) else (impl_MsgRight.j0 k true a0_0 a0_1 a0_2 a0_3 a0_4 a0_5 l0_6 l0_7))) else (impl_MsgRight.j0 k true a0_0 a0_1 a0_2 a0_3 a0_4 a0_5 l0_6 l0_7))=some r:=H
      have A12:=Aside0.mk A120
      clear A120
      by_cases c13:t295=true
      ·subst c13
       have H1:((impl_NameRight.f k a0_4).bind fun t296=>(if t296=true then ((impl_SetRight.f k l0_6 l0_7).bind fun t297=>(impl_MsgRight.j0 k (!t297) a0_0 a0_1 a0_2 a0_3 a0_4 a0_5 l0_6 l0_7)) else (impl_MsgRight.j0 k true a0_0 a0_1 a0_2 a0_3 a0_4 a0_5 l0_6 l0_7)))=some r:=by rw [if_pos rfl] at H;exact H
       clear H
       have H:=H1
       clear H1
       replace H:=Option.bind_eq_some_iff.mp H
       obtain ⟨t296,A140,H⟩:=H
       replace H:(if t296=true then ((impl_SetRight.f k l0_6 l0_7).bind fun t297=>(impl_MsgRight.j0 k (!t297) a0_0 a0_1 a0_2 a0_3 a0_4 a0_5 l0_6 l0_7)) else (impl_MsgRight.j0 k true a0_0 a0_1 a0_2 a0_3 a0_4 a0_5 l0_6 l0_7))=some r:=H
       have A14:=Aside0.mk A140
       clear A140
       by_cases c15:t296=true
       ·subst c15
        have H1:((impl_SetRight.f k l0_6 l0_7).bind fun t297=>(impl_MsgRight.j0 k (!t297) a0_0 a0_1 a0_2 a0_3 a0_4 a0_5 l0_6 l0_7))=some r:=by rw [if_pos rfl] at H;exact H
        clear H
        have H:=H1
        clear H1
        replace H:=Option.bind_eq_some_iff.mp H
        obtain ⟨t297,A160,H⟩:=H
        replace H:(impl_MsgRight.j0 k (!t297) a0_0 a0_1 a0_2 a0_3 a0_4 a0_5 l0_6 l0_7)=some r:=H
        have A16:=Aside0.mk A160
        clear A160
        have H':=Aside0.mk H
        clear H
        have ⟨hcz17_0,hcz17_1,hcz17_2,hcz17_3,hcz17_4,hcz17_5,hcz17_6,hcz17_7,hfz17_0,hfz17_1,hfz17_2,hfz17_3,hfz17_4,hfz17_5,hfz17_6,hfz17_7⟩:=cz8_ BK290.out
        go_wp2_with (first | ((with_reducible refine gc_ 41 ?_);refine gl_ (some 6) Try.func41 #[.int .i64 a0_0,.int .i64 1,.int .i64 4] ?_;(with_reducible refine (impl_within.calls a0_0 1 4 true _ A4.out).mono ?_);rintro e w' ⟨rfl,⟨nd,rfl⟩⟩;refine ⟨_,rfl,?_⟩) | (go_at_call 86;(with_reducible refine (impl_isNode.calls a0_1 true _ A6.out).mono ?_);rintro e w' ⟨rfl,⟨nd,rfl⟩⟩) | (go_at_call 86;(with_reducible refine (impl_isNode.calls a0_2 true _ A8.out).mono ?_);rintro e w' ⟨rfl,⟨nd,rfl⟩⟩) | (go_at_call 86;(with_reducible refine (impl_isNode.calls a0_5 true _ A10.out).mono ?_);rintro e w' ⟨rfl,⟨nd,rfl⟩⟩) | (go_at_call 41;(with_reducible refine (impl_within.calls a0_3 0 1000000 true _ A12.out).mono ?_);rintro e w' ⟨rfl,⟨nd,rfl⟩⟩) | (go_at_call 48;(with_reducible refine (impl_NameRight.calls k a0_4 true _ A14.out).mono ?_);rintro e w' ⟨rfl,⟨nd,rfl⟩⟩) | (go_at_call 56;(with_reducible refine (impl_SetRight.calls k _ _ l0_6 _ _ l0_7 t297 _ ?s1 ?s2 ?s3 ?s4 A16.out).mono ?_);(case s1=>repeat (first | exact (Kd.C_below HR0_6.out (z4_ HB.out GE290.out)) | (with_reducible refine Kd.C_alloc ?_ _) | (with_reducible refine Kd.C_drewN ?_ _) | (with_reducible refine Kd.C_drew ?_)));(case s2=>exact HC0_6.out);(case s3=>repeat (first | exact (Kd.C_below HR0_7.out (z4_ HB.out GE290.out)) | (with_reducible refine Kd.C_alloc ?_ _) | (with_reducible refine Kd.C_drewN ?_ _) | (with_reducible refine Kd.C_drew ?_)));(case s4=>exact HC0_7.out);rintro e w18 ⟨rfl,hb⟩;refine as2_ (blkB_ BK290.out hb) (below_step (z4_ HB.out GE290.out) hb) ?_;clear BK290 HB;intro BK290 HB;(try clear hb)))
        go_meet
        case rel=>exact ⟨_,(!t297),(z2_),H',⟨by first | omega | exact Nat.le_refl _⟩,⟨z3_ BK290.out⟩,⟨z4_ HB.out GE290.out⟩⟩
       ·replace c15:=Bool.eq_false_iff.mpr c15
        subst c15
        have H1:(impl_MsgRight.j0 k true a0_0 a0_1 a0_2 a0_3 a0_4 a0_5 l0_6 l0_7)=some r:=by rw [if_neg (show ¬ (false=true) by decide)] at H;exact H
        clear H
        have H:=H1
        clear H1
        have H':=Aside0.mk H
        clear H
        have ⟨hcz19_0,hcz19_1,hcz19_2,hcz19_3,hcz19_4,hcz19_5,hcz19_6,hcz19_7,hfz19_0,hfz19_1,hfz19_2,hfz19_3,hfz19_4,hfz19_5,hfz19_6,hfz19_7⟩:=cz8_ BK290.out
        go_wp2_with (first | ((with_reducible refine gc_ 41 ?_);refine gl_ (some 6) Try.func41 #[.int .i64 a0_0,.int .i64 1,.int .i64 4] ?_;(with_reducible refine (impl_within.calls a0_0 1 4 true _ A4.out).mono ?_);rintro e w' ⟨rfl,⟨nd,rfl⟩⟩;refine ⟨_,rfl,?_⟩) | (go_at_call 86;(with_reducible refine (impl_isNode.calls a0_1 true _ A6.out).mono ?_);rintro e w' ⟨rfl,⟨nd,rfl⟩⟩) | (go_at_call 86;(with_reducible refine (impl_isNode.calls a0_2 true _ A8.out).mono ?_);rintro e w' ⟨rfl,⟨nd,rfl⟩⟩) | (go_at_call 86;(with_reducible refine (impl_isNode.calls a0_5 true _ A10.out).mono ?_);rintro e w' ⟨rfl,⟨nd,rfl⟩⟩) | (go_at_call 41;(with_reducible refine (impl_within.calls a0_3 0 1000000 true _ A12.out).mono ?_);rintro e w' ⟨rfl,⟨nd,rfl⟩⟩) | (go_at_call 48;(with_reducible refine (impl_NameRight.calls k a0_4 false _ A14.out).mono ?_);rintro e w' ⟨rfl,⟨nd,rfl⟩⟩))
        go_meet
        case rel=>exact ⟨_,(true),(z2_),H',⟨by first | omega | exact Nat.le_refl _⟩,⟨z3_ BK290.out⟩,⟨z4_ HB.out GE290.out⟩⟩
      ·replace c13:=Bool.eq_false_iff.mpr c13
       subst c13
       have H1:(impl_MsgRight.j0 k true a0_0 a0_1 a0_2 a0_3 a0_4 a0_5 l0_6 l0_7)=some r:=by rw [if_neg (show ¬ (false=true) by decide)] at H;exact H
       clear H
       have H:=H1
       clear H1
       have H':=Aside0.mk H
       clear H
       have ⟨hcz20_0,hcz20_1,hcz20_2,hcz20_3,hcz20_4,hcz20_5,hcz20_6,hcz20_7,hfz20_0,hfz20_1,hfz20_2,hfz20_3,hfz20_4,hfz20_5,hfz20_6,hfz20_7⟩:=cz8_ BK290.out
       go_wp2_with (first | ((with_reducible refine gc_ 41 ?_);refine gl_ (some 6) Try.func41 #[.int .i64 a0_0,.int .i64 1,.int .i64 4] ?_;(with_reducible refine (impl_within.calls a0_0 1 4 true _ A4.out).mono ?_);rintro e w' ⟨rfl,⟨nd,rfl⟩⟩;refine ⟨_,rfl,?_⟩) | (go_at_call 86;(with_reducible refine (impl_isNode.calls a0_1 true _ A6.out).mono ?_);rintro e w' ⟨rfl,⟨nd,rfl⟩⟩) | (go_at_call 86;(with_reducible refine (impl_isNode.calls a0_2 true _ A8.out).mono ?_);rintro e w' ⟨rfl,⟨nd,rfl⟩⟩) | (go_at_call 86;(with_reducible refine (impl_isNode.calls a0_5 true _ A10.out).mono ?_);rintro e w' ⟨rfl,⟨nd,rfl⟩⟩) | (go_at_call 41;(with_reducible refine (impl_within.calls a0_3 0 1000000 false _ A12.out).mono ?_);rintro e w' ⟨rfl,⟨nd,rfl⟩⟩))
       go_meet
       case rel=>exact ⟨_,(true),(z2_),H',⟨by first | omega | exact Nat.le_refl _⟩,⟨z3_ BK290.out⟩,⟨z4_ HB.out GE290.out⟩⟩
     ·replace c11:=Bool.eq_false_iff.mpr c11
      subst c11
      have H1:(impl_MsgRight.j0 k true a0_0 a0_1 a0_2 a0_3 a0_4 a0_5 l0_6 l0_7)=some r:=by rw [if_neg (show ¬ (false=true) by decide)] at H;exact H
      clear H
      have H:=H1
      clear H1
      have H':=Aside0.mk H
      clear H
      have ⟨hcz21_0,hcz21_1,hcz21_2,hcz21_3,hcz21_4,hcz21_5,hcz21_6,hcz21_7,hfz21_0,hfz21_1,hfz21_2,hfz21_3,hfz21_4,hfz21_5,hfz21_6,hfz21_7⟩:=cz8_ BK290.out
      go_wp2_with (first | ((with_reducible refine gc_ 41 ?_);refine gl_ (some 6) Try.func41 #[.int .i64 a0_0,.int .i64 1,.int .i64 4] ?_;(with_reducible refine (impl_within.calls a0_0 1 4 true _ A4.out).mono ?_);rintro e w' ⟨rfl,⟨nd,rfl⟩⟩;refine ⟨_,rfl,?_⟩) | (go_at_call 86;(with_reducible refine (impl_isNode.calls a0_1 true _ A6.out).mono ?_);rintro e w' ⟨rfl,⟨nd,rfl⟩⟩) | (go_at_call 86;(with_reducible refine (impl_isNode.calls a0_2 true _ A8.out).mono ?_);rintro e w' ⟨rfl,⟨nd,rfl⟩⟩) | (go_at_call 86;(with_reducible refine (impl_isNode.calls a0_5 false _ A10.out).mono ?_);rintro e w' ⟨rfl,⟨nd,rfl⟩⟩))
      go_meet
      case rel=>exact ⟨_,(true),(z2_),H',⟨by first | omega | exact Nat.le_refl _⟩,⟨z3_ BK290.out⟩,⟨z4_ HB.out GE290.out⟩⟩
    ·replace c9:=Bool.eq_false_iff.mpr c9
     subst c9
     have H1:(impl_MsgRight.j0 k true a0_0 a0_1 a0_2 a0_3 a0_4 a0_5 l0_6 l0_7)=some r:=by rw [if_neg (show ¬ (false=true) by decide)] at H;exact H
     clear H
     have H:=H1
     clear H1
     have H':=Aside0.mk H
     clear H
     have ⟨hcz22_0,hcz22_1,hcz22_2,hcz22_3,hcz22_4,hcz22_5,hcz22_6,hcz22_7,hfz22_0,hfz22_1,hfz22_2,hfz22_3,hfz22_4,hfz22_5,hfz22_6,hfz22_7⟩:=cz8_ BK290.out
     go_wp2_with (first | ((with_reducible refine gc_ 41 ?_);refine gl_ (some 6) Try.func41 #[.int .i64 a0_0,.int .i64 1,.int .i64 4] ?_;(with_reducible refine (impl_within.calls a0_0 1 4 true _ A4.out).mono ?_);rintro e w' ⟨rfl,⟨nd,rfl⟩⟩;refine ⟨_,rfl,?_⟩) | (go_at_call 86;(with_reducible refine (impl_isNode.calls a0_1 true _ A6.out).mono ?_);rintro e w' ⟨rfl,⟨nd,rfl⟩⟩) | (go_at_call 86;(with_reducible refine (impl_isNode.calls a0_2 false _ A8.out).mono ?_);rintro e w' ⟨rfl,⟨nd,rfl⟩⟩))
     go_meet
     case rel=>exact ⟨_,(true),(z2_),H',⟨by first | omega | exact Nat.le_refl _⟩,⟨z3_ BK290.out⟩,⟨z4_ HB.out GE290.out⟩⟩
   ·replace c7:=Bool.eq_false_iff.mpr c7
    subst c7
    have H1:(impl_MsgRight.j0 k true a0_0 a0_1 a0_2 a0_3 a0_4 a0_5 l0_6 l0_7)=some r:=by rw [if_neg (show ¬ (false=true) by decide)] at H;exact H
    clear H
    have H:=H1
    clear H1
    have H':=Aside0.mk H
    clear H
    have ⟨hcz23_0,hcz23_1,hcz23_2,hcz23_3,hcz23_4,hcz23_5,hcz23_6,hcz23_7,hfz23_0,hfz23_1,hfz23_2,hfz23_3,hfz23_4,hfz23_5,hfz23_6,hfz23_7⟩:=cz8_ BK290.out
    go_wp2_with (first | ((with_reducible refine gc_ 41 ?_);refine gl_ (some 6) Try.func41 #[.int .i64 a0_0,.int .i64 1,.int .i64 4] ?_;(with_reducible refine (impl_within.calls a0_0 1 4 true _ A4.out).mono ?_);rintro e w' ⟨rfl,⟨nd,rfl⟩⟩;refine ⟨_,rfl,?_⟩) | (go_at_call 86;(with_reducible refine (impl_isNode.calls a0_1 false _ A6.out).mono ?_);rintro e w' ⟨rfl,⟨nd,rfl⟩⟩))
    go_meet
    case rel=>exact ⟨_,(true),(z2_),H',⟨by first | omega | exact Nat.le_refl _⟩,⟨z3_ BK290.out⟩,⟨z4_ HB.out GE290.out⟩⟩
  ·replace c5:=Bool.eq_false_iff.mpr c5
   subst c5
   have H1:(impl_MsgRight.j0 k true a0_0 a0_1 a0_2 a0_3 a0_4 a0_5 l0_6 l0_7)=some r:=by rw [if_neg (show ¬ (false=true) by decide)] at H;exact H
   clear H
   have H:=H1
   clear H1
   have H':=Aside0.mk H
   clear H
   have ⟨hcz24_0,hcz24_1,hcz24_2,hcz24_3,hcz24_4,hcz24_5,hcz24_6,hcz24_7,hfz24_0,hfz24_1,hfz24_2,hfz24_3,hfz24_4,hfz24_5,hfz24_6,hfz24_7⟩:=cz8_ BK290.out
   go_wp2_with (first | ((with_reducible refine gc_ 41 ?_);refine gl_ (some 6) Try.func41 #[.int .i64 a0_0,.int .i64 1,.int .i64 4] ?_;(with_reducible refine (impl_within.calls a0_0 1 4 false _ A4.out).mono ?_);rintro e w' ⟨rfl,⟨nd,rfl⟩⟩;refine ⟨_,rfl,?_⟩))
   go_meet
   case rel=>exact ⟨_,(true),(z2_),H',⟨by first | omega | exact Nat.le_refl _⟩,⟨z3_ BK290.out⟩,⟨z4_ HB.out GE290.out⟩⟩
 case rest =>
  clear HC2
  try clear c1
  try clear p2
  try clear c4
  try clear c5
  try clear c7
  try clear c9
  try clear c11
  try clear c13
  try clear c15
  try clear hcz17_0
  try clear hcz17_1
  try clear hcz17_2
  try clear hcz17_3
  try clear hcz17_4
  try clear hcz17_5
  try clear hcz17_6
  try clear hcz17_7
  try clear hcz19_0
  try clear hcz19_1
  try clear hcz19_2
  try clear hcz19_3
  try clear hcz19_4
  try clear hcz19_5
  try clear hcz19_6
  try clear hcz19_7
  try clear hcz20_0
  try clear hcz20_1
  try clear hcz20_2
  try clear hcz20_3
  try clear hcz20_4
  try clear hcz20_5
  try clear hcz20_6
  try clear hcz20_7
  try clear hcz21_0
  try clear hcz21_1
  try clear hcz21_2
  try clear hcz21_3
  try clear hcz21_4
  try clear hcz21_5
  try clear hcz21_6
  try clear hcz21_7
  try clear hcz22_0
  try clear hcz22_1
  try clear hcz22_2
  try clear hcz22_3
  try clear hcz22_4
  try clear hcz22_5
  try clear hcz22_6
  try clear hcz22_7
  try clear hcz23_0
  try clear hcz23_1
  try clear hcz23_2
  try clear hcz23_3
  try clear hcz23_4
  try clear hcz23_5
  try clear hcz23_6
  try clear hcz23_7
  try clear hcz24_0
  try clear hcz24_1
  try clear hcz24_2
  try clear hcz24_3
  try clear hcz24_4
  try clear hcz24_5
  try clear hcz24_6
  try clear hcz24_7
  try clear hfz17_0
  try clear hfz17_1
  try clear hfz17_2
  try clear hfz17_3
  try clear hfz17_4
  try clear hfz17_5
  try clear hfz17_6
  try clear hfz17_7
  try clear hfz19_0
  try clear hfz19_1
  try clear hfz19_2
  try clear hfz19_3
  try clear hfz19_4
  try clear hfz19_5
  try clear hfz19_6
  try clear hfz19_7
  try clear hfz20_0
  try clear hfz20_1
  try clear hfz20_2
  try clear hfz20_3
  try clear hfz20_4
  try clear hfz20_5
  try clear hfz20_6
  try clear hfz20_7
  try clear hfz21_0
  try clear hfz21_1
  try clear hfz21_2
  try clear hfz21_3
  try clear hfz21_4
  try clear hfz21_5
  try clear hfz21_6
  try clear hfz21_7
  try clear hfz22_0
  try clear hfz22_1
  try clear hfz22_2
  try clear hfz22_3
  try clear hfz22_4
  try clear hfz22_5
  try clear hfz22_6
  try clear hfz22_7
  try clear hfz23_0
  try clear hfz23_1
  try clear hfz23_2
  try clear hfz23_3
  try clear hfz23_4
  try clear hfz23_5
  try clear hfz23_6
  try clear hfz23_7
  try clear hfz24_0
  try clear hfz24_1
  try clear hfz24_2
  try clear hfz24_3
  try clear hfz24_4
  try clear hfz24_5
  try clear hfz24_6
  try clear hfz24_7
  obtain ⟨kq,x43_1,rfl,HA,HJ1,BK290,HB⟩:=hcut
  cases kq with
  | zero=>exact absurd HA.out (by simp [impl_MsgRight.j0])
  | succ kj1 =>
   have H:=HA.out
   clear HA
   simp only [impl_MsgRight.j0] at H
   by_cases c25:x43_1=true
   ·subst c25
    have H1:(some false)=some r:=by rw [if_pos rfl] at H;exact H
    clear H
    have H:=H1
    clear H1
    obtain rfl:=Option.some.inj H
    go_wp2
    go_ret
    exact ⟨z8_,z4_ HB.out GE290.out⟩
   ·replace c25:=Bool.eq_false_iff.mpr c25
    subst c25
    have H1:(if a0_0=3 then (impl_MsgRight.j1 kj1 true a0_0 a0_1 a0_2 a0_3 a0_4 a0_5 l0_6 l0_7) else (impl_MsgRight.j1 kj1 (a0_0 == 4) a0_0 a0_1 a0_2 a0_3 a0_4 a0_5 l0_6 l0_7))=some r:=by rw [if_neg (show ¬ (false=true) by decide)] at H;exact H
    clear H
    have H:=H1
    clear H1
    have HC26:=Aside0.mk H
    clear H
    go_upto_region 3 with (fail)
    go_cut [3] (fun v3 wc=>∃ (kq:Nat) (x3_25:Bool),v3 = .bool x3_25∧Aside0 (impl_MsgRight.j1 kq x3_25 a0_0 a0_1 a0_2 a0_3 a0_4 a0_5 l0_6 l0_7=some r)∧Aside0 (kq≤kj1)∧Aside0 (wc.heap[gb290]? = some (.cells #[.int .i64 a0_0,.int .i64 a0_1,.int .i64 a0_2,.int .i64 a0_3,.string a0_4,.int .i64 a0_5,(.slice A0_6 l0_6.length c0_6),(.slice A0_7 l0_7.length c0_7)] 42 (0,0)))∧Aside0 (Below w.heap.size w wc))
    case first =>
     have H:=HC26.out
     clear HC26
     by_cases c27:a0_0=3
     ·rw [if_pos c27] at H
      have c27b0:(a0_0 == 3)=true:=beq_iff_eq.mpr c27
      have c27b1:(a0_0 != 3)=false:=bne_eq_false_iff_eq.mpr c27
      clear c27
      (first | rw [c27b0] | (simp only [i64_w,i32_w];rw [c27b0]) | skip)
      have H':=Aside0.mk H
      clear H
      have ⟨hcz28_0,hcz28_1,hcz28_2,hcz28_3,hcz28_4,hcz28_5,hcz28_6,hcz28_7,hfz28_0,hfz28_1,hfz28_2,hfz28_3,hfz28_4,hfz28_5,hfz28_6,hfz28_7⟩:=cz8_ BK290.out
      go_wp2
      go_meet
      case rel=>exact ⟨_,(true),(z2_),H',⟨by have:=HJ1.out;first | omega | exact Nat.le_refl _⟩,⟨z3_ BK290.out⟩,⟨z4_ HB.out GE290.out⟩⟩
     ·rw [if_neg c27] at H
      have c27b0:(a0_0 == 3)=false:=beq_eq_false_iff_ne.mpr c27
      have c27b1:(a0_0 != 3)=true:=bne_iff_ne.mpr c27
      (first | rw [c27b0] | (simp only [i64_w,i32_w];rw [c27b0]) | skip)
      have H':=Aside0.mk H
      clear H
      have ⟨hcz29_0,hcz29_1,hcz29_2,hcz29_3,hcz29_4,hcz29_5,hcz29_6,hcz29_7,hfz29_0,hfz29_1,hfz29_2,hfz29_3,hfz29_4,hfz29_5,hfz29_6,hfz29_7⟩:=cz8_ BK290.out
      go_wp2
      go_meet
      case rel=>exact ⟨_,((a0_0 == 4)),(z2_),H',⟨by have:=HJ1.out;first | omega | exact Nat.le_refl _⟩,⟨z3_ BK290.out⟩,⟨z4_ HB.out GE290.out⟩⟩
    case rest =>
     clear HC26
     try clear c1
     try clear c2
     try clear p2
     try clear c4
     try clear c5
     try clear c7
     try clear c9
     try clear c11
     try clear c13
     try clear c15
     try clear c25
     try clear c27
     try clear c27b0
     try clear c27b1
     try clear hcz17_0
     try clear hcz17_1
     try clear hcz17_2
     try clear hcz17_3
     try clear hcz17_4
     try clear hcz17_5
     try clear hcz17_6
     try clear hcz17_7
     try clear hcz19_0
     try clear hcz19_1
     try clear hcz19_2
     try clear hcz19_3
     try clear hcz19_4
     try clear hcz19_5
     try clear hcz19_6
     try clear hcz19_7
     try clear hcz20_0
     try clear hcz20_1
     try clear hcz20_2
     try clear hcz20_3
     try clear hcz20_4
     try clear hcz20_5
     try clear hcz20_6
     try clear hcz20_7
     try clear hcz21_0
     try clear hcz21_1
     try clear hcz21_2
     try clear hcz21_3
     try clear hcz21_4
     try clear hcz21_5
     try clear hcz21_6
     try clear hcz21_7
     try clear hcz22_0
     try clear hcz22_1
     try clear hcz22_2
     try clear hcz22_3
     try clear hcz22_4
     try clear hcz22_5
     try clear hcz22_6
     try clear hcz22_7
     try clear hcz23_0
     try clear hcz23_1
     try clear hcz23_2
     try clear hcz23_3
     try clear hcz23_4
     try clear hcz23_5
     try clear hcz23_6
     try clear hcz23_7
     try clear hcz24_0
     try clear hcz24_1
     try clear hcz24_2
     try clear hcz24_3
     try clear hcz24_4
     try clear hcz24_5
     try clear hcz24_6
     try clear hcz24_7
     try clear hcz28_0
     try clear hcz28_1
     try clear hcz28_2
     try clear hcz28_3
     try clear hcz28_4
     try clear hcz28_5
     try clear hcz28_6
     try clear hcz28_7
     try clear hcz29_0
     try clear hcz29_1
     try clear hcz29_2
     try clear hcz29_3
     try clear hcz29_4
     try clear hcz29_5
     try clear hcz29_6
     try clear hcz29_7
     try clear hfz17_0
     try clear hfz17_1
     try clear hfz17_2
     try clear hfz17_3
     try clear hfz17_4
     try clear hfz17_5
     try clear hfz17_6
     try clear hfz17_7
     try clear hfz19_0
     try clear hfz19_1
     try clear hfz19_2
     try clear hfz19_3
     try clear hfz19_4
     try clear hfz19_5
     try clear hfz19_6
     try clear hfz19_7
     try clear hfz20_0
     try clear hfz20_1
     try clear hfz20_2
     try clear hfz20_3
     try clear hfz20_4
     try clear hfz20_5
     try clear hfz20_6
     try clear hfz20_7
     try clear hfz21_0
     try clear hfz21_1
     try clear hfz21_2
     try clear hfz21_3
     try clear hfz21_4
     try clear hfz21_5
     try clear hfz21_6
     try clear hfz21_7
     try clear hfz22_0
     try clear hfz22_1
     try clear hfz22_2
     try clear hfz22_3
     try clear hfz22_4
     try clear hfz22_5
     try clear hfz22_6
     try clear hfz22_7
     try clear hfz23_0
     try clear hfz23_1
     try clear hfz23_2
     try clear hfz23_3
     try clear hfz23_4
     try clear hfz23_5
     try clear hfz23_6
     try clear hfz23_7
     try clear hfz24_0
     try clear hfz24_1
     try clear hfz24_2
     try clear hfz24_3
     try clear hfz24_4
     try clear hfz24_5
     try clear hfz24_6
     try clear hfz24_7
     try clear hfz28_0
     try clear hfz28_1
     try clear hfz28_2
     try clear hfz28_3
     try clear hfz28_4
     try clear hfz28_5
     try clear hfz28_6
     try clear hfz28_7
     try clear hfz29_0
     try clear hfz29_1
     try clear hfz29_2
     try clear hfz29_3
     try clear hfz29_4
     try clear hfz29_5
     try clear hfz29_6
     try clear hfz29_7
     try clear p2
     obtain ⟨kq,x3_25,rfl,HA,HJ25,BK290,HB⟩:=hcut
     cases kq with
     | zero=>exact absurd HA.out (by simp [impl_MsgRight.j1])
     | succ kj25 =>
      have H:=HA.out
      clear HA
      simp only [impl_MsgRight.j1] at H
      have HC30:=Aside0.mk H
      clear H
      go_upto_region 4 with (fail)
      go_cut [80] (fun v80 wc=>∃ (kq:Nat) (x80_29:Bool),v80 = .bool x80_29∧Aside0 (impl_MsgRight.j2 kq x80_29 a0_0 a0_1 a0_2 a0_3 a0_4 a0_5 l0_6 l0_7=some r)∧Aside0 (kq≤kj25)∧Aside0 (wc.heap[gb290]? = some (.cells #[.int .i64 a0_0,.int .i64 a0_1,.int .i64 a0_2,.int .i64 a0_3,.string a0_4,.int .i64 a0_5,(.slice A0_6 l0_6.length c0_6),(.slice A0_7 l0_7.length c0_7)] 42 (0,0)))∧Aside0 (Below w.heap.size w wc))
      case first =>
       have H:=HC30.out
       clear HC30
       by_cases c31:x3_25=true
       ·subst c31
        have H1:(if (l0_6.length:Int)=0 then (impl_MsgRight.j2 kj25 true a0_0 a0_1 a0_2 a0_3 a0_4 a0_5 l0_6 l0_7) else (if a0_0=1 then (impl_MsgRight.j2 kj25 (decide ((l0_6.length:Int)>0)) a0_0 a0_1 a0_2 a0_3 a0_4 a0_5 l0_6 l0_7) else (impl_MsgRight.j2 kj25 false a0_0 a0_1 a0_2 a0_3 a0_4 a0_5 l0_6 l0_7)))=some r:=by rw [if_pos rfl] at H;exact H
        clear H
        have H:=H1
        clear H1
        by_cases c32:(l0_6.length:Int)=0
        ·rw [if_pos c32] at H
         have c32b0:((l0_6.length:Int) == 0)=true:=beq_iff_eq.mpr c32
         have c32b1:((l0_6.length:Int) != 0)=false:=bne_eq_false_iff_eq.mpr c32
         clear c32
         (first | rw [c32b0] | (simp only [i64_w,i32_w];rw [c32b0]) | skip)
         have H':=Aside0.mk H
         clear H
         have ⟨hcz33_0,hcz33_1,hcz33_2,hcz33_3,hcz33_4,hcz33_5,hcz33_6,hcz33_7,hfz33_0,hfz33_1,hfz33_2,hfz33_3,hfz33_4,hfz33_5,hfz33_6,hfz33_7⟩:=cz8_ BK290.out
         go_wp2
         go_meet
         case rel=>exact ⟨_,(true),(z2_),H',⟨z31_ HJ1.out HJ25.out⟩,⟨z3_ BK290.out⟩,⟨z4_ HB.out GE290.out⟩⟩
        ·rw [if_neg c32] at H
         have c32b0:((l0_6.length:Int) == 0)=false:=beq_eq_false_iff_ne.mpr c32
         have c32b1:((l0_6.length:Int) != 0)=true:=bne_iff_ne.mpr c32
         have c32b2:¬ (l0_6=[]):=fun h_=>c32 (by rw [h_];rfl)
         (first | rw [c32b0] | (simp only [i64_w,i32_w];rw [c32b0]) | skip)
         by_cases c34:a0_0=1
         ·rw [if_pos c34] at H
          have c34b0:(a0_0 == 1)=true:=beq_iff_eq.mpr c34
          have c34b1:(a0_0 != 1)=false:=bne_eq_false_iff_eq.mpr c34
          clear c34
          have H':=Aside0.mk H
          clear H
          have ⟨hcz35_0,hcz35_1,hcz35_2,hcz35_3,hcz35_4,hcz35_5,hcz35_6,hcz35_7,hfz35_0,hfz35_1,hfz35_2,hfz35_3,hfz35_4,hfz35_5,hfz35_6,hfz35_7⟩:=cz8_ BK290.out
          go_wp2
          go_meet
          case rel=>exact ⟨_,(decide ((l0_6.length:Int)>0)),(z2_),H',⟨z31_ HJ1.out HJ25.out⟩,⟨z3_ BK290.out⟩,⟨z4_ HB.out GE290.out⟩⟩
         ·rw [if_neg c34] at H
          have c34b0:(a0_0 == 1)=false:=beq_eq_false_iff_ne.mpr c34
          have c34b1:(a0_0 != 1)=true:=bne_iff_ne.mpr c34
          have H':=Aside0.mk H
          clear H
          have ⟨hcz36_0,hcz36_1,hcz36_2,hcz36_3,hcz36_4,hcz36_5,hcz36_6,hcz36_7,hfz36_0,hfz36_1,hfz36_2,hfz36_3,hfz36_4,hfz36_5,hfz36_6,hfz36_7⟩:=cz8_ BK290.out
          go_wp2
          go_meet
          case rel=>exact ⟨_,(false),(z2_),H',⟨z31_ HJ1.out HJ25.out⟩,⟨z3_ BK290.out⟩,⟨z4_ HB.out GE290.out⟩⟩
       ·replace c31:=Bool.eq_false_iff.mpr c31
        subst c31
        have H1:(if a0_3=0 then (impl_MsgRight.j2 kj25 true a0_0 a0_1 a0_2 a0_3 a0_4 a0_5 l0_6 l0_7) else (if a0_0=1 then (impl_MsgRight.j2 kj25 (decide ((l0_6.length:Int)>0)) a0_0 a0_1 a0_2 a0_3 a0_4 a0_5 l0_6 l0_7) else (impl_MsgRight.j2 kj25 false a0_0 a0_1 a0_2 a0_3 a0_4 a0_5 l0_6 l0_7)))=some r:=by rw [if_neg (show ¬ (false=true) by decide)] at H;exact H
        clear H
        have H:=H1
        clear H1
        by_cases c37:a0_3=0
        ·rw [if_pos c37] at H
         have c37b0:(a0_3 == 0)=true:=beq_iff_eq.mpr c37
         have c37b1:(a0_3 != 0)=false:=bne_eq_false_iff_eq.mpr c37
         clear c37
         have H':=Aside0.mk H
         clear H
         have ⟨hcz38_0,hcz38_1,hcz38_2,hcz38_3,hcz38_4,hcz38_5,hcz38_6,hcz38_7,hfz38_0,hfz38_1,hfz38_2,hfz38_3,hfz38_4,hfz38_5,hfz38_6,hfz38_7⟩:=cz8_ BK290.out
         go_wp2
         go_meet
         case rel=>exact ⟨_,(true),(z2_),H',⟨z31_ HJ1.out HJ25.out⟩,⟨z3_ BK290.out⟩,⟨z4_ HB.out GE290.out⟩⟩
        ·rw [if_neg c37] at H
         have c37b0:(a0_3 == 0)=false:=beq_eq_false_iff_ne.mpr c37
         have c37b1:(a0_3 != 0)=true:=bne_iff_ne.mpr c37
         by_cases c39:a0_0=1
         ·rw [if_pos c39] at H
          have c39b0:(a0_0 == 1)=true:=beq_iff_eq.mpr c39
          have c39b1:(a0_0 != 1)=false:=bne_eq_false_iff_eq.mpr c39
          clear c39
          have H':=Aside0.mk H
          clear H
          have ⟨hcz40_0,hcz40_1,hcz40_2,hcz40_3,hcz40_4,hcz40_5,hcz40_6,hcz40_7,hfz40_0,hfz40_1,hfz40_2,hfz40_3,hfz40_4,hfz40_5,hfz40_6,hfz40_7⟩:=cz8_ BK290.out
          go_wp2
          go_meet
          case rel=>exact ⟨_,(decide ((l0_6.length:Int)>0)),(z2_),H',⟨z31_ HJ1.out HJ25.out⟩,⟨z3_ BK290.out⟩,⟨z4_ HB.out GE290.out⟩⟩
         ·rw [if_neg c39] at H
          have c39b0:(a0_0 == 1)=false:=beq_eq_false_iff_ne.mpr c39
          have c39b1:(a0_0 != 1)=true:=bne_iff_ne.mpr c39
          have H':=Aside0.mk H
          clear H
          have ⟨hcz41_0,hcz41_1,hcz41_2,hcz41_3,hcz41_4,hcz41_5,hcz41_6,hcz41_7,hfz41_0,hfz41_1,hfz41_2,hfz41_3,hfz41_4,hfz41_5,hfz41_6,hfz41_7⟩:=cz8_ BK290.out
          go_wp2
          go_meet
          case rel=>exact ⟨_,(false),(z2_),H',⟨z31_ HJ1.out HJ25.out⟩,⟨z3_ BK290.out⟩,⟨z4_ HB.out GE290.out⟩⟩
      case rest =>
       clear HC30
       try clear c1
       try clear c2
       try clear p2
       try clear c3
       try clear c4
       try clear c5
       try clear c7
       try clear c9
       try clear c11
       try clear c13
       try clear c15
       try clear c25
       try clear c27
       try clear c27b0
       try clear c27b1
       try clear c31
       try clear c32
       try clear c32b0
       try clear c32b1
       try clear c32b2
       try clear c34
       try clear c34b0
       try clear c34b1
       try clear c37
       try clear c37b0
       try clear c37b1
       try clear c39
       try clear c39b0
       try clear c39b1
       try clear c41
       try clear hcz17_0
       try clear hcz17_1
       try clear hcz17_2
       try clear hcz17_3
       try clear hcz17_4
       try clear hcz17_5
       try clear hcz17_6
       try clear hcz17_7
       try clear hcz19_0
       try clear hcz19_1
       try clear hcz19_2
       try clear hcz19_3
       try clear hcz19_4
       try clear hcz19_5
       try clear hcz19_6
       try clear hcz19_7
       try clear hcz20_0
       try clear hcz20_1
       try clear hcz20_2
       try clear hcz20_3
       try clear hcz20_4
       try clear hcz20_5
       try clear hcz20_6
       try clear hcz20_7
       try clear hcz21_0
       try clear hcz21_1
       try clear hcz21_2
       try clear hcz21_3
       try clear hcz21_4
       try clear hcz21_5
       try clear hcz21_6
       try clear hcz21_7
       try clear hcz22_0
       try clear hcz22_1
       try clear hcz22_2
       try clear hcz22_3
       try clear hcz22_4
       try clear hcz22_5
       try clear hcz22_6
       try clear hcz22_7
       try clear hcz23_0
       try clear hcz23_1
       try clear hcz23_2
       try clear hcz23_3
       try clear hcz23_4
       try clear hcz23_5
       try clear hcz23_6
       try clear hcz23_7
       try clear hcz24_0
       try clear hcz24_1
       try clear hcz24_2
       try clear hcz24_3
       try clear hcz24_4
       try clear hcz24_5
       try clear hcz24_6
       try clear hcz24_7
       try clear hcz28_0
       try clear hcz28_1
       try clear hcz28_2
       try clear hcz28_3
       try clear hcz28_4
       try clear hcz28_5
       try clear hcz28_6
       try clear hcz28_7
       try clear hcz29_0
       try clear hcz29_1
       try clear hcz29_2
       try clear hcz29_3
       try clear hcz29_4
       try clear hcz29_5
       try clear hcz29_6
       try clear hcz29_7
       try clear hcz33_0
       try clear hcz33_1
       try clear hcz33_2
       try clear hcz33_3
       try clear hcz33_4
       try clear hcz33_5
       try clear hcz33_6
       try clear hcz33_7
       try clear hcz35_0
       try clear hcz35_1
       try clear hcz35_2
       try clear hcz35_3
       try clear hcz35_4
       try clear hcz35_5
       try clear hcz35_6
       try clear hcz35_7
       try clear hcz36_0
       try clear hcz36_1
       try clear hcz36_2
       try clear hcz36_3
       try clear hcz36_4
       try clear hcz36_5
       try clear hcz36_6
       try clear hcz36_7
       try clear hcz38_0
       try clear hcz38_1
       try clear hcz38_2
       try clear hcz38_3
       try clear hcz38_4
       try clear hcz38_5
       try clear hcz38_6
       try clear hcz38_7
       try clear hcz40_0
       try clear hcz40_1
       try clear hcz40_2
       try clear hcz40_3
       try clear hcz40_4
       try clear hcz40_5
       try clear hcz40_6
       try clear hcz40_7
       try clear hcz41_0
       try clear hcz41_1
       try clear hcz41_2
       try clear hcz41_3
       try clear hcz41_4
       try clear hcz41_5
       try clear hcz41_6
       try clear hcz41_7
       try clear hfz17_0
       try clear hfz17_1
       try clear hfz17_2
       try clear hfz17_3
       try clear hfz17_4
       try clear hfz17_5
       try clear hfz17_6
       try clear hfz17_7
       try clear hfz19_0
       try clear hfz19_1
       try clear hfz19_2
       try clear hfz19_3
       try clear hfz19_4
       try clear hfz19_5
       try clear hfz19_6
       try clear hfz19_7
       try clear hfz20_0
       try clear hfz20_1
       try clear hfz20_2
       try clear hfz20_3
       try clear hfz20_4
       try clear hfz20_5
       try clear hfz20_6
       try clear hfz20_7
       try clear hfz21_0
       try clear hfz21_1
       try clear hfz21_2
       try clear hfz21_3
       try clear hfz21_4
       try clear hfz21_5
       try clear hfz21_6
       try clear hfz21_7
       try clear hfz22_0
       try clear hfz22_1
       try clear hfz22_2
       try clear hfz22_3
       try clear hfz22_4
       try clear hfz22_5
       try clear hfz22_6
       try clear hfz22_7
       try clear hfz23_0
       try clear hfz23_1
       try clear hfz23_2
       try clear hfz23_3
       try clear hfz23_4
       try clear hfz23_5
       try clear hfz23_6
       try clear hfz23_7
       try clear hfz24_0
       try clear hfz24_1
       try clear hfz24_2
       try clear hfz24_3
       try clear hfz24_4
       try clear hfz24_5
       try clear hfz24_6
       try clear hfz24_7
       try clear hfz28_0
       try clear hfz28_1
       try clear hfz28_2
       try clear hfz28_3
       try clear hfz28_4
       try clear hfz28_5
       try clear hfz28_6
       try clear hfz28_7
       try clear hfz29_0
       try clear hfz29_1
       try clear hfz29_2
       try clear hfz29_3
       try clear hfz29_4
       try clear hfz29_5
       try clear hfz29_6
       try clear hfz29_7
       try clear hfz33_0
       try clear hfz33_1
       try clear hfz33_2
       try clear hfz33_3
       try clear hfz33_4
       try clear hfz33_5
       try clear hfz33_6
       try clear hfz33_7
       try clear hfz35_0
       try clear hfz35_1
       try clear hfz35_2
       try clear hfz35_3
       try clear hfz35_4
       try clear hfz35_5
       try clear hfz35_6
       try clear hfz35_7
       try clear hfz36_0
       try clear hfz36_1
       try clear hfz36_2
       try clear hfz36_3
       try clear hfz36_4
       try clear hfz36_5
       try clear hfz36_6
       try clear hfz36_7
       try clear hfz38_0
       try clear hfz38_1
       try clear hfz38_2
       try clear hfz38_3
       try clear hfz38_4
       try clear hfz38_5
       try clear hfz38_6
       try clear hfz38_7
       try clear hfz40_0
       try clear hfz40_1
       try clear hfz40_2
       try clear hfz40_3
       try clear hfz40_4
       try clear hfz40_5
       try clear hfz40_6
       try clear hfz40_7
       try clear hfz41_0
       try clear hfz41_1
       try clear hfz41_2
       try clear hfz41_3
       try clear hfz41_4
       try clear hfz41_5
       try clear hfz41_6
       try clear hfz41_7
       try clear p2
       obtain ⟨kq,x80_29,rfl,HA,HJ29,BK290,HB⟩:=hcut
       cases kq with
       | zero=>exact absurd HA.out (by simp [impl_MsgRight.j2])
       | succ kj29 =>
        have H:=HA.out
        clear HA
        simp only [impl_MsgRight.j2] at H
        by_cases c42:x80_29=true
        ·subst c42
         have H1:(some false)=some r:=by rw [if_pos rfl] at H;exact H
         clear H
         have H:=H1
         clear H1
         obtain rfl:=Option.some.inj H
         go_wp2
         go_ret
         exact ⟨z8_,z4_ HB.out GE290.out⟩
        ·replace c42:=Bool.eq_false_iff.mpr c42
         subst c42
         have H1:(if a0_0=1 then (some ((l0_7.length:Int) == 0)) else (if a0_0=4 then (some ((l0_7.length:Int) == 0)) else (some true)))=some r:=by rw [if_neg (show ¬ (false=true) by decide)] at H;exact H
         clear H
         have H:=H1
         clear H1
         by_cases c43:a0_0=1
         ·rw [if_pos c43] at H
          have c43b0:(a0_0 == 1)=true:=beq_iff_eq.mpr c43
          have c43b1:(a0_0 != 1)=false:=bne_eq_false_iff_eq.mpr c43
          clear c43
          obtain rfl:=Option.some.inj H
          have ⟨hcz44_0,hcz44_1,hcz44_2,hcz44_3,hcz44_4,hcz44_5,hcz44_6,hcz44_7,hfz44_0,hfz44_1,hfz44_2,hfz44_3,hfz44_4,hfz44_5,hfz44_6,hfz44_7⟩:=cz8_ BK290.out
          go_wp2
          go_ret
          exact ⟨z8_,z4_ HB.out GE290.out⟩
         ·rw [if_neg c43] at H
          have c43b0:(a0_0 == 1)=false:=beq_eq_false_iff_ne.mpr c43
          have c43b1:(a0_0 != 1)=true:=bne_iff_ne.mpr c43
          by_cases c45:a0_0=4
          ·rw [if_pos c45] at H
           have c45b0:(a0_0 == 4)=true:=beq_iff_eq.mpr c45
           have c45b1:(a0_0 != 4)=false:=bne_eq_false_iff_eq.mpr c45
           clear c45
           obtain rfl:=Option.some.inj H
           have ⟨hcz46_0,hcz46_1,hcz46_2,hcz46_3,hcz46_4,hcz46_5,hcz46_6,hcz46_7,hfz46_0,hfz46_1,hfz46_2,hfz46_3,hfz46_4,hfz46_5,hfz46_6,hfz46_7⟩:=cz8_ BK290.out
           go_wp2
           go_ret
           exact ⟨z8_,z4_ HB.out GE290.out⟩
          ·rw [if_neg c45] at H
           have c45b0:(a0_0 == 4)=false:=beq_eq_false_iff_ne.mpr c45
           have c45b1:(a0_0 != 4)=true:=bne_iff_ne.mpr c45
           obtain rfl:=Option.some.inj H
           have ⟨hcz47_0,hcz47_1,hcz47_2,hcz47_3,hcz47_4,hcz47_5,hcz47_6,hcz47_7,hfz47_0,hfz47_1,hfz47_2,hfz47_3,hfz47_4,hfz47_5,hfz47_6,hfz47_7⟩:=cz8_ BK290.out
           go_wp2
           go_ret
           exact ⟨z8_,z4_ HB.out GE290.out⟩


/-! ### impl_MsgTurn: function 16 -/
def impl_MsgTurn.j0:Nat→Bool→Int→Int→Int→Int→ByteArray→Int→List (S56)→List (S91)→Option (Int × Int × Int × Int × ByteArray × Int × (List (S56)) × (List (S91)) × Int)
 | 0,_,_,_,_,_,_,_,_,_=>none
 | k+1,x24,x314000,x314001,x314002,x314003,x314004,x314005,x314006,x314007=>if x24=true then (some (0,0,0,0,(⟨#[]⟩:ByteArray),0,([]:List (S56)),([]:List (S91)),1)) else (some (x314000,x314001,x314002,x314003,x314004,x314005,x314006,x314007,0))
def impl_MsgTurn.f (k:Nat) (a0_0:Int) (a0_1:Int) (a0_2:Int) (a0_3:Int) (a0_4:ByteArray) (a0_5:Int) (l0_6:List (S56)) (l0_7:List (S91)) (a1:Int) (l2_0:List (S56)) (l2_1:List (S91)):Option (Int × Int × Int × Int × ByteArray × Int × (List (S56)) × (List (S91)) × Int):=(impl_turned.f a0_0 a0_1 a0_2 a0_3 a0_4 a0_5 l0_6 l0_7 a1 l2_0 l2_1).bind fun bt301=>((impl_MsgRight.f k a0_0 a0_1 a0_2 a0_3 a0_4 a0_5 l0_6 l0_7).bind fun t314=>(if t314=true then ((impl_SetRight.f k l2_0 l2_1).bind fun t315=>(if t315=true then ((impl_MsgRight.f k bt301.1 bt301.2.1 bt301.2.2.1 bt301.2.2.2.1 bt301.2.2.2.2.1 bt301.2.2.2.2.2.1 bt301.2.2.2.2.2.2.1 bt301.2.2.2.2.2.2.2).bind fun t316=>(impl_MsgTurn.j0 k (!t316) bt301.1 bt301.2.1 bt301.2.2.1 bt301.2.2.2.1 bt301.2.2.2.2.1 bt301.2.2.2.2.2.1 bt301.2.2.2.2.2.2.1 bt301.2.2.2.2.2.2.2)) else (impl_MsgTurn.j0 k true bt301.1 bt301.2.1 bt301.2.2.1 bt301.2.2.2.1 bt301.2.2.2.2.1 bt301.2.2.2.2.2.1 bt301.2.2.2.2.2.2.1 bt301.2.2.2.2.2.2.2))) else (impl_MsgTurn.j0 k true bt301.1 bt301.2.1 bt301.2.2.1 bt301.2.2.2.1 bt301.2.2.2.2.1 bt301.2.2.2.2.2.1 bt301.2.2.2.2.2.2.1 bt301.2.2.2.2.2.2.2)))
theorem impl_MsgTurn.mono_l:∀ k,(∀ y0 y1 y2 y3 y4 y5 y6 y7 y8,LeO (impl_MsgTurn.j0 k y0 y1 y2 y3 y4 y5 y6 y7 y8) (impl_MsgTurn.j0 (k+1) y0 y1 y2 y3 y4 y5 y6 y7 y8))
 | 0=>fun _ _ _ _ _ _ _ _ _ r h=>by simp [impl_MsgTurn.j0] at h
 | k+1=>by
  have ih0:=impl_MsgTurn.mono_l k
  ·intro y0 y1 y2 y3 y4 y5 y6 y7 y8
   unfold impl_MsgTurn.j0
   repeat' first
   | (with_reducible exact ih0 _ _ _ _ _ _ _ _ _)
   | (with_reducible exact impl_MsgRight.mono _ _ _ _ _ _ _ _ _)
   | (with_reducible exact impl_SetRight.mono _ _ _)
   | (with_reducible exact LeO.refl _)
   | (with_reducible exact LeO.none _)
   | (with_reducible refine LeO.ite ?_ ?_)
   | (with_reducible refine LeO.bind ?_ (fun _=>?_))
   | exact ih0 _ _ _ _ _ _ _ _ _
   | exact impl_MsgRight.mono _ _ _ _ _ _ _ _ _
   | exact impl_SetRight.mono _ _ _
   | exact LeO.none _
   | refine LeO.ite ?_ ?_
   | refine LeO.bind ?_ (fun _=>?_)
theorem impl_MsgTurn.mono:∀ a0 a1 a2 a3 a4 a5 a6 a7 a8 a9 a10 k,LeO (impl_MsgTurn.f k a0 a1 a2 a3 a4 a5 a6 a7 a8 a9 a10) (impl_MsgTurn.f (k+1) a0 a1 a2 a3 a4 a5 a6 a7 a8 a9 a10):=by
 intro a0 a1 a2 a3 a4 a5 a6 a7 a8 a9 a10 k
 have ih0:=impl_MsgTurn.mono_l k
 unfold impl_MsgTurn.f
 repeat' first
   | (with_reducible exact ih0 _ _ _ _ _ _ _ _ _)
   | (with_reducible exact impl_MsgRight.mono _ _ _ _ _ _ _ _ _)
   | (with_reducible exact impl_SetRight.mono _ _ _)
   | (with_reducible exact LeO.refl _)
   | (with_reducible exact LeO.none _)
   | (with_reducible refine LeO.ite ?_ ?_)
   | (with_reducible refine LeO.bind ?_ (fun _=>?_))
   | exact ih0 _ _ _ _ _ _ _ _ _
   | exact impl_MsgRight.mono _ _ _ _ _ _ _ _ _
   | exact impl_SetRight.mono _ _ _
   | exact LeO.none _
   | refine LeO.ite ?_ ?_
   | refine LeO.bind ?_ (fun _=>?_)
set_option maxHeartbeats 8000000 in
set_option maxRecDepth 100000 in
theorem impl_MsgTurn.calls (k:Nat) (a0_0:Int) (a0_1:Int) (a0_2:Int) (a0_3:Int) (a0_4:ByteArray) (a0_5:Int) (A0_6:Option Addr) (c0_6:Nat) (l0_6:List (S56)) (A0_7:Option Addr) (c0_7:Nat) (l0_7:List (S91)) (a1:Int) (A2_0:Option Addr) (c2_0:Nat) (l2_0:List (S56)) (A2_1:Option Addr) (c2_1:Nat) (l2_1:List (S91)) (r1:Int) (r2:Int) (r3:Int) (r4:Int) (r5:ByteArray) (r6:Int) (r7:List (S56)) (r8:List (S91)) (r9:Int) (w:World) (hr0_6:Kd.C k56 w A0_6 l0_6.length l0_6) (hc0_6:l0_6.length≤c0_6) (hr0_7:Kd.C k91 w A0_7 l0_7.length l0_7) (hc0_7:l0_7.length≤c0_7) (hr2_0:Kd.C k56 w A2_0 l2_0.length l2_0) (hc2_0:l2_0.length≤c2_0) (hr2_1:Kd.C k91 w A2_1 l2_1.length l2_1) (hc2_1:l2_1.length≤c2_1) (h:impl_MsgTurn.f k a0_0 a0_1 a0_2 a0_3 a0_4 a0_5 l0_6 l0_7 a1 l2_0 l2_1=some (r1,r2,r3,r4,r5,r6,r7,r8,r9)) :
  Calls Try.prog 16 #[.agg #[.int .i64 a0_0,.int .i64 a0_1,.int .i64 a0_2,.int .i64 a0_3,.string a0_4,.int .i64 a0_5,.slice A0_6 l0_6.length c0_6,.slice A0_7 l0_7.length c0_7],.int .i64 a1,.agg #[.slice A2_0 l2_0.length c2_0,.slice A2_1 l2_1.length c2_1]] w fun e w'=>∃ v6_ v7_:Value,e = .returned (.agg #[.int .i64 r1,.int .i64 r2,.int .i64 r3,.int .i64 r4,.string r5,.int .i64 r6,v6_,v7_,.int .i64 r9])∧Kd.R k56 56 w' w.heap.size (fun _=>True) v6_ r7∧Kd.R k91 91 w' w.heap.size (fun _=>True) v7_ r8∧Below w.heap.size w w':=by
 have hu42:=Try.underlying42
 have hu40:=Try.underlying40
 have hu44:=Try.underlying44
 have HR0_6:=Aside0.mk hr0_6
 have HC0_6:=Aside0.mk hc0_6
 clear hr0_6 hc0_6
 have HR0_7:=Aside0.mk hr0_7
 have HC0_7:=Aside0.mk hc0_7
 clear hr0_7 hc0_7
 have HR2_0:=Aside0.mk hr2_0
 have HC2_0:=Aside0.mk hc2_0
 clear hr2_0 hc2_0
 have HR2_1:=Aside0.mk hr2_1
 have HC2_1:=Aside0.mk hc2_1
 clear hr2_1 hc2_1
 have HB:=Aside0.mk (Below.refl w.heap.size w)
 have H:((impl_turned.f a0_0 a0_1 a0_2 a0_3 a0_4 a0_5 l0_6 l0_7 a1 l2_0 l2_1).bind fun bt301=>((impl_MsgRight.f k a0_0 a0_1 a0_2 a0_3 a0_4 a0_5 l0_6 l0_7).bind fun t314=>(if t314=true then ((impl_SetRight.f k l2_0 l2_1).bind fun t315=>(if t315=true then ((impl_MsgRight.f k bt301.1 bt301.2.1 bt301.2.2.1 bt301.2.2.2.1 bt301.2.2.2.2.1 bt301.2.2.2.2.2.1 bt301.2.2.2.2.2.2.1 bt301.2.2.2.2.2.2.2).bind fun t316=>(impl_MsgTurn.j0 k (!t316) bt301.1 bt301.2.1 bt301.2.2.1 bt301.2.2.2.1 bt301.2.2.2.2.1 bt301.2.2.2.2.2.1 bt301.2.2.2.2.2.2.1 bt301.2.2.2.2.2.2.2)) else (impl_MsgTurn.j0 k true bt301.1 bt301.2.1 bt301.2.2.1 bt301.2.2.2.1 bt301.2.2.2.2.1 bt301.2.2.2.2.2.1 bt301.2.2.2.2.2.2.1 bt301.2.2.2.2.2.2.2))) else (impl_MsgTurn.j0 k true bt301.1 bt301.2.1 bt301.2.2.1 bt301.2.2.2.1 bt301.2.2.2.2.1 bt301.2.2.2.2.2.1 bt301.2.2.2.2.2.2.1 bt301.2.2.2.2.2.2.2))))=some (r1,r2,r3,r4,r5,r6,r7,r8,r9):=h
 clear h
 replace H:=Option.bind_eq_some_iff.mp H
 obtain ⟨⟨t301,t302,t303,t304,t305,t306,t307,t310⟩,A40,H⟩:=H
 replace H:((impl_MsgRight.f k a0_0 a0_1 a0_2 a0_3 a0_4 a0_5 l0_6 l0_7).bind fun t314=>(if t314=true then ((impl_SetRight.f k l2_0 l2_1).bind fun t315=>(if t315=true then ((impl_MsgRight.f k t301 t302 t303 t304 t305 t306 t307 t310).bind fun t316=>(impl_MsgTurn.j0 k (!t316) t301 t302 t303 t304 t305 t306 t307 t310)) else (impl_MsgTurn.j0 k true t301 t302 t303 t304 t305 t306 t307 t310))) else (impl_MsgTurn.j0 k true t301 t302 t303 t304 t305 t306 t307 t310)))=some (r1,r2,r3,r4,r5,r6,r7,r8,r9):=H
 have A4:=Aside0.mk A40
 clear A40
 have HC5:=Aside0.mk H
 clear H
 go_enter Try.func16,Try.ntmps16
 go_upto_region 2 with (first | ((with_reducible refine gd_ 3 ?_);refine be_ 3 #[.int .i64 a0_0,.int .i64 a0_1,.int .i64 a0_2,.int .i64 a0_3,.string a0_4,.int .i64 a0_5,.slice A0_6 l0_6.length c0_6,.slice A0_7 l0_7.length c0_7] 42 ?_;intro gb298 hg w6 hbox hb;refine as4_ (below_step (z5_ HB.out) hb) (hbox) ((z7_ HB.out:w.heap.size≤gb298)) ((z7_ HB.out:w.heap.size≤gb298)) ?_;clear HB;intro HB BK298 GW298 GE298;clear hb hbox hg) | ((with_reducible refine gd_ 5 ?_);refine be_ 5 #[.slice A2_0 l2_0.length c2_0,.slice A2_1 l2_1.length c2_1] 40 ?_;intro gb299 hg w7 hbox hb;refine as7_ (blkB_ BK298.out hb) (below_step (z4_ HB.out GE298.out) hb) (hbox) ((z11_ HB.out GE298.out:w.heap.size≤gb299)) ((z11_ HB.out GE298.out:w.heap.size≤gb299)) (neL_ BK298.out hg) (neG_ BK298.out hg) ?_;clear BK298 HB;intro BK298 HB BK299 GW299 GE299 NB298_299 NB299_298;clear hb hbox hg) | ((with_reducible refine gd_ 6 ?_);refine be_ 6 #[.int .i64 0,.int .i64 0,.int .i64 0,.int .i64 0,.string (⟨#[]⟩:ByteArray),.int .i64 0,.slice none 0 0,.slice none 0 0,.int .i64 0] 44 ?_;intro gb300 hg w8 hbox hb;refine as10_ (blkB_ BK298.out hb) (blkB_ BK299.out hb) (below_step (z6_ HB.out GE298.out GE299.out) hb) (hbox) ((z18_ HB.out GE298.out GE299.out:w.heap.size≤gb300)) ((z18_ HB.out GE298.out GE299.out:w.heap.size≤gb300)) (neL_ BK298.out hg) (neG_ BK298.out hg) (neL_ BK299.out hg) (neG_ BK299.out hg) ?_;clear BK298 BK299 HB;intro BK298 BK299 HB BK300 GW300 GE300 NB298_300 NB300_298 NB299_300 NB300_299;clear hb hbox hg;have hnb9:=NB298_299.out;have hnc9:=NB299_298.out;have hnb10:=NB298_300.out;have hnc10:=NB300_298.out;have ⟨hcz11_0,hcz11_1,hcz11_2,hcz11_3,hcz11_4,hcz11_5,hcz11_6,hcz11_7,hfz11_0,hfz11_1,hfz11_2,hfz11_3,hfz11_4,hfz11_5,hfz11_6,hfz11_7⟩:=cz8_ BK298.out;have hnb12:=NB299_300.out;have hnc12:=NB300_299.out;have ⟨hcz13_0,hcz13_1,hfz13_0,hfz13_1⟩:=cz2_ BK299.out) | ((with_reducible refine gc_ 54 ?_);refine gl_ (some 11) Try.func54 #[.agg #[.int .i64 a0_0,.int .i64 a0_1,.int .i64 a0_2,.int .i64 a0_3,.string a0_4,.int .i64 a0_5,.slice A0_6 l0_6.length c0_6,.slice A0_7 l0_7.length c0_7],.int .i64 a1,.agg #[.slice A2_0 l2_0.length c2_0,.slice A2_1 l2_1.length c2_1]] ?_;(with_reducible refine (impl_turned.calls a0_0 a0_1 a0_2 a0_3 a0_4 a0_5 _ _ l0_6 _ _ l0_7 a1 _ _ l2_0 _ _ l2_1 t301 t302 t303 t304 t305 t306 t307 t310 _ ?s1 ?s2 ?s3 ?s4 ?s5 ?s6 ?s7 ?s8 A4.out).mono ?_);(case s1=>repeat (first | exact (Kd.C_below HR0_6.out HB.out) | (with_reducible refine Kd.C_alloc ?_ _) | (with_reducible refine Kd.C_drewN ?_ _) | (with_reducible refine Kd.C_drew ?_)));(case s2=>exact HC0_6.out);(case s3=>repeat (first | exact (Kd.C_below HR0_7.out HB.out) | (with_reducible refine Kd.C_alloc ?_ _) | (with_reducible refine Kd.C_drewN ?_ _) | (with_reducible refine Kd.C_drew ?_)));(case s4=>exact HC0_7.out);(case s5=>repeat (first | exact (Kd.C_below HR2_0.out HB.out) | (with_reducible refine Kd.C_alloc ?_ _) | (with_reducible refine Kd.C_drewN ?_ _) | (with_reducible refine Kd.C_drew ?_)));(case s6=>exact HC2_0.out);(case s7=>repeat (first | exact (Kd.C_below HR2_1.out HB.out) | (with_reducible refine Kd.C_alloc ?_ _) | (with_reducible refine Kd.C_drewN ?_ _) | (with_reducible refine Kd.C_drew ?_)));(case s8=>exact HC2_1.out);rintro e w14 ⟨v308,v311,rfl,ho0,ho1,hb⟩;refine ⟨_,rfl,?_⟩;refine as6_ (Kd.R_lower ho0 (below_size (z9_ HB.out GE298.out GE299.out GE300.out))) (Kd.R_lower ho1 (below_size (z9_ HB.out GE298.out GE299.out GE300.out))) (blkB_ BK298.out hb) (blkB_ BK299.out hb) (blkB_ BK300.out hb) (below_step (z9_ HB.out GE298.out GE299.out GE300.out) hb) ?_;clear BK298 BK299 BK300 HB;intro HO309 HO312 BK298 BK299 BK300 HB;(try clear hb);(try clear ho0);(try clear ho1)) | ((with_reducible refine gd_ 7 ?_);refine be_ 7 #[.int .i64 0,.int .i64 0,.int .i64 0,.int .i64 0,.string (⟨#[]⟩:ByteArray),.int .i64 0,.slice none 0 0,.slice none 0 0] 42 ?_;intro gb313 hg w15 hbox hb;refine as15_ (Kd.R_below (z0_ HO309.out) hb) (Kd.R_below (z0_ HO312.out) hb) (blkB_ BK298.out hb) (blkB_ BK299.out hb) (blkB_ BK300.out hb) (below_step (z9_ HB.out GE298.out GE299.out GE300.out) hb) (hbox) ((z33_ HB.out GE298.out GE299.out GE300.out:w.heap.size≤gb313)) ((z33_ HB.out GE298.out GE299.out GE300.out:w.heap.size≤gb313)) (neL_ BK298.out hg) (neG_ BK298.out hg) (neL_ BK299.out hg) (neG_ BK299.out hg) (neL_ BK300.out hg) (neG_ BK300.out hg) ?_;clear HO309 HO312 BK298 BK299 BK300 HB;intro HO309 HO312 BK298 BK299 BK300 HB BK313 GW313 GE313 NB298_313 NB313_298 NB299_313 NB313_299 NB300_313 NB313_300;clear hb hbox hg;have hnb16:=NB313_298.out;have hnc16:=NB298_313.out;have hnb17:=NB313_299.out;have hnc17:=NB299_313.out;have hnb18:=NB313_300.out;have hnc18:=NB300_313.out;have ⟨hcz19_0,hcz19_1,hcz19_2,hcz19_3,hcz19_4,hcz19_5,hcz19_6,hcz19_7,hfz19_0,hfz19_1,hfz19_2,hfz19_3,hfz19_4,hfz19_5,hfz19_6,hfz19_7⟩:=cz8_ BK313.out;obtain ⟨Ao20,co20,eo20⟩:=Kd.R_slice HO309.out;subst eo20;obtain ⟨Ao21,co21,eo21⟩:=Kd.R_slice HO312.out;subst eo21))
 (try simp only [Act.put,sa_,s0_,ss_])
 go_cut [24] (fun v24 wc=>∃ (kq:Nat) (x24_4:Bool),v24 = .bool x24_4∧Aside0 (impl_MsgTurn.j0 kq x24_4 t301 t302 t303 t304 t305 t306 t307 t310=some (r1,r2,r3,r4,r5,r6,r7,r8,r9))∧Aside0 (kq≤k)∧Aside0 (Kd.R k56 56 wc w.heap.size (fun _=>True) (.slice Ao20 t307.length co20) t307)∧Aside0 (Kd.R k91 91 wc w.heap.size (fun _=>True) (.slice Ao21 t310.length co21) t310)∧Aside0 (wc.heap[gb298]? = some (.cells #[.int .i64 a0_0,.int .i64 a0_1,.int .i64 a0_2,.int .i64 a0_3,.string a0_4,.int .i64 a0_5,(.slice A0_6 l0_6.length c0_6),(.slice A0_7 l0_7.length c0_7)] 42 (0,0)))∧Aside0 (wc.heap[gb299]? = some (.cells #[(.slice A2_0 l2_0.length c2_0),(.slice A2_1 l2_1.length c2_1)] 40 (0,0)))∧Aside0 (wc.heap[gb300]? = some (.cells #[.int .i64 0,.int .i64 0,.int .i64 0,.int .i64 0,.string (⟨#[]⟩:ByteArray),.int .i64 0,(.slice none 0 0),(.slice none 0 0),.int .i64 0] 44 (0,0)))∧Aside0 (wc.heap[gb313]? = some (.cells #[.int .i64 t301,.int .i64 t302,.int .i64 t303,.int .i64 t304,.string t305,.int .i64 t306,(.slice Ao20 t307.length co20),(.slice Ao21 t310.length co21)] 42 (0,0)))∧Aside0 (Below w.heap.size w wc))
 case first =>
  have H:=HC5.out
  clear HC5
  replace H:=Option.bind_eq_some_iff.mp H
  obtain ⟨t314,A220,H⟩:=H
  replace H:(if t314=true then ((impl_SetRight.f k l2_0 l2_1).bind fun t315=>(if t315=true then ((impl_MsgRight.f k t301 t302 t303 t304 t305 t306 t307 t310).bind fun t316=>(impl_MsgTurn.j0 k (!t316) t301 t302 t303 t304 t305 t306 t307 t310)) else (impl_MsgTurn.j0 k true t301 t302 t303 t304 t305 t306 t307 t310))) else (impl_MsgTurn.j0 k true t301 t302 t303 t304 t305 t306 t307 t310))=some (r1,r2,r3,r4,r5,r6,r7,r8,r9):=H
  have A22:=Aside0.mk A220
  clear A220
  by_cases c23:t314=true
  ·subst c23
   have H1:((impl_SetRight.f k l2_0 l2_1).bind fun t315=>(if t315=true then ((impl_MsgRight.f k t301 t302 t303 t304 t305 t306 t307 t310).bind fun t316=>(impl_MsgTurn.j0 k (!t316) t301 t302 t303 t304 t305 t306 t307 t310)) else (impl_MsgTurn.j0 k true t301 t302 t303 t304 t305 t306 t307 t310)))=some (r1,r2,r3,r4,r5,r6,r7,r8,r9):=by rw [if_pos rfl] at H;exact H
   clear H
   have H:=H1
   clear H1
   replace H:=Option.bind_eq_some_iff.mp H
   obtain ⟨t315,A240,H⟩:=H
   replace H:(if t315=true then ((impl_MsgRight.f k t301 t302 t303 t304 t305 t306 t307 t310).bind fun t316=>(impl_MsgTurn.j0 k (!t316) t301 t302 t303 t304 t305 t306 t307 t310)) else (impl_MsgTurn.j0 k true t301 t302 t303 t304 t305 t306 t307 t310))=some (r1,r2,r3,r4,r5,r6,r7,r8,r9):=H
   have A24:=Aside0.mk A240
   clear A240
   by_cases c25:t315=true
   ·subst c25
    have H1:((impl_MsgRight.f k t301 t302 t303 t304 t305 t306 t307 t310).bind fun t316=>(impl_MsgTurn.j0 k (!t316) t301 t302 t303 t304 t305 t306 t307 t310))=some (r1,r2,r3,r4,r5,r6,r7,r8,r9):=by rw [if_pos rfl] at H;exact H
    clear H
    have H:=H1
    clear H1
    replace H:=Option.bind_eq_some_iff.mp H
    obtain ⟨t316,A260,H⟩:=H
    replace H:(impl_MsgTurn.j0 k (!t316) t301 t302 t303 t304 t305 t306 t307 t310)=some (r1,r2,r3,r4,r5,r6,r7,r8,r9):=H
    have A26:=Aside0.mk A260
    clear A260
    have H':=Aside0.mk H
    clear H
    have hnb27:=NB298_299.out
    have hnc27:=NB299_298.out
    have hnb28:=NB298_300.out
    have hnc28:=NB300_298.out
    have hnb29:=NB298_313.out
    have hnc29:=NB313_298.out
    have ⟨hcz30_0,hcz30_1,hcz30_2,hcz30_3,hcz30_4,hcz30_5,hcz30_6,hcz30_7,hfz30_0,hfz30_1,hfz30_2,hfz30_3,hfz30_4,hfz30_5,hfz30_6,hfz30_7⟩:=cz8_ BK298.out
    go_wp2_with (first | ((with_reducible refine gc_ 55 ?_);refine gl_ (some 13) Try.func55 #[.agg #[.int .i64 a0_0,.int .i64 a0_1,.int .i64 a0_2,.int .i64 a0_3,.string a0_4,.int .i64 a0_5,.slice A0_6 l0_6.length c0_6,.slice A0_7 l0_7.length c0_7]] ?_;(with_reducible refine (impl_MsgRight.calls k a0_0 a0_1 a0_2 a0_3 a0_4 a0_5 _ _ l0_6 _ _ l0_7 true _ ?s1 ?s2 ?s3 ?s4 A22.out).mono ?_);(case s1=>exact Kd.C_below HR0_6.out (z15_ HB.out GE298.out GE299.out GE300.out GE313.out));(case s2=>exact HC0_6.out);(case s3=>exact Kd.C_below HR0_7.out (z15_ HB.out GE298.out GE299.out GE300.out GE313.out));(case s4=>exact HC0_7.out);rintro e w31 ⟨rfl,hb⟩;refine ⟨_,rfl,?_⟩;refine as7_ (Kd.R_below (z14_ HO309.out BK313.out) hb) (Kd.R_below (z14_ HO312.out BK313.out) hb) (blk_below (g:=gb298) (o:=.cells #[.int .i64 a0_0,.int .i64 a0_1,.int .i64 a0_2,.int .i64 a0_3,.string a0_4,.int .i64 a0_5,.slice A0_6 l0_6.length c0_6,.slice A0_7 l0_7.length c0_7] 42 (0,0)) (z23_ NB298_313.out BK298.out) hb) (blk_below (g:=gb299) (o:=.cells #[.slice A2_0 l2_0.length c2_0,.slice A2_1 l2_1.length c2_1] 40 (0,0)) (z23_ NB299_313.out BK299.out) hb) (blk_below (g:=gb300) (o:=.cells #[.int .i64 0,.int .i64 0,.int .i64 0,.int .i64 0,.string (⟨#[]⟩:ByteArray),.int .i64 0,.slice none 0 0,.slice none 0 0,.int .i64 0] 44 (0,0)) (z23_ NB300_313.out BK300.out) hb) (blk_below (g:=gb313) (o:=.cells #[.int .i64 t301,.int .i64 t302,.int .i64 t303,.int .i64 t304,.string t305,.int .i64 t306,.slice Ao20 t307.length co20,.slice Ao21 t310.length co21] 42 (0,0)) (z36_ BK313.out) hb) (below_step (z15_ HB.out GE298.out GE299.out GE300.out GE313.out) hb) ?_;clear HO309 HO312 BK298 BK299 BK300 BK313 HB;intro HO309 HO312 BK298 BK299 BK300 BK313 HB;(try clear hb);(try clear hb2);(try clear hk);(try clear hi);have hnb32:=NB299_300.out;have hnc32:=NB300_299.out;have hnb33:=NB299_313.out;have hnc33:=NB313_299.out;have ⟨hcz34_0,hcz34_1,hfz34_0,hfz34_1⟩:=cz2_ BK299.out) | (go_at_call 56;(with_reducible refine (impl_SetRight.calls k _ _ l2_0 _ _ l2_1 true _ ?s1 ?s2 ?s3 ?s4 A24.out).mono ?_);(case s1=>repeat (first | exact (Kd.C_below HR2_0.out HB.out) | (with_reducible refine Kd.C_alloc ?_ _) | (with_reducible refine Kd.C_drewN ?_ _) | (with_reducible refine Kd.C_drew ?_)));(case s2=>exact HC2_0.out);(case s3=>repeat (first | exact (Kd.C_below HR2_1.out HB.out) | (with_reducible refine Kd.C_alloc ?_ _) | (with_reducible refine Kd.C_drewN ?_ _) | (with_reducible refine Kd.C_drew ?_)));(case s4=>exact HC2_1.out);rintro e w35 ⟨rfl,hb⟩;refine as7_ (Kd.R_below (z0_ HO309.out) hb) (Kd.R_below (z0_ HO312.out) hb) (blkB_ BK298.out hb) (blkB_ BK299.out hb) (blkB_ BK300.out hb) (blkB_ BK313.out hb) (below_step (z15_ HB.out GE298.out GE299.out GE300.out GE313.out) hb) ?_;clear HO309 HO312 BK298 BK299 BK300 BK313 HB;intro HO309 HO312 BK298 BK299 BK300 BK313 HB;(try clear hb);have hnb36:=NB313_300.out;have hnc36:=NB300_313.out;have ⟨hcz37_0,hcz37_1,hcz37_2,hcz37_3,hcz37_4,hcz37_5,hcz37_6,hcz37_7,hfz37_0,hfz37_1,hfz37_2,hfz37_3,hfz37_4,hfz37_5,hfz37_6,hfz37_7⟩:=cz8_ BK313.out) | (go_at_call 55;(with_reducible refine (impl_MsgRight.calls k t301 t302 t303 t304 t305 t306 _ _ t307 _ _ t310 t316 _ ?s1 ?s2 ?s3 ?s4 A26.out).mono ?_);(case s1=>repeat (first | exact (Kd.R_reads' HO309.out).2.2 | (with_reducible refine Kd.C_alloc ?_ _) | (with_reducible refine Kd.C_drewN ?_ _) | (with_reducible refine Kd.C_drew ?_)));(case s2=>exact (Kd.R_reads' HO309.out).2.1);(case s3=>repeat (first | exact (Kd.R_reads' HO312.out).2.2 | (with_reducible refine Kd.C_alloc ?_ _) | (with_reducible refine Kd.C_drewN ?_ _) | (with_reducible refine Kd.C_drew ?_)));(case s4=>exact (Kd.R_reads' HO312.out).2.1);rintro e w38 ⟨rfl,hb⟩;refine as7_ (Kd.R_below (z0_ HO309.out) hb) (Kd.R_below (z0_ HO312.out) hb) (blkB_ BK298.out hb) (blkB_ BK299.out hb) (blkB_ BK300.out hb) (blkB_ BK313.out hb) (below_step (z15_ HB.out GE298.out GE299.out GE300.out GE313.out) hb) ?_;clear HO309 HO312 BK298 BK299 BK300 BK313 HB;intro HO309 HO312 BK298 BK299 BK300 BK313 HB;(try clear hb)))
    go_meet
    case rel=>exact ⟨_,(!t316),(z2_),H',⟨by first | omega | exact Nat.le_refl _⟩,⟨z0_ HO309.out⟩,⟨z0_ HO312.out⟩,⟨z3_ BK298.out⟩,⟨z3_ BK299.out⟩,⟨z3_ BK300.out⟩,⟨z3_ BK313.out⟩,⟨z15_ HB.out GE298.out GE299.out GE300.out GE313.out⟩⟩
   ·replace c25:=Bool.eq_false_iff.mpr c25
    subst c25
    have H1:(impl_MsgTurn.j0 k true t301 t302 t303 t304 t305 t306 t307 t310)=some (r1,r2,r3,r4,r5,r6,r7,r8,r9):=by rw [if_neg (show ¬ (false=true) by decide)] at H;exact H
    clear H
    have H:=H1
    clear H1
    have H':=Aside0.mk H
    clear H
    have hnb39:=NB298_299.out
    have hnc39:=NB299_298.out
    have hnb40:=NB298_300.out
    have hnc40:=NB300_298.out
    have hnb41:=NB298_313.out
    have hnc41:=NB313_298.out
    have ⟨hcz42_0,hcz42_1,hcz42_2,hcz42_3,hcz42_4,hcz42_5,hcz42_6,hcz42_7,hfz42_0,hfz42_1,hfz42_2,hfz42_3,hfz42_4,hfz42_5,hfz42_6,hfz42_7⟩:=cz8_ BK298.out
    go_wp2_with (first | ((with_reducible refine gc_ 55 ?_);refine gl_ (some 13) Try.func55 #[.agg #[.int .i64 a0_0,.int .i64 a0_1,.int .i64 a0_2,.int .i64 a0_3,.string a0_4,.int .i64 a0_5,.slice A0_6 l0_6.length c0_6,.slice A0_7 l0_7.length c0_7]] ?_;(with_reducible refine (impl_MsgRight.calls k a0_0 a0_1 a0_2 a0_3 a0_4 a0_5 _ _ l0_6 _ _ l0_7 true _ ?s1 ?s2 ?s3 ?s4 A22.out).mono ?_);(case s1=>exact Kd.C_below HR0_6.out (z15_ HB.out GE298.out GE299.out GE300.out GE313.out));(case s2=>exact HC0_6.out);(case s3=>exact Kd.C_below HR0_7.out (z15_ HB.out GE298.out GE299.out GE300.out GE313.out));(case s4=>exact HC0_7.out);rintro e w43 ⟨rfl,hb⟩;refine ⟨_,rfl,?_⟩;refine as7_ (Kd.R_below (z14_ HO309.out BK313.out) hb) (Kd.R_below (z14_ HO312.out BK313.out) hb) (blk_below (g:=gb298) (o:=.cells #[.int .i64 a0_0,.int .i64 a0_1,.int .i64 a0_2,.int .i64 a0_3,.string a0_4,.int .i64 a0_5,.slice A0_6 l0_6.length c0_6,.slice A0_7 l0_7.length c0_7] 42 (0,0)) (z23_ NB298_313.out BK298.out) hb) (blk_below (g:=gb299) (o:=.cells #[.slice A2_0 l2_0.length c2_0,.slice A2_1 l2_1.length c2_1] 40 (0,0)) (z23_ NB299_313.out BK299.out) hb) (blk_below (g:=gb300) (o:=.cells #[.int .i64 0,.int .i64 0,.int .i64 0,.int .i64 0,.string (⟨#[]⟩:ByteArray),.int .i64 0,.slice none 0 0,.slice none 0 0,.int .i64 0] 44 (0,0)) (z23_ NB300_313.out BK300.out) hb) (blk_below (g:=gb313) (o:=.cells #[.int .i64 t301,.int .i64 t302,.int .i64 t303,.int .i64 t304,.string t305,.int .i64 t306,.slice Ao20 t307.length co20,.slice Ao21 t310.length co21] 42 (0,0)) (z36_ BK313.out) hb) (below_step (z15_ HB.out GE298.out GE299.out GE300.out GE313.out) hb) ?_;clear HO309 HO312 BK298 BK299 BK300 BK313 HB;intro HO309 HO312 BK298 BK299 BK300 BK313 HB;(try clear hb);(try clear hb2);(try clear hk);(try clear hi);have hnb44:=NB299_300.out;have hnc44:=NB300_299.out;have hnb45:=NB299_313.out;have hnc45:=NB313_299.out;have ⟨hcz46_0,hcz46_1,hfz46_0,hfz46_1⟩:=cz2_ BK299.out) | (go_at_call 56;(with_reducible refine (impl_SetRight.calls k _ _ l2_0 _ _ l2_1 false _ ?s1 ?s2 ?s3 ?s4 A24.out).mono ?_);(case s1=>repeat (first | exact (Kd.C_below HR2_0.out HB.out) | (with_reducible refine Kd.C_alloc ?_ _) | (with_reducible refine Kd.C_drewN ?_ _) | (with_reducible refine Kd.C_drew ?_)));(case s2=>exact HC2_0.out);(case s3=>repeat (first | exact (Kd.C_below HR2_1.out HB.out) | (with_reducible refine Kd.C_alloc ?_ _) | (with_reducible refine Kd.C_drewN ?_ _) | (with_reducible refine Kd.C_drew ?_)));(case s4=>exact HC2_1.out);rintro e w47 ⟨rfl,hb⟩;refine as7_ (Kd.R_below (z0_ HO309.out) hb) (Kd.R_below (z0_ HO312.out) hb) (blkB_ BK298.out hb) (blkB_ BK299.out hb) (blkB_ BK300.out hb) (blkB_ BK313.out hb) (below_step (z15_ HB.out GE298.out GE299.out GE300.out GE313.out) hb) ?_;clear HO309 HO312 BK298 BK299 BK300 BK313 HB;intro HO309 HO312 BK298 BK299 BK300 BK313 HB;(try clear hb)))
    go_meet
    case rel=>exact ⟨_,(true),(z2_),H',⟨by first | omega | exact Nat.le_refl _⟩,⟨z0_ HO309.out⟩,⟨z0_ HO312.out⟩,⟨z3_ BK298.out⟩,⟨z3_ BK299.out⟩,⟨z3_ BK300.out⟩,⟨z3_ BK313.out⟩,⟨z15_ HB.out GE298.out GE299.out GE300.out GE313.out⟩⟩
  ·replace c23:=Bool.eq_false_iff.mpr c23
   subst c23
   have H1:(impl_MsgTurn.j0 k true t301 t302 t303 t304 t305 t306 t307 t310)=some (r1,r2,r3,r4,r5,r6,r7,r8,r9):=by rw [if_neg (show ¬ (false=true) by decide)] at H;exact H
   clear H
   have H:=H1
   clear H1
   have H':=Aside0.mk H
   clear H
   have hnb48:=NB298_299.out
   have hnc48:=NB299_298.out
   have hnb49:=NB298_300.out
   have hnc49:=NB300_298.out
   have hnb50:=NB298_313.out
   have hnc50:=NB313_298.out
   have ⟨hcz51_0,hcz51_1,hcz51_2,hcz51_3,hcz51_4,hcz51_5,hcz51_6,hcz51_7,hfz51_0,hfz51_1,hfz51_2,hfz51_3,hfz51_4,hfz51_5,hfz51_6,hfz51_7⟩:=cz8_ BK298.out
   go_wp2_with (first | ((with_reducible refine gc_ 55 ?_);refine gl_ (some 13) Try.func55 #[.agg #[.int .i64 a0_0,.int .i64 a0_1,.int .i64 a0_2,.int .i64 a0_3,.string a0_4,.int .i64 a0_5,.slice A0_6 l0_6.length c0_6,.slice A0_7 l0_7.length c0_7]] ?_;(with_reducible refine (impl_MsgRight.calls k a0_0 a0_1 a0_2 a0_3 a0_4 a0_5 _ _ l0_6 _ _ l0_7 false _ ?s1 ?s2 ?s3 ?s4 A22.out).mono ?_);(case s1=>exact Kd.C_below HR0_6.out (z15_ HB.out GE298.out GE299.out GE300.out GE313.out));(case s2=>exact HC0_6.out);(case s3=>exact Kd.C_below HR0_7.out (z15_ HB.out GE298.out GE299.out GE300.out GE313.out));(case s4=>exact HC0_7.out);rintro e w52 ⟨rfl,hb⟩;refine ⟨_,rfl,?_⟩;refine as7_ (Kd.R_below (z14_ HO309.out BK313.out) hb) (Kd.R_below (z14_ HO312.out BK313.out) hb) (blk_below (g:=gb298) (o:=.cells #[.int .i64 a0_0,.int .i64 a0_1,.int .i64 a0_2,.int .i64 a0_3,.string a0_4,.int .i64 a0_5,.slice A0_6 l0_6.length c0_6,.slice A0_7 l0_7.length c0_7] 42 (0,0)) (z23_ NB298_313.out BK298.out) hb) (blk_below (g:=gb299) (o:=.cells #[.slice A2_0 l2_0.length c2_0,.slice A2_1 l2_1.length c2_1] 40 (0,0)) (z23_ NB299_313.out BK299.out) hb) (blk_below (g:=gb300) (o:=.cells #[.int .i64 0,.int .i64 0,.int .i64 0,.int .i64 0,.string (⟨#[]⟩:ByteArray),.int .i64 0,.slice none 0 0,.slice none 0 0,.int .i64 0] 44 (0,0)) (z23_ NB300_313.out BK300.out) hb) (blk_below (g:=gb313) (o:=.cells #[.int .i64 t301,.int .i64 t302,.int .i64 t303,.int .i64 t304,.string t305,.int .i64 t306,.slice Ao20 t307.length co20,.slice Ao21 t310.length co21] 42 (0,0)) (z36_ BK313.out) hb) (below_step (z15_ HB.out GE298.out GE299.out GE300.out GE313.out) hb) ?_;clear HO309 HO312 BK298 BK299 BK300 BK313 HB;intro HO309 HO312 BK298 BK299 BK300 BK313 HB;(try clear hb);(try clear hb2);(try clear hk);(try clear hi)))
   go_meet
   case rel=>exact ⟨_,(true),(z2_),H',⟨by first | omega | exact Nat.le_refl _⟩,⟨z0_ HO309.out⟩,⟨z0_ HO312.out⟩,⟨z3_ BK298.out⟩,⟨z3_ BK299.out⟩,⟨z3_ BK300.out⟩,⟨z3_ BK313.out⟩,⟨z15_ HB.out GE298.out GE299.out GE300.out GE313.out⟩⟩
 case rest =>
  clear HC5
  try clear c1
  try clear c2
  try clear p2
  try clear c3
  try clear c4
  try clear c5
  try clear c9
  try clear c10
  try clear c12
  try clear c16
  try clear c17
  try clear c18
  try clear c23
  try clear c25
  try clear c27
  try clear c28
  try clear c29
  try clear c32
  try clear c33
  try clear c36
  try clear c39
  try clear c40
  try clear c41
  try clear c44
  try clear c45
  try clear c48
  try clear c49
  try clear c50
  try clear hcz11_0
  try clear hcz11_1
  try clear hcz11_2
  try clear hcz11_3
  try clear hcz11_4
  try clear hcz11_5
  try clear hcz11_6
  try clear hcz11_7
  try clear hcz13_0
  try clear hcz13_1
  try clear hcz19_0
  try clear hcz19_1
  try clear hcz19_2
  try clear hcz19_3
  try clear hcz19_4
  try clear hcz19_5
  try clear hcz19_6
  try clear hcz19_7
  try clear hcz30_0
  try clear hcz30_1
  try clear hcz30_2
  try clear hcz30_3
  try clear hcz30_4
  try clear hcz30_5
  try clear hcz30_6
  try clear hcz30_7
  try clear hcz34_0
  try clear hcz34_1
  try clear hcz37_0
  try clear hcz37_1
  try clear hcz37_2
  try clear hcz37_3
  try clear hcz37_4
  try clear hcz37_5
  try clear hcz37_6
  try clear hcz37_7
  try clear hcz42_0
  try clear hcz42_1
  try clear hcz42_2
  try clear hcz42_3
  try clear hcz42_4
  try clear hcz42_5
  try clear hcz42_6
  try clear hcz42_7
  try clear hcz46_0
  try clear hcz46_1
  try clear hcz51_0
  try clear hcz51_1
  try clear hcz51_2
  try clear hcz51_3
  try clear hcz51_4
  try clear hcz51_5
  try clear hcz51_6
  try clear hcz51_7
  try clear hfz11_0
  try clear hfz11_1
  try clear hfz11_2
  try clear hfz11_3
  try clear hfz11_4
  try clear hfz11_5
  try clear hfz11_6
  try clear hfz11_7
  try clear hfz13_0
  try clear hfz13_1
  try clear hfz19_0
  try clear hfz19_1
  try clear hfz19_2
  try clear hfz19_3
  try clear hfz19_4
  try clear hfz19_5
  try clear hfz19_6
  try clear hfz19_7
  try clear hfz30_0
  try clear hfz30_1
  try clear hfz30_2
  try clear hfz30_3
  try clear hfz30_4
  try clear hfz30_5
  try clear hfz30_6
  try clear hfz30_7
  try clear hfz34_0
  try clear hfz34_1
  try clear hfz37_0
  try clear hfz37_1
  try clear hfz37_2
  try clear hfz37_3
  try clear hfz37_4
  try clear hfz37_5
  try clear hfz37_6
  try clear hfz37_7
  try clear hfz42_0
  try clear hfz42_1
  try clear hfz42_2
  try clear hfz42_3
  try clear hfz42_4
  try clear hfz42_5
  try clear hfz42_6
  try clear hfz42_7
  try clear hfz46_0
  try clear hfz46_1
  try clear hfz51_0
  try clear hfz51_1
  try clear hfz51_2
  try clear hfz51_3
  try clear hfz51_4
  try clear hfz51_5
  try clear hfz51_6
  try clear hfz51_7
  obtain ⟨kq,x24_4,rfl,HA,HJ4,HO_314006,HO_314007,BK298,BK299,BK300,BK313,HB⟩:=hcut
  cases kq with
  | zero=>exact absurd HA.out (by simp [impl_MsgTurn.j0])
  | succ kj4 =>
   have H:=HA.out
   clear HA
   simp only [impl_MsgTurn.j0] at H
   by_cases c53:x24_4=true
   ·subst c53
    have H1:(some (0,0,0,0,(⟨#[]⟩:ByteArray),0,([]:List (S56)),([]:List (S91)),1))=some (r1,r2,r3,r4,r5,r6,r7,r8,r9):=by rw [if_pos rfl] at H;exact H
    clear H
    have H:=H1
    clear H1
    simp only [Option.some.injEq,Prod.mk.injEq] at H
    obtain ⟨rfl,rfl,rfl,rfl,rfl,rfl,rfl,rfl,rfl⟩:=H
    have hnb54:=NB300_298.out
    have hnc54:=NB298_300.out
    have hnb55:=NB300_299.out
    have hnc55:=NB299_300.out
    have hnb56:=NB300_313.out
    have hnc56:=NB313_300.out
    have ⟨hcz57_0,hcz57_1,hcz57_2,hcz57_3,hcz57_4,hcz57_5,hcz57_6,hcz57_7,hcz57_8,hfz57_0,hfz57_1,hfz57_2,hfz57_3,hfz57_4,hfz57_5,hfz57_6,hfz57_7,hfz57_8⟩:=cz9_ BK300.out
    go_wp2
    refine bodyPost_ret (results_cell_row rfl _ _ gb300 44 #[.int .i64 0,.int .i64 0,.int .i64 0,.int .i64 0,.string (⟨#[]⟩:ByteArray),.int .i64 0,.slice none 0 0,.slice none 0 0,.int .i64 1] (0,0) _ rfl (z32_ BK300.out) Try.underlying44 rfl (by kernel_rfl)) rfl ?_
    exact ⟨_,_,z8_,z38_,z38_,z15_ HB.out GE298.out GE299.out GE300.out GE313.out⟩
   ·replace c53:=Bool.eq_false_iff.mpr c53
    subst c53
    have H1:(some (t301,t302,t303,t304,t305,t306,t307,t310,0))=some (r1,r2,r3,r4,r5,r6,r7,r8,r9):=by rw [if_neg (show ¬ (false=true) by decide)] at H;exact H
    clear H
    have H:=H1
    clear H1
    simp only [Option.some.injEq,Prod.mk.injEq] at H
    obtain ⟨rfl,rfl,rfl,rfl,rfl,rfl,rfl,rfl,rfl⟩:=H
    have hnb58:=NB313_298.out
    have hnc58:=NB298_313.out
    have hnb59:=NB313_299.out
    have hnc59:=NB299_313.out
    have hnb60:=NB313_300.out
    have hnc60:=NB300_313.out
    have ⟨hcz61_0,hcz61_1,hcz61_2,hcz61_3,hcz61_4,hcz61_5,hcz61_6,hcz61_7,hfz61_0,hfz61_1,hfz61_2,hfz61_3,hfz61_4,hfz61_5,hfz61_6,hfz61_7⟩:=cz8_ BK313.out
    have hnb62:=NB300_298.out
    have hnc62:=NB298_300.out
    have hnb63:=NB300_299.out
    have hnc63:=NB299_300.out
    have ⟨hcz64_0,hcz64_1,hcz64_2,hcz64_3,hcz64_4,hcz64_5,hcz64_6,hcz64_7,hcz64_8,hfz64_0,hfz64_1,hfz64_2,hfz64_3,hfz64_4,hfz64_5,hfz64_6,hfz64_7,hfz64_8⟩:=cz9_ BK300.out
    go_wp2
    refine bodyPost_ret (results_cell_row rfl _ _ gb300 44 #[.int .i64 t301,.int .i64 t302,.int .i64 t303,.int .i64 t304,.string t305,.int .i64 t306,.slice Ao20 t307.length co20,.slice Ao21 t310.length co21,.int .i64 0] (0,0) _ rfl (z32_ BK300.out) Try.underlying44 rfl (by kernel_rfl)) rfl ?_
    exact ⟨_,_,z8_,z40_ HO_314006.out BK300.out,z40_ HO_314007.out BK300.out,z15_ HB.out GE298.out GE299.out GE300.out GE313.out⟩


/-! ### laws_eqMark: function 66 -/
def laws_eqMark.f (a0_0:Int) (a0_1:Int) (a1_0:Int) (a1_1:Int):Option (Bool):=if a0_0=a1_0 then (if a0_1=a1_1 then (some true) else (none)) else (none)
set_option maxHeartbeats 8000000 in
set_option maxRecDepth 100000 in
theorem laws_eqMark.calls (a0_0:Int) (a0_1:Int) (a1_0:Int) (a1_1:Int) (r:Bool) (w:World) (h:laws_eqMark.f a0_0 a0_1 a1_0 a1_1=some r) :
  Calls Try.prog 66 #[.agg #[.int .i64 a0_0,.int .i64 a0_1],.agg #[.int .i64 a1_0,.int .i64 a1_1]] w fun e w'=>e = .returned (.bool r)∧Below w.heap.size w w':=by
 have hu56:=Try.underlying56
 have HB:=Aside0.mk (Below.refl w.heap.size w)
 have H:(if a0_0=a1_0 then (if a0_1=a1_1 then (some true) else (none)) else (none))=some r:=h
 clear h
 by_cases c3:a0_0=a1_0
 ·rw [if_pos c3] at H
  have c3b0:(a0_0 == a1_0)=true:=beq_iff_eq.mpr c3
  have c3b1:(a0_0 != a1_0)=false:=bne_eq_false_iff_eq.mpr c3
  clear c3
  by_cases c4:a0_1=a1_1
  ·rw [if_pos c4] at H
   have c4b0:(a0_1 == a1_1)=true:=beq_iff_eq.mpr c4
   have c4b1:(a0_1 != a1_1)=false:=bne_eq_false_iff_eq.mpr c4
   clear c4
   obtain rfl:=Option.some.inj H
   go_enter Try.func66,Try.ntmps66
   go_wp2_with (first | ((with_reducible refine gd_ 2 ?_);refine be_ 2 #[.int .i64 a0_0,.int .i64 a0_1] 56 ?_;intro gb317 hg w5 hbox hb;refine as4_ (below_step (z5_ HB.out) hb) (hbox) ((z7_ HB.out:w.heap.size≤gb317)) ((z7_ HB.out:w.heap.size≤gb317)) ?_;clear HB;intro HB BK317 GW317 GE317;clear hb hbox hg) | ((with_reducible refine gd_ 3 ?_);refine be_ 3 #[.int .i64 a1_0,.int .i64 a1_1] 56 ?_;intro gb318 hg w6 hbox hb;refine as7_ (blkB_ BK317.out hb) (below_step (z4_ HB.out GE317.out) hb) (hbox) ((z11_ HB.out GE317.out:w.heap.size≤gb318)) ((z11_ HB.out GE317.out:w.heap.size≤gb318)) (neL_ BK317.out hg) (neG_ BK317.out hg) ?_;clear BK317 HB;intro BK317 HB BK318 GW318 GE318 NB317_318 NB318_317;clear hb hbox hg;have hnb7:=NB317_318.out;have hnc7:=NB318_317.out;have ⟨hcz8_0,hcz8_1,hfz8_0,hfz8_1⟩:=cz2_ BK317.out;have ⟨hcz9_0,hcz9_1,hfz9_0,hfz9_1⟩:=cz2_ BK318.out))
   go_ret
   exact ⟨z8_,z6_ HB.out GE317.out GE318.out⟩
  ·rw [if_neg c4] at H
   exact absurd H (by simp)
 ·rw [if_neg c3] at H
  exact absurd H (by simp)


/-! ### laws_eqMarkS: function 33 -/
def laws_eqMarkS.l0:Nat→List (S56)→List (S56)→Int→Option (Bool)
 | 0,_,_,_=>none
 | k+1,x0,x1,x5=>if x5<(x0.length:Int) then (if 0≤x5 then (if x5<(x1.length:Int) then ((laws_eqMark.f ((rd_T56 x0 x5).f0) ((rd_T56 x0 x5).f1) ((rd_T56 x1 x5).f0) ((rd_T56 x1 x5).f1)).bind fun t321=>(if t321=true then (laws_eqMarkS.l0 k x0 x1 (wrap64 (x5+1))) else (none))) else (none)) else (none)) else (some true)
def laws_eqMarkS.f (k:Nat) (l0:List (S56)) (l1:List (S56)):Option (Bool):=if (l0.length:Int)=(l1.length:Int) then (laws_eqMarkS.l0 k l0 l1 0) else (none)
theorem laws_eqMarkS.mono_l:∀ k,(∀ y0 y1 y2,LeO (laws_eqMarkS.l0 k y0 y1 y2) (laws_eqMarkS.l0 (k+1) y0 y1 y2))
 | 0=>fun _ _ _ r h=>by simp [laws_eqMarkS.l0] at h
 | k+1=>by
  have ih0:=laws_eqMarkS.mono_l k
  ·intro y0 y1 y2
   unfold laws_eqMarkS.l0
   repeat' first
   | (with_reducible exact ih0 _ _ _)
   | (with_reducible exact LeO.refl _)
   | (with_reducible exact LeO.none _)
   | (with_reducible refine LeO.ite ?_ ?_)
   | (with_reducible refine LeO.bind ?_ (fun _=>?_))
   | exact ih0 _ _ _
   | exact LeO.none _
   | refine LeO.ite ?_ ?_
   | refine LeO.bind ?_ (fun _=>?_)
theorem laws_eqMarkS.mono:∀ a0 a1 k,LeO (laws_eqMarkS.f k a0 a1) (laws_eqMarkS.f (k+1) a0 a1):=by
 intro a0 a1 k
 have ih0:=laws_eqMarkS.mono_l k
 unfold laws_eqMarkS.f
 repeat' first
   | (with_reducible exact ih0 _ _ _)
   | (with_reducible exact LeO.refl _)
   | (with_reducible exact LeO.none _)
   | (with_reducible refine LeO.ite ?_ ?_)
   | (with_reducible refine LeO.bind ?_ (fun _=>?_))
   | exact ih0 _ _ _
   | exact LeO.none _
   | refine LeO.ite ?_ ?_
   | refine LeO.bind ?_ (fun _=>?_)
def laws_eqMarkS.T6:Bool × List (List Nat × List Nat):=(true,[([],[]),([],[]),([0,1],[0,1]),([2],[2]),([],[]),([],[]),([4,5],[4,5]),([6],[6]),([3,7],[3,7]),([8],[8])])
def laws_eqMarkS.B6:List Nat:=[0,0,3,7,0,0,48,112,255,511]
theorem laws_eqMarkS.tab6:rtab .any (opsOf Try.f33 6)=laws_eqMarkS.T6:=by kernel_rfl
theorem laws_eqMarkS.bits6:waitsOk laws_eqMarkS.T6.2 laws_eqMarkS.B6=true:=by kernel_rfl
set_option maxHeartbeats 8000000 in
set_option maxRecDepth 100000 in
theorem laws_eqMarkS.calls (k:Nat) (A0:Option Addr) (c0:Nat) (l0:List (S56)) (A1:Option Addr) (c1:Nat) (l1:List (S56)) (r:Bool) (w:World) (hr0:Kd.C k56 w A0 l0.length l0) (hc0:l0.length≤c0) (hr1:Kd.C k56 w A1 l1.length l1) (hc1:l1.length≤c1) (h:laws_eqMarkS.f k l0 l1=some r) :
  Calls Try.prog 33 #[.slice A0 l0.length c0,.slice A1 l1.length c1] w fun e w'=>e = .returned (.bool r)∧Below w.heap.size w w':=by
 have hu56:=Try.underlying56
 have HR0:=Aside0.mk hr0
 have HC0:=Aside0.mk hc0
 clear hr0 hc0
 have HR1:=Aside0.mk hr1
 have HC1:=Aside0.mk hc1
 clear hr1 hc1
 have HB:=Aside0.mk (Below.refl w.heap.size w)
 have H:(if (l0.length:Int)=(l1.length:Int) then (laws_eqMarkS.l0 k l0 l1 0) else (none))=some r:=h
 clear h
 by_cases c3:(l0.length:Int)=(l1.length:Int)
 ·rw [if_pos c3] at H
  have c3b0:((l0.length:Int) == (l1.length:Int))=true:=beq_iff_eq.mpr c3
  have c3b1:((l0.length:Int) != (l1.length:Int))=false:=bne_eq_false_iff_eq.mpr c3
  have c3b2:(l0.length == l1.length)=true:=by first | simpa using c3 | (simp at c3 ⊢;omega)
  clear c3
  have H':=Aside0.mk H
  clear H
  go_enter Try.func33,Try.ntmps33
  go_wp2
  go_loopg [5] k (fun kq v5 w'=>∃ (x5_1:Int),v5 = .int .i64 x5_1∧Aside0 (laws_eqMarkS.l0 kq l0 l1 x5_1=some r)∧Aside0 (kq≤k)∧Aside0 (Below w.heap.size w w'))
  case atStart=>exact ⟨(0),(z2_),H',⟨Nat.le_refl _⟩,⟨z5_ HB.out⟩⟩
  case round =>
   clear H'
   try clear c1
   try clear p2
   try clear c3
   try clear c3b0
   try clear c3b1
   try clear c3b2
   obtain ⟨x5_1,rfl,HA,HK1,HB⟩:=hrel
   cases gk with
   | zero=>exact absurd HA.out (by simp [laws_eqMarkS.l0])
   | succ k1 =>
    have H:=HA.out
    clear HA
    simp only [laws_eqMarkS.l0] at H
    by_cases c4:x5_1<(l0.length:Int)
    ·rw [if_pos c4] at H
     have c4b0:decide (x5_1<(l0.length:Int))=true:=decide_eq_true c4
     clear c4
     by_cases c5:0≤x5_1
     ·rw [if_pos c5] at H
      have c5b0:decide (0≤x5_1)=true:=decide_eq_true c5
      clear c5
      by_cases c6:x5_1<(l1.length:Int)
      ·rw [if_pos c6] at H
       have c6b0:decide (x5_1<(l1.length:Int))=true:=decide_eq_true c6
       clear c6
       replace H:=Option.bind_eq_some_iff.mp H
       obtain ⟨t321,A70,H⟩:=H
       replace H:(if t321=true then (laws_eqMarkS.l0 k1 l0 l1 (wrap64 (x5_1+1))) else (none))=some r:=H
       have A7:=Aside0.mk A70
       clear A70
       by_cases c8:t321=true
       ·subst c8
        have H1:(laws_eqMarkS.l0 k1 l0 l1 (wrap64 (x5_1+1)))=some r:=by rw [if_pos rfl] at H;exact H
        clear H
        have H:=H1
        clear H1
        have H':=Aside0.mk H
        clear H
        try go_wp2
        have n0_:=Aside0.mk (below_drew1 HB.out)
        clear HB
        have HB:=n0_
        clear n0_
        have p319:0≤(x5_1:Int):=of_decide_eq_true (z1_)
        have q319:x5_1<(l0.length:Int):=of_decide_eq_true (z1_)
        obtain ⟨ad319,e319,hx319_0,hx319_1⟩:=at_T56 HR0.out x5_1 p319 q319
        have hw319_1:=hx319_1
        have hw319_0:=hx319_0
        cases e319
        replace hx319_0:=(HB.out.cell (World.block_lt_of_cell? w _ hx319_0)).trans hx319_0
        replace hx319_1:=(HB.out.cell (World.block_lt_of_cell? w _ hx319_1)).trans hx319_1
        replace p319:=eq_true p319
        replace q319:=eq_true q319
        have p320:0≤(x5_1:Int):=of_decide_eq_true (z1_)
        have q320:x5_1<(l1.length:Int):=of_decide_eq_true (z1_)
        obtain ⟨ad320,e320,hx320_0,hx320_1⟩:=at_T56 HR1.out x5_1 p320 q320
        have hw320_1:=hx320_1
        have hw320_0:=hx320_0
        cases e320
        replace hx320_0:=(HB.out.cell (World.block_lt_of_cell? w _ hx320_0)).trans hx320_0
        replace hx320_1:=(HB.out.cell (World.block_lt_of_cell? w _ hx320_1)).trans hx320_1
        replace p320:=eq_true p320
        replace q320:=eq_true q320
        refine start_ (n:=10) (S:=fun w'=>w'.cell? (ad319.add ((x5_1).toNat*2))=some (.int .i64 ((rd_T56 l0 x5_1).f0))∧w'.cell? ⟨(ad319.add ((x5_1).toNat*2)).block,(ad319.add ((x5_1).toNat*2)).off+1,none⟩=some (.int .i64 ((rd_T56 l0 x5_1).f1))∧w'.cell? (ad320.add ((x5_1).toNat*2))=some (.int .i64 ((rd_T56 l1 x5_1).f0))∧w'.cell? ⟨(ad320.add ((x5_1).toNat*2)).block,(ad320.add ((x5_1).toNat*2)).off+1,none⟩=some (.int .i64 ((rd_T56 l1 x5_1).f1))) (ds:=[]) #[O,O,O,O,O,O,O,O,O,O] (by kernel_rfl) rfl rfl ⟨((HB.out.cell (World.block_lt_of_cell? w _ hw319_0)).trans hw319_0),((HB.out.cell (World.block_lt_of_cell? w _ hw319_1)).trans hw319_1),((HB.out.cell (World.block_lt_of_cell? w _ hw320_0)).trans hw320_0),((HB.out.cell (World.block_lt_of_cell? w _ hw320_1)).trans hw320_1)⟩ (fun hHeld=>?_);refine with_tabW laws_eqMarkS.tab6 laws_eqMarkS.bits6 (fun HT_ HW_=>?_)
        generalize wr.drew=w9 at HB hx319_0 hx319_1 hx320_0 hx320_1 hHeld ⊢
        refine pu_ 0 17 #[I,O,O,O,O,O,O,O,O,O] HT_.out ?_
        refine pu_ 1 18 #[I,I,O,O,O,O,O,O,O,O] HT_.out ?_
        refine pu_ 2 19 #[I,I,I,O,O,O,O,O,O,O] HT_.out ?_
        refine pu_ 4 21 #[I,I,I,O,I,O,O,O,O,O] HT_.out ?_
        refine pu_ 5 22 #[I,I,I,O,I,I,O,O,O,O] HT_.out ?_
        refine pu_ 6 23 #[I,I,I,O,I,I,I,O,O,O] HT_.out ?_
        refine tk4_ 3 20 #[I,I,I,I,I,I,I,O,O,O] HT_.out HW_.out hHeld ?_
        refine tk4_ 7 24 #[I,I,I,I,I,I,I,I,O,O] HT_.out HW_.out hHeld ?_
        refine o1_ 8 25 #[I,I,I,I,I,I,I,I,I,O] HT_.out (fun K hK=>?_)
        refine gs_ Try.func66 #[.agg #[.int .i64 ((rd_T56 l0 x5_1).f0),.int .i64 ((rd_T56 l0 x5_1).f1)],.agg #[.int .i64 ((rd_T56 l1 x5_1).f0),.int .i64 ((rd_T56 l1 x5_1).f1)]] ?_
        with_reducible refine (laws_eqMark.calls ((rd_T56 l0 x5_1).f0) ((rd_T56 l0 x5_1).f1) ((rd_T56 l1 x5_1).f0) ((rd_T56 l1 x5_1).f1) true _ A7.out).mono ?_
        rintro e w10 ⟨rfl,hb⟩
        refine ⟨_,rfl,?_⟩
        have n0_:=Aside0.mk (below_step (z5_ HB.out) hb)
        clear HB
        have HB:=n0_
        clear n0_
        (try clear hb)
        refine hK.out _ _ ⟨((HB.out.cell (World.block_lt_of_cell? w _ hw319_0)).trans hw319_0),((HB.out.cell (World.block_lt_of_cell? w _ hw319_1)).trans hw319_1),((HB.out.cell (World.block_lt_of_cell? w _ hw320_0)).trans hw320_0),((HB.out.cell (World.block_lt_of_cell? w _ hw320_1)).trans hw320_1)⟩ (fun hHeld=>?_)
        clear hK K
        refine nm_ 25 ?_
        refine pu_ 9 26 #[I,I,I,I,I,I,I,I,I,I] HT_.out ?_
        refine done_ (done_of HT_.out (by kernel_rfl)) ?_
        try go_wp2
        go_roundg k1
        case measure=>have:=HK1.out;omega
        case rel=>exact ⟨(wrap64 (x5_1+1)),(z2_),H',⟨by have:=HK1.out;omega⟩,⟨z5_ HB.out⟩⟩
       ·replace c8:=Bool.eq_false_iff.mpr c8
        subst c8
        have H1:(none)=some r:=by rw [if_neg (show ¬ (false=true) by decide)] at H;exact H
        clear H
        have H:=H1
        clear H1
        exact absurd H (by simp)
      ·rw [if_neg c6] at H
       exact absurd H (by simp)
     ·rw [if_neg c5] at H
      exact absurd H (by simp)
    ·rw [if_neg c4] at H
     have c4b0:decide (x5_1<(l0.length:Int))=false:=decide_eq_false c4
     clear c4
     obtain rfl:=Option.some.inj H
     go_wp2
     go_ret
     exact ⟨z8_,z5_ HB.out⟩
 ·rw [if_neg c3] at H
  exact absurd H (by simp)


/-! ### laws_eqSib: function 91 -/
def laws_eqSib.f (a0_0:Int) (a0_1:Int) (a0_2:Bool) (a0_3:ByteArray) (a1_0:Int) (a1_1:Int) (a1_2:Bool) (a1_3:ByteArray):Option (Bool):=(laws_eqMark.f a0_0 a0_1 a1_0 a1_1).bind fun t324=>(if t324=true then (if (a0_2 != a1_2)=true then (none) else (if a0_3.toList=a1_3.toList then (some true) else (none))) else (none))
set_option maxHeartbeats 8000000 in
set_option maxRecDepth 100000 in
theorem laws_eqSib.calls (a0_0:Int) (a0_1:Int) (a0_2:Bool) (a0_3:ByteArray) (a1_0:Int) (a1_1:Int) (a1_2:Bool) (a1_3:ByteArray) (r:Bool) (w:World) (h:laws_eqSib.f a0_0 a0_1 a0_2 a0_3 a1_0 a1_1 a1_2 a1_3=some r) :
  Calls Try.prog 91 #[.agg #[.int .i64 a0_0,.int .i64 a0_1,.bool a0_2,.string a0_3],.agg #[.int .i64 a1_0,.int .i64 a1_1,.bool a1_2,.string a1_3]] w fun e w'=>e = .returned (.bool r)∧Below w.heap.size w w':=by
 have hu91:=Try.underlying91
 have hu56:=Try.underlying56
 have HB:=Aside0.mk (Below.refl w.heap.size w)
 have H:((laws_eqMark.f a0_0 a0_1 a1_0 a1_1).bind fun t324=>(if t324=true then (if (a0_2 != a1_2)=true then (none) else (if a0_3.toList=a1_3.toList then (some true) else (none))) else (none)))=some r:=h
 clear h
 replace H:=Option.bind_eq_some_iff.mp H
 obtain ⟨t324,A30,H⟩:=H
 replace H:(if t324=true then (if (a0_2 != a1_2)=true then (none) else (if a0_3.toList=a1_3.toList then (some true) else (none))) else (none))=some r:=H
 have A3:=Aside0.mk A30
 clear A30
 by_cases c4:t324=true
 ·subst c4
  have H1:(if (a0_2 != a1_2)=true then (none) else (if a0_3.toList=a1_3.toList then (some true) else (none)))=some r:=by rw [if_pos rfl] at H;exact H
  clear H
  have H:=H1
  clear H1
  by_cases c5:(a0_2 != a1_2)=true
  ·rw [if_pos c5] at H
   exact absurd H (by simp)
  ·rw [if_neg c5] at H
   have c5b0:(a0_2 != a1_2)=false:=by simpa using c5
   (try (have c5b1:decide (a0_2=a1_2)=true:=by simpa using c5))
   (try (have c5b2:(a0_2 == a1_2)=true:=by simpa using c5))
   clear c5
   by_cases c6:a0_3.toList=a1_3.toList
   ·rw [if_pos c6] at H
    have c6b0:(a0_3.toList == a1_3.toList)=true:=beq_iff_eq.mpr c6
    have c6b1:(a0_3.toList != a1_3.toList)=false:=bne_eq_false_iff_eq.mpr c6
    clear c6
    obtain rfl:=Option.some.inj H
    go_enter Try.func91,Try.ntmps91
    go_wp2_with (first | ((with_reducible refine gd_ 2 ?_);refine be_ 2 #[.int .i64 a0_0,.int .i64 a0_1,.bool a0_2,.string a0_3] 91 ?_;intro gb322 hg w7 hbox hb;refine as4_ (below_step (z5_ HB.out) hb) (hbox) ((z7_ HB.out:w.heap.size≤gb322)) ((z7_ HB.out:w.heap.size≤gb322)) ?_;clear HB;intro HB BK322 GW322 GE322;clear hb hbox hg) | ((with_reducible refine gd_ 3 ?_);refine be_ 3 #[.int .i64 a1_0,.int .i64 a1_1,.bool a1_2,.string a1_3] 91 ?_;intro gb323 hg w8 hbox hb;refine as7_ (blkB_ BK322.out hb) (below_step (z4_ HB.out GE322.out) hb) (hbox) ((z11_ HB.out GE322.out:w.heap.size≤gb323)) ((z11_ HB.out GE322.out:w.heap.size≤gb323)) (neL_ BK322.out hg) (neG_ BK322.out hg) ?_;clear BK322 HB;intro BK322 HB BK323 GW323 GE323 NB322_323 NB323_322;clear hb hbox hg;have hnb9:=NB322_323.out;have hnc9:=NB323_322.out;have ⟨hcz10_0,hcz10_1,hcz10_2,hcz10_3,hfz10_0,hfz10_1,hfz10_2,hfz10_3⟩:=cz4_ BK322.out;have ⟨hcz11_0,hcz11_1,hcz11_2,hcz11_3,hfz11_0,hfz11_1,hfz11_2,hfz11_3⟩:=cz4_ BK323.out) | ((with_reducible refine gc_ 66 ?_);refine gl_ (some 9) Try.func66 #[.agg #[.int .i64 a0_0,.int .i64 a0_1],.agg #[.int .i64 a1_0,.int .i64 a1_1]] ?_;(with_reducible refine (laws_eqMark.calls a0_0 a0_1 a1_0 a1_1 true _ A3.out).mono ?_);rintro e w12 ⟨rfl,hb⟩;refine ⟨_,rfl,?_⟩;refine as3_ (blkB_ BK322.out hb) (blkB_ BK323.out hb) (below_step (z6_ HB.out GE322.out GE323.out) hb) ?_;clear BK322 BK323 HB;intro BK322 BK323 HB;(try clear hb);have ⟨hcz13_0,hcz13_1,hcz13_2,hcz13_3,hfz13_0,hfz13_1,hfz13_2,hfz13_3⟩:=cz4_ BK322.out;have ⟨hcz14_0,hcz14_1,hcz14_2,hcz14_3,hfz14_0,hfz14_1,hfz14_2,hfz14_3⟩:=cz4_ BK323.out))
    go_ret
    exact ⟨z8_,z6_ HB.out GE322.out GE323.out⟩
   ·rw [if_neg c6] at H
    exact absurd H (by simp)
 ·replace c4:=Bool.eq_false_iff.mpr c4
  subst c4
  have H1:(none)=some r:=by rw [if_neg (show ¬ (false=true) by decide)] at H;exact H
  clear H
  have H:=H1
  clear H1
  exact absurd H (by simp)


/-! ### laws_eqSibS: function 57 -/
def laws_eqSibS.l0:Nat→List (S91)→List (S91)→Int→Option (Bool)
 | 0,_,_,_=>none
 | k+1,x0,x1,x5=>if x5<(x0.length:Int) then (if 0≤x5 then (if x5<(x1.length:Int) then ((laws_eqSib.f ((rd_T91 x0 x5).f0.f0) ((rd_T91 x0 x5).f0.f1) ((rd_T91 x0 x5).f1) ((rd_T91 x0 x5).f2) ((rd_T91 x1 x5).f0.f0) ((rd_T91 x1 x5).f0.f1) ((rd_T91 x1 x5).f1) ((rd_T91 x1 x5).f2)).bind fun t327=>(if t327=true then (laws_eqSibS.l0 k x0 x1 (wrap64 (x5+1))) else (none))) else (none)) else (none)) else (some true)
def laws_eqSibS.f (k:Nat) (l0:List (S91)) (l1:List (S91)):Option (Bool):=if (l0.length:Int)=(l1.length:Int) then (laws_eqSibS.l0 k l0 l1 0) else (none)
theorem laws_eqSibS.mono_l:∀ k,(∀ y0 y1 y2,LeO (laws_eqSibS.l0 k y0 y1 y2) (laws_eqSibS.l0 (k+1) y0 y1 y2))
 | 0=>fun _ _ _ r h=>by simp [laws_eqSibS.l0] at h
 | k+1=>by
  have ih0:=laws_eqSibS.mono_l k
  ·intro y0 y1 y2
   unfold laws_eqSibS.l0
   repeat' first
   | (with_reducible exact ih0 _ _ _)
   | (with_reducible exact LeO.refl _)
   | (with_reducible exact LeO.none _)
   | (with_reducible refine LeO.ite ?_ ?_)
   | (with_reducible refine LeO.bind ?_ (fun _=>?_))
   | exact ih0 _ _ _
   | exact LeO.none _
   | refine LeO.ite ?_ ?_
   | refine LeO.bind ?_ (fun _=>?_)
theorem laws_eqSibS.mono:∀ a0 a1 k,LeO (laws_eqSibS.f k a0 a1) (laws_eqSibS.f (k+1) a0 a1):=by
 intro a0 a1 k
 have ih0:=laws_eqSibS.mono_l k
 unfold laws_eqSibS.f
 repeat' first
   | (with_reducible exact ih0 _ _ _)
   | (with_reducible exact LeO.refl _)
   | (with_reducible exact LeO.none _)
   | (with_reducible refine LeO.ite ?_ ?_)
   | (with_reducible refine LeO.bind ?_ (fun _=>?_))
   | exact ih0 _ _ _
   | exact LeO.none _
   | refine LeO.ite ?_ ?_
   | refine LeO.bind ?_ (fun _=>?_)
def laws_eqSibS.T6:Bool × List (List Nat × List Nat):=(true,[([],[]),([],[]),([0,1],[0,1]),([2],[2]),([],[]),([],[]),([4,5],[4,5]),([6],[6]),([3,7],[3,7]),([8],[8])])
def laws_eqSibS.B6:List Nat:=[0,0,3,7,0,0,48,112,255,511]
theorem laws_eqSibS.tab6:rtab .any (opsOf Try.f57 6)=laws_eqSibS.T6:=by kernel_rfl
theorem laws_eqSibS.bits6:waitsOk laws_eqSibS.T6.2 laws_eqSibS.B6=true:=by kernel_rfl
set_option maxHeartbeats 8000000 in
set_option maxRecDepth 100000 in
theorem laws_eqSibS.calls (k:Nat) (A0:Option Addr) (c0:Nat) (l0:List (S91)) (A1:Option Addr) (c1:Nat) (l1:List (S91)) (r:Bool) (w:World) (hr0:Kd.C k91 w A0 l0.length l0) (hc0:l0.length≤c0) (hr1:Kd.C k91 w A1 l1.length l1) (hc1:l1.length≤c1) (h:laws_eqSibS.f k l0 l1=some r) :
  Calls Try.prog 57 #[.slice A0 l0.length c0,.slice A1 l1.length c1] w fun e w'=>e = .returned (.bool r)∧Below w.heap.size w w':=by
 have hu91:=Try.underlying91
 have HR0:=Aside0.mk hr0
 have HC0:=Aside0.mk hc0
 clear hr0 hc0
 have HR1:=Aside0.mk hr1
 have HC1:=Aside0.mk hc1
 clear hr1 hc1
 have HB:=Aside0.mk (Below.refl w.heap.size w)
 have H:(if (l0.length:Int)=(l1.length:Int) then (laws_eqSibS.l0 k l0 l1 0) else (none))=some r:=h
 clear h
 by_cases c3:(l0.length:Int)=(l1.length:Int)
 ·rw [if_pos c3] at H
  have c3b0:((l0.length:Int) == (l1.length:Int))=true:=beq_iff_eq.mpr c3
  have c3b1:((l0.length:Int) != (l1.length:Int))=false:=bne_eq_false_iff_eq.mpr c3
  have c3b2:(l0.length == l1.length)=true:=by first | simpa using c3 | (simp at c3 ⊢;omega)
  clear c3
  have H':=Aside0.mk H
  clear H
  go_enter Try.func57,Try.ntmps57
  go_wp2
  go_loopg [5] k (fun kq v5 w'=>∃ (x5_1:Int),v5 = .int .i64 x5_1∧Aside0 (laws_eqSibS.l0 kq l0 l1 x5_1=some r)∧Aside0 (kq≤k)∧Aside0 (Below w.heap.size w w'))
  case atStart=>exact ⟨(0),(z2_),H',⟨Nat.le_refl _⟩,⟨z5_ HB.out⟩⟩
  case round =>
   clear H'
   try clear c1
   try clear p2
   try clear c3
   try clear c3b0
   try clear c3b1
   try clear c3b2
   obtain ⟨x5_1,rfl,HA,HK1,HB⟩:=hrel
   cases gk with
   | zero=>exact absurd HA.out (by simp [laws_eqSibS.l0])
   | succ k1 =>
    have H:=HA.out
    clear HA
    simp only [laws_eqSibS.l0] at H
    by_cases c4:x5_1<(l0.length:Int)
    ·rw [if_pos c4] at H
     have c4b0:decide (x5_1<(l0.length:Int))=true:=decide_eq_true c4
     clear c4
     by_cases c5:0≤x5_1
     ·rw [if_pos c5] at H
      have c5b0:decide (0≤x5_1)=true:=decide_eq_true c5
      clear c5
      by_cases c6:x5_1<(l1.length:Int)
      ·rw [if_pos c6] at H
       have c6b0:decide (x5_1<(l1.length:Int))=true:=decide_eq_true c6
       clear c6
       replace H:=Option.bind_eq_some_iff.mp H
       obtain ⟨t327,A70,H⟩:=H
       replace H:(if t327=true then (laws_eqSibS.l0 k1 l0 l1 (wrap64 (x5_1+1))) else (none))=some r:=H
       have A7:=Aside0.mk A70
       clear A70
       by_cases c8:t327=true
       ·subst c8
        have H1:(laws_eqSibS.l0 k1 l0 l1 (wrap64 (x5_1+1)))=some r:=by rw [if_pos rfl] at H;exact H
        clear H
        have H:=H1
        clear H1
        have H':=Aside0.mk H
        clear H
        try go_wp2
        have n0_:=Aside0.mk (below_drew1 HB.out)
        clear HB
        have HB:=n0_
        clear n0_
        have p325:0≤(x5_1:Int):=of_decide_eq_true (z1_)
        have q325:x5_1<(l0.length:Int):=of_decide_eq_true (z1_)
        obtain ⟨ad325,e325,hx325_0,hx325_1,hx325_2,hx325_3⟩:=at_T91 HR0.out x5_1 p325 q325
        have hw325_3:=hx325_3
        have hw325_2:=hx325_2
        have hw325_1:=hx325_1
        have hw325_0:=hx325_0
        cases e325
        replace hx325_0:=(HB.out.cell (World.block_lt_of_cell? w _ hx325_0)).trans hx325_0
        replace hx325_1:=(HB.out.cell (World.block_lt_of_cell? w _ hx325_1)).trans hx325_1
        replace hx325_2:=(HB.out.cell (World.block_lt_of_cell? w _ hx325_2)).trans hx325_2
        replace hx325_3:=(HB.out.cell (World.block_lt_of_cell? w _ hx325_3)).trans hx325_3
        replace p325:=eq_true p325
        replace q325:=eq_true q325
        have p326:0≤(x5_1:Int):=of_decide_eq_true (z1_)
        have q326:x5_1<(l1.length:Int):=of_decide_eq_true (z1_)
        obtain ⟨ad326,e326,hx326_0,hx326_1,hx326_2,hx326_3⟩:=at_T91 HR1.out x5_1 p326 q326
        have hw326_3:=hx326_3
        have hw326_2:=hx326_2
        have hw326_1:=hx326_1
        have hw326_0:=hx326_0
        cases e326
        replace hx326_0:=(HB.out.cell (World.block_lt_of_cell? w _ hx326_0)).trans hx326_0
        replace hx326_1:=(HB.out.cell (World.block_lt_of_cell? w _ hx326_1)).trans hx326_1
        replace hx326_2:=(HB.out.cell (World.block_lt_of_cell? w _ hx326_2)).trans hx326_2
        replace hx326_3:=(HB.out.cell (World.block_lt_of_cell? w _ hx326_3)).trans hx326_3
        replace p326:=eq_true p326
        replace q326:=eq_true q326
        refine start_ (n:=10) (S:=fun w'=>w'.cell? (ad325.add ((x5_1).toNat*4))=some (.int .i64 ((rd_T91 l0 x5_1).f0.f0))∧w'.cell? ⟨(ad325.add ((x5_1).toNat*4)).block,(ad325.add ((x5_1).toNat*4)).off+1,none⟩=some (.int .i64 ((rd_T91 l0 x5_1).f0.f1))∧w'.cell? ⟨(ad325.add ((x5_1).toNat*4)).block,(ad325.add ((x5_1).toNat*4)).off+2,none⟩=some (.bool ((rd_T91 l0 x5_1).f1))∧w'.cell? ⟨(ad325.add ((x5_1).toNat*4)).block,(ad325.add ((x5_1).toNat*4)).off+3,none⟩=some (.string ((rd_T91 l0 x5_1).f2))∧w'.cell? (ad326.add ((x5_1).toNat*4))=some (.int .i64 ((rd_T91 l1 x5_1).f0.f0))∧w'.cell? ⟨(ad326.add ((x5_1).toNat*4)).block,(ad326.add ((x5_1).toNat*4)).off+1,none⟩=some (.int .i64 ((rd_T91 l1 x5_1).f0.f1))∧w'.cell? ⟨(ad326.add ((x5_1).toNat*4)).block,(ad326.add ((x5_1).toNat*4)).off+2,none⟩=some (.bool ((rd_T91 l1 x5_1).f1))∧w'.cell? ⟨(ad326.add ((x5_1).toNat*4)).block,(ad326.add ((x5_1).toNat*4)).off+3,none⟩=some (.string ((rd_T91 l1 x5_1).f2))) (ds:=[]) #[O,O,O,O,O,O,O,O,O,O] (by kernel_rfl) rfl rfl ⟨((HB.out.cell (World.block_lt_of_cell? w _ hw325_0)).trans hw325_0),((HB.out.cell (World.block_lt_of_cell? w _ hw325_1)).trans hw325_1),((HB.out.cell (World.block_lt_of_cell? w _ hw325_2)).trans hw325_2),((HB.out.cell (World.block_lt_of_cell? w _ hw325_3)).trans hw325_3),((HB.out.cell (World.block_lt_of_cell? w _ hw326_0)).trans hw326_0),((HB.out.cell (World.block_lt_of_cell? w _ hw326_1)).trans hw326_1),((HB.out.cell (World.block_lt_of_cell? w _ hw326_2)).trans hw326_2),((HB.out.cell (World.block_lt_of_cell? w _ hw326_3)).trans hw326_3)⟩ (fun hHeld=>?_);refine with_tabW laws_eqSibS.tab6 laws_eqSibS.bits6 (fun HT_ HW_=>?_)
        generalize wr.drew=w9 at HB hx325_0 hx325_1 hx325_2 hx325_3 hx326_0 hx326_1 hx326_2 hx326_3 hHeld ⊢
        refine pu_ 0 17 #[I,O,O,O,O,O,O,O,O,O] HT_.out ?_
        refine pu_ 1 18 #[I,I,O,O,O,O,O,O,O,O] HT_.out ?_
        refine pu_ 2 19 #[I,I,I,O,O,O,O,O,O,O] HT_.out ?_
        refine pu_ 4 21 #[I,I,I,O,I,O,O,O,O,O] HT_.out ?_
        refine pu_ 5 22 #[I,I,I,O,I,I,O,O,O,O] HT_.out ?_
        refine pu_ 6 23 #[I,I,I,O,I,I,I,O,O,O] HT_.out ?_
        refine tk8_ 3 20 #[I,I,I,I,I,I,I,O,O,O] HT_.out HW_.out hHeld ?_
        refine tk8_ 7 24 #[I,I,I,I,I,I,I,I,O,O] HT_.out HW_.out hHeld ?_
        refine o1_ 8 25 #[I,I,I,I,I,I,I,I,I,O] HT_.out (fun K hK=>?_)
        refine gs_ Try.func91 #[.agg #[.int .i64 ((rd_T91 l0 x5_1).f0.f0),.int .i64 ((rd_T91 l0 x5_1).f0.f1),.bool ((rd_T91 l0 x5_1).f1),.string ((rd_T91 l0 x5_1).f2)],.agg #[.int .i64 ((rd_T91 l1 x5_1).f0.f0),.int .i64 ((rd_T91 l1 x5_1).f0.f1),.bool ((rd_T91 l1 x5_1).f1),.string ((rd_T91 l1 x5_1).f2)]] ?_
        with_reducible refine (laws_eqSib.calls ((rd_T91 l0 x5_1).f0.f0) ((rd_T91 l0 x5_1).f0.f1) ((rd_T91 l0 x5_1).f1) ((rd_T91 l0 x5_1).f2) ((rd_T91 l1 x5_1).f0.f0) ((rd_T91 l1 x5_1).f0.f1) ((rd_T91 l1 x5_1).f1) ((rd_T91 l1 x5_1).f2) true _ A7.out).mono ?_
        rintro e w10 ⟨rfl,hb⟩
        refine ⟨_,rfl,?_⟩
        have n0_:=Aside0.mk (below_step (z5_ HB.out) hb)
        clear HB
        have HB:=n0_
        clear n0_
        (try clear hb)
        refine hK.out _ _ ⟨((HB.out.cell (World.block_lt_of_cell? w _ hw325_0)).trans hw325_0),((HB.out.cell (World.block_lt_of_cell? w _ hw325_1)).trans hw325_1),((HB.out.cell (World.block_lt_of_cell? w _ hw325_2)).trans hw325_2),((HB.out.cell (World.block_lt_of_cell? w _ hw325_3)).trans hw325_3),((HB.out.cell (World.block_lt_of_cell? w _ hw326_0)).trans hw326_0),((HB.out.cell (World.block_lt_of_cell? w _ hw326_1)).trans hw326_1),((HB.out.cell (World.block_lt_of_cell? w _ hw326_2)).trans hw326_2),((HB.out.cell (World.block_lt_of_cell? w _ hw326_3)).trans hw326_3)⟩ (fun hHeld=>?_)
        clear hK K
        refine nm_ 25 ?_
        refine pu_ 9 26 #[I,I,I,I,I,I,I,I,I,I] HT_.out ?_
        refine done_ (done_of HT_.out (by kernel_rfl)) ?_
        try go_wp2
        go_roundg k1
        case measure=>have:=HK1.out;omega
        case rel=>exact ⟨(wrap64 (x5_1+1)),(z2_),H',⟨by have:=HK1.out;omega⟩,⟨z5_ HB.out⟩⟩
       ·replace c8:=Bool.eq_false_iff.mpr c8
        subst c8
        have H1:(none)=some r:=by rw [if_neg (show ¬ (false=true) by decide)] at H;exact H
        clear H
        have H:=H1
        clear H1
        exact absurd H (by simp)
      ·rw [if_neg c6] at H
       exact absurd H (by simp)
     ·rw [if_neg c5] at H
      exact absurd H (by simp)
    ·rw [if_neg c4] at H
     have c4b0:decide (x5_1<(l0.length:Int))=false:=decide_eq_false c4
     clear c4
     obtain rfl:=Option.some.inj H
     go_wp2
     go_ret
     exact ⟨z8_,z5_ HB.out⟩
 ·rw [if_neg c3] at H
  exact absurd H (by simp)


/-! ### laws_eqSet: function 19 -/
def laws_eqSet.f (k:Nat) (l0_0:List (S56)) (l0_1:List (S91)) (l1_0:List (S56)) (l1_1:List (S91)):Option (Bool):=(laws_eqMarkS.f k l0_0 l1_0).bind fun t330=>(if t330=true then ((laws_eqSibS.f k l0_1 l1_1).bind fun t331=>(if t331=true then (some true) else (none))) else (none))
theorem laws_eqSet.mono:∀ a0 a1 a2 a3 k,LeO (laws_eqSet.f k a0 a1 a2 a3) (laws_eqSet.f (k+1) a0 a1 a2 a3):=by
 intro a0 a1 a2 a3 k
 unfold laws_eqSet.f
 repeat' first
   | (with_reducible exact laws_eqMarkS.mono _ _ _)
   | (with_reducible exact laws_eqSibS.mono _ _ _)
   | (with_reducible exact LeO.refl _)
   | (with_reducible exact LeO.none _)
   | (with_reducible refine LeO.ite ?_ ?_)
   | (with_reducible refine LeO.bind ?_ (fun _=>?_))
   | exact laws_eqMarkS.mono _ _ _
   | exact laws_eqSibS.mono _ _ _
   | exact LeO.none _
   | refine LeO.ite ?_ ?_
   | refine LeO.bind ?_ (fun _=>?_)
set_option maxHeartbeats 8000000 in
set_option maxRecDepth 100000 in
theorem laws_eqSet.calls (k:Nat) (A0_0:Option Addr) (c0_0:Nat) (l0_0:List (S56)) (A0_1:Option Addr) (c0_1:Nat) (l0_1:List (S91)) (A1_0:Option Addr) (c1_0:Nat) (l1_0:List (S56)) (A1_1:Option Addr) (c1_1:Nat) (l1_1:List (S91)) (r:Bool) (w:World) (hr0_0:Kd.C k56 w A0_0 l0_0.length l0_0) (hc0_0:l0_0.length≤c0_0) (hr0_1:Kd.C k91 w A0_1 l0_1.length l0_1) (hc0_1:l0_1.length≤c0_1) (hr1_0:Kd.C k56 w A1_0 l1_0.length l1_0) (hc1_0:l1_0.length≤c1_0) (hr1_1:Kd.C k91 w A1_1 l1_1.length l1_1) (hc1_1:l1_1.length≤c1_1) (h:laws_eqSet.f k l0_0 l0_1 l1_0 l1_1=some r) :
  Calls Try.prog 19 #[.agg #[.slice A0_0 l0_0.length c0_0,.slice A0_1 l0_1.length c0_1],.agg #[.slice A1_0 l1_0.length c1_0,.slice A1_1 l1_1.length c1_1]] w fun e w'=>e = .returned (.bool r)∧Below w.heap.size w w':=by
 have hu40:=Try.underlying40
 have HR0_0:=Aside0.mk hr0_0
 have HC0_0:=Aside0.mk hc0_0
 clear hr0_0 hc0_0
 have HR0_1:=Aside0.mk hr0_1
 have HC0_1:=Aside0.mk hc0_1
 clear hr0_1 hc0_1
 have HR1_0:=Aside0.mk hr1_0
 have HC1_0:=Aside0.mk hc1_0
 clear hr1_0 hc1_0
 have HR1_1:=Aside0.mk hr1_1
 have HC1_1:=Aside0.mk hc1_1
 clear hr1_1 hc1_1
 have HB:=Aside0.mk (Below.refl w.heap.size w)
 have H:((laws_eqMarkS.f k l0_0 l1_0).bind fun t330=>(if t330=true then ((laws_eqSibS.f k l0_1 l1_1).bind fun t331=>(if t331=true then (some true) else (none))) else (none)))=some r:=h
 clear h
 replace H:=Option.bind_eq_some_iff.mp H
 obtain ⟨t330,A30,H⟩:=H
 replace H:(if t330=true then ((laws_eqSibS.f k l0_1 l1_1).bind fun t331=>(if t331=true then (some true) else (none))) else (none))=some r:=H
 have A3:=Aside0.mk A30
 clear A30
 by_cases c4:t330=true
 ·subst c4
  have H1:((laws_eqSibS.f k l0_1 l1_1).bind fun t331=>(if t331=true then (some true) else (none)))=some r:=by rw [if_pos rfl] at H;exact H
  clear H
  have H:=H1
  clear H1
  replace H:=Option.bind_eq_some_iff.mp H
  obtain ⟨t331,A50,H⟩:=H
  replace H:(if t331=true then (some true) else (none))=some r:=H
  have A5:=Aside0.mk A50
  clear A50
  by_cases c6:t331=true
  ·subst c6
   have H1:(some true)=some r:=by rw [if_pos rfl] at H;exact H
   clear H
   have H:=H1
   clear H1
   obtain rfl:=Option.some.inj H
   go_enter Try.func19,Try.ntmps19
   go_wp2_with (first | ((with_reducible refine gd_ 2 ?_);refine be_ 2 #[.slice A0_0 l0_0.length c0_0,.slice A0_1 l0_1.length c0_1] 40 ?_;intro gb328 hg w7 hbox hb;refine as4_ (below_step (z5_ HB.out) hb) (hbox) ((z7_ HB.out:w.heap.size≤gb328)) ((z7_ HB.out:w.heap.size≤gb328)) ?_;clear HB;intro HB BK328 GW328 GE328;clear hb hbox hg) | ((with_reducible refine gd_ 3 ?_);refine be_ 3 #[.slice A1_0 l1_0.length c1_0,.slice A1_1 l1_1.length c1_1] 40 ?_;intro gb329 hg w8 hbox hb;refine as7_ (blkB_ BK328.out hb) (below_step (z4_ HB.out GE328.out) hb) (hbox) ((z11_ HB.out GE328.out:w.heap.size≤gb329)) ((z11_ HB.out GE328.out:w.heap.size≤gb329)) (neL_ BK328.out hg) (neG_ BK328.out hg) ?_;clear BK328 HB;intro BK328 HB BK329 GW329 GE329 NB328_329 NB329_328;clear hb hbox hg;have hnb9:=NB328_329.out;have hnc9:=NB329_328.out;have ⟨hcz10_0,hcz10_1,hfz10_0,hfz10_1⟩:=cz2_ BK328.out;have ⟨hcz11_0,hcz11_1,hfz11_0,hfz11_1⟩:=cz2_ BK329.out) | ((with_reducible refine gc_ 33 ?_);refine gl_ (some 9) Try.func33 #[.slice A0_0 l0_0.length c0_0,.slice A1_0 l1_0.length c1_0] ?_;(with_reducible refine (laws_eqMarkS.calls k _ _ l0_0 _ _ l1_0 true _ ?s1 ?s2 ?s3 ?s4 A3.out).mono ?_);(case s1=>repeat (first | exact (Kd.C_below HR0_0.out HB.out) | (with_reducible refine Kd.C_alloc ?_ _) | (with_reducible refine Kd.C_drewN ?_ _) | (with_reducible refine Kd.C_drew ?_)));(case s2=>exact HC0_0.out);(case s3=>repeat (first | exact (Kd.C_below HR1_0.out HB.out) | (with_reducible refine Kd.C_alloc ?_ _) | (with_reducible refine Kd.C_drewN ?_ _) | (with_reducible refine Kd.C_drew ?_)));(case s4=>exact HC1_0.out);rintro e w12 ⟨rfl,hb⟩;refine ⟨_,rfl,?_⟩;refine as3_ (blkB_ BK328.out hb) (blkB_ BK329.out hb) (below_step (z6_ HB.out GE328.out GE329.out) hb) ?_;clear BK328 BK329 HB;intro BK328 BK329 HB;(try clear hb);have ⟨hcz13_0,hcz13_1,hfz13_0,hfz13_1⟩:=cz2_ BK328.out;have ⟨hcz14_0,hcz14_1,hfz14_0,hfz14_1⟩:=cz2_ BK329.out) | ((with_reducible refine gc_ 57 ?_);refine gl_ (some 15) Try.func57 #[.slice A0_1 l0_1.length c0_1,.slice A1_1 l1_1.length c1_1] ?_;(with_reducible refine (laws_eqSibS.calls k _ _ l0_1 _ _ l1_1 true _ ?s1 ?s2 ?s3 ?s4 A5.out).mono ?_);(case s1=>repeat (first | exact (Kd.C_below HR0_1.out HB.out) | (with_reducible refine Kd.C_alloc ?_ _) | (with_reducible refine Kd.C_drewN ?_ _) | (with_reducible refine Kd.C_drew ?_)));(case s2=>exact HC0_1.out);(case s3=>repeat (first | exact (Kd.C_below HR1_1.out HB.out) | (with_reducible refine Kd.C_alloc ?_ _) | (with_reducible refine Kd.C_drewN ?_ _) | (with_reducible refine Kd.C_drew ?_)));(case s4=>exact HC1_1.out);rintro e w15 ⟨rfl,hb⟩;refine ⟨_,rfl,?_⟩;refine as3_ (blkB_ BK328.out hb) (blkB_ BK329.out hb) (below_step (z6_ HB.out GE328.out GE329.out) hb) ?_;clear BK328 BK329 HB;intro BK328 BK329 HB;(try clear hb)))
   go_ret
   exact ⟨z8_,z6_ HB.out GE328.out GE329.out⟩
  ·replace c6:=Bool.eq_false_iff.mpr c6
   subst c6
   have H1:(none)=some r:=by rw [if_neg (show ¬ (false=true) by decide)] at H;exact H
   clear H
   have H:=H1
   clear H1
   exact absurd H (by simp)
 ·replace c4:=Bool.eq_false_iff.mpr c4
  subst c4
  have H1:(none)=some r:=by rw [if_neg (show ¬ (false=true) by decide)] at H;exact H
  clear H
  have H:=H1
  clear H1
  exact absurd H (by simp)


/-! ### laws_eqMsg: function 18 -/
def laws_eqMsg.f (k:Nat) (a0_0:Int) (a0_1:Int) (a0_2:Int) (a0_3:Int) (a0_4:ByteArray) (a0_5:Int) (l0_6:List (S56)) (l0_7:List (S91)) (a1_0:Int) (a1_1:Int) (a1_2:Int) (a1_3:Int) (a1_4:ByteArray) (a1_5:Int) (l1_6:List (S56)) (l1_7:List (S91)):Option (Bool):=if a0_0=a1_0 then (if a0_1=a1_1 then (if a0_2=a1_2 then (if a0_3=a1_3 then (if a0_4.toList=a1_4.toList then (if a0_5=a1_5 then ((laws_eqSet.f k l0_6 l0_7 l1_6 l1_7).bind fun t334=>(if t334=true then (some true) else (none))) else (none)) else (none)) else (none)) else (none)) else (none)) else (none)
theorem laws_eqMsg.mono:∀ a0 a1 a2 a3 a4 a5 a6 a7 a8 a9 a10 a11 a12 a13 a14 a15 k,LeO (laws_eqMsg.f k a0 a1 a2 a3 a4 a5 a6 a7 a8 a9 a10 a11 a12 a13 a14 a15) (laws_eqMsg.f (k+1) a0 a1 a2 a3 a4 a5 a6 a7 a8 a9 a10 a11 a12 a13 a14 a15):=by
 intro a0 a1 a2 a3 a4 a5 a6 a7 a8 a9 a10 a11 a12 a13 a14 a15 k
 unfold laws_eqMsg.f
 repeat' first
   | (with_reducible exact laws_eqSet.mono _ _ _ _ _)
   | (with_reducible exact LeO.refl _)
   | (with_reducible exact LeO.none _)
   | (with_reducible refine LeO.ite ?_ ?_)
   | (with_reducible refine LeO.bind ?_ (fun _=>?_))
   | exact laws_eqSet.mono _ _ _ _ _
   | exact LeO.none _
   | refine LeO.ite ?_ ?_
   | refine LeO.bind ?_ (fun _=>?_)
set_option maxHeartbeats 8000000 in
set_option maxRecDepth 100000 in
theorem laws_eqMsg.calls (k:Nat) (a0_0:Int) (a0_1:Int) (a0_2:Int) (a0_3:Int) (a0_4:ByteArray) (a0_5:Int) (A0_6:Option Addr) (c0_6:Nat) (l0_6:List (S56)) (A0_7:Option Addr) (c0_7:Nat) (l0_7:List (S91)) (a1_0:Int) (a1_1:Int) (a1_2:Int) (a1_3:Int) (a1_4:ByteArray) (a1_5:Int) (A1_6:Option Addr) (c1_6:Nat) (l1_6:List (S56)) (A1_7:Option Addr) (c1_7:Nat) (l1_7:List (S91)) (r:Bool) (w:World) (hr0_6:Kd.C k56 w A0_6 l0_6.length l0_6) (hc0_6:l0_6.length≤c0_6) (hr0_7:Kd.C k91 w A0_7 l0_7.length l0_7) (hc0_7:l0_7.length≤c0_7) (hr1_6:Kd.C k56 w A1_6 l1_6.length l1_6) (hc1_6:l1_6.length≤c1_6) (hr1_7:Kd.C k91 w A1_7 l1_7.length l1_7) (hc1_7:l1_7.length≤c1_7) (h:laws_eqMsg.f k a0_0 a0_1 a0_2 a0_3 a0_4 a0_5 l0_6 l0_7 a1_0 a1_1 a1_2 a1_3 a1_4 a1_5 l1_6 l1_7=some r) :
  Calls Try.prog 18 #[.agg #[.int .i64 a0_0,.int .i64 a0_1,.int .i64 a0_2,.int .i64 a0_3,.string a0_4,.int .i64 a0_5,.slice A0_6 l0_6.length c0_6,.slice A0_7 l0_7.length c0_7],.agg #[.int .i64 a1_0,.int .i64 a1_1,.int .i64 a1_2,.int .i64 a1_3,.string a1_4,.int .i64 a1_5,.slice A1_6 l1_6.length c1_6,.slice A1_7 l1_7.length c1_7]] w fun e w'=>e = .returned (.bool r)∧Below w.heap.size w w':=by
 have hu42:=Try.underlying42
 have hu40:=Try.underlying40
 have HR0_6:=Aside0.mk hr0_6
 have HC0_6:=Aside0.mk hc0_6
 clear hr0_6 hc0_6
 have HR0_7:=Aside0.mk hr0_7
 have HC0_7:=Aside0.mk hc0_7
 clear hr0_7 hc0_7
 have HR1_6:=Aside0.mk hr1_6
 have HC1_6:=Aside0.mk hc1_6
 clear hr1_6 hc1_6
 have HR1_7:=Aside0.mk hr1_7
 have HC1_7:=Aside0.mk hc1_7
 clear hr1_7 hc1_7
 have HB:=Aside0.mk (Below.refl w.heap.size w)
 have H:(if a0_0=a1_0 then (if a0_1=a1_1 then (if a0_2=a1_2 then (if a0_3=a1_3 then (if a0_4.toList=a1_4.toList then (if a0_5=a1_5 then ((laws_eqSet.f k l0_6 l0_7 l1_6 l1_7).bind fun t334=>(if t334=true then (some true) else (none))) else (none)) else (none)) else (none)) else (none)) else (none)) else (none))=some r:=h
 clear h
 by_cases c3:a0_0=a1_0
 ·rw [if_pos c3] at H
  have c3b0:(a0_0 == a1_0)=true:=beq_iff_eq.mpr c3
  have c3b1:(a0_0 != a1_0)=false:=bne_eq_false_iff_eq.mpr c3
  clear c3
  by_cases c4:a0_1=a1_1
  ·rw [if_pos c4] at H
   have c4b0:(a0_1 == a1_1)=true:=beq_iff_eq.mpr c4
   have c4b1:(a0_1 != a1_1)=false:=bne_eq_false_iff_eq.mpr c4
   clear c4
   by_cases c5:a0_2=a1_2
   ·rw [if_pos c5] at H
    have c5b0:(a0_2 == a1_2)=true:=beq_iff_eq.mpr c5
    have c5b1:(a0_2 != a1_2)=false:=bne_eq_false_iff_eq.mpr c5
    clear c5
    by_cases c6:a0_3=a1_3
    ·rw [if_pos c6] at H
     have c6b0:(a0_3 == a1_3)=true:=beq_iff_eq.mpr c6
     have c6b1:(a0_3 != a1_3)=false:=bne_eq_false_iff_eq.mpr c6
     clear c6
     by_cases c7:a0_4.toList=a1_4.toList
     ·rw [if_pos c7] at H
      have c7b0:(a0_4.toList == a1_4.toList)=true:=beq_iff_eq.mpr c7
      have c7b1:(a0_4.toList != a1_4.toList)=false:=bne_eq_false_iff_eq.mpr c7
      clear c7
      by_cases c8:a0_5=a1_5
      ·rw [if_pos c8] at H
       have c8b0:(a0_5 == a1_5)=true:=beq_iff_eq.mpr c8
       have c8b1:(a0_5 != a1_5)=false:=bne_eq_false_iff_eq.mpr c8
       clear c8
       replace H:=Option.bind_eq_some_iff.mp H
       obtain ⟨t334,A90,H⟩:=H
       replace H:(if t334=true then (some true) else (none))=some r:=H
       have A9:=Aside0.mk A90
       clear A90
       by_cases c10:t334=true
       ·subst c10
        have H1:(some true)=some r:=by rw [if_pos rfl] at H;exact H
        clear H
        have H:=H1
        clear H1
        obtain rfl:=Option.some.inj H
        go_enter Try.func18,Try.ntmps18
        go_wp2_with (first | ((with_reducible refine gd_ 2 ?_);refine be_ 2 #[.int .i64 a0_0,.int .i64 a0_1,.int .i64 a0_2,.int .i64 a0_3,.string a0_4,.int .i64 a0_5,.slice A0_6 l0_6.length c0_6,.slice A0_7 l0_7.length c0_7] 42 ?_;intro gb332 hg w11 hbox hb;refine as4_ (below_step (z5_ HB.out) hb) (hbox) ((z7_ HB.out:w.heap.size≤gb332)) ((z7_ HB.out:w.heap.size≤gb332)) ?_;clear HB;intro HB BK332 GW332 GE332;clear hb hbox hg) | ((with_reducible refine gd_ 3 ?_);refine be_ 3 #[.int .i64 a1_0,.int .i64 a1_1,.int .i64 a1_2,.int .i64 a1_3,.string a1_4,.int .i64 a1_5,.slice A1_6 l1_6.length c1_6,.slice A1_7 l1_7.length c1_7] 42 ?_;intro gb333 hg w12 hbox hb;refine as7_ (blkB_ BK332.out hb) (below_step (z4_ HB.out GE332.out) hb) (hbox) ((z11_ HB.out GE332.out:w.heap.size≤gb333)) ((z11_ HB.out GE332.out:w.heap.size≤gb333)) (neL_ BK332.out hg) (neG_ BK332.out hg) ?_;clear BK332 HB;intro BK332 HB BK333 GW333 GE333 NB332_333 NB333_332;clear hb hbox hg;have hnb13:=NB332_333.out;have hnc13:=NB333_332.out;have ⟨hcz14_0,hcz14_1,hcz14_2,hcz14_3,hcz14_4,hcz14_5,hcz14_6,hcz14_7,hfz14_0,hfz14_1,hfz14_2,hfz14_3,hfz14_4,hfz14_5,hfz14_6,hfz14_7⟩:=cz8_ BK332.out;have ⟨hcz15_0,hcz15_1,hcz15_2,hcz15_3,hcz15_4,hcz15_5,hcz15_6,hcz15_7,hfz15_0,hfz15_1,hfz15_2,hfz15_3,hfz15_4,hfz15_5,hfz15_6,hfz15_7⟩:=cz8_ BK333.out) | ((with_reducible refine gc_ 19 ?_);refine gl_ (some 39) Try.func19 #[.agg #[.slice A0_6 l0_6.length c0_6,.slice A0_7 l0_7.length c0_7],.agg #[.slice A1_6 l1_6.length c1_6,.slice A1_7 l1_7.length c1_7]] ?_;(with_reducible refine (laws_eqSet.calls k _ _ l0_6 _ _ l0_7 _ _ l1_6 _ _ l1_7 true _ ?s1 ?s2 ?s3 ?s4 ?s5 ?s6 ?s7 ?s8 A9.out).mono ?_);(case s1=>repeat (first | exact (Kd.C_below HR0_6.out HB.out) | (with_reducible refine Kd.C_alloc ?_ _) | (with_reducible refine Kd.C_drewN ?_ _) | (with_reducible refine Kd.C_drew ?_)));(case s2=>exact HC0_6.out);(case s3=>repeat (first | exact (Kd.C_below HR0_7.out HB.out) | (with_reducible refine Kd.C_alloc ?_ _) | (with_reducible refine Kd.C_drewN ?_ _) | (with_reducible refine Kd.C_drew ?_)));(case s4=>exact HC0_7.out);(case s5=>repeat (first | exact (Kd.C_below HR1_6.out HB.out) | (with_reducible refine Kd.C_alloc ?_ _) | (with_reducible refine Kd.C_drewN ?_ _) | (with_reducible refine Kd.C_drew ?_)));(case s6=>exact HC1_6.out);(case s7=>repeat (first | exact (Kd.C_below HR1_7.out HB.out) | (with_reducible refine Kd.C_alloc ?_ _) | (with_reducible refine Kd.C_drewN ?_ _) | (with_reducible refine Kd.C_drew ?_)));(case s8=>exact HC1_7.out);rintro e w16 ⟨rfl,hb⟩;refine ⟨_,rfl,?_⟩;refine as3_ (blkB_ BK332.out hb) (blkB_ BK333.out hb) (below_step (z6_ HB.out GE332.out GE333.out) hb) ?_;clear BK332 BK333 HB;intro BK332 BK333 HB;(try clear hb)))
        go_ret
        exact ⟨z8_,z6_ HB.out GE332.out GE333.out⟩
       ·replace c10:=Bool.eq_false_iff.mpr c10
        subst c10
        have H1:(none)=some r:=by rw [if_neg (show ¬ (false=true) by decide)] at H;exact H
        clear H
        have H:=H1
        clear H1
        exact absurd H (by simp)
      ·rw [if_neg c8] at H
       exact absurd H (by simp)
     ·rw [if_neg c7] at H
      exact absurd H (by simp)
    ·rw [if_neg c6] at H
     exact absurd H (by simp)
   ·rw [if_neg c5] at H
    exact absurd H (by simp)
  ·rw [if_neg c4] at H
   exact absurd H (by simp)
 ·rw [if_neg c3] at H
  exact absurd H (by simp)


/-! ### laws_eqMsgOut: function 17 -/
def laws_eqMsgOut.f (k:Nat) (a0_0:Int) (a0_1:Int) (a0_2:Int) (a0_3:Int) (a0_4:ByteArray) (a0_5:Int) (l0_6:List (S56)) (l0_7:List (S91)) (a0_8:Int) (a1_0:Int) (a1_1:Int) (a1_2:Int) (a1_3:Int) (a1_4:ByteArray) (a1_5:Int) (l1_6:List (S56)) (l1_7:List (S91)) (a1_8:Int):Option (Bool):=(laws_eqMsg.f k a0_0 a0_1 a0_2 a0_3 a0_4 a0_5 l0_6 l0_7 a1_0 a1_1 a1_2 a1_3 a1_4 a1_5 l1_6 l1_7).bind fun t337=>(if t337=true then (if a0_8=a1_8 then (some true) else (none)) else (none))
theorem laws_eqMsgOut.mono:∀ a0 a1 a2 a3 a4 a5 a6 a7 a8 a9 a10 a11 a12 a13 a14 a15 a16 a17 k,LeO (laws_eqMsgOut.f k a0 a1 a2 a3 a4 a5 a6 a7 a8 a9 a10 a11 a12 a13 a14 a15 a16 a17) (laws_eqMsgOut.f (k+1) a0 a1 a2 a3 a4 a5 a6 a7 a8 a9 a10 a11 a12 a13 a14 a15 a16 a17):=by
 intro a0 a1 a2 a3 a4 a5 a6 a7 a8 a9 a10 a11 a12 a13 a14 a15 a16 a17 k
 unfold laws_eqMsgOut.f
 repeat' first
   | (with_reducible exact laws_eqMsg.mono _ _ _ _ _ _ _ _ _ _ _ _ _ _ _ _ _)
   | (with_reducible exact LeO.refl _)
   | (with_reducible exact LeO.none _)
   | (with_reducible refine LeO.ite ?_ ?_)
   | (with_reducible refine LeO.bind ?_ (fun _=>?_))
   | exact laws_eqMsg.mono _ _ _ _ _ _ _ _ _ _ _ _ _ _ _ _ _
   | exact LeO.none _
   | refine LeO.ite ?_ ?_
   | refine LeO.bind ?_ (fun _=>?_)
set_option maxHeartbeats 8000000 in
set_option maxRecDepth 100000 in
theorem laws_eqMsgOut.calls (k:Nat) (a0_0:Int) (a0_1:Int) (a0_2:Int) (a0_3:Int) (a0_4:ByteArray) (a0_5:Int) (A0_6:Option Addr) (c0_6:Nat) (l0_6:List (S56)) (A0_7:Option Addr) (c0_7:Nat) (l0_7:List (S91)) (a0_8:Int) (a1_0:Int) (a1_1:Int) (a1_2:Int) (a1_3:Int) (a1_4:ByteArray) (a1_5:Int) (A1_6:Option Addr) (c1_6:Nat) (l1_6:List (S56)) (A1_7:Option Addr) (c1_7:Nat) (l1_7:List (S91)) (a1_8:Int) (r:Bool) (w:World) (hr0_6:Kd.C k56 w A0_6 l0_6.length l0_6) (hc0_6:l0_6.length≤c0_6) (hr0_7:Kd.C k91 w A0_7 l0_7.length l0_7) (hc0_7:l0_7.length≤c0_7) (hr1_6:Kd.C k56 w A1_6 l1_6.length l1_6) (hc1_6:l1_6.length≤c1_6) (hr1_7:Kd.C k91 w A1_7 l1_7.length l1_7) (hc1_7:l1_7.length≤c1_7) (h:laws_eqMsgOut.f k a0_0 a0_1 a0_2 a0_3 a0_4 a0_5 l0_6 l0_7 a0_8 a1_0 a1_1 a1_2 a1_3 a1_4 a1_5 l1_6 l1_7 a1_8=some r) :
  Calls Try.prog 17 #[.agg #[.int .i64 a0_0,.int .i64 a0_1,.int .i64 a0_2,.int .i64 a0_3,.string a0_4,.int .i64 a0_5,.slice A0_6 l0_6.length c0_6,.slice A0_7 l0_7.length c0_7,.int .i64 a0_8],.agg #[.int .i64 a1_0,.int .i64 a1_1,.int .i64 a1_2,.int .i64 a1_3,.string a1_4,.int .i64 a1_5,.slice A1_6 l1_6.length c1_6,.slice A1_7 l1_7.length c1_7,.int .i64 a1_8]] w fun e w'=>e = .returned (.bool r)∧Below w.heap.size w w':=by
 have hu44:=Try.underlying44
 have hu42:=Try.underlying42
 have HR0_6:=Aside0.mk hr0_6
 have HC0_6:=Aside0.mk hc0_6
 clear hr0_6 hc0_6
 have HR0_7:=Aside0.mk hr0_7
 have HC0_7:=Aside0.mk hc0_7
 clear hr0_7 hc0_7
 have HR1_6:=Aside0.mk hr1_6
 have HC1_6:=Aside0.mk hc1_6
 clear hr1_6 hc1_6
 have HR1_7:=Aside0.mk hr1_7
 have HC1_7:=Aside0.mk hc1_7
 clear hr1_7 hc1_7
 have HB:=Aside0.mk (Below.refl w.heap.size w)
 have H:((laws_eqMsg.f k a0_0 a0_1 a0_2 a0_3 a0_4 a0_5 l0_6 l0_7 a1_0 a1_1 a1_2 a1_3 a1_4 a1_5 l1_6 l1_7).bind fun t337=>(if t337=true then (if a0_8=a1_8 then (some true) else (none)) else (none)))=some r:=h
 clear h
 replace H:=Option.bind_eq_some_iff.mp H
 obtain ⟨t337,A30,H⟩:=H
 replace H:(if t337=true then (if a0_8=a1_8 then (some true) else (none)) else (none))=some r:=H
 have A3:=Aside0.mk A30
 clear A30
 by_cases c4:t337=true
 ·subst c4
  have H1:(if a0_8=a1_8 then (some true) else (none))=some r:=by rw [if_pos rfl] at H;exact H
  clear H
  have H:=H1
  clear H1
  by_cases c5:a0_8=a1_8
  ·rw [if_pos c5] at H
   have c5b0:(a0_8 == a1_8)=true:=beq_iff_eq.mpr c5
   have c5b1:(a0_8 != a1_8)=false:=bne_eq_false_iff_eq.mpr c5
   clear c5
   obtain rfl:=Option.some.inj H
   go_enter Try.func17,Try.ntmps17
   go_wp2_with (first | ((with_reducible refine gd_ 2 ?_);refine be_ 2 #[.int .i64 a0_0,.int .i64 a0_1,.int .i64 a0_2,.int .i64 a0_3,.string a0_4,.int .i64 a0_5,.slice A0_6 l0_6.length c0_6,.slice A0_7 l0_7.length c0_7,.int .i64 a0_8] 44 ?_;intro gb335 hg w6 hbox hb;refine as4_ (below_step (z5_ HB.out) hb) (hbox) ((z7_ HB.out:w.heap.size≤gb335)) ((z7_ HB.out:w.heap.size≤gb335)) ?_;clear HB;intro HB BK335 GW335 GE335;clear hb hbox hg) | ((with_reducible refine gd_ 3 ?_);refine be_ 3 #[.int .i64 a1_0,.int .i64 a1_1,.int .i64 a1_2,.int .i64 a1_3,.string a1_4,.int .i64 a1_5,.slice A1_6 l1_6.length c1_6,.slice A1_7 l1_7.length c1_7,.int .i64 a1_8] 44 ?_;intro gb336 hg w7 hbox hb;refine as7_ (blkB_ BK335.out hb) (below_step (z4_ HB.out GE335.out) hb) (hbox) ((z11_ HB.out GE335.out:w.heap.size≤gb336)) ((z11_ HB.out GE335.out:w.heap.size≤gb336)) (neL_ BK335.out hg) (neG_ BK335.out hg) ?_;clear BK335 HB;intro BK335 HB BK336 GW336 GE336 NB335_336 NB336_335;clear hb hbox hg;have hnb8:=NB335_336.out;have hnc8:=NB336_335.out;have ⟨hcz9_0,hcz9_1,hcz9_2,hcz9_3,hcz9_4,hcz9_5,hcz9_6,hcz9_7,hcz9_8,hfz9_0,hfz9_1,hfz9_2,hfz9_3,hfz9_4,hfz9_5,hfz9_6,hfz9_7,hfz9_8⟩:=cz9_ BK335.out;have ⟨hcz10_0,hcz10_1,hcz10_2,hcz10_3,hcz10_4,hcz10_5,hcz10_6,hcz10_7,hcz10_8,hfz10_0,hfz10_1,hfz10_2,hfz10_3,hfz10_4,hfz10_5,hfz10_6,hfz10_7,hfz10_8⟩:=cz9_ BK336.out) | ((with_reducible refine gc_ 18 ?_);refine gl_ (some 9) Try.func18 #[.agg #[.int .i64 a0_0,.int .i64 a0_1,.int .i64 a0_2,.int .i64 a0_3,.string a0_4,.int .i64 a0_5,.slice A0_6 l0_6.length c0_6,.slice A0_7 l0_7.length c0_7],.agg #[.int .i64 a1_0,.int .i64 a1_1,.int .i64 a1_2,.int .i64 a1_3,.string a1_4,.int .i64 a1_5,.slice A1_6 l1_6.length c1_6,.slice A1_7 l1_7.length c1_7]] ?_;(with_reducible refine (laws_eqMsg.calls k a0_0 a0_1 a0_2 a0_3 a0_4 a0_5 _ _ l0_6 _ _ l0_7 a1_0 a1_1 a1_2 a1_3 a1_4 a1_5 _ _ l1_6 _ _ l1_7 true _ ?s1 ?s2 ?s3 ?s4 ?s5 ?s6 ?s7 ?s8 A3.out).mono ?_);(case s1=>repeat (first | exact (Kd.C_below HR0_6.out HB.out) | (with_reducible refine Kd.C_alloc ?_ _) | (with_reducible refine Kd.C_drewN ?_ _) | (with_reducible refine Kd.C_drew ?_)));(case s2=>exact HC0_6.out);(case s3=>repeat (first | exact (Kd.C_below HR0_7.out HB.out) | (with_reducible refine Kd.C_alloc ?_ _) | (with_reducible refine Kd.C_drewN ?_ _) | (with_reducible refine Kd.C_drew ?_)));(case s4=>exact HC0_7.out);(case s5=>repeat (first | exact (Kd.C_below HR1_6.out HB.out) | (with_reducible refine Kd.C_alloc ?_ _) | (with_reducible refine Kd.C_drewN ?_ _) | (with_reducible refine Kd.C_drew ?_)));(case s6=>exact HC1_6.out);(case s7=>repeat (first | exact (Kd.C_below HR1_7.out HB.out) | (with_reducible refine Kd.C_alloc ?_ _) | (with_reducible refine Kd.C_drewN ?_ _) | (with_reducible refine Kd.C_drew ?_)));(case s8=>exact HC1_7.out);rintro e w11 ⟨rfl,hb⟩;refine ⟨_,rfl,?_⟩;refine as3_ (blkB_ BK335.out hb) (blkB_ BK336.out hb) (below_step (z6_ HB.out GE335.out GE336.out) hb) ?_;clear BK335 BK336 HB;intro BK335 BK336 HB;(try clear hb);have ⟨hcz12_0,hcz12_1,hcz12_2,hcz12_3,hcz12_4,hcz12_5,hcz12_6,hcz12_7,hcz12_8,hfz12_0,hfz12_1,hfz12_2,hfz12_3,hfz12_4,hfz12_5,hfz12_6,hfz12_7,hfz12_8⟩:=cz9_ BK335.out;have ⟨hcz13_0,hcz13_1,hcz13_2,hcz13_3,hcz13_4,hcz13_5,hcz13_6,hcz13_7,hcz13_8,hfz13_0,hfz13_1,hfz13_2,hfz13_3,hfz13_4,hfz13_5,hfz13_6,hfz13_7,hfz13_8⟩:=cz9_ BK336.out))
   go_ret
   exact ⟨z8_,z6_ HB.out GE335.out GE336.out⟩
  ·rw [if_neg c5] at H
   exact absurd H (by simp)
 ·replace c4:=Bool.eq_false_iff.mpr c4
  subst c4
  have H1:(none)=some r:=by rw [if_neg (show ¬ (false=true) by decide)] at H;exact H
  clear H
  have H:=H1
  clear H1
  exact absurd H (by simp)


/-! ### laws_markMarkS: function 34 -/
def laws_markMarkS.l0:Nat→List (S56)→Int→Int→Option (Int × (List (S56)))
 | 0,_,_,_=>none
 | k+1,x0,x1,x5=>if x5<(x0.length:Int) then (if 0≤x5 then ((some (x0.set (x5:Int).toNat (⟨x1,(rd_T56 x0 x5).f1⟩:S56):List (S56))).bind fun y338=>(laws_markMarkS.l0 k (y338.set (x5:Int).toNat (⟨(rd_T56 y338 x5).f0,wrap64 (x1+1)⟩:S56)) (wrap64 ((wrap64 (x1+1))+1)) (wrap64 (x5+1)))) else (none)) else (some (x1,x0))
def laws_markMarkS.f (k:Nat) (l0:List (S56)) (a1:Int):Option (Int × (List (S56))):=laws_markMarkS.l0 k l0 a1 0
theorem laws_markMarkS.mono_l:∀ k,(∀ y0 y1 y2,LeO (laws_markMarkS.l0 k y0 y1 y2) (laws_markMarkS.l0 (k+1) y0 y1 y2))
 | 0=>fun _ _ _ r h=>by simp [laws_markMarkS.l0] at h
 | k+1=>by
  have ih0:=laws_markMarkS.mono_l k
  ·intro y0 y1 y2
   unfold laws_markMarkS.l0
   repeat' first
   | (with_reducible exact ih0 _ _ _)
   | (with_reducible exact LeO.refl _)
   | (with_reducible exact LeO.none _)
   | (with_reducible refine LeO.ite ?_ ?_)
   | (with_reducible refine LeO.bind ?_ (fun _=>?_))
   | exact ih0 _ _ _
   | exact LeO.none _
   | refine LeO.ite ?_ ?_
   | refine LeO.bind ?_ (fun _=>?_)
theorem laws_markMarkS.mono:∀ a0 a1 k,LeO (laws_markMarkS.f k a0 a1) (laws_markMarkS.f (k+1) a0 a1):=by
 intro a0 a1 k
 have ih0:=laws_markMarkS.mono_l k
 unfold laws_markMarkS.f
 repeat' first
   | (with_reducible exact ih0 _ _ _)
   | (with_reducible exact LeO.refl _)
   | (with_reducible exact LeO.none _)
   | (with_reducible refine LeO.ite ?_ ?_)
   | (with_reducible refine LeO.bind ?_ (fun _=>?_))
   | exact ih0 _ _ _
   | exact LeO.none _
   | refine LeO.ite ?_ ?_
   | refine LeO.bind ?_ (fun _=>?_)
set_option maxHeartbeats 8000000 in
set_option maxRecDepth 100000 in
theorem laws_markMarkS.calls (k:Nat) (P0_:Nat→Prop) (u9000_:Value) (l0:List (S56)) (a1:Int) (r1:Int) (r2:List (S56)) (w0 w:World) (hB:Below w0.heap.size w0 w) (ho0:Kd.R k56 56 w w0.heap.size P0_ u9000_ l0) (h:laws_markMarkS.f k l0 a1=some (r1,r2)) :
  Calls Try.prog 34 #[u9000_,.int .i64 a1] w fun e w'=>e = .returned (.int .i64 r1)∧Kd.R k56 56 w' w0.heap.size (fun k_=>(P0_ k_∨w.heap.size≤k_)) u9000_ r2∧Below w0.heap.size w0 w'∧Kept w w' (fun k_=>P0_ k_):=by
 have HO0:=Aside0.mk (show Kd.R k56 56 w w0.heap.size (fun k_=>(P0_ k_∨w.heap.size≤k_)) u9000_ l0 from Kd.R_mono ho0 (fun k_ hk=>(.inl hk)))
 have HK:=Aside0.mk (Kept.refl w (fun k_=>P0_ k_))
 have HW0:=Aside0.mk hB.size
 have HB:=Aside0.mk hB
 clear hB
 have H:(laws_markMarkS.l0 k l0 a1 0)=some (r1,r2):=h
 clear h
 have H':=Aside0.mk H
 clear H
 go_enter Try.func34,Try.ntmps34
 go_wp2
 go_loopg [1,5] k (fun kq v1 v5 w'=>∃ (x0_1:List (S56)) (x1_1:Int) (x5_1:Int),v1 = .int .i64 x1_1∧v5 = .int .i64 x5_1∧Aside0 (laws_markMarkS.l0 kq x0_1 x1_1 x5_1=some (r1,r2))∧Aside0 (kq≤k)∧Aside0 (Kd.R k56 56 w' w0.heap.size (fun k_=>(P0_ k_∨w.heap.size≤k_)) u9000_ x0_1)∧Aside0 (Kept w w' (fun k_=>P0_ k_))∧Aside0 (Below w0.heap.size w0 w'))
 case atStart=>exact ⟨(l0),(a1),(0),(z2_),(z2_),H',⟨Nat.le_refl _⟩,⟨z0_ HO0.out⟩,⟨z24_ HK.out⟩,⟨z5_ HB.out⟩⟩
 case round =>
  clear H'
  try clear p2
  obtain ⟨x0_1,x1_1,x5_1,rfl,rfl,HA,HK1,HO_0,HK,HB⟩:=hrel
  cases gk with
  | zero=>exact absurd HA.out (by simp [laws_markMarkS.l0])
  | succ k1 =>
   have H:=HA.out
   clear HA
   simp only [laws_markMarkS.l0] at H
   by_cases c3:x5_1<(x0_1.length:Int)
   ·rw [if_pos c3] at H
    have c3b0:decide (x5_1<(x0_1.length:Int))=true:=decide_eq_true c3
    clear c3
    by_cases c4:0≤x5_1
    ·rw [if_pos c4] at H
     have c4b0:decide (0≤x5_1)=true:=decide_eq_true c4
     clear c4
     obtain ⟨y338,hy338⟩:∃ y_:List (S56),y_=(x0_1.set (x5_1:Int).toNat (⟨x1_1,(rd_T56 x0_1 x5_1).f1⟩:S56)):=⟨_,rfl⟩
     replace H:(laws_markMarkS.l0 k1 (y338.set (x5_1:Int).toNat (⟨(rd_T56 y338 x5_1).f0,wrap64 (x1_1+1)⟩:S56)) (wrap64 ((wrap64 (x1_1+1))+1)) (wrap64 (x5_1+1)))=some (r1,r2):=by first | (rw [hy338];with_reducible exact H) | (have H2_:=(Option.bind_some _ _).symm.trans H;rw [hy338];with_reducible exact H2_) | (have H2_:=(Option.bind_some _ _).symm.trans H;with_reducible exact H2_) | with_reducible exact H | (rw [hy338];exact H) | exact H
     have Ny338:=Aside0.mk hy338
     clear hy338
     obtain ⟨y339,hy339⟩:∃ y_:List (S56),y_=(y338.set (x5_1:Int).toNat (⟨(rd_T56 y338 x5_1).f0,wrap64 (x1_1+1)⟩:S56)):=⟨_,rfl⟩
     replace H:(laws_markMarkS.l0 k1 y339 (wrap64 ((wrap64 (x1_1+1))+1)) (wrap64 (x5_1+1)))=some (r1,r2):=by first | (rw [hy339];with_reducible exact H) | (have H2_:=(Option.bind_some _ _).symm.trans H;rw [hy339];with_reducible exact H2_) | (have H2_:=(Option.bind_some _ _).symm.trans H;with_reducible exact H2_) | with_reducible exact H | (rw [hy339];exact H) | exact H
     have Ny339:=Aside0.mk hy339
     clear hy339
     have H':=Aside0.mk H
     clear H
     obtain ⟨Ao7,co7,eo7⟩:=Kd.R_slice HO_0.out
     subst eo7
     have p5:0≤(x5_1:Int):=of_decide_eq_true (z1_)
     have q5:(x5_1:Int)<((x0_1.length:Int):Int):=of_decide_eq_true (z1_)
     obtain ⟨go5,co5,eo5,gb5,gl5,cl5,HG5⟩:=Kd.R_form HO_0.out (by omega)
     (first | cases eo5 | (injection eo5 with ea_ en_ ec_;(first | subst ea_ | (injection ea_ with ea_;subst ea_));subst ec_;clear en_))
     have GB5:=Aside0.mk gb5
     have GG5:=Aside0.mk HG5
     clear gb5 gl5 HG5
     have HMgo5:=Aside0.mk (show (P0_ go5∨w.heap.size≤go5) from (HO_0.out.1 _ rfl))
     obtain ⟨ce5,hcl5,hM5,hcc5,hfr5⟩:=Kd.R_elem HO_0.out z56 (x5_1:Int) p5 q5
     obtain rfl:=k56_openM hM5
     have hx5_0:wr.cell? ⟨go5,(x5_1:Int).toNat*2,none⟩=some (.int .i64 ((rd_T56 x0_1 x5_1).f0)):=hcc5 0 _ rfl
     have hx5_1:wr.cell? ⟨go5,(x5_1:Int).toNat*2+1,none⟩=some (.int .i64 ((rd_T56 x0_1 x5_1).f1)):=hcc5 1 _ rfl
     have hf5_0:wr.frozen? ⟨go5,(x5_1:Int).toNat*2,none⟩=false:=hfr5 0
     have hf5_1:wr.frozen? ⟨go5,(x5_1:Int).toNat*2+1,none⟩=false:=hfr5 1
     clear hcl5 hcc5 hfr5 hM5
     replace p5:=eq_true p5
     replace q5:=eq_true q5
     have HX8:=Aside0.mk (show Kd.R k56 56 wr w0.heap.size (fun k_=>(P0_ k_∨w.heap.size≤k_)) (.slice (some ⟨go5,0,none⟩) x0_1.length co7) x0_1 from (z0_ HO_0.out))
     obtain ⟨ce8,hcl8,hM8,hcc8,hfr8⟩:=Kd.R_elem HX8.out z56 (x5_1:Int) (of_decide_eq_true (z1_)) (z29_ HO_0.out)
     obtain rfl:=k56_openM hM8
     have HP8:=Kd.R_seg HX8.out (x5_1:Int) (of_decide_eq_true (z1_)) (z29_ HO_0.out) (seg:=[.int .i64 x1_1]) (j:=0) hcl8 hcc8 (show 1≤2 from by decide) (x':=(⟨x1_1,(rd_T56 x0_1 x5_1).f1⟩:S56)) (k56_mkM _ _ _ (⟨x1_1,(rd_T56 x0_1 x5_1).f1⟩:S56) ) (fun _ hk=>hk)
     have hx8_0:=hcc8 0 _ rfl
     (try simp only [show (k56).sz=2 from rfl,Nat.mul_one,Nat.add_zero] at hx8_0)
     have hf8_0:=hfr8 0
     (try simp only [show (k56).sz=2 from rfl,Nat.mul_one,Nat.add_zero] at hf8_0)
     clear hcl8 hcc8 hfr8 hM8
     go_wp2_with (first | ((with_reducible refine gate_store (t:=2) (p:=16) rfl ?_);refine store_event (t:=2) (p:=16) (v:=?vo_w9) (w1:=(wr.setCell ⟨go5,(x5_1:Int).toNat*2,none⟩ (.int .i64 x1_1))) ?hg ?ho ?hn ?hr ?_;(case ho=>rfl);(case hg=>rfl);(case hn=>rfl);(case hr=>first | (go_simp;done) | (go_simp;rfl));intro w9 hw;have hg:wr.grownBy w9 (some go5):=(by rw [hw];exact HP8.2);have hp_:Kd.R k56 56 w9 w0.heap.size (fun k_=>(P0_ k_∨w.heap.size≤k_)) (.slice (some ⟨go5,0,none⟩) x0_1.length co7) y338:=(by rw [hw,Ny338.out];exact HP8.1);clear HP8;refine as3_ (hp_) ((by rw [hw];exact below_set (HB.out) GB5.out:Below w0.heap.size w0 w9)) (Kept.of_grown (S:=(fun k_=>P0_ k_)) hg (z24_ HK.out) (fun k_ e_=>(HO_0.out.1 k_ e_))) ?_;clear HO_0 HB HK;intro HO_0 HB HK;clear hg hw hp_;have p6:0≤(x5_1:Int):=of_decide_eq_true (z1_);have q6:(x5_1:Int)<((x0_1.length:Int):Int):=of_decide_eq_true (z1_);obtain ⟨ce6,hcl6,hM6,hcc6,hfr6⟩:=Kd.R_elem HO_0.out z56 (x5_1:Int) p6 q6;obtain rfl:=k56_openM hM6;have hx6_0:w9.cell? ⟨go5,(x5_1:Int).toNat*2,none⟩=some (.int .i64 ((rd_T56 y338 x5_1).f0)):=hcc6 0 _ rfl;have hx6_1:w9.cell? ⟨go5,(x5_1:Int).toNat*2+1,none⟩=some (.int .i64 ((rd_T56 y338 x5_1).f1)):=hcc6 1 _ rfl;have hf6_0:w9.frozen? ⟨go5,(x5_1:Int).toNat*2,none⟩=false:=hfr6 0;have hf6_1:w9.frozen? ⟨go5,(x5_1:Int).toNat*2+1,none⟩=false:=hfr6 1;clear hcl6 hcc6 hfr6 hM6;replace p6:=eq_true p6;replace q6:=eq_true q6;have HX10:=Aside0.mk (show Kd.R k56 56 w9 w0.heap.size (fun k_=>(P0_ k_∨w.heap.size≤k_)) (.slice (some ⟨go5,0,none⟩) x0_1.length co7) y338 from (z0_ HO_0.out));obtain ⟨ce10,hcl10,hM10,hcc10,hfr10⟩:=Kd.R_elem HX10.out z56 (x5_1:Int) (of_decide_eq_true (z1_)) (z29_ HO_0.out);obtain rfl:=k56_openM hM10;have HP10:=Kd.R_seg HX10.out (x5_1:Int) (of_decide_eq_true (z1_)) (z29_ HO_0.out) (seg:=[.int .i64 (wrap64 (x1_1+1))]) (j:=1) hcl10 hcc10 (show 2≤2 from by decide) (x':=(⟨(rd_T56 y338 x5_1).f0,wrap64 (x1_1+1)⟩:S56)) (k56_mkM _ _ _ (⟨(rd_T56 y338 x5_1).f0,wrap64 (x1_1+1)⟩:S56) ) (fun _ hk=>hk);have hx10_1:=hcc10 1 _ rfl;(try simp only [show (k56).sz=2 from rfl,Nat.mul_one,Nat.add_zero] at hx10_1);have hf10_1:=hfr10 1;(try simp only [show (k56).sz=2 from rfl,Nat.mul_one,Nat.add_zero] at hf10_1);clear hcl10 hcc10 hfr10 hM10) | ((with_reducible refine gate_store (t:=2) (p:=23) rfl ?_);refine store_event (t:=2) (p:=23) (v:=?vo_w11) (w1:=(w9.setCell ⟨go5,(x5_1:Int).toNat*2+1,none⟩ (.int .i64 (wrap64 (x1_1+1))))) ?hg ?ho ?hn ?hr ?_;(case ho=>rfl);(case hg=>rfl);(case hn=>rfl);(case hr=>first | (go_simp;done) | (go_simp;rfl));intro w11 hw;have hg:w9.grownBy w11 (some go5):=(by rw [hw];exact HP10.2);have hp_:Kd.R k56 56 w11 w0.heap.size (fun k_=>(P0_ k_∨w.heap.size≤k_)) (.slice (some ⟨go5,0,none⟩) x0_1.length co7) y339:=(by rw [hw,Ny339.out];exact HP10.1);clear HP10;refine as3_ (hp_) ((by rw [hw];exact below_set (HB.out) GB5.out:Below w0.heap.size w0 w11)) (Kept.of_grown (S:=(fun k_=>P0_ k_)) hg (z24_ HK.out) (fun k_ e_=>(HO_0.out.1 k_ e_))) ?_;clear HO_0 HB HK;intro HO_0 HB HK;clear hg hw hp_))
     go_roundg k1
     case measure=>have:=HK1.out;omega
     case rel=>exact ⟨(y339),(wrap64 ((wrap64 (x1_1+1))+1)),(wrap64 (x5_1+1)),(z2_),(z2_),H',⟨by have:=HK1.out;omega⟩,⟨z0_ HO_0.out⟩,⟨z24_ HK.out⟩,⟨z5_ HB.out⟩⟩
    ·rw [if_neg c4] at H
     exact absurd H (by simp)
   ·rw [if_neg c3] at H
    have c3b0:decide (x5_1<(x0_1.length:Int))=false:=decide_eq_false c3
    clear c3
    simp only [Option.some.injEq,Prod.mk.injEq] at H
    obtain ⟨rfl,rfl⟩:=H
    obtain ⟨Ao12,co12,eo12⟩:=Kd.R_slice HO_0.out
    subst eo12
    go_wp2
    go_ret
    exact ⟨z8_,z0_ HO_0.out,z5_ HB.out,z24_ HK.out⟩


/-! ### laws_markText: function 92 -/
def laws_markText.l0:Nat→Int→ByteArray→Option (ByteArray)
 | 0,_,_=>none
 | k+1,x0,x3=>if x0>0 then ((some (([(wrap64 (48+(Int.tmod x0 10))) % 256]:List Int):List Int)).bind fun y340=>(if (strOfNums y340).size+x3.size≤9223372036854775807 then (laws_markText.l0 k (wrap64 (Int.tdiv x0 10)) ((strOfNums y340) ++ x3)) else (none))) else (if 1+x3.size≤9223372036854775807 then (some ((⟨#[109]⟩:ByteArray) ++ x3)) else (none))
def laws_markText.f (k:Nat) (a0:Int):Option (ByteArray):=if a0≤0 then (some (⟨#[109,48]⟩:ByteArray)) else (laws_markText.l0 k a0 (⟨#[]⟩:ByteArray))
theorem laws_markText.mono_l:∀ k,(∀ y0 y1,LeO (laws_markText.l0 k y0 y1) (laws_markText.l0 (k+1) y0 y1))
 | 0=>fun _ _ r h=>by simp [laws_markText.l0] at h
 | k+1=>by
  have ih0:=laws_markText.mono_l k
  ·intro y0 y1
   unfold laws_markText.l0
   repeat' first
   | (with_reducible exact ih0 _ _)
   | (with_reducible exact LeO.refl _)
   | (with_reducible exact LeO.none _)
   | (with_reducible refine LeO.ite ?_ ?_)
   | (with_reducible refine LeO.bind ?_ (fun _=>?_))
   | exact ih0 _ _
   | exact LeO.none _
   | refine LeO.ite ?_ ?_
   | refine LeO.bind ?_ (fun _=>?_)
theorem laws_markText.mono:∀ a0 k,LeO (laws_markText.f k a0) (laws_markText.f (k+1) a0):=by
 intro a0 k
 have ih0:=laws_markText.mono_l k
 unfold laws_markText.f
 repeat' first
   | (with_reducible exact ih0 _ _)
   | (with_reducible exact LeO.refl _)
   | (with_reducible exact LeO.none _)
   | (with_reducible refine LeO.ite ?_ ?_)
   | (with_reducible refine LeO.bind ?_ (fun _=>?_))
   | exact ih0 _ _
   | exact LeO.none _
   | refine LeO.ite ?_ ?_
   | refine LeO.bind ?_ (fun _=>?_)
set_option maxHeartbeats 8000000 in
set_option maxRecDepth 100000 in
theorem laws_markText.calls (k:Nat) (a0:Int) (r:ByteArray) (w:World) (h:laws_markText.f k a0=some r) :
  Calls Try.prog 92 #[.int .i64 a0] w fun e w'=>e = .returned (.string r)∧Below w.heap.size w w':=by
 have HB:=Aside0.mk (Below.refl w.heap.size w)
 have H:(if a0≤0 then (some (⟨#[109,48]⟩:ByteArray)) else (laws_markText.l0 k a0 (⟨#[]⟩:ByteArray)))=some r:=h
 clear h
 by_cases c2:a0≤0
 ·rw [if_pos c2] at H
  have c2b0:decide (a0≤0)=true:=decide_eq_true c2
  clear c2
  obtain rfl:=Option.some.inj H
  go_enter Try.func92,Try.ntmps92
  go_wp2
  go_ret
  exact ⟨z8_,z5_ HB.out⟩
 ·rw [if_neg c2] at H
  have c2b0:decide (a0≤0)=false:=decide_eq_false c2
  clear c2
  have H':=Aside0.mk H
  clear H
  go_enter Try.func92,Try.ntmps92
  go_wp2
  go_loopg [0,3] k (fun kq v0 v3 w'=>∃ (x0_1:Int) (x3_1:ByteArray),v0 = .int .i64 x0_1∧v3 = .string x3_1∧Aside0 (laws_markText.l0 kq x0_1 x3_1=some r)∧Aside0 (kq≤k)∧Aside0 (Below w.heap.size w w'))
  case atStart=>exact ⟨(a0),((⟨#[]⟩:ByteArray)),(z2_),(z2_),H',⟨Nat.le_refl _⟩,⟨z5_ HB.out⟩⟩
  case round =>
   clear H'
   try clear c2
   try clear c2b0
   try clear p2
   obtain ⟨x0_1,x3_1,rfl,rfl,HA,HK1,HB⟩:=hrel
   cases gk with
   | zero=>exact absurd HA.out (by simp [laws_markText.l0])
   | succ k1 =>
    have H:=HA.out
    clear HA
    simp only [laws_markText.l0] at H
    by_cases c3:x0_1>0
    ·rw [if_pos c3] at H
     have c3b0:decide (0<x0_1)=true:=decide_eq_true c3
     clear c3
     obtain ⟨y340,hy340⟩:∃ y_:List Int,y_=(([(wrap64 (48+(Int.tmod x0_1 10))) % 256]:List Int)):=⟨_,rfl⟩
     replace H:(if (strOfNums y340).size+x3_1.size≤9223372036854775807 then (laws_markText.l0 k1 (wrap64 (Int.tdiv x0_1 10)) ((strOfNums y340) ++ x3_1)) else (none))=some r:=by first | (rw [hy340];with_reducible exact H) | (have H2_:=(Option.bind_some _ _).symm.trans H;rw [hy340];with_reducible exact H2_) | (have H2_:=(Option.bind_some _ _).symm.trans H;with_reducible exact H2_) | with_reducible exact H | (rw [hy340];exact H) | exact H
     have Ny340:=Aside0.mk hy340
     clear hy340
     by_cases c4:(strOfNums y340).size+x3_1.size≤9223372036854775807
     ·rw [if_pos c4] at H
      have c4b0:=eq_true c4
      have c4b1:decide ((strOfNums y340).size+x3_1.size≤9223372036854775807)=true:=decide_eq_true c4
      try have c4b2:(9223372036854775807<(strOfNums y340).size+x3_1.size)=False:=eq_false (Nat.not_lt.2 c4)
      have H':=Aside0.mk H
      clear H
      go_wp2_with (first | ((with_reducible refine gd_ 12 ?_);refine Kd.R_lit (Kd.int .u8) _ 5 ?hg (N:=12) ?hd (xs:=([(wrap64 (48+(Int.tmod x0_1 10))) % 256]:List Int)) (inner:=[.int .u8 ((wrap64 (48+(Int.tmod x0_1 10))) % 256)]) (ok:=fun _=>True) (okp:=fun _=>True) ?hr ?hp (fun _ hk=>hk) trivial (Below.refl _ _) (Nat.le_refl _) (by simp) ?_;(case hd=>rfl);(case hg=>rfl);(case hr=>first | (go_simp;done) | (go_simp;rfl));(case hp=>exact (Reps.one (show Kd.M (Kd.int .u8) _ _ _ ((wrap64 (48+(Int.tmod x0_1 10))) % 256) [.int .u8 ((wrap64 (48+(Int.tmod x0_1 10))) % 256)] from rfl) (Reps.none _ _)));intro v341 w5 ho6 hb hg_ hnew_;clear hg_ hnew_;(first | rw [← Ny340.out] at ho6 | (simp only [Int.reduceToNat] at ho6;rw [← Ny340.out] at ho6));refine as2_ (Kd.R_lower ho6 (below_size (z5_ HB.out))) (below_step (z5_ HB.out) hb) ?_;clear HB;intro HO342 HB;clear hb ho6;have hcv7:=own_string (P:=Try.prog) Try.underlying126 Try.underlying5 Try.underlying9 (Kd.own_of_R HO342.out)))
      go_roundg k1
      case measure=>have:=HK1.out;omega
      case rel=>exact ⟨(wrap64 (Int.tdiv x0_1 10)),((strOfNums y340) ++ x3_1),(z2_),(z2_),H',⟨by have:=HK1.out;omega⟩,⟨z5_ HB.out⟩⟩
     ·rw [if_neg c4] at H
      exact absurd H (by simp)
    ·rw [if_neg c3] at H
     have c3b0:decide (0<x0_1)=false:=decide_eq_false c3
     clear c3
     by_cases c8:1+x3_1.size≤9223372036854775807
     ·rw [if_pos c8] at H
      have c8b0:=eq_true c8
      have c8b1:decide (1+x3_1.size≤9223372036854775807)=true:=decide_eq_true c8
      try have c8b2:(9223372036854775807<1+x3_1.size)=False:=eq_false (Nat.not_lt.2 c8)
      obtain rfl:=Option.some.inj H
      go_wp2
      go_ret
      exact ⟨z8_,z5_ HB.out⟩
     ·rw [if_neg c8] at H
      exact absurd H (by simp)


/-! ### laws_markSibS: function 58 -/
def laws_markSibS.l0:Nat→List (S91)→Int→Int→Option (Int × (List (S91)))
 | 0,_,_,_=>none
 | k+1,x0,x1,x5=>if x5<(x0.length:Int) then (if 0≤x5 then ((some (x0.set (x5:Int).toNat (⟨(⟨x1,(rd_T91 x0 x5).f0.f1⟩:S56),(rd_T91 x0 x5).f1,(rd_T91 x0 x5).f2⟩:S91):List (S91))).bind fun y343=>((some (y343.set (x5:Int).toNat (⟨(⟨(rd_T91 y343 x5).f0.f0,wrap64 (x1+1)⟩:S56),(rd_T91 y343 x5).f1,(rd_T91 y343 x5).f2⟩:S91):List (S91))).bind fun y344=>((some (y344.set (x5:Int).toNat (⟨(⟨(rd_T91 y344 x5).f0.f0,(rd_T91 y344 x5).f0.f1⟩:S56),((Int.tmod (wrap64 ((wrap64 (x1+1))+1)) 3) == 0),(rd_T91 y344 x5).f2⟩:S91):List (S91))).bind fun y345=>((laws_markText.f k (wrap64 ((wrap64 ((wrap64 (x1+1))+1))+1))).bind fun t346=>(laws_markSibS.l0 k (y345.set (x5:Int).toNat (⟨(⟨(rd_T91 y345 x5).f0.f0,(rd_T91 y345 x5).f0.f1⟩:S56),(rd_T91 y345 x5).f1,t346⟩:S91)) (wrap64 ((wrap64 ((wrap64 ((wrap64 (x1+1))+1))+1))+1)) (wrap64 (x5+1))))))) else (none)) else (some (x1,x0))
def laws_markSibS.f (k:Nat) (l0:List (S91)) (a1:Int):Option (Int × (List (S91))):=laws_markSibS.l0 k l0 a1 0
theorem laws_markSibS.mono_l:∀ k,(∀ y0 y1 y2,LeO (laws_markSibS.l0 k y0 y1 y2) (laws_markSibS.l0 (k+1) y0 y1 y2))
 | 0=>fun _ _ _ r h=>by simp [laws_markSibS.l0] at h
 | k+1=>by
  have ih0:=laws_markSibS.mono_l k
  ·intro y0 y1 y2
   unfold laws_markSibS.l0
   repeat' first
   | (with_reducible exact ih0 _ _ _)
   | (with_reducible exact laws_markText.mono _ _)
   | (with_reducible exact LeO.refl _)
   | (with_reducible exact LeO.none _)
   | (with_reducible refine LeO.ite ?_ ?_)
   | (with_reducible refine LeO.bind ?_ (fun _=>?_))
   | exact ih0 _ _ _
   | exact laws_markText.mono _ _
   | exact LeO.none _
   | refine LeO.ite ?_ ?_
   | refine LeO.bind ?_ (fun _=>?_)
theorem laws_markSibS.mono:∀ a0 a1 k,LeO (laws_markSibS.f k a0 a1) (laws_markSibS.f (k+1) a0 a1):=by
 intro a0 a1 k
 have ih0:=laws_markSibS.mono_l k
 unfold laws_markSibS.f
 repeat' first
   | (with_reducible exact ih0 _ _ _)
   | (with_reducible exact laws_markText.mono _ _)
   | (with_reducible exact LeO.refl _)
   | (with_reducible exact LeO.none _)
   | (with_reducible refine LeO.ite ?_ ?_)
   | (with_reducible refine LeO.bind ?_ (fun _=>?_))
   | exact ih0 _ _ _
   | exact laws_markText.mono _ _
   | exact LeO.none _
   | refine LeO.ite ?_ ?_
   | refine LeO.bind ?_ (fun _=>?_)
set_option maxHeartbeats 8000000 in
set_option maxRecDepth 100000 in
theorem laws_markSibS.calls (k:Nat) (P0_:Nat→Prop) (u9000_:Value) (l0:List (S91)) (a1:Int) (r1:Int) (r2:List (S91)) (w0 w:World) (hB:Below w0.heap.size w0 w) (ho0:Kd.R k91 91 w w0.heap.size P0_ u9000_ l0) (h:laws_markSibS.f k l0 a1=some (r1,r2)) :
  Calls Try.prog 58 #[u9000_,.int .i64 a1] w fun e w'=>e = .returned (.int .i64 r1)∧Kd.R k91 91 w' w0.heap.size (fun k_=>(P0_ k_∨w.heap.size≤k_)) u9000_ r2∧Below w0.heap.size w0 w'∧Kept w w' (fun k_=>P0_ k_):=by
 have HO0:=Aside0.mk (show Kd.R k91 91 w w0.heap.size (fun k_=>(P0_ k_∨w.heap.size≤k_)) u9000_ l0 from Kd.R_mono ho0 (fun k_ hk=>(.inl hk)))
 have HK:=Aside0.mk (Kept.refl w (fun k_=>P0_ k_))
 have HW0:=Aside0.mk hB.size
 have HB:=Aside0.mk hB
 clear hB
 have H:(laws_markSibS.l0 k l0 a1 0)=some (r1,r2):=h
 clear h
 have H':=Aside0.mk H
 clear H
 go_enter Try.func58,Try.ntmps58
 go_wp2
 go_loopg [1,5] k (fun kq v1 v5 w'=>∃ (x0_1:List (S91)) (x1_1:Int) (x5_1:Int),v1 = .int .i64 x1_1∧v5 = .int .i64 x5_1∧Aside0 (laws_markSibS.l0 kq x0_1 x1_1 x5_1=some (r1,r2))∧Aside0 (kq≤k)∧Aside0 (Kd.R k91 91 w' w0.heap.size (fun k_=>(P0_ k_∨w.heap.size≤k_)) u9000_ x0_1)∧Aside0 (Kept w w' (fun k_=>P0_ k_))∧Aside0 (Below w0.heap.size w0 w'))
 case atStart=>exact ⟨(l0),(a1),(0),(z2_),(z2_),H',⟨Nat.le_refl _⟩,⟨z0_ HO0.out⟩,⟨z24_ HK.out⟩,⟨z5_ HB.out⟩⟩
 case round =>
  clear H'
  try clear p2
  obtain ⟨x0_1,x1_1,x5_1,rfl,rfl,HA,HK1,HO_0,HK,HB⟩:=hrel
  cases gk with
  | zero=>exact absurd HA.out (by simp [laws_markSibS.l0])
  | succ k1 =>
   have H:=HA.out
   clear HA
   simp only [laws_markSibS.l0] at H
   by_cases c3:x5_1<(x0_1.length:Int)
   ·rw [if_pos c3] at H
    have c3b0:decide (x5_1<(x0_1.length:Int))=true:=decide_eq_true c3
    clear c3
    by_cases c4:0≤x5_1
    ·rw [if_pos c4] at H
     have c4b0:decide (0≤x5_1)=true:=decide_eq_true c4
     clear c4
     obtain ⟨y343,hy343⟩:∃ y_:List (S91),y_=(x0_1.set (x5_1:Int).toNat (⟨(⟨x1_1,(rd_T91 x0_1 x5_1).f0.f1⟩:S56),(rd_T91 x0_1 x5_1).f1,(rd_T91 x0_1 x5_1).f2⟩:S91)):=⟨_,rfl⟩
     replace H:((some (y343.set (x5_1:Int).toNat (⟨(⟨(rd_T91 y343 x5_1).f0.f0,wrap64 (x1_1+1)⟩:S56),(rd_T91 y343 x5_1).f1,(rd_T91 y343 x5_1).f2⟩:S91):List (S91))).bind fun y344=>((some (y344.set (x5_1:Int).toNat (⟨(⟨(rd_T91 y344 x5_1).f0.f0,(rd_T91 y344 x5_1).f0.f1⟩:S56),((Int.tmod (wrap64 ((wrap64 (x1_1+1))+1)) 3) == 0),(rd_T91 y344 x5_1).f2⟩:S91):List (S91))).bind fun y345=>((laws_markText.f k1 (wrap64 ((wrap64 ((wrap64 (x1_1+1))+1))+1))).bind fun t346=>(laws_markSibS.l0 k1 (y345.set (x5_1:Int).toNat (⟨(⟨(rd_T91 y345 x5_1).f0.f0,(rd_T91 y345 x5_1).f0.f1⟩:S56),(rd_T91 y345 x5_1).f1,t346⟩:S91)) (wrap64 ((wrap64 ((wrap64 ((wrap64 (x1_1+1))+1))+1))+1)) (wrap64 (x5_1+1))))))=some (r1,r2):=by first | (rw [hy343];with_reducible exact H) | (have H2_:=(Option.bind_some _ _).symm.trans H;rw [hy343];with_reducible exact H2_) | (have H2_:=(Option.bind_some _ _).symm.trans H;with_reducible exact H2_) | with_reducible exact H | (rw [hy343];exact H) | exact H
     have Ny343:=Aside0.mk hy343
     clear hy343
     obtain ⟨y344,hy344⟩:∃ y_:List (S91),y_=(y343.set (x5_1:Int).toNat (⟨(⟨(rd_T91 y343 x5_1).f0.f0,wrap64 (x1_1+1)⟩:S56),(rd_T91 y343 x5_1).f1,(rd_T91 y343 x5_1).f2⟩:S91)):=⟨_,rfl⟩
     replace H:((some (y344.set (x5_1:Int).toNat (⟨(⟨(rd_T91 y344 x5_1).f0.f0,(rd_T91 y344 x5_1).f0.f1⟩:S56),((Int.tmod (wrap64 ((wrap64 (x1_1+1))+1)) 3) == 0),(rd_T91 y344 x5_1).f2⟩:S91):List (S91))).bind fun y345=>((laws_markText.f k1 (wrap64 ((wrap64 ((wrap64 (x1_1+1))+1))+1))).bind fun t346=>(laws_markSibS.l0 k1 (y345.set (x5_1:Int).toNat (⟨(⟨(rd_T91 y345 x5_1).f0.f0,(rd_T91 y345 x5_1).f0.f1⟩:S56),(rd_T91 y345 x5_1).f1,t346⟩:S91)) (wrap64 ((wrap64 ((wrap64 ((wrap64 (x1_1+1))+1))+1))+1)) (wrap64 (x5_1+1)))))=some (r1,r2):=by first | (rw [hy344];with_reducible exact H) | (have H2_:=(Option.bind_some _ _).symm.trans H;rw [hy344];with_reducible exact H2_) | (have H2_:=(Option.bind_some _ _).symm.trans H;with_reducible exact H2_) | with_reducible exact H | (rw [hy344];exact H) | exact H
     have Ny344:=Aside0.mk hy344
     clear hy344
     obtain ⟨y345,hy345⟩:∃ y_:List (S91),y_=(y344.set (x5_1:Int).toNat (⟨(⟨(rd_T91 y344 x5_1).f0.f0,(rd_T91 y344 x5_1).f0.f1⟩:S56),((Int.tmod (wrap64 ((wrap64 (x1_1+1))+1)) 3) == 0),(rd_T91 y344 x5_1).f2⟩:S91)):=⟨_,rfl⟩
     replace H:((laws_markText.f k1 (wrap64 ((wrap64 ((wrap64 (x1_1+1))+1))+1))).bind fun t346=>(laws_markSibS.l0 k1 (y345.set (x5_1:Int).toNat (⟨(⟨(rd_T91 y345 x5_1).f0.f0,(rd_T91 y345 x5_1).f0.f1⟩:S56),(rd_T91 y345 x5_1).f1,t346⟩:S91)) (wrap64 ((wrap64 ((wrap64 ((wrap64 (x1_1+1))+1))+1))+1)) (wrap64 (x5_1+1))))=some (r1,r2):=by first | (rw [hy345];with_reducible exact H) | (have H2_:=(Option.bind_some _ _).symm.trans H;rw [hy345];with_reducible exact H2_) | (have H2_:=(Option.bind_some _ _).symm.trans H;with_reducible exact H2_) | with_reducible exact H | (rw [hy345];exact H) | exact H
     have Ny345:=Aside0.mk hy345
     clear hy345
     replace H:=Option.bind_eq_some_iff.mp H
     obtain ⟨t346,A80,H⟩:=H
     replace H:(laws_markSibS.l0 k1 (y345.set (x5_1:Int).toNat (⟨(⟨(rd_T91 y345 x5_1).f0.f0,(rd_T91 y345 x5_1).f0.f1⟩:S56),(rd_T91 y345 x5_1).f1,t346⟩:S91)) (wrap64 ((wrap64 ((wrap64 ((wrap64 (x1_1+1))+1))+1))+1)) (wrap64 (x5_1+1)))=some (r1,r2):=H
     have A8:=Aside0.mk A80
     clear A80
     obtain ⟨y347,hy347⟩:∃ y_:List (S91),y_=(y345.set (x5_1:Int).toNat (⟨(⟨(rd_T91 y345 x5_1).f0.f0,(rd_T91 y345 x5_1).f0.f1⟩:S56),(rd_T91 y345 x5_1).f1,t346⟩:S91)):=⟨_,rfl⟩
     replace H:(laws_markSibS.l0 k1 y347 (wrap64 ((wrap64 ((wrap64 ((wrap64 (x1_1+1))+1))+1))+1)) (wrap64 (x5_1+1)))=some (r1,r2):=by first | (rw [hy347];with_reducible exact H) | (have H2_:=(Option.bind_some _ _).symm.trans H;rw [hy347];with_reducible exact H2_) | (have H2_:=(Option.bind_some _ _).symm.trans H;with_reducible exact H2_) | with_reducible exact H | (rw [hy347];exact H) | exact H
     have Ny347:=Aside0.mk hy347
     clear hy347
     have H':=Aside0.mk H
     clear H
     obtain ⟨Ao10,co10,eo10⟩:=Kd.R_slice HO_0.out
     subst eo10
     have p5:0≤(x5_1:Int):=of_decide_eq_true (z1_)
     have q5:(x5_1:Int)<((x0_1.length:Int):Int):=of_decide_eq_true (z1_)
     obtain ⟨go5,co5,eo5,gb5,gl5,cl5,HG5⟩:=Kd.R_form HO_0.out (by omega)
     (first | cases eo5 | (injection eo5 with ea_ en_ ec_;(first | subst ea_ | (injection ea_ with ea_;subst ea_));subst ec_;clear en_))
     have GB5:=Aside0.mk gb5
     have GG5:=Aside0.mk HG5
     clear gb5 gl5 HG5
     have HMgo5:=Aside0.mk (show (P0_ go5∨w.heap.size≤go5) from (HO_0.out.1 _ rfl))
     obtain ⟨ce5,hcl5,hM5,hcc5,hfr5⟩:=Kd.R_elem HO_0.out z91 (x5_1:Int) p5 q5
     obtain rfl:=k91_openM hM5
     have hx5_0:wr.cell? ⟨go5,(x5_1:Int).toNat*4,none⟩=some (.int .i64 ((rd_T91 x0_1 x5_1).f0.f0)):=hcc5 0 _ rfl
     have hx5_1:wr.cell? ⟨go5,(x5_1:Int).toNat*4+1,none⟩=some (.int .i64 ((rd_T91 x0_1 x5_1).f0.f1)):=hcc5 1 _ rfl
     have hx5_2:wr.cell? ⟨go5,(x5_1:Int).toNat*4+2,none⟩=some (.bool ((rd_T91 x0_1 x5_1).f1)):=hcc5 2 _ rfl
     have hx5_3:wr.cell? ⟨go5,(x5_1:Int).toNat*4+3,none⟩=some (.string ((rd_T91 x0_1 x5_1).f2)):=hcc5 3 _ rfl
     have hf5_0:wr.frozen? ⟨go5,(x5_1:Int).toNat*4,none⟩=false:=hfr5 0
     have hf5_1:wr.frozen? ⟨go5,(x5_1:Int).toNat*4+1,none⟩=false:=hfr5 1
     have hf5_2:wr.frozen? ⟨go5,(x5_1:Int).toNat*4+2,none⟩=false:=hfr5 2
     have hf5_3:wr.frozen? ⟨go5,(x5_1:Int).toNat*4+3,none⟩=false:=hfr5 3
     clear hcl5 hcc5 hfr5 hM5
     replace p5:=eq_true p5
     replace q5:=eq_true q5
     have HX11:=Aside0.mk (show Kd.R k91 91 wr w0.heap.size (fun k_=>(P0_ k_∨w.heap.size≤k_)) (.slice (some ⟨go5,0,none⟩) x0_1.length co10) x0_1 from (z0_ HO_0.out))
     obtain ⟨ce11,hcl11,hM11,hcc11,hfr11⟩:=Kd.R_elem HX11.out z91 (x5_1:Int) (of_decide_eq_true (z1_)) (z29_ HO_0.out)
     obtain rfl:=k91_openM hM11
     have HP11:=Kd.R_seg HX11.out (x5_1:Int) (of_decide_eq_true (z1_)) (z29_ HO_0.out) (seg:=[.int .i64 x1_1]) (j:=0) hcl11 hcc11 (show 1≤4 from by decide) (x':=(⟨(⟨x1_1,(rd_T91 x0_1 x5_1).f0.f1⟩:S56),(rd_T91 x0_1 x5_1).f1,(rd_T91 x0_1 x5_1).f2⟩:S91)) (k91_mkM _ _ _ (⟨(⟨x1_1,(rd_T91 x0_1 x5_1).f0.f1⟩:S56),(rd_T91 x0_1 x5_1).f1,(rd_T91 x0_1 x5_1).f2⟩:S91) ) (fun _ hk=>hk)
     have hx11_0:=hcc11 0 _ rfl
     (try simp only [show (k91).sz=4 from rfl,Nat.mul_one,Nat.add_zero] at hx11_0)
     have hf11_0:=hfr11 0
     (try simp only [show (k91).sz=4 from rfl,Nat.mul_one,Nat.add_zero] at hf11_0)
     clear hcl11 hcc11 hfr11 hM11
     go_wp2_with (first | ((with_reducible refine gate_store (t:=2) (p:=17) rfl ?_);refine store_event (t:=2) (p:=17) (v:=?vo_w12) (w1:=(wr.setCell ⟨go5,(x5_1:Int).toNat*4,none⟩ (.int .i64 x1_1))) ?hg ?ho ?hn ?hr ?_;(case ho=>rfl);(case hg=>rfl);(case hn=>rfl);(case hr=>first | (go_simp;done) | (go_simp;rfl));intro w12 hw;have hg:wr.grownBy w12 (some go5):=(by rw [hw];exact HP11.2);have hp_:Kd.R k91 91 w12 w0.heap.size (fun k_=>(P0_ k_∨w.heap.size≤k_)) (.slice (some ⟨go5,0,none⟩) x0_1.length co10) y343:=(by rw [hw,Ny343.out];exact HP11.1);clear HP11;refine as3_ (hp_) ((by rw [hw];exact below_set (HB.out) GB5.out:Below w0.heap.size w0 w12)) (Kept.of_grown (S:=(fun k_=>P0_ k_)) hg (z24_ HK.out) (fun k_ e_=>(HO_0.out.1 k_ e_))) ?_;clear HO_0 HB HK;intro HO_0 HB HK;clear hg hw hp_;have p6:0≤(x5_1:Int):=of_decide_eq_true (z1_);have q6:(x5_1:Int)<((x0_1.length:Int):Int):=of_decide_eq_true (z1_);obtain ⟨ce6,hcl6,hM6,hcc6,hfr6⟩:=Kd.R_elem HO_0.out z91 (x5_1:Int) p6 q6;obtain rfl:=k91_openM hM6;have hx6_0:w12.cell? ⟨go5,(x5_1:Int).toNat*4,none⟩=some (.int .i64 ((rd_T91 y343 x5_1).f0.f0)):=hcc6 0 _ rfl;have hx6_1:w12.cell? ⟨go5,(x5_1:Int).toNat*4+1,none⟩=some (.int .i64 ((rd_T91 y343 x5_1).f0.f1)):=hcc6 1 _ rfl;have hx6_2:w12.cell? ⟨go5,(x5_1:Int).toNat*4+2,none⟩=some (.bool ((rd_T91 y343 x5_1).f1)):=hcc6 2 _ rfl;have hx6_3:w12.cell? ⟨go5,(x5_1:Int).toNat*4+3,none⟩=some (.string ((rd_T91 y343 x5_1).f2)):=hcc6 3 _ rfl;have hf6_0:w12.frozen? ⟨go5,(x5_1:Int).toNat*4,none⟩=false:=hfr6 0;have hf6_1:w12.frozen? ⟨go5,(x5_1:Int).toNat*4+1,none⟩=false:=hfr6 1;have hf6_2:w12.frozen? ⟨go5,(x5_1:Int).toNat*4+2,none⟩=false:=hfr6 2;have hf6_3:w12.frozen? ⟨go5,(x5_1:Int).toNat*4+3,none⟩=false:=hfr6 3;clear hcl6 hcc6 hfr6 hM6;replace p6:=eq_true p6;replace q6:=eq_true q6;have HX13:=Aside0.mk (show Kd.R k91 91 w12 w0.heap.size (fun k_=>(P0_ k_∨w.heap.size≤k_)) (.slice (some ⟨go5,0,none⟩) x0_1.length co10) y343 from (z0_ HO_0.out));obtain ⟨ce13,hcl13,hM13,hcc13,hfr13⟩:=Kd.R_elem HX13.out z91 (x5_1:Int) (of_decide_eq_true (z1_)) (z29_ HO_0.out);obtain rfl:=k91_openM hM13;have HP13:=Kd.R_seg HX13.out (x5_1:Int) (of_decide_eq_true (z1_)) (z29_ HO_0.out) (seg:=[.int .i64 (wrap64 (x1_1+1))]) (j:=1) hcl13 hcc13 (show 2≤4 from by decide) (x':=(⟨(⟨(rd_T91 y343 x5_1).f0.f0,wrap64 (x1_1+1)⟩:S56),(rd_T91 y343 x5_1).f1,(rd_T91 y343 x5_1).f2⟩:S91)) (k91_mkM _ _ _ (⟨(⟨(rd_T91 y343 x5_1).f0.f0,wrap64 (x1_1+1)⟩:S56),(rd_T91 y343 x5_1).f1,(rd_T91 y343 x5_1).f2⟩:S91) ) (fun _ hk=>hk);have hx13_1:=hcc13 1 _ rfl;(try simp only [show (k91).sz=4 from rfl,Nat.mul_one,Nat.add_zero] at hx13_1);have hf13_1:=hfr13 1;(try simp only [show (k91).sz=4 from rfl,Nat.mul_one,Nat.add_zero] at hf13_1);clear hcl13 hcc13 hfr13 hM13) | ((with_reducible refine gate_store (t:=2) (p:=25) rfl ?_);refine store_event (t:=2) (p:=25) (v:=?vo_w14) (w1:=(w12.setCell ⟨go5,(x5_1:Int).toNat*4+1,none⟩ (.int .i64 (wrap64 (x1_1+1))))) ?hg ?ho ?hn ?hr ?_;(case ho=>rfl);(case hg=>rfl);(case hn=>rfl);(case hr=>first | (go_simp;done) | (go_simp;rfl));intro w14 hw;have hg:w12.grownBy w14 (some go5):=(by rw [hw];exact HP13.2);have hp_:Kd.R k91 91 w14 w0.heap.size (fun k_=>(P0_ k_∨w.heap.size≤k_)) (.slice (some ⟨go5,0,none⟩) x0_1.length co10) y344:=(by rw [hw,Ny344.out];exact HP13.1);clear HP13;refine as3_ (hp_) ((by rw [hw];exact below_set (HB.out) GB5.out:Below w0.heap.size w0 w14)) (Kept.of_grown (S:=(fun k_=>P0_ k_)) hg (z24_ HK.out) (fun k_ e_=>(HO_0.out.1 k_ e_))) ?_;clear HO_0 HB HK;intro HO_0 HB HK;clear hg hw hp_;have p7:0≤(x5_1:Int):=of_decide_eq_true (z1_);have q7:(x5_1:Int)<((x0_1.length:Int):Int):=of_decide_eq_true (z1_);obtain ⟨ce7,hcl7,hM7,hcc7,hfr7⟩:=Kd.R_elem HO_0.out z91 (x5_1:Int) p7 q7;obtain rfl:=k91_openM hM7;have hx7_0:w14.cell? ⟨go5,(x5_1:Int).toNat*4,none⟩=some (.int .i64 ((rd_T91 y344 x5_1).f0.f0)):=hcc7 0 _ rfl;have hx7_1:w14.cell? ⟨go5,(x5_1:Int).toNat*4+1,none⟩=some (.int .i64 ((rd_T91 y344 x5_1).f0.f1)):=hcc7 1 _ rfl;have hx7_2:w14.cell? ⟨go5,(x5_1:Int).toNat*4+2,none⟩=some (.bool ((rd_T91 y344 x5_1).f1)):=hcc7 2 _ rfl;have hx7_3:w14.cell? ⟨go5,(x5_1:Int).toNat*4+3,none⟩=some (.string ((rd_T91 y344 x5_1).f2)):=hcc7 3 _ rfl;have hf7_0:w14.frozen? ⟨go5,(x5_1:Int).toNat*4,none⟩=false:=hfr7 0;have hf7_1:w14.frozen? ⟨go5,(x5_1:Int).toNat*4+1,none⟩=false:=hfr7 1;have hf7_2:w14.frozen? ⟨go5,(x5_1:Int).toNat*4+2,none⟩=false:=hfr7 2;have hf7_3:w14.frozen? ⟨go5,(x5_1:Int).toNat*4+3,none⟩=false:=hfr7 3;clear hcl7 hcc7 hfr7 hM7;replace p7:=eq_true p7;replace q7:=eq_true q7;have HX15:=Aside0.mk (show Kd.R k91 91 w14 w0.heap.size (fun k_=>(P0_ k_∨w.heap.size≤k_)) (.slice (some ⟨go5,0,none⟩) x0_1.length co10) y344 from (z0_ HO_0.out));obtain ⟨ce15,hcl15,hM15,hcc15,hfr15⟩:=Kd.R_elem HX15.out z91 (x5_1:Int) (of_decide_eq_true (z1_)) (z29_ HO_0.out);obtain rfl:=k91_openM hM15;have HP15:=Kd.R_seg HX15.out (x5_1:Int) (of_decide_eq_true (z1_)) (z29_ HO_0.out) (seg:=[.bool ((Int.tmod (wrap64 ((wrap64 (x1_1+1))+1)) 3) == 0)]) (j:=2) hcl15 hcc15 (show 3≤4 from by decide) (x':=(⟨(⟨(rd_T91 y344 x5_1).f0.f0,(rd_T91 y344 x5_1).f0.f1⟩:S56),((Int.tmod (wrap64 ((wrap64 (x1_1+1))+1)) 3) == 0),(rd_T91 y344 x5_1).f2⟩:S91)) (k91_mkM _ _ _ (⟨(⟨(rd_T91 y344 x5_1).f0.f0,(rd_T91 y344 x5_1).f0.f1⟩:S56),((Int.tmod (wrap64 ((wrap64 (x1_1+1))+1)) 3) == 0),(rd_T91 y344 x5_1).f2⟩:S91) ) (fun _ hk=>hk);have hx15_2:=hcc15 2 _ rfl;(try simp only [show (k91).sz=4 from rfl,Nat.mul_one,Nat.add_zero] at hx15_2);have hf15_2:=hfr15 2;(try simp only [show (k91).sz=4 from rfl,Nat.mul_one,Nat.add_zero] at hf15_2);clear hcl15 hcc15 hfr15 hM15) | ((with_reducible refine gate_store (t:=4) (p:=34) rfl ?_);refine store_event (t:=4) (p:=34) (v:=?vo_w16) (w1:=(w14.setCell ⟨go5,(x5_1:Int).toNat*4+2,none⟩ (.bool ((Int.tmod (wrap64 ((wrap64 (x1_1+1))+1)) 3) == 0)))) ?hg ?ho ?hn ?hr ?_;(case ho=>rfl);(case hg=>rfl);(case hn=>rfl);(case hr=>first | (go_simp;done) | (go_simp;rfl));intro w16 hw;have hg:w14.grownBy w16 (some go5):=(by rw [hw];exact HP15.2);have hp_:Kd.R k91 91 w16 w0.heap.size (fun k_=>(P0_ k_∨w.heap.size≤k_)) (.slice (some ⟨go5,0,none⟩) x0_1.length co10) y345:=(by rw [hw,Ny345.out];exact HP15.1);clear HP15;refine as3_ (hp_) ((by rw [hw];exact below_set (HB.out) GB5.out:Below w0.heap.size w0 w16)) (Kept.of_grown (S:=(fun k_=>P0_ k_)) hg (z24_ HK.out) (fun k_ e_=>(HO_0.out.1 k_ e_))) ?_;clear HO_0 HB HK;intro HO_0 HB HK;clear hg hw hp_) | ((with_reducible refine gc_ 92 ?_);refine gl_ (some 40) Try.func92 #[.int .i64 (wrap64 ((wrap64 ((wrap64 (x1_1+1))+1))+1))] ?_;(with_reducible refine (laws_markText.calls k1 (wrap64 ((wrap64 ((wrap64 (x1_1+1))+1))+1)) t346 _ A8.out).mono ?_);rintro e w17 ⟨rfl,hb⟩;refine ⟨_,rfl,?_⟩;refine as3_ (Kd.R_below (z0_ HO_0.out) hb) (Kept.below (S:=(fun k_=>P0_ k_)) (z24_ HK.out) hb) (below_step (z5_ HB.out) hb) ?_;clear HO_0 HK HB;intro HO_0 HK HB;(try clear hb);have p9:0≤(x5_1:Int):=of_decide_eq_true (z1_);have q9:(x5_1:Int)<((x0_1.length:Int):Int):=of_decide_eq_true (z1_);obtain ⟨ce9,hcl9,hM9,hcc9,hfr9⟩:=Kd.R_elem HO_0.out z91 (x5_1:Int) p9 q9;obtain rfl:=k91_openM hM9;have hx9_0:w17.cell? ⟨go5,(x5_1:Int).toNat*4,none⟩=some (.int .i64 ((rd_T91 y345 x5_1).f0.f0)):=hcc9 0 _ rfl;have hx9_1:w17.cell? ⟨go5,(x5_1:Int).toNat*4+1,none⟩=some (.int .i64 ((rd_T91 y345 x5_1).f0.f1)):=hcc9 1 _ rfl;have hx9_2:w17.cell? ⟨go5,(x5_1:Int).toNat*4+2,none⟩=some (.bool ((rd_T91 y345 x5_1).f1)):=hcc9 2 _ rfl;have hx9_3:w17.cell? ⟨go5,(x5_1:Int).toNat*4+3,none⟩=some (.string ((rd_T91 y345 x5_1).f2)):=hcc9 3 _ rfl;have hf9_0:w17.frozen? ⟨go5,(x5_1:Int).toNat*4,none⟩=false:=hfr9 0;have hf9_1:w17.frozen? ⟨go5,(x5_1:Int).toNat*4+1,none⟩=false:=hfr9 1;have hf9_2:w17.frozen? ⟨go5,(x5_1:Int).toNat*4+2,none⟩=false:=hfr9 2;have hf9_3:w17.frozen? ⟨go5,(x5_1:Int).toNat*4+3,none⟩=false:=hfr9 3;clear hcl9 hcc9 hfr9 hM9;replace p9:=eq_true p9;replace q9:=eq_true q9;have HX18:=Aside0.mk (show Kd.R k91 91 w17 w0.heap.size (fun k_=>(P0_ k_∨w.heap.size≤k_)) (.slice (some ⟨go5,0,none⟩) x0_1.length co10) y345 from (z0_ HO_0.out));obtain ⟨ce18,hcl18,hM18,hcc18,hfr18⟩:=Kd.R_elem HX18.out z91 (x5_1:Int) (of_decide_eq_true (z1_)) (z29_ HO_0.out);obtain rfl:=k91_openM hM18;have HP18:=Kd.R_seg HX18.out (x5_1:Int) (of_decide_eq_true (z1_)) (z29_ HO_0.out) (seg:=[.string t346]) (j:=3) hcl18 hcc18 (show 4≤4 from by decide) (x':=(⟨(⟨(rd_T91 y345 x5_1).f0.f0,(rd_T91 y345 x5_1).f0.f1⟩:S56),(rd_T91 y345 x5_1).f1,t346⟩:S91)) (k91_mkM _ _ _ (⟨(⟨(rd_T91 y345 x5_1).f0.f0,(rd_T91 y345 x5_1).f0.f1⟩:S56),(rd_T91 y345 x5_1).f1,t346⟩:S91) ) (fun _ hk=>hk);have hx18_3:=hcc18 3 _ rfl;(try simp only [show (k91).sz=4 from rfl,Nat.mul_one,Nat.add_zero] at hx18_3);have hf18_3:=hfr18 3;(try simp only [show (k91).sz=4 from rfl,Nat.mul_one,Nat.add_zero] at hf18_3);clear hcl18 hcc18 hfr18 hM18) | ((with_reducible refine gate_store (t:=9) (p:=42) rfl ?_);refine store_event (t:=9) (p:=42) (v:=?vo_w19) (w1:=(w17.setCell ⟨go5,(x5_1:Int).toNat*4+3,none⟩ (.string t346))) ?hg ?ho ?hn ?hr ?_;(case ho=>rfl);(case hg=>rfl);(case hn=>rfl);(case hr=>first | (go_simp;done) | (go_simp;rfl));intro w19 hw;have hg:w17.grownBy w19 (some go5):=(by rw [hw];exact HP18.2);have hp_:Kd.R k91 91 w19 w0.heap.size (fun k_=>(P0_ k_∨w.heap.size≤k_)) (.slice (some ⟨go5,0,none⟩) x0_1.length co10) y347:=(by rw [hw,Ny347.out];exact HP18.1);clear HP18;refine as3_ (hp_) ((by rw [hw];exact below_set (HB.out) GB5.out:Below w0.heap.size w0 w19)) (Kept.of_grown (S:=(fun k_=>P0_ k_)) hg (z24_ HK.out) (fun k_ e_=>(HO_0.out.1 k_ e_))) ?_;clear HO_0 HB HK;intro HO_0 HB HK;clear hg hw hp_))
     go_roundg k1
     case measure=>have:=HK1.out;omega
     case rel=>exact ⟨(y347),(wrap64 ((wrap64 ((wrap64 ((wrap64 (x1_1+1))+1))+1))+1)),(wrap64 (x5_1+1)),(z2_),(z2_),H',⟨by have:=HK1.out;omega⟩,⟨z0_ HO_0.out⟩,⟨z24_ HK.out⟩,⟨z5_ HB.out⟩⟩
    ·rw [if_neg c4] at H
     exact absurd H (by simp)
   ·rw [if_neg c3] at H
    have c3b0:decide (x5_1<(x0_1.length:Int))=false:=decide_eq_false c3
    clear c3
    simp only [Option.some.injEq,Prod.mk.injEq] at H
    obtain ⟨rfl,rfl⟩:=H
    obtain ⟨Ao20,co20,eo20⟩:=Kd.R_slice HO_0.out
    subst eo20
    go_wp2
    go_ret
    exact ⟨z8_,z0_ HO_0.out,z5_ HB.out,z24_ HK.out⟩


/-! ### laws_markSet: function 21 -/
def laws_markSet.f (k:Nat) (l0_0:List (S56)) (l0_1:List (S91)) (a1:Int):Option (Int × (List (S56)) × (List (S91))):=(laws_markMarkS.f k l0_0 a1).bind fun bt349=>((laws_markSibS.f k l0_1 bt349.1).bind fun bt351=>(some (bt351.1,bt349.2,bt351.2)))
theorem laws_markSet.mono:∀ a0 a1 a2 k,LeO (laws_markSet.f k a0 a1 a2) (laws_markSet.f (k+1) a0 a1 a2):=by
 intro a0 a1 a2 k
 unfold laws_markSet.f
 repeat' first
   | (with_reducible exact laws_markMarkS.mono _ _ _)
   | (with_reducible exact laws_markSibS.mono _ _ _)
   | (with_reducible exact LeO.refl _)
   | (with_reducible exact LeO.none _)
   | (with_reducible refine LeO.ite ?_ ?_)
   | (with_reducible refine LeO.bind ?_ (fun _=>?_))
   | exact laws_markMarkS.mono _ _ _
   | exact laws_markSibS.mono _ _ _
   | exact LeO.none _
   | refine LeO.ite ?_ ?_
   | refine LeO.bind ?_ (fun _=>?_)
set_option maxHeartbeats 8000000 in
set_option maxRecDepth 100000 in
theorem laws_markSet.calls (k:Nat) (P0_0_:Nat→Prop) (u9000_:Value) (l0_0:List (S56)) (P0_1_:Nat→Prop) (u9001_:Value) (l0_1:List (S91)) (a1:Int) (r1:Int) (r2:List (S56)) (r3:List (S91)) (w0 w:World) (hB:Below w0.heap.size w0 w) (ho0_0:Kd.R k56 56 w w0.heap.size P0_0_ u9000_ l0_0) (ho0_1:Kd.R k91 91 w w0.heap.size P0_1_ u9001_ l0_1) (h:laws_markSet.f k l0_0 l0_1 a1=some (r1,r2,r3)) :
  Calls Try.prog 21 #[.agg #[u9000_,u9001_],.int .i64 a1] w fun e w'=>e = .returned (.int .i64 r1)∧Kd.R k56 56 w' w0.heap.size (fun k_=>((P0_0_ k_∨P0_1_ k_)∨w.heap.size≤k_)) u9000_ r2∧Kd.R k91 91 w' w0.heap.size (fun k_=>((P0_0_ k_∨P0_1_ k_)∨w.heap.size≤k_)) u9001_ r3∧Below w0.heap.size w0 w'∧Kept w w' (fun k_=>P0_0_ k_∨P0_1_ k_):=by
 have hu40:=Try.underlying40
 have HO0_0:=Aside0.mk (show Kd.R k56 56 w w0.heap.size (fun k_=>((P0_0_ k_∨P0_1_ k_)∨w.heap.size≤k_)) u9000_ l0_0 from Kd.R_mono ho0_0 (fun k_ hk=>(.inl (.inl hk))))
 have HO0_1:=Aside0.mk (show Kd.R k91 91 w w0.heap.size (fun k_=>((P0_0_ k_∨P0_1_ k_)∨w.heap.size≤k_)) u9001_ l0_1 from Kd.R_mono ho0_1 (fun k_ hk=>(.inl (.inr hk))))
 have HK:=Aside0.mk (Kept.refl w (fun k_=>P0_0_ k_∨P0_1_ k_))
 have HW0:=Aside0.mk hB.size
 have HB:=Aside0.mk hB
 clear hB
 have H:((laws_markMarkS.f k l0_0 a1).bind fun bt349=>((laws_markSibS.f k l0_1 bt349.1).bind fun bt351=>(some (bt351.1,bt349.2,bt351.2))))=some (r1,r2,r3):=h
 clear h
 replace H:=Option.bind_eq_some_iff.mp H
 obtain ⟨⟨t349,t350⟩,A30,H⟩:=H
 replace H:((laws_markSibS.f k l0_1 t349).bind fun bt351=>(some (bt351.1,t350,bt351.2)))=some (r1,r2,r3):=H
 have A3:=Aside0.mk A30
 clear A30
 replace H:=Option.bind_eq_some_iff.mp H
 obtain ⟨⟨t351,t352⟩,A40,H⟩:=H
 replace H:(some (t351,t350,t352))=some (r1,r2,r3):=H
 have A4:=Aside0.mk A40
 clear A40
 simp only [Option.some.injEq,Prod.mk.injEq] at H
 obtain ⟨rfl,rfl,rfl⟩:=H
 obtain ⟨Ao5,co5,eo5⟩:=Kd.R_slice HO0_0.out
 subst eo5
 obtain ⟨Ao6,co6,eo6⟩:=Kd.R_slice HO0_1.out
 subst eo6
 go_enter Try.func21,Try.ntmps21
 go_wp2_with (first | ((with_reducible refine gd_ 2 ?_);refine be_ 2 #[.slice Ao5 l0_0.length co5,.slice Ao6 l0_1.length co6] 40 ?_;intro gb348 hg w7 hbox hb;refine as7_ (Kd.R_below (z0_ HO0_0.out) hb) (Kd.R_below (z0_ HO0_1.out) hb) (Kept.below (S:=(fun k_=>P0_0_ k_∨P0_1_ k_)) (z24_ HK.out) hb) (below_step (z5_ HB.out) hb) (hbox) ((by rw [hg];exact (by first | exact HK.out.1 | exact (show Kept w _ (fun k_=>P0_0_ k_∨P0_1_ k_) from by repeat (first | (with_reducible first | exact HK.out | apply Kept.alloc | apply Kept.drewN | apply Kept.drew) | exact HK.out)).1):w.heap.size≤gb348)) ((z7_ HB.out:w0.heap.size≤gb348)) ?_;clear HO0_0 HO0_1 HK HB;intro HO0_0 HO0_1 HK HB BK348 GW348 GE348;clear hb hbox hg;have ⟨hcz8_0,hcz8_1,hfz8_0,hfz8_1⟩:=cz2_ BK348.out) | ((with_reducible refine gc_ 34 ?_);refine gl_ (some 8) Try.func34 #[.slice Ao5 l0_0.length co5,.int .i64 a1] ?_;(with_reducible refine (laws_markMarkS.calls k (fun k_=>some k_=(.slice Ao5 l0_0.length co5:Value).ownBlock) (.slice Ao5 l0_0.length co5) l0_0 a1 t349 t350 w0 _ ?s1 ?s2 A3.out).mono ?_);(case s1=>repeat (first | (with_reducible first | exact HB.out | apply below_alloc | apply pw_below_drewN | apply below_drew1 | refine below_set ?_ GE348.out) | exact HB.out));(case s2=>exact Kd.R_tight rfl HO0_0.out);rintro e w9 ⟨rfl,hy0,hb,hkp⟩;refine ⟨_,rfl,?_⟩;refine as5_ (Kd.R_reok rfl hy0 (fun k_ e_=>HO0_0.out.1 k_ e_)) (Kd.R_mono (ok':=fun k_=>((P0_0_ k_∨P0_1_ k_)∨w.heap.size≤k_)) (Kd.R_keptB ((Kd.R_apart' HO0_1.out (Kd.R_typed HO0_0.out) (by decide))) hkp (fun k_ hk_ hs_=>(hk_.2) hs_)) (fun k_ hk_=>hk_.1.1)) (blk_kept (z3_ BK348.out) hkp (fun hs_=>(fun e_=>(Kd.R_ne HO0_0.out BK348.out (by decide)) e_) hs_)) (Kept.then_ (S:=(fun k_=>P0_0_ k_∨P0_1_ k_)) (z37_ HK.out GW348.out) hkp (fun k_ hs_=>(fun e_=>(HO0_0.out.1 k_ e_.symm)) hs_)) (hb) ?_;clear HO0_0 HO0_1 BK348 HK HB;intro HO0_0 HO0_1 BK348 HK HB;(try clear hb);(try clear hkp);(try clear hy0);have ⟨hcz10_0,hcz10_1,hfz10_0,hfz10_1⟩:=cz2_ BK348.out) | ((with_reducible refine gc_ 58 ?_);refine gl_ (some 12) Try.func58 #[.slice Ao6 l0_1.length co6,.int .i64 t349] ?_;(with_reducible refine (laws_markSibS.calls k (fun k_=>some k_=(.slice Ao6 l0_1.length co6:Value).ownBlock) (.slice Ao6 l0_1.length co6) l0_1 t349 t351 t352 w0 _ ?s1 ?s2 A4.out).mono ?_);(case s1=>repeat (first | (with_reducible first | exact HB.out | apply below_alloc | apply pw_below_drewN | apply below_drew1 | refine below_set ?_ GE348.out) | exact HB.out));(case s2=>exact Kd.R_tight rfl HO0_1.out);rintro e w11 ⟨rfl,hy0,hb,hkp⟩;refine ⟨_,rfl,?_⟩;refine as5_ (Kd.R_mono (ok':=fun k_=>((P0_0_ k_∨P0_1_ k_)∨w.heap.size≤k_)) (Kd.R_keptB ((Kd.R_apart' HO0_0.out (Kd.R_typed HO0_1.out) (by decide))) hkp (fun k_ hk_ hs_=>(hk_.2) hs_)) (fun k_ hk_=>hk_.1.1)) (Kd.R_reok rfl hy0 (fun k_ e_=>HO0_1.out.1 k_ e_)) (blk_kept (z3_ BK348.out) hkp (fun hs_=>(fun e_=>(Kd.R_ne HO0_1.out BK348.out (by decide)) e_) hs_)) (Kept.then_ (S:=(fun k_=>P0_0_ k_∨P0_1_ k_)) (z37_ HK.out GW348.out) hkp (fun k_ hs_=>(fun e_=>(HO0_1.out.1 k_ e_.symm)) hs_)) (hb) ?_;clear HO0_0 HO0_1 BK348 HK HB;intro HO0_0 HO0_1 BK348 HK HB;(try clear hb);(try clear hkp);(try clear hy0)))
 go_ret
 exact ⟨z8_,z0_ HO0_0.out,z0_ HO0_1.out,z4_ HB.out GE348.out,z37_ HK.out GW348.out⟩


/-! ### laws_markMsg: function 20 -/
def laws_markMsg.f (k:Nat) (a0_0:Int) (a0_1:Int) (a0_2:Int) (a0_3:Int) (a0_4:ByteArray) (a0_5:Int) (l0_6:List (S56)) (l0_7:List (S91)) (a1:Int):Option (Int × (List (S56)) × (List (S91))):=(laws_markSet.f k l0_6 l0_7 a1).bind fun bt354=>(some (bt354.1,bt354.2.1,bt354.2.2))
theorem laws_markMsg.mono:∀ a0 a1 a2 a3 a4 a5 a6 a7 a8 k,LeO (laws_markMsg.f k a0 a1 a2 a3 a4 a5 a6 a7 a8) (laws_markMsg.f (k+1) a0 a1 a2 a3 a4 a5 a6 a7 a8):=by
 intro a0 a1 a2 a3 a4 a5 a6 a7 a8 k
 unfold laws_markMsg.f
 repeat' first
   | (with_reducible exact laws_markSet.mono _ _ _ _)
   | (with_reducible exact LeO.refl _)
   | (with_reducible exact LeO.none _)
   | (with_reducible refine LeO.ite ?_ ?_)
   | (with_reducible refine LeO.bind ?_ (fun _=>?_))
   | exact laws_markSet.mono _ _ _ _
   | exact LeO.none _
   | refine LeO.ite ?_ ?_
   | refine LeO.bind ?_ (fun _=>?_)
set_option maxHeartbeats 8000000 in
set_option maxRecDepth 100000 in
theorem laws_markMsg.calls (k:Nat) (a0_0:Int) (a0_1:Int) (a0_2:Int) (a0_3:Int) (a0_4:ByteArray) (a0_5:Int) (P0_6_:Nat→Prop) (u9000_:Value) (l0_6:List (S56)) (P0_7_:Nat→Prop) (u9001_:Value) (l0_7:List (S91)) (a1:Int) (r1:Int) (r2:List (S56)) (r3:List (S91)) (w0 w:World) (hB:Below w0.heap.size w0 w) (ho0_6:Kd.R k56 56 w w0.heap.size P0_6_ u9000_ l0_6) (ho0_7:Kd.R k91 91 w w0.heap.size P0_7_ u9001_ l0_7) (h:laws_markMsg.f k a0_0 a0_1 a0_2 a0_3 a0_4 a0_5 l0_6 l0_7 a1=some (r1,r2,r3)) :
  Calls Try.prog 20 #[.agg #[.int .i64 a0_0,.int .i64 a0_1,.int .i64 a0_2,.int .i64 a0_3,.string a0_4,.int .i64 a0_5,u9000_,u9001_],.int .i64 a1] w fun e w'=>e = .returned (.int .i64 r1)∧Kd.R k56 56 w' w0.heap.size (fun k_=>((P0_6_ k_∨P0_7_ k_)∨w.heap.size≤k_)) u9000_ r2∧Kd.R k91 91 w' w0.heap.size (fun k_=>((P0_6_ k_∨P0_7_ k_)∨w.heap.size≤k_)) u9001_ r3∧Below w0.heap.size w0 w'∧Kept w w' (fun k_=>P0_6_ k_∨P0_7_ k_):=by
 have hu42:=Try.underlying42
 have hu40:=Try.underlying40
 have HO0_6:=Aside0.mk (show Kd.R k56 56 w w0.heap.size (fun k_=>((P0_6_ k_∨P0_7_ k_)∨w.heap.size≤k_)) u9000_ l0_6 from Kd.R_mono ho0_6 (fun k_ hk=>(.inl (.inl hk))))
 have HO0_7:=Aside0.mk (show Kd.R k91 91 w w0.heap.size (fun k_=>((P0_6_ k_∨P0_7_ k_)∨w.heap.size≤k_)) u9001_ l0_7 from Kd.R_mono ho0_7 (fun k_ hk=>(.inl (.inr hk))))
 have HK:=Aside0.mk (Kept.refl w (fun k_=>P0_6_ k_∨P0_7_ k_))
 have HW0:=Aside0.mk hB.size
 have HB:=Aside0.mk hB
 clear hB
 have H:((laws_markSet.f k l0_6 l0_7 a1).bind fun bt354=>(some (bt354.1,bt354.2.1,bt354.2.2)))=some (r1,r2,r3):=h
 clear h
 replace H:=Option.bind_eq_some_iff.mp H
 obtain ⟨⟨t354,t355,t356⟩,A30,H⟩:=H
 replace H:(some (t354,t355,t356))=some (r1,r2,r3):=H
 have A3:=Aside0.mk A30
 clear A30
 simp only [Option.some.injEq,Prod.mk.injEq] at H
 obtain ⟨rfl,rfl,rfl⟩:=H
 obtain ⟨Ao4,co4,eo4⟩:=Kd.R_slice HO0_6.out
 subst eo4
 obtain ⟨Ao5,co5,eo5⟩:=Kd.R_slice HO0_7.out
 subst eo5
 go_enter Try.func20,Try.ntmps20
 go_wp2_with (first | ((with_reducible refine gd_ 2 ?_);refine be_ 2 #[.int .i64 a0_0,.int .i64 a0_1,.int .i64 a0_2,.int .i64 a0_3,.string a0_4,.int .i64 a0_5,.slice Ao4 l0_6.length co4,.slice Ao5 l0_7.length co5] 42 ?_;intro gb353 hg w6 hbox hb;refine as7_ (Kd.R_below (z0_ HO0_6.out) hb) (Kd.R_below (z0_ HO0_7.out) hb) (Kept.below (S:=(fun k_=>P0_6_ k_∨P0_7_ k_)) (z24_ HK.out) hb) (below_step (z5_ HB.out) hb) (hbox) ((by rw [hg];exact (by first | exact HK.out.1 | exact (show Kept w _ (fun k_=>P0_6_ k_∨P0_7_ k_) from by repeat (first | (with_reducible first | exact HK.out | apply Kept.alloc | apply Kept.drewN | apply Kept.drew) | exact HK.out)).1):w.heap.size≤gb353)) ((z7_ HB.out:w0.heap.size≤gb353)) ?_;clear HO0_6 HO0_7 HK HB;intro HO0_6 HO0_7 HK HB BK353 GW353 GE353;clear hb hbox hg;have ⟨hcz7_0,hcz7_1,hcz7_2,hcz7_3,hcz7_4,hcz7_5,hcz7_6,hcz7_7,hfz7_0,hfz7_1,hfz7_2,hfz7_3,hfz7_4,hfz7_5,hfz7_6,hfz7_7⟩:=cz8_ BK353.out) | ((with_reducible refine gc_ 21 ?_);refine gl_ (some 8) Try.func21 #[.agg #[.slice Ao4 l0_6.length co4,.slice Ao5 l0_7.length co5],.int .i64 a1] ?_;(with_reducible refine (laws_markSet.calls k (fun k_=>some k_=(.slice Ao4 l0_6.length co4:Value).ownBlock) (.slice Ao4 l0_6.length co4) l0_6 (fun k_=>some k_=(.slice Ao5 l0_7.length co5:Value).ownBlock) (.slice Ao5 l0_7.length co5) l0_7 a1 t354 t355 t356 w0 _ ?s1 ?s2 ?s3 A3.out).mono ?_);(case s1=>repeat (first | (with_reducible first | exact HB.out | apply below_alloc | apply pw_below_drewN | apply below_drew1 | refine below_set ?_ GE353.out) | exact HB.out));(case s2=>exact Kd.R_tight rfl HO0_6.out);(case s3=>exact Kd.R_tight rfl HO0_7.out);rintro e w8 ⟨rfl,hy0,hy1,hb,hkp⟩;refine ⟨_,rfl,?_⟩;refine as5_ (Kd.R_reok rfl hy0 (fun k_ e_=>HO0_6.out.1 k_ e_)) (Kd.R_reok rfl hy1 (fun k_ e_=>HO0_7.out.1 k_ e_)) (blk_kept (z3_ BK353.out) hkp (fun hs_=>Or.elim hs_ (fun e_=>(fun e_=>(Kd.R_ne HO0_6.out BK353.out (by decide)) e_) e_) (fun e_=>(fun e_=>(Kd.R_ne HO0_7.out BK353.out (by decide)) e_) e_))) (Kept.then_ (S:=(fun k_=>P0_6_ k_∨P0_7_ k_)) (z37_ HK.out GW353.out) hkp (fun k_ hs_=>Or.elim hs_ (fun e_=>(fun e_=>(HO0_6.out.1 k_ e_.symm)) e_) (fun e_=>(fun e_=>(HO0_7.out.1 k_ e_.symm)) e_))) (hb) ?_;clear HO0_6 HO0_7 BK353 HK HB;intro HO0_6 HO0_7 BK353 HK HB;(try clear hb);(try clear hkp);(try clear hy0);(try clear hy1)))
 go_ret
 exact ⟨z8_,z0_ HO0_6.out,z0_ HO0_7.out,z4_ HB.out GE353.out,z37_ HK.out GW353.out⟩


/-! ### laws_markMsgOut: function 22 -/
def laws_markMsgOut.f (k:Nat) (a0_0:Int) (a0_1:Int) (a0_2:Int) (a0_3:Int) (a0_4:ByteArray) (a0_5:Int) (l0_6:List (S56)) (l0_7:List (S91)) (a0_8:Int) (a1:Int):Option (Int × (List (S56)) × (List (S91))):=(laws_markMsg.f k a0_0 a0_1 a0_2 a0_3 a0_4 a0_5 l0_6 l0_7 a1).bind fun bt358=>(some (bt358.1,bt358.2.1,bt358.2.2))
theorem laws_markMsgOut.mono:∀ a0 a1 a2 a3 a4 a5 a6 a7 a8 a9 k,LeO (laws_markMsgOut.f k a0 a1 a2 a3 a4 a5 a6 a7 a8 a9) (laws_markMsgOut.f (k+1) a0 a1 a2 a3 a4 a5 a6 a7 a8 a9):=by
 intro a0 a1 a2 a3 a4 a5 a6 a7 a8 a9 k
 unfold laws_markMsgOut.f
 repeat' first
   | (with_reducible exact laws_markMsg.mono _ _ _ _ _ _ _ _ _ _)
   | (with_reducible exact LeO.refl _)
   | (with_reducible exact LeO.none _)
   | (with_reducible refine LeO.ite ?_ ?_)
   | (with_reducible refine LeO.bind ?_ (fun _=>?_))
   | exact laws_markMsg.mono _ _ _ _ _ _ _ _ _ _
   | exact LeO.none _
   | refine LeO.ite ?_ ?_
   | refine LeO.bind ?_ (fun _=>?_)
set_option maxHeartbeats 8000000 in
set_option maxRecDepth 100000 in
theorem laws_markMsgOut.calls (k:Nat) (a0_0:Int) (a0_1:Int) (a0_2:Int) (a0_3:Int) (a0_4:ByteArray) (a0_5:Int) (P0_6_:Nat→Prop) (u9000_:Value) (l0_6:List (S56)) (P0_7_:Nat→Prop) (u9001_:Value) (l0_7:List (S91)) (a0_8:Int) (a1:Int) (r1:Int) (r2:List (S56)) (r3:List (S91)) (w0 w:World) (hB:Below w0.heap.size w0 w) (ho0_6:Kd.R k56 56 w w0.heap.size P0_6_ u9000_ l0_6) (ho0_7:Kd.R k91 91 w w0.heap.size P0_7_ u9001_ l0_7) (h:laws_markMsgOut.f k a0_0 a0_1 a0_2 a0_3 a0_4 a0_5 l0_6 l0_7 a0_8 a1=some (r1,r2,r3)) :
  Calls Try.prog 22 #[.agg #[.int .i64 a0_0,.int .i64 a0_1,.int .i64 a0_2,.int .i64 a0_3,.string a0_4,.int .i64 a0_5,u9000_,u9001_,.int .i64 a0_8],.int .i64 a1] w fun e w'=>e = .returned (.int .i64 r1)∧Kd.R k56 56 w' w0.heap.size (fun k_=>((P0_6_ k_∨P0_7_ k_)∨w.heap.size≤k_)) u9000_ r2∧Kd.R k91 91 w' w0.heap.size (fun k_=>((P0_6_ k_∨P0_7_ k_)∨w.heap.size≤k_)) u9001_ r3∧Below w0.heap.size w0 w'∧Kept w w' (fun k_=>P0_6_ k_∨P0_7_ k_):=by
 have hu44:=Try.underlying44
 have hu42:=Try.underlying42
 have HO0_6:=Aside0.mk (show Kd.R k56 56 w w0.heap.size (fun k_=>((P0_6_ k_∨P0_7_ k_)∨w.heap.size≤k_)) u9000_ l0_6 from Kd.R_mono ho0_6 (fun k_ hk=>(.inl (.inl hk))))
 have HO0_7:=Aside0.mk (show Kd.R k91 91 w w0.heap.size (fun k_=>((P0_6_ k_∨P0_7_ k_)∨w.heap.size≤k_)) u9001_ l0_7 from Kd.R_mono ho0_7 (fun k_ hk=>(.inl (.inr hk))))
 have HK:=Aside0.mk (Kept.refl w (fun k_=>P0_6_ k_∨P0_7_ k_))
 have HW0:=Aside0.mk hB.size
 have HB:=Aside0.mk hB
 clear hB
 have H:((laws_markMsg.f k a0_0 a0_1 a0_2 a0_3 a0_4 a0_5 l0_6 l0_7 a1).bind fun bt358=>(some (bt358.1,bt358.2.1,bt358.2.2)))=some (r1,r2,r3):=h
 clear h
 replace H:=Option.bind_eq_some_iff.mp H
 obtain ⟨⟨t358,t359,t360⟩,A30,H⟩:=H
 replace H:(some (t358,t359,t360))=some (r1,r2,r3):=H
 have A3:=Aside0.mk A30
 clear A30
 simp only [Option.some.injEq,Prod.mk.injEq] at H
 obtain ⟨rfl,rfl,rfl⟩:=H
 obtain ⟨Ao4,co4,eo4⟩:=Kd.R_slice HO0_6.out
 subst eo4
 obtain ⟨Ao5,co5,eo5⟩:=Kd.R_slice HO0_7.out
 subst eo5
 go_enter Try.func22,Try.ntmps22
 go_wp2_with (first | ((with_reducible refine gd_ 2 ?_);refine be_ 2 #[.int .i64 a0_0,.int .i64 a0_1,.int .i64 a0_2,.int .i64 a0_3,.string a0_4,.int .i64 a0_5,.slice Ao4 l0_6.length co4,.slice Ao5 l0_7.length co5,.int .i64 a0_8] 44 ?_;intro gb357 hg w6 hbox hb;refine as7_ (Kd.R_below (z0_ HO0_6.out) hb) (Kd.R_below (z0_ HO0_7.out) hb) (Kept.below (S:=(fun k_=>P0_6_ k_∨P0_7_ k_)) (z24_ HK.out) hb) (below_step (z5_ HB.out) hb) (hbox) ((by rw [hg];exact (by first | exact HK.out.1 | exact (show Kept w _ (fun k_=>P0_6_ k_∨P0_7_ k_) from by repeat (first | (with_reducible first | exact HK.out | apply Kept.alloc | apply Kept.drewN | apply Kept.drew) | exact HK.out)).1):w.heap.size≤gb357)) ((z7_ HB.out:w0.heap.size≤gb357)) ?_;clear HO0_6 HO0_7 HK HB;intro HO0_6 HO0_7 HK HB BK357 GW357 GE357;clear hb hbox hg;have ⟨hcz7_0,hcz7_1,hcz7_2,hcz7_3,hcz7_4,hcz7_5,hcz7_6,hcz7_7,hcz7_8,hfz7_0,hfz7_1,hfz7_2,hfz7_3,hfz7_4,hfz7_5,hfz7_6,hfz7_7,hfz7_8⟩:=cz9_ BK357.out) | ((with_reducible refine gc_ 20 ?_);refine gl_ (some 8) Try.func20 #[.agg #[.int .i64 a0_0,.int .i64 a0_1,.int .i64 a0_2,.int .i64 a0_3,.string a0_4,.int .i64 a0_5,.slice Ao4 l0_6.length co4,.slice Ao5 l0_7.length co5],.int .i64 a1] ?_;(with_reducible refine (laws_markMsg.calls k a0_0 a0_1 a0_2 a0_3 a0_4 a0_5 (fun k_=>some k_=(.slice Ao4 l0_6.length co4:Value).ownBlock) (.slice Ao4 l0_6.length co4) l0_6 (fun k_=>some k_=(.slice Ao5 l0_7.length co5:Value).ownBlock) (.slice Ao5 l0_7.length co5) l0_7 a1 t358 t359 t360 w0 _ ?s1 ?s2 ?s3 A3.out).mono ?_);(case s1=>repeat (first | (with_reducible first | exact HB.out | apply below_alloc | apply pw_below_drewN | apply below_drew1 | refine below_set ?_ GE357.out) | exact HB.out));(case s2=>exact Kd.R_tight rfl HO0_6.out);(case s3=>exact Kd.R_tight rfl HO0_7.out);rintro e w8 ⟨rfl,hy0,hy1,hb,hkp⟩;refine ⟨_,rfl,?_⟩;refine as5_ (Kd.R_reok rfl hy0 (fun k_ e_=>HO0_6.out.1 k_ e_)) (Kd.R_reok rfl hy1 (fun k_ e_=>HO0_7.out.1 k_ e_)) (blk_kept (z3_ BK357.out) hkp (fun hs_=>Or.elim hs_ (fun e_=>(fun e_=>(Kd.R_ne HO0_6.out BK357.out (by decide)) e_) e_) (fun e_=>(fun e_=>(Kd.R_ne HO0_7.out BK357.out (by decide)) e_) e_))) (Kept.then_ (S:=(fun k_=>P0_6_ k_∨P0_7_ k_)) (z37_ HK.out GW357.out) hkp (fun k_ hs_=>Or.elim hs_ (fun e_=>(fun e_=>(HO0_6.out.1 k_ e_.symm)) e_) (fun e_=>(fun e_=>(HO0_7.out.1 k_ e_.symm)) e_))) (hb) ?_;clear HO0_6 HO0_7 BK357 HK HB;intro HO0_6 HO0_7 BK357 HK HB;(try clear hb);(try clear hkp);(try clear hy0);(try clear hy1)))
 go_ret
 exact ⟨z8_,z0_ HO0_6.out,z0_ HO0_7.out,z4_ HB.out GE357.out,z37_ HK.out GW357.out⟩

end Go.Proofs.Ytphbgcfpcadabaa.P
