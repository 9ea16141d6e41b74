/- For all sets the program's SetSync and the reference's return the same, of its own memory, and leave what they are given. No condition. (Part 2 of 6: written by programs of this workplace and by hand, merged.) -/
import Derived.Test.YtphbgcfpcadabaaMFnExactSetSynca
set_option linter.unusedVariables false
set_option linter.unusedSimpArgs false

namespace Go.Proofs.Ytphbgcfpcadabaa.P
open Go.RowKit Go.Proofs.YtphbgcfpcadabaaW.PrintWords Go.Proofs.YtphbgcfpcadabaaW.PrintLast Go.Proofs.YtphbgcfpcadabaaW.PrintMore
attribute [local go_sem] max2_int min2_int max_two min_two max_three min_three max_four min_four   -- for this text's walks alone
set_option linter.unusedVariables false
set_option linter.unusedSimpArgs false

/-! ### spec_SetRight: function 51 -/
mutual
def spec_SetRight.j0:Nat→Bool→List (S56)→List (S91)→Option (Bool)
 | 0,_,_,_=>none
 | k+1,x14,x126000,x126001=>if x14=true then (some false) else (spec_SetRight.l0 k 0 x126000 x126001)
def spec_SetRight.l0:Nat→Int→List (S56)→List (S91)→Option (Bool)
 | 0,_,_,_=>none
 | k+1,x3,x126000,x126001=>if x3<(x126001.length:Int) then (if 0≤x3 then ((spec_SeenHas.f k x126000 ((rd_T91 x126001 x3).f0.f0) ((rd_T91 x126001 x3).f0.f1)).bind fun t129=>(if t129=true then (if (((rd_T91 x126001 x3).f2).size:Int)>16 then (some false) else (if (rd_T91 x126001 x3).f1=true then (if ((rd_T91 x126001 x3).f2).toList=([]:List UInt8) then (if x3>0 then (if 0≤(wrap64 (x3-1)) then (if (wrap64 (x3-1))<(x126001.length:Int) then ((spec_l03Less.f ((rd_T91 x126001 (wrap64 (x3-1))).f0.f0) ((rd_T91 x126001 (wrap64 (x3-1))).f0.f1) ((rd_T91 x126001 x3).f0.f0) ((rd_T91 x126001 x3).f0.f1)).bind fun t131=>(if t131=true then (spec_SetRight.l0 k (wrap64 (x3+1)) x126000 x126001) else (some false))) else (none)) else (none)) else (spec_SetRight.l0 k (wrap64 (x3+1)) x126000 x126001)) else (some false)) else (if x3>0 then (if 0≤(wrap64 (x3-1)) then (if (wrap64 (x3-1))<(x126001.length:Int) then ((spec_l03Less.f ((rd_T91 x126001 (wrap64 (x3-1))).f0.f0) ((rd_T91 x126001 (wrap64 (x3-1))).f0.f1) ((rd_T91 x126001 x3).f0.f0) ((rd_T91 x126001 x3).f0.f1)).bind fun t133=>(if t133=true then (spec_SetRight.l0 k (wrap64 (x3+1)) x126000 x126001) else (some false))) else (none)) else (none)) else (spec_SetRight.l0 k (wrap64 (x3+1)) x126000 x126001)))) else (some false))) else (none)) else (some true)
end
def spec_SetRight.f (k:Nat) (l0_0:List (S56)) (l0_1:List (S91)):Option (Bool):=(spec_SeenRight.f k l0_0).bind fun t126=>(if t126=true then (spec_SetRight.j0 k (decide ((l0_1.length:Int)>8)) l0_0 l0_1) else (spec_SetRight.j0 k true l0_0 l0_1))
theorem spec_SetRight.mono_l:∀ k,(∀ y0 y1 y2,LeO (spec_SetRight.j0 k y0 y1 y2) (spec_SetRight.j0 (k+1) y0 y1 y2))∧(∀ y0 y1 y2,LeO (spec_SetRight.l0 k y0 y1 y2) (spec_SetRight.l0 (k+1) y0 y1 y2))
 | 0=>⟨fun _ _ _ r h=>by simp [spec_SetRight.j0] at h,fun _ _ _ r h=>by simp [spec_SetRight.l0] at h⟩
 | k+1=>by
  obtain ⟨ih0,ih1⟩:=spec_SetRight.mono_l k
  refine ⟨?_,?_⟩
  ·intro y0 y1 y2
   unfold spec_SetRight.j0
   repeat' first
   | (with_reducible exact ih0 _ _ _)
   | (with_reducible exact ih1 _ _ _)
   | (with_reducible exact spec_SeenHas.mono _ _ _ _)
   | (with_reducible exact spec_SeenRight.mono _ _)
   | (with_reducible exact LeO.refl _)
   | (with_reducible exact LeO.none _)
   | (with_reducible refine LeO.ite ?_ ?_)
   | (with_reducible refine LeO.bind ?_ (fun _=>?_))
   | exact ih0 _ _ _
   | exact ih1 _ _ _
   | exact spec_SeenHas.mono _ _ _ _
   | exact spec_SeenRight.mono _ _
   | exact LeO.none _
   | refine LeO.ite ?_ ?_
   | refine LeO.bind ?_ (fun _=>?_)
  ·intro y0 y1 y2
   unfold spec_SetRight.l0
   repeat' first
   | (with_reducible exact ih0 _ _ _)
   | (with_reducible exact ih1 _ _ _)
   | (with_reducible exact spec_SeenHas.mono _ _ _ _)
   | (with_reducible exact spec_SeenRight.mono _ _)
   | (with_reducible exact LeO.refl _)
   | (with_reducible exact LeO.none _)
   | (with_reducible refine LeO.ite ?_ ?_)
   | (with_reducible refine LeO.bind ?_ (fun _=>?_))
   | exact ih0 _ _ _
   | exact ih1 _ _ _
   | exact spec_SeenHas.mono _ _ _ _
   | exact spec_SeenRight.mono _ _
   | exact LeO.none _
   | refine LeO.ite ?_ ?_
   | refine LeO.bind ?_ (fun _=>?_)
theorem spec_SetRight.mono:∀ a0 a1 k,LeO (spec_SetRight.f k a0 a1) (spec_SetRight.f (k+1) a0 a1):=by
 intro a0 a1 k
 obtain ⟨ih0,ih1⟩:=spec_SetRight.mono_l k
 unfold spec_SetRight.f
 repeat' first
   | (with_reducible exact ih0 _ _ _)
   | (with_reducible exact ih1 _ _ _)
   | (with_reducible exact spec_SeenHas.mono _ _ _ _)
   | (with_reducible exact spec_SeenRight.mono _ _)
   | (with_reducible exact LeO.refl _)
   | (with_reducible exact LeO.none _)
   | (with_reducible refine LeO.ite ?_ ?_)
   | (with_reducible refine LeO.bind ?_ (fun _=>?_))
   | exact ih0 _ _ _
   | exact ih1 _ _ _
   | exact spec_SeenHas.mono _ _ _ _
   | exact spec_SeenRight.mono _ _
   | exact LeO.none _
   | refine LeO.ite ?_ ?_
   | refine LeO.bind ?_ (fun _=>?_)
def spec_SetRight.T7:Bool × List (List Nat × List Nat):=(true,[([],[]),([0],[0]),([],[]),([2],[2]),([1,3],[1,3]),([4],[4]),([5,4],[5]),([6],[6]),([7,6],[6,7]),([8,6],[6,8]),([9,6],[6,9]),([6,10],[6,10]),([11,6],[11]),([12],[12]),([13,12],[12,13]),([14,12,12],[12,14]),([15],[15]),([16,15],[15,16]),([17,15],[15,17]),([15,18,12],[12,15,18]),([12,19],[12,19]),([20,15],[20]),([21],[21]),([22,21],[21,22]),([23,21,21],[21,23]),([24],[24]),([25,24],[24,25]),([24],[24]),([27,24],[24,27]),([26,28,24],[24,26,28]),([29,24],[24,29]),([30,24],[24,30]),([24],[24]),([32,24],[24,32]),([31,33,24,24],[24,31,33]),([34,24],[24,34]),([24,35,21],[21,24,35]),([21,36],[21,36])])
def spec_SetRight.B7:List Nat:=[0,1,0,4,15,31,63,127,255,511,1023,2047,4095,8191,16383,32767,65535,131071,262143,524287,1048575,2097151,4194303,8388607,16777215,33554431,67108863,33554431,167772159,536870911,1073741823,2147483647,33554431,4328521727,17179869183,34359738367,68719476735,137438953471]
theorem spec_SetRight.tab7:rtab .any (opsOf Try.f51 7)=spec_SetRight.T7:=by kernel_rfl
theorem spec_SetRight.bits7:waitsOk spec_SetRight.T7.2 spec_SetRight.B7=true:=by kernel_rfl
abbrev spec_SetRight.q0:Array Bool:=#[O,O,O,O,O,O,O,O,O,O,O,O,O,O,O,O,O,O,O,O,O,O,O,O,O,O,O,O,O,O,O,O,O,O,O,O,O,O]
abbrev spec_SetRight.q1:Array Bool:=#[I,O,O,O,O,O,O,O,O,O,O,O,O,O,O,O,O,O,O,O,O,O,O,O,O,O,O,O,O,O,O,O,O,O,O,O,O,O]
abbrev spec_SetRight.q2:Array Bool:=#[I,O,I,O,O,O,O,O,O,O,O,O,O,O,O,O,O,O,O,O,O,O,O,O,O,O,O,O,O,O,O,O,O,O,O,O,O,O]
abbrev spec_SetRight.q3:Array Bool:=#[I,I,I,O,O,O,O,O,O,O,O,O,O,O,O,O,O,O,O,O,O,O,O,O,O,O,O,O,O,O,O,O,O,O,O,O,O,O]
abbrev spec_SetRight.q4:Array Bool:=#[I,I,I,I,O,O,O,O,O,O,O,O,O,O,O,O,O,O,O,O,O,O,O,O,O,O,O,O,O,O,O,O,O,O,O,O,O,O]
abbrev spec_SetRight.q5:Array Bool:=#[I,I,I,I,I,O,O,O,O,O,O,O,O,O,O,O,O,O,O,O,O,O,O,O,O,O,O,O,O,O,O,O,O,O,O,O,O,O]
abbrev spec_SetRight.q6:Array Bool:=#[I,I,I,I,I,I,O,O,O,O,O,O,O,O,O,O,O,O,O,O,O,O,O,O,O,O,O,O,O,O,O,O,O,O,O,O,O,O]
abbrev spec_SetRight.q7:Array Bool:=#[I,I,I,I,I,I,I,O,O,O,O,O,O,O,O,O,O,O,O,O,O,O,O,O,O,O,O,O,O,O,O,O,O,O,O,O,O,O]
abbrev spec_SetRight.q8:Array Bool:=#[I,I,I,I,I,I,I,I,O,O,O,O,O,O,O,O,O,O,O,O,O,O,O,O,O,O,O,O,O,O,O,O,O,O,O,O,O,O]
abbrev spec_SetRight.q9:Array Bool:=#[I,I,I,I,I,I,I,I,I,O,O,O,O,O,O,O,O,O,O,O,O,O,O,O,O,O,O,O,O,O,O,O,O,O,O,O,O,O]
abbrev spec_SetRight.q10:Array Bool:=#[I,I,I,I,I,I,I,I,I,I,O,O,O,O,O,O,O,O,O,O,O,O,O,O,O,O,O,O,O,O,O,O,O,O,O,O,O,O]
abbrev spec_SetRight.q11:Array Bool:=#[I,I,I,I,I,I,I,I,I,I,I,O,O,O,O,O,O,O,O,O,O,O,O,O,O,O,O,O,O,O,O,O,O,O,O,O,O,O]
abbrev spec_SetRight.q12:Array Bool:=#[I,I,I,I,I,I,I,I,I,I,I,I,O,O,O,O,O,O,O,O,O,O,O,O,O,O,O,O,O,O,O,O,O,O,O,O,O,O]
abbrev spec_SetRight.q13:Array Bool:=#[I,I,I,I,I,I,I,I,I,I,I,I,I,O,O,O,O,O,O,O,O,O,O,O,O,O,O,O,O,O,O,O,O,O,O,O,O,O]
abbrev spec_SetRight.q14:Array Bool:=#[I,I,I,I,I,I,I,I,I,I,I,I,I,I,O,O,O,O,O,O,O,O,O,O,O,O,O,O,O,O,O,O,O,O,O,O,O,O]
abbrev spec_SetRight.q15:Array Bool:=#[I,I,I,I,I,I,I,I,I,I,I,I,I,I,I,O,O,O,O,O,O,O,O,O,O,O,O,O,O,O,O,O,O,O,O,O,O,O]
abbrev spec_SetRight.q16:Array Bool:=#[I,I,I,I,I,I,I,I,I,I,I,I,I,I,I,I,O,O,O,O,O,O,O,O,O,O,O,O,O,O,O,O,O,O,O,O,O,O]
abbrev spec_SetRight.q17:Array Bool:=#[I,I,I,I,I,I,I,I,I,I,I,I,I,I,I,I,I,O,O,O,O,O,O,O,O,O,O,O,O,O,O,O,O,O,O,O,O,O]
abbrev spec_SetRight.q18:Array Bool:=#[I,I,I,I,I,I,I,I,I,I,I,I,I,I,I,I,I,I,O,O,O,O,O,O,O,O,O,O,O,O,O,O,O,O,O,O,O,O]
abbrev spec_SetRight.q19:Array Bool:=#[I,I,I,I,I,I,I,I,I,I,I,I,I,I,I,I,I,I,I,O,O,O,O,O,O,O,O,O,O,O,O,O,O,O,O,O,O,O]
abbrev spec_SetRight.q20:Array Bool:=#[I,I,I,I,I,I,I,I,I,I,I,I,I,I,I,I,I,I,I,I,O,O,O,O,O,O,O,O,O,O,O,O,O,O,O,O,O,O]
abbrev spec_SetRight.q21:Array Bool:=#[I,I,I,I,I,I,I,I,I,I,I,I,I,I,I,I,I,I,I,I,I,O,O,O,O,O,O,O,O,O,O,O,O,O,O,O,O,O]
abbrev spec_SetRight.q22:Array Bool:=#[I,I,I,I,I,I,I,I,I,I,I,I,I,I,I,I,I,I,I,I,I,I,O,O,O,O,O,O,O,O,O,O,O,O,O,O,O,O]
abbrev spec_SetRight.q23:Array Bool:=#[I,I,I,I,I,I,I,I,I,I,I,I,I,I,I,I,I,I,I,I,I,I,I,O,O,O,O,O,O,O,O,O,O,O,O,O,O,O]
abbrev spec_SetRight.q24:Array Bool:=#[I,I,I,I,I,I,I,I,I,I,I,I,I,I,I,I,I,I,I,I,I,I,I,I,O,O,O,O,O,O,O,O,O,O,O,O,O,O]
abbrev spec_SetRight.q25:Array Bool:=#[I,I,I,I,I,I,I,I,I,I,I,I,I,I,I,I,I,I,I,I,I,I,I,I,I,O,O,O,O,O,O,O,O,O,O,O,O,O]
abbrev spec_SetRight.q26:Array Bool:=#[I,I,I,I,I,I,I,I,I,I,I,I,I,I,I,I,I,I,I,I,I,I,I,I,I,I,O,O,O,O,O,O,O,O,O,O,O,O]
abbrev spec_SetRight.q27:Array Bool:=#[I,I,I,I,I,I,I,I,I,I,I,I,I,I,I,I,I,I,I,I,I,I,I,I,I,I,I,O,O,O,O,O,O,O,O,O,O,O]
abbrev spec_SetRight.q28:Array Bool:=#[I,I,I,I,I,I,I,I,I,I,I,I,I,I,I,I,I,I,I,I,I,I,I,I,I,I,I,I,O,O,O,O,O,O,O,O,O,O]
abbrev spec_SetRight.q29:Array Bool:=#[I,I,I,I,I,I,I,I,I,I,I,I,I,I,I,I,I,I,I,I,I,I,I,I,I,I,I,I,I,O,O,O,O,O,O,O,O,O]
abbrev spec_SetRight.q30:Array Bool:=#[I,I,I,I,I,I,I,I,I,I,I,I,I,I,I,I,I,I,I,I,I,I,I,I,I,I,I,I,I,I,O,O,O,O,O,O,O,O]
abbrev spec_SetRight.q31:Array Bool:=#[I,I,I,I,I,I,I,I,I,I,I,I,I,I,I,I,I,I,I,I,I,I,I,I,I,I,I,I,I,I,I,O,O,O,O,O,O,O]
abbrev spec_SetRight.q32:Array Bool:=#[I,I,I,I,I,I,I,I,I,I,I,I,I,I,I,I,I,I,I,I,I,I,I,I,I,I,I,I,I,I,I,I,O,O,O,O,O,O]
abbrev spec_SetRight.q33:Array Bool:=#[I,I,I,I,I,I,I,I,I,I,I,I,I,I,I,I,I,I,I,I,I,I,I,I,I,I,I,I,I,I,I,I,I,O,O,O,O,O]
abbrev spec_SetRight.q34:Array Bool:=#[I,I,I,I,I,I,I,I,I,I,I,I,I,I,I,I,I,I,I,I,I,I,I,I,I,I,I,I,I,I,I,I,I,I,O,O,O,O]
abbrev spec_SetRight.q35:Array Bool:=#[I,I,I,I,I,I,I,I,I,I,I,I,I,I,I,I,I,I,I,I,I,I,I,I,I,I,I,I,I,I,I,I,I,I,I,O,O,O]
abbrev spec_SetRight.q36:Array Bool:=#[I,I,I,I,I,I,I,I,I,I,I,I,I,I,I,I,I,I,I,I,I,I,I,I,I,I,I,I,I,I,I,I,I,I,I,I,O,O]
abbrev spec_SetRight.q37:Array Bool:=#[I,I,I,I,I,I,I,I,I,I,I,I,I,I,I,I,I,I,I,I,I,I,I,I,I,I,I,I,I,I,I,I,I,I,I,I,I,O]
abbrev spec_SetRight.q38:Array Bool:=#[I,I,I,I,I,I,I,I,I,I,I,I,I,I,I,I,I,I,I,I,I,I,I,I,I,I,I,I,I,I,I,I,I,I,I,I,I,I]
abbrev spec_SetRight.q39:Array Bool:=#[I,I,I,I,I,I,I,I,I,I,I,I,I,I,I,I,I,I,I,I,I,I,I,I,I,I,O,I,O,O,O,O,O,O,O,O,O,O]
abbrev spec_SetRight.q40:Array Bool:=#[I,I,I,I,I,I,I,I,I,I,I,I,I,I,I,I,I,I,I,I,I,I,I,I,I,I,O,I,I,O,O,O,O,O,O,O,O,O]
abbrev spec_SetRight.q41:Array Bool:=#[I,I,I,I,I,I,I,I,I,I,I,I,I,I,I,I,I,I,I,I,I,I,I,I,I,I,O,I,I,O,O,O,I,O,O,O,O,O]
abbrev spec_SetRight.q42:Array Bool:=#[I,I,I,I,I,I,I,I,I,I,I,I,I,I,I,I,I,I,I,I,I,I,I,I,I,I,I,I,I,O,O,O,I,O,O,O,O,O]
abbrev spec_SetRight.q43:Array Bool:=#[I,I,I,I,I,I,I,I,I,I,I,I,I,I,I,I,I,I,I,I,I,I,I,I,I,I,I,I,I,I,O,O,I,O,O,O,O,O]
abbrev spec_SetRight.q44:Array Bool:=#[I,I,I,I,I,I,I,I,I,I,I,I,I,I,I,I,I,I,I,I,I,I,I,I,I,I,I,I,I,I,I,O,I,O,O,O,O,O]
set_option maxHeartbeats 8000000 in
set_option maxRecDepth 100000 in
theorem spec_SetRight.calls (k:Nat) (A0_0:Option Addr) (c0_0:Nat) (l0_0:List (S56)) (A0_1:Option Addr) (c0_1:Nat) (l0_1:List (S91)) (r:Bool) (w:World) (hr0_0:Kd.C k56 w A0_0 l0_0.length l0_0) (hc0_0:l0_0.length≤c0_0) (hr0_1:Kd.C k91 w A0_1 l0_1.length l0_1) (hc0_1:l0_1.length≤c0_1) (h:spec_SetRight.f k l0_0 l0_1=some r) :
  Calls Try.prog 51 #[.agg #[.slice A0_0 l0_0.length c0_0,.slice A0_1 l0_1.length c0_1]] w fun e w'=>e = .returned (.bool r)∧Below w.heap.size w w':=by
 have hu40:=Try.underlying40
 have hu91:=Try.underlying91
 have hu56:=Try.underlying56
 have HR0_0:=Aside0.mk hr0_0
 have HC0_0:=Aside0.mk hc0_0
 clear hr0_0 hc0_0
 have HR0_1:=Aside0.mk hr0_1
 have HC0_1:=Aside0.mk hc0_1
 clear hr0_1 hc0_1
 have HB:=Aside0.mk (Below.refl w.heap.size w)
 have H:((spec_SeenRight.f k l0_0).bind fun t126=>(if t126=true then (spec_SetRight.j0 k (decide ((l0_1.length:Int)>8)) l0_0 l0_1) else (spec_SetRight.j0 k true l0_0 l0_1)))=some r:=h
 clear h
 have HC2:=Aside0.mk H
 clear H
 go_enter Try.func51,Try.ntmps51
 go_upto_region 1 with (first | ((with_reducible refine gd_ 1 ?_);(try (refine gate_guard (by rfl) ?_;dsimp only));refine be_ 1 #[.slice A0_0 l0_0.length c0_0,.slice A0_1 l0_1.length c0_1] 40 ?_;intro gb125 hg w3 hbox hb;refine as4_ (below_step (z4_ HB.out) hb) (hbox) ((z7_ HB.out:w.heap.size≤gb125)) ((z7_ HB.out:w.heap.size≤gb125)) ?_;clear HB;intro HB BK125 GW125 GE125;clear hb hbox hg))
 (try simp only [Act.put,sa_,s0_,ss_])
 go_cut [14] (fun v14 wc=>∃ (kq:Nat) (x14_1:Bool),v14 = .bool x14_1∧Aside0 (spec_SetRight.j0 kq x14_1 l0_0 l0_1=some r)∧Aside0 (kq≤k)∧Aside0 (wc.heap[gb125]? = some (.cells #[(.slice A0_0 l0_0.length c0_0),(.slice A0_1 l0_1.length c0_1)] 40 (0,0)))∧Aside0 (Below w.heap.size w wc))
 case first =>
  have H:=HC2.out
  clear HC2
  replace H:=Option.bind_eq_some_iff.mp H
  obtain ⟨t126,A40,H⟩:=H
  replace H:(if t126=true then (spec_SetRight.j0 k (decide ((l0_1.length:Int)>8)) l0_0 l0_1) else (spec_SetRight.j0 k true l0_0 l0_1))=some r:=H
  have A4:=Aside0.mk A40
  clear A40
  by_cases c5:t126=true
  ·subst c5
   have H1:(spec_SetRight.j0 k (decide ((l0_1.length:Int)>8)) l0_0 l0_1)=some r:=by rw [if_pos rfl] at H;exact H
   clear H
   have H:=H1
   clear H1
   have H':=Aside0.mk H
   clear H
   have ⟨hcz6_0,hcz6_1,hfz6_0,hfz6_1⟩:=cz2_ BK125.out
   go_wp2_with (first | ((with_reducible refine gc_ 68 ?_);refine gl_ (some 7) Try.func68 #[.slice A0_0 l0_0.length c0_0] ?_;(with_reducible refine (spec_SeenRight.calls k _ _ l0_0 true _ ?s1 ?s2 A4.out).mono ?_);(case s1=>repeat (first | exact (Kd.C_below HR0_0.out HB.out) | (with_reducible refine Kd.C_alloc ?_ _) | (with_reducible refine Kd.C_drewN ?_ _) | (with_reducible refine Kd.C_drew ?_)));(case s2=>exact HC0_0.out);rintro e w7 ⟨rfl,hb⟩;refine ⟨_,rfl,?_⟩;refine as2_ (blkB_ BK125.out hb) (below_step (z5_ HB.out GE125.out) hb) ?_;clear BK125 HB;intro BK125 HB;(try clear hb);have ⟨hcz8_0,hcz8_1,hfz8_0,hfz8_1⟩:=cz2_ BK125.out))
   go_meet
   case rel=>exact ⟨_,(decide ((l0_1.length:Int)>8)),(z3_),H',⟨by first | omega | exact Nat.le_refl _⟩,⟨z1_ BK125.out⟩,⟨z5_ HB.out GE125.out⟩⟩
  ·replace c5:=Bool.eq_false_iff.mpr c5
   subst c5
   have H1:(spec_SetRight.j0 k true l0_0 l0_1)=some r:=by rw [if_neg (show ¬ (false=true) by decide)] at H;exact H
   clear H
   have H:=H1
   clear H1
   have H':=Aside0.mk H
   clear H
   have ⟨hcz9_0,hcz9_1,hfz9_0,hfz9_1⟩:=cz2_ BK125.out
   go_wp2_with (first | ((with_reducible refine gc_ 68 ?_);refine gl_ (some 7) Try.func68 #[.slice A0_0 l0_0.length c0_0] ?_;(with_reducible refine (spec_SeenRight.calls k _ _ l0_0 false _ ?s1 ?s2 A4.out).mono ?_);(case s1=>repeat (first | exact (Kd.C_below HR0_0.out HB.out) | (with_reducible refine Kd.C_alloc ?_ _) | (with_reducible refine Kd.C_drewN ?_ _) | (with_reducible refine Kd.C_drew ?_)));(case s2=>exact HC0_0.out);rintro e w10 ⟨rfl,hb⟩;refine ⟨_,rfl,?_⟩;refine as2_ (blkB_ BK125.out hb) (below_step (z5_ HB.out GE125.out) hb) ?_;clear BK125 HB;intro BK125 HB;(try clear hb)))
   go_meet
   case rel=>exact ⟨_,(true),(z3_),H',⟨by first | omega | exact Nat.le_refl _⟩,⟨z1_ BK125.out⟩,⟨z5_ HB.out GE125.out⟩⟩
 case rest =>
  clear HC2
  try clear p2
  try clear c5
  try clear c6
  try clear hcz6_0
  try clear hcz6_1
  try clear hcz8_0
  try clear hcz8_1
  try clear hcz9_0
  try clear hcz9_1
  try clear hfz6_0
  try clear hfz6_1
  try clear hfz8_0
  try clear hfz8_1
  try clear hfz9_0
  try clear hfz9_1
  obtain ⟨kq,x14_1,rfl,HA,HJ1,BK125,HB⟩:=hcut
  cases kq with
  | zero=>exact absurd HA.out (by simp [spec_SetRight.j0])
  | succ kj1 =>
   have H:=HA.out
   clear HA
   simp only [spec_SetRight.j0] at H
   by_cases c11:x14_1=true
   ·subst c11
    have H1:(some false)=some r:=by rw [if_pos rfl] at H;exact H
    clear H
    have H:=H1
    clear H1
    obtain rfl:=Option.some.inj H
    go_wp2
    go_ret
    exact ⟨z8_,z5_ HB.out GE125.out⟩
   ·replace c11:=Bool.eq_false_iff.mpr c11
    subst c11
    have H1:(spec_SetRight.l0 kj1 0 l0_0 l0_1)=some r:=by rw [if_neg (show ¬ (false=true) by decide)] at H;exact H
    clear H
    have H:=H1
    clear H1
    have H':=Aside0.mk H
    clear H
    go_wp2
    go_loopg [3] kj1 (fun kq v3 w'=>∃ (x3_2:Int),v3 = .int .i64 x3_2∧Aside0 (spec_SetRight.l0 kq x3_2 l0_0 l0_1=some r)∧Aside0 (kq≤kj1)∧Aside0 (w'.heap[gb125]? = some (.cells #[(.slice A0_0 l0_0.length c0_0),(.slice A0_1 l0_1.length c0_1)] 40 (0,0)))∧Aside0 (Below w.heap.size w w'))
    case atStart=>exact ⟨(0),(z3_),H',⟨Nat.le_refl _⟩,⟨z1_ BK125.out⟩,⟨z5_ HB.out GE125.out⟩⟩
    case round =>
     clear H'
     try clear c1
     try clear p2
     try clear c5
     try clear c6
     try clear c11
     try clear hcz6_0
     try clear hcz6_1
     try clear hcz8_0
     try clear hcz8_1
     try clear hcz9_0
     try clear hcz9_1
     try clear hfz6_0
     try clear hfz6_1
     try clear hfz8_0
     try clear hfz8_1
     try clear hfz9_0
     try clear hfz9_1
     try clear p2
     obtain ⟨x3_2,rfl,HA,HK2,BK125,HB⟩:=hrel
     cases gk with
     | zero=>exact absurd HA.out (by simp [spec_SetRight.l0])
     | succ k2 =>
      have H:=HA.out
      clear HA
      simp only [spec_SetRight.l0] at H
      by_cases c12:x3_2<(l0_1.length:Int)
      ·rw [if_pos c12] at H
       have c12b0:decide (x3_2<(l0_1.length:Int))=true:=decide_eq_true c12
       clear c12
       by_cases c13:0≤x3_2
       ·rw [if_pos c13] at H
        have c13b0:decide (0≤x3_2)=true:=decide_eq_true c13
        clear c13
        replace H:=Option.bind_eq_some_iff.mp H
        obtain ⟨t129,A140,H⟩:=H
        replace H:(if t129=true then (if (((rd_T91 l0_1 x3_2).f2).size:Int)>16 then (some false) else (if (rd_T91 l0_1 x3_2).f1=true then (if ((rd_T91 l0_1 x3_2).f2).toList=([]:List UInt8) then (if x3_2>0 then (if 0≤(wrap64 (x3_2-1)) then (if (wrap64 (x3_2-1))<(l0_1.length:Int) then ((spec_l03Less.f ((rd_T91 l0_1 (wrap64 (x3_2-1))).f0.f0) ((rd_T91 l0_1 (wrap64 (x3_2-1))).f0.f1) ((rd_T91 l0_1 x3_2).f0.f0) ((rd_T91 l0_1 x3_2).f0.f1)).bind fun t131=>(if t131=true then (spec_SetRight.l0 k2 (wrap64 (x3_2+1)) l0_0 l0_1) else (some false))) else (none)) else (none)) else (spec_SetRight.l0 k2 (wrap64 (x3_2+1)) l0_0 l0_1)) else (some false)) else (if x3_2>0 then (if 0≤(wrap64 (x3_2-1)) then (if (wrap64 (x3_2-1))<(l0_1.length:Int) then ((spec_l03Less.f ((rd_T91 l0_1 (wrap64 (x3_2-1))).f0.f0) ((rd_T91 l0_1 (wrap64 (x3_2-1))).f0.f1) ((rd_T91 l0_1 x3_2).f0.f0) ((rd_T91 l0_1 x3_2).f0.f1)).bind fun t133=>(if t133=true then (spec_SetRight.l0 k2 (wrap64 (x3_2+1)) l0_0 l0_1) else (some false))) else (none)) else (none)) else (spec_SetRight.l0 k2 (wrap64 (x3_2+1)) l0_0 l0_1)))) else (some false))=some r:=H
        have A14:=Aside0.mk A140
        clear A140
        by_cases c15:t129=true
        ·subst c15
         have H1:(if (((rd_T91 l0_1 x3_2).f2).size:Int)>16 then (some false) else (if (rd_T91 l0_1 x3_2).f1=true then (if ((rd_T91 l0_1 x3_2).f2).toList=([]:List UInt8) then (if x3_2>0 then (if 0≤(wrap64 (x3_2-1)) then (if (wrap64 (x3_2-1))<(l0_1.length:Int) then ((spec_l03Less.f ((rd_T91 l0_1 (wrap64 (x3_2-1))).f0.f0) ((rd_T91 l0_1 (wrap64 (x3_2-1))).f0.f1) ((rd_T91 l0_1 x3_2).f0.f0) ((rd_T91 l0_1 x3_2).f0.f1)).bind fun t131=>(if t131=true then (spec_SetRight.l0 k2 (wrap64 (x3_2+1)) l0_0 l0_1) else (some false))) else (none)) else (none)) else (spec_SetRight.l0 k2 (wrap64 (x3_2+1)) l0_0 l0_1)) else (some false)) else (if x3_2>0 then (if 0≤(wrap64 (x3_2-1)) then (if (wrap64 (x3_2-1))<(l0_1.length:Int) then ((spec_l03Less.f ((rd_T91 l0_1 (wrap64 (x3_2-1))).f0.f0) ((rd_T91 l0_1 (wrap64 (x3_2-1))).f0.f1) ((rd_T91 l0_1 x3_2).f0.f0) ((rd_T91 l0_1 x3_2).f0.f1)).bind fun t133=>(if t133=true then (spec_SetRight.l0 k2 (wrap64 (x3_2+1)) l0_0 l0_1) else (some false))) else (none)) else (none)) else (spec_SetRight.l0 k2 (wrap64 (x3_2+1)) l0_0 l0_1))))=some r:=by rw [if_pos rfl] at H;exact H
         clear H
         have H:=H1
         clear H1
         by_cases c16:(((rd_T91 l0_1 x3_2).f2).size:Int)>16
         ·rw [if_pos c16] at H
          have c16b0:decide (16<(((rd_T91 l0_1 x3_2).f2).size:Int))=true:=decide_eq_true c16
          have c16b1:decide (16<((rd_T91 l0_1 x3_2).f2).size)=true:=decide_eq_true (by omega)
          clear c16
          obtain rfl:=Option.some.inj H
          have ⟨hcz17_0,hcz17_1,hfz17_0,hfz17_1⟩:=cz2_ BK125.out
          have p127:0≤(x3_2:Int):=of_decide_eq_true (z2_)
          have q127:x3_2<(l0_1.length:Int):=of_decide_eq_true (z2_)
          obtain ⟨ad127,e127,hx127_0,hx127_1,hx127_2,hx127_3⟩:=at_T91 HR0_1.out x3_2 p127 q127
          cases e127
          replace hx127_0:=(HB.out.cell (World.block_lt_of_cell? w _ hx127_0)).trans hx127_0
          replace hx127_1:=(HB.out.cell (World.block_lt_of_cell? w _ hx127_1)).trans hx127_1
          replace hx127_2:=(HB.out.cell (World.block_lt_of_cell? w _ hx127_2)).trans hx127_2
          replace hx127_3:=(HB.out.cell (World.block_lt_of_cell? w _ hx127_3)).trans hx127_3
          replace p127:=eq_true p127
          replace q127:=eq_true q127
          try go_wp2_with (first | ((with_reducible refine gd_ 4 ?_);(try (refine gate_guard (by rfl) ?_;dsimp only));refine be_ 4 #[.int .i64 0,.int .i64 0,.bool false,.string (⟨#[]⟩:ByteArray)] 91 ?_;intro gb128 hg w18 hbox hb;refine as7_ (blkB_ BK125.out hb) (below_step (z5_ HB.out GE125.out) hb) (hbox) ((z10_ HB.out GE125.out:w.heap.size≤gb128)) ((z10_ HB.out GE125.out:w.heap.size≤gb128)) (neL_ BK125.out hg) (neG_ BK125.out hg) ?_;clear BK125 HB;intro BK125 HB BK128 GW128 GE128 NB125_128 NB128_125;clear hb hbox hg;have hnb19:=NB128_125.out;have hnc19:=NB125_128.out;have ⟨hcz20_0,hcz20_1,hcz20_2,hcz20_3,hfz20_0,hfz20_1,hfz20_2,hfz20_3⟩:=cz4_ BK128.out))
          have n0_:Aside0 (((((w18.setCell ⟨gb128,0,none⟩ (.int .i64 ((rd_T91 l0_1 x3_2).f0.f0))).setCell ⟨gb128,1,none⟩ (.int .i64 ((rd_T91 l0_1 x3_2).f0.f1))).setCell ⟨gb128,2,none⟩ (.bool ((rd_T91 l0_1 x3_2).f1))).setCell ⟨gb128,3,none⟩ (.string ((rd_T91 l0_1 x3_2).f2))).heap[gb125]? = some (.cells #[.slice A0_0 l0_0.length c0_0,.slice (some ad127) l0_1.length c0_1] 40 (0,0))):=⟨z16_ NB125_128.out BK125.out⟩
          have n1_:Aside0 (((((w18.setCell ⟨gb128,0,none⟩ (.int .i64 ((rd_T91 l0_1 x3_2).f0.f0))).setCell ⟨gb128,1,none⟩ (.int .i64 ((rd_T91 l0_1 x3_2).f0.f1))).setCell ⟨gb128,2,none⟩ (.bool ((rd_T91 l0_1 x3_2).f1))).setCell ⟨gb128,3,none⟩ (.string ((rd_T91 l0_1 x3_2).f2))).heap[gb128]? = some (.cells #[.int .i64 ((rd_T91 l0_1 x3_2).f0.f0),.int .i64 ((rd_T91 l0_1 x3_2).f0.f1),.bool ((rd_T91 l0_1 x3_2).f1),.string ((rd_T91 l0_1 x3_2).f2)] 91 (0,0))):=⟨z24_ BK128.out⟩
          have n2_:Aside0 (Below w.heap.size w ((((w18.setCell ⟨gb128,0,none⟩ (.int .i64 ((rd_T91 l0_1 x3_2).f0.f0))).setCell ⟨gb128,1,none⟩ (.int .i64 ((rd_T91 l0_1 x3_2).f0.f1))).setCell ⟨gb128,2,none⟩ (.bool ((rd_T91 l0_1 x3_2).f1))).setCell ⟨gb128,3,none⟩ (.string ((rd_T91 l0_1 x3_2).f2)))):=⟨z6_ HB.out GE125.out GE128.out⟩
          (try clear BK125)
          (try clear BK128)
          (try clear HB)
          generalize ((((w18.setCell ⟨gb128,0,none⟩ (.int .i64 ((rd_T91 l0_1 x3_2).f0.f0))).setCell ⟨gb128,1,none⟩ (.int .i64 ((rd_T91 l0_1 x3_2).f0.f1))).setCell ⟨gb128,2,none⟩ (.bool ((rd_T91 l0_1 x3_2).f1))).setCell ⟨gb128,3,none⟩ (.string ((rd_T91 l0_1 x3_2).f2)))=w21 at n0_ n1_ n2_ ⊢
          have BK125:=n0_
          have BK128:=n1_
          have HB:=n2_
          clear n0_ n1_ n2_
          refine as3_ (blk_drew BK125.out) (blk_drew BK128.out) (below_drew1 HB.out) ?_
          clear BK125 BK128 HB
          intro BK125 BK128 HB
          refine start_ (n:=38) (S:=fun w'=>w'.cell? ⟨gb125,0,none⟩=some (.slice A0_0 l0_0.length c0_0)∧w'.cell? ⟨gb125,1,none⟩=some (.slice (some ad127) l0_1.length c0_1)∧w'.cell? ⟨gb128,0,none⟩=some (.int .i64 ((rd_T91 l0_1 x3_2).f0.f0))∧w'.cell? ⟨gb128,1,none⟩=some (.int .i64 ((rd_T91 l0_1 x3_2).f0.f1))∧w'.cell? ⟨gb128,2,none⟩=some (.bool ((rd_T91 l0_1 x3_2).f1))∧w'.cell? ⟨gb128,3,none⟩=some (.string ((rd_T91 l0_1 x3_2).f2))) (ds:=[]) spec_SetRight.q0 (by kernel_rfl) rfl rfl (cj2_ BK125.out (cc4_ BK128.out)) (fun hHeld=>?_);refine with_tabW spec_SetRight.tab7 spec_SetRight.bits7 (fun HT_ HW_=>?_)
          generalize w21.drew=w22 at BK125 BK128 HB hHeld ⊢
          refine pu_ 0 27 spec_SetRight.q1 HT_.out ?_
          refine pu_ 2 29 spec_SetRight.q2 HT_.out ?_
          refine tk6_ 1 28 spec_SetRight.q3 HT_.out HW_.out hHeld ?_
          refine tk6_ 3 30 spec_SetRight.q4 HT_.out HW_.out hHeld ?_
          refine o1_ 4 31 spec_SetRight.q5 HT_.out (fun K hK=>?_)
          refine gs_ Try.func72 #[.slice A0_0 l0_0.length c0_0,.agg #[.int .i64 ((rd_T91 l0_1 x3_2).f0.f0),.int .i64 ((rd_T91 l0_1 x3_2).f0.f1)]] ?_
          with_reducible refine (spec_SeenHas.calls k2 _ _ l0_0 ((rd_T91 l0_1 x3_2).f0.f0) ((rd_T91 l0_1 x3_2).f0.f1) true _ ?s1 ?s2 A14.out).mono ?_
          (case s1=>repeat (first | exact (Kd.C_below HR0_0.out HB.out) | (with_reducible refine Kd.C_alloc ?_ _) | (with_reducible refine Kd.C_drewN ?_ _) | (with_reducible refine Kd.C_drew ?_)))
          (case s2=>exact HC0_0.out)
          rintro e w23 ⟨rfl,hb⟩
          refine ⟨_,rfl,?_⟩
          refine as3_ (blkB_ BK125.out hb) (blkB_ BK128.out hb) (below_step (z6_ HB.out GE125.out GE128.out) hb) ?_
          clear BK125 BK128 HB
          intro BK125 BK128 HB
          (try clear hb)
          refine hK.out _ _ (cj2_ BK125.out (cc4_ BK128.out)) (fun hHeld=>?_)
          clear hK K
          refine nm_ 31 ?_
          refine pu_ 5 32 spec_SetRight.q6 HT_.out ?_
          refine pu_ 6 33 spec_SetRight.q7 HT_.out ?_
          refine pu_ 7 34 spec_SetRight.q8 HT_.out ?_
          refine tk6_ 8 35 spec_SetRight.q9 HT_.out HW_.out hHeld ?_
          refine pu_ 9 36 spec_SetRight.q10 HT_.out ?_
          refine pu_ 10 37 spec_SetRight.q11 HT_.out ?_
          refine pu_ 11 38 spec_SetRight.q12 HT_.out ?_
          refine pu_ 12 39 spec_SetRight.q13 HT_.out ?_
          refine pn_ 13 40 spec_SetRight.q14 HT_.out ?_
          refine pn_ 14 41 spec_SetRight.q15 HT_.out ?_
          refine pn_ 15 42 spec_SetRight.q16 HT_.out ?_
          refine pn_ 16 43 spec_SetRight.q17 HT_.out ?_
          refine pn_ 17 44 spec_SetRight.q18 HT_.out ?_
          refine pn_ 18 45 spec_SetRight.q19 HT_.out ?_
          refine pn_ 19 46 spec_SetRight.q20 HT_.out ?_
          refine pu_ 20 47 spec_SetRight.q21 HT_.out ?_
          refine pu_ 21 48 spec_SetRight.q22 HT_.out ?_
          refine pn_ 22 49 spec_SetRight.q23 HT_.out ?_
          refine pn_ 23 50 spec_SetRight.q24 HT_.out ?_
          refine pn_ 24 51 spec_SetRight.q25 HT_.out ?_
          refine pn_ 25 52 spec_SetRight.q26 HT_.out ?_
          refine pn_ 26 53 spec_SetRight.q27 HT_.out ?_
          refine pn_ 27 54 spec_SetRight.q28 HT_.out ?_
          refine pn_ 28 55 spec_SetRight.q29 HT_.out ?_
          refine pn_ 29 56 spec_SetRight.q30 HT_.out ?_
          refine pn_ 30 57 spec_SetRight.q31 HT_.out ?_
          refine pn_ 31 58 spec_SetRight.q32 HT_.out ?_
          refine pn_ 32 59 spec_SetRight.q33 HT_.out ?_
          refine pn_ 33 60 spec_SetRight.q34 HT_.out ?_
          refine pn_ 34 61 spec_SetRight.q35 HT_.out ?_
          refine pn_ 35 62 spec_SetRight.q36 HT_.out ?_
          refine pn_ 36 63 spec_SetRight.q37 HT_.out ?_
          refine pu_ 37 64 spec_SetRight.q38 HT_.out ?_
          refine done_ (done_of HT_.out (by kernel_rfl)) ?_
          try go_wp2
          go_ret
          exact ⟨z8_,z6_ HB.out GE125.out GE128.out⟩
         ·rw [if_neg c16] at H
          have c16b0:decide (16<(((rd_T91 l0_1 x3_2).f2).size:Int))=false:=decide_eq_false c16
          have c16b1:decide (16<((rd_T91 l0_1 x3_2).f2).size)=false:=decide_eq_false (by omega)
          clear c16
          obtain ⟨bq24,hbq24⟩:∃ b_:Bool,b_=((rd_T91 l0_1 x3_2).f1):=⟨_,rfl⟩
          replace H:(if bq24=true then (if ((rd_T91 l0_1 x3_2).f2).toList=([]:List UInt8) then (if x3_2>0 then (if 0≤(wrap64 (x3_2-1)) then (if (wrap64 (x3_2-1))<(l0_1.length:Int) then ((spec_l03Less.f ((rd_T91 l0_1 (wrap64 (x3_2-1))).f0.f0) ((rd_T91 l0_1 (wrap64 (x3_2-1))).f0.f1) ((rd_T91 l0_1 x3_2).f0.f0) ((rd_T91 l0_1 x3_2).f0.f1)).bind fun t131=>(if t131=true then (spec_SetRight.l0 k2 (wrap64 (x3_2+1)) l0_0 l0_1) else (some false))) else (none)) else (none)) else (spec_SetRight.l0 k2 (wrap64 (x3_2+1)) l0_0 l0_1)) else (some false)) else (if x3_2>0 then (if 0≤(wrap64 (x3_2-1)) then (if (wrap64 (x3_2-1))<(l0_1.length:Int) then ((spec_l03Less.f ((rd_T91 l0_1 (wrap64 (x3_2-1))).f0.f0) ((rd_T91 l0_1 (wrap64 (x3_2-1))).f0.f1) ((rd_T91 l0_1 x3_2).f0.f0) ((rd_T91 l0_1 x3_2).f0.f1)).bind fun t133=>(if t133=true then (spec_SetRight.l0 k2 (wrap64 (x3_2+1)) l0_0 l0_1) else (some false))) else (none)) else (none)) else (spec_SetRight.l0 k2 (wrap64 (x3_2+1)) l0_0 l0_1)))=some r:=by rw [← hbq24] at H;exact H
          have Nbq24:=Aside0.mk hbq24
          clear hbq24
          by_cases c25:bq24=true
          ·subst c25
           have H1:(if ((rd_T91 l0_1 x3_2).f2).toList=([]:List UInt8) then (if x3_2>0 then (if 0≤(wrap64 (x3_2-1)) then (if (wrap64 (x3_2-1))<(l0_1.length:Int) then ((spec_l03Less.f ((rd_T91 l0_1 (wrap64 (x3_2-1))).f0.f0) ((rd_T91 l0_1 (wrap64 (x3_2-1))).f0.f1) ((rd_T91 l0_1 x3_2).f0.f0) ((rd_T91 l0_1 x3_2).f0.f1)).bind fun t131=>(if t131=true then (spec_SetRight.l0 k2 (wrap64 (x3_2+1)) l0_0 l0_1) else (some false))) else (none)) else (none)) else (spec_SetRight.l0 k2 (wrap64 (x3_2+1)) l0_0 l0_1)) else (some false))=some r:=by rw [if_pos rfl] at H;exact H
           clear H
           have H:=H1
           clear H1
           by_cases c26:((rd_T91 l0_1 x3_2).f2).toList=([]:List UInt8)
           ·rw [if_pos c26] at H
            have c26b0:(((rd_T91 l0_1 x3_2).f2).toList == ([]:List UInt8))=true:=beq_iff_eq.mpr c26
            have c26b1:(((rd_T91 l0_1 x3_2).f2).toList != ([]:List UInt8))=false:=bne_eq_false_iff_eq.mpr c26
            clear c26
            by_cases c27:x3_2>0
            ·rw [if_pos c27] at H
             have c27b0:decide (0<x3_2)=true:=decide_eq_true c27
             clear c27
             obtain ⟨ji28,hji28⟩:∃ j_:Int,(wrap64 (x3_2-1))=j_:=⟨_,rfl⟩
             replace H:(if 0≤(ji28) then (if (ji28)<(l0_1.length:Int) then ((spec_l03Less.f ((rd_T91 l0_1 (ji28)).f0.f0) ((rd_T91 l0_1 (ji28)).f0.f1) ((rd_T91 l0_1 x3_2).f0.f0) ((rd_T91 l0_1 x3_2).f0.f1)).bind fun t131=>(if t131=true then (spec_SetRight.l0 k2 (wrap64 (x3_2+1)) l0_0 l0_1) else (some false))) else (none)) else (none))=some r:=by first | (rw [hji28] at H;exact H) | (simp only [hji28] at H ⊢;exact H)
             (try rw [hji28] at A14)
             have hji28w:(IntKind.i64.wrap (x3_2-1))=ji28:=(i64_w _).trans hji28
             by_cases c29:0≤(ji28)
             ·rw [if_pos c29] at H
              have c29b0:decide (0≤(ji28))=true:=decide_eq_true c29
              clear c29
              by_cases c30:(ji28)<(l0_1.length:Int)
              ·rw [if_pos c30] at H
               have c30b0:decide ((ji28)<(l0_1.length:Int))=true:=decide_eq_true c30
               clear c30
               replace H:=Option.bind_eq_some_iff.mp H
               obtain ⟨t131,A310,H⟩:=H
               replace H:(if t131=true then (spec_SetRight.l0 k2 (wrap64 (x3_2+1)) l0_0 l0_1) else (some false))=some r:=H
               have A31:=Aside0.mk A310
               clear A310
               by_cases c32:t131=true
               ·subst c32
                have H1:(spec_SetRight.l0 k2 (wrap64 (x3_2+1)) l0_0 l0_1)=some r:=by rw [if_pos rfl] at H;exact H
                clear H
                have H:=H1
                clear H1
                have H':=Aside0.mk H
                clear H
                have ⟨hcz33_0,hcz33_1,hfz33_0,hfz33_1⟩:=cz2_ BK125.out
                have p127:0≤(x3_2:Int):=of_decide_eq_true (z2_)
                have q127:x3_2<(l0_1.length:Int):=of_decide_eq_true (z2_)
                obtain ⟨ad127,e127,hx127_0,hx127_1,hx127_2,hx127_3⟩:=at_T91 HR0_1.out x3_2 p127 q127
                (try rw [← Nbq24.out] at hx127_2)
                cases e127
                replace hx127_0:=(HB.out.cell (World.block_lt_of_cell? w _ hx127_0)).trans hx127_0
                replace hx127_1:=(HB.out.cell (World.block_lt_of_cell? w _ hx127_1)).trans hx127_1
                replace hx127_2:=(HB.out.cell (World.block_lt_of_cell? w _ hx127_2)).trans hx127_2
                replace hx127_3:=(HB.out.cell (World.block_lt_of_cell? w _ hx127_3)).trans hx127_3
                replace p127:=eq_true p127
                replace q127:=eq_true q127
                try go_wp2_with (first | ((with_reducible refine gd_ 4 ?_);(try (refine gate_guard (by rfl) ?_;dsimp only));refine be_ 4 #[.int .i64 0,.int .i64 0,.bool false,.string (⟨#[]⟩:ByteArray)] 91 ?_;intro gb128 hg w34 hbox hb;refine as7_ (blkB_ BK125.out hb) (below_step (z5_ HB.out GE125.out) hb) (hbox) ((z10_ HB.out GE125.out:w.heap.size≤gb128)) ((z10_ HB.out GE125.out:w.heap.size≤gb128)) (neL_ BK125.out hg) (neG_ BK125.out hg) ?_;clear BK125 HB;intro BK125 HB BK128 GW128 GE128 NB125_128 NB128_125;clear hb hbox hg;have hnb35:=NB128_125.out;have hnc35:=NB125_128.out;have ⟨hcz36_0,hcz36_1,hcz36_2,hcz36_3,hfz36_0,hfz36_1,hfz36_2,hfz36_3⟩:=cz4_ BK128.out))
                have n0_:Aside0 (((((w34.setCell ⟨gb128,0,none⟩ (.int .i64 ((rd_T91 l0_1 x3_2).f0.f0))).setCell ⟨gb128,1,none⟩ (.int .i64 ((rd_T91 l0_1 x3_2).f0.f1))).setCell ⟨gb128,2,none⟩ (.bool true)).setCell ⟨gb128,3,none⟩ (.string ((rd_T91 l0_1 x3_2).f2))).heap[gb125]? = some (.cells #[.slice A0_0 l0_0.length c0_0,.slice (some ad127) l0_1.length c0_1] 40 (0,0))):=⟨z16_ NB125_128.out BK125.out⟩
                have n1_:Aside0 (((((w34.setCell ⟨gb128,0,none⟩ (.int .i64 ((rd_T91 l0_1 x3_2).f0.f0))).setCell ⟨gb128,1,none⟩ (.int .i64 ((rd_T91 l0_1 x3_2).f0.f1))).setCell ⟨gb128,2,none⟩ (.bool true)).setCell ⟨gb128,3,none⟩ (.string ((rd_T91 l0_1 x3_2).f2))).heap[gb128]? = some (.cells #[.int .i64 ((rd_T91 l0_1 x3_2).f0.f0),.int .i64 ((rd_T91 l0_1 x3_2).f0.f1),.bool true,.string ((rd_T91 l0_1 x3_2).f2)] 91 (0,0))):=⟨z24_ BK128.out⟩
                have n2_:Aside0 (Below w.heap.size w ((((w34.setCell ⟨gb128,0,none⟩ (.int .i64 ((rd_T91 l0_1 x3_2).f0.f0))).setCell ⟨gb128,1,none⟩ (.int .i64 ((rd_T91 l0_1 x3_2).f0.f1))).setCell ⟨gb128,2,none⟩ (.bool true)).setCell ⟨gb128,3,none⟩ (.string ((rd_T91 l0_1 x3_2).f2)))):=⟨z6_ HB.out GE125.out GE128.out⟩
                (try clear BK125)
                (try clear BK128)
                (try clear HB)
                generalize ((((w34.setCell ⟨gb128,0,none⟩ (.int .i64 ((rd_T91 l0_1 x3_2).f0.f0))).setCell ⟨gb128,1,none⟩ (.int .i64 ((rd_T91 l0_1 x3_2).f0.f1))).setCell ⟨gb128,2,none⟩ (.bool true)).setCell ⟨gb128,3,none⟩ (.string ((rd_T91 l0_1 x3_2).f2)))=w37 at n0_ n1_ n2_ ⊢
                have BK125:=n0_
                have BK128:=n1_
                have HB:=n2_
                clear n0_ n1_ n2_
                refine as3_ (blk_drew BK125.out) (blk_drew BK128.out) (below_drew1 HB.out) ?_
                clear BK125 BK128 HB
                intro BK125 BK128 HB
                have p130:0≤((ji28):Int):=of_decide_eq_true (z2_)
                have q130:(ji28)<(l0_1.length:Int):=of_decide_eq_true (z2_)
                obtain ⟨ad130,e130,hx130_0,hx130_1,hx130_2,hx130_3⟩:=at_T91 HR0_1.out (ji28) p130 q130
                have hw130_3:=hx130_3
                have hw130_2:=hx130_2
                have hw130_1:=hx130_1
                have hw130_0:=hx130_0
                (try rw [← Nbq24.out] at hx130_2)
                obtain rfl:ad127=ad130:=(by injection e130)
                replace hx130_0:=(HB.out.cell (World.block_lt_of_cell? w _ hx130_0)).trans hx130_0
                replace hx130_1:=(HB.out.cell (World.block_lt_of_cell? w _ hx130_1)).trans hx130_1
                replace hx130_2:=(HB.out.cell (World.block_lt_of_cell? w _ hx130_2)).trans hx130_2
                replace hx130_3:=(HB.out.cell (World.block_lt_of_cell? w _ hx130_3)).trans hx130_3
                replace p130:=eq_true p130
                replace q130:=eq_true q130
                refine start_ (n:=38) (S:=fun w'=>w'.cell? ⟨gb125,0,none⟩=some (.slice A0_0 l0_0.length c0_0)∧w'.cell? ⟨gb125,1,none⟩=some (.slice (some ad127) l0_1.length c0_1)∧w'.cell? ⟨gb128,0,none⟩=some (.int .i64 ((rd_T91 l0_1 x3_2).f0.f0))∧w'.cell? ⟨gb128,1,none⟩=some (.int .i64 ((rd_T91 l0_1 x3_2).f0.f1))∧w'.cell? ⟨gb128,2,none⟩=some (.bool true)∧w'.cell? ⟨gb128,3,none⟩=some (.string ((rd_T91 l0_1 x3_2).f2))∧w'.cell? (ad127.add (((ji28)).toNat*4))=some (.int .i64 ((rd_T91 l0_1 (ji28)).f0.f0))∧w'.cell? ⟨(ad127.add (((ji28)).toNat*4)).block,(ad127.add (((ji28)).toNat*4)).off+1,none⟩=some (.int .i64 ((rd_T91 l0_1 (ji28)).f0.f1))∧w'.cell? ⟨(ad127.add (((ji28)).toNat*4)).block,(ad127.add (((ji28)).toNat*4)).off+2,none⟩=some (.bool ((rd_T91 l0_1 (ji28)).f1))∧w'.cell? ⟨(ad127.add (((ji28)).toNat*4)).block,(ad127.add (((ji28)).toNat*4)).off+3,none⟩=some (.string ((rd_T91 l0_1 (ji28)).f2))) (ds:=[]) spec_SetRight.q0 (by kernel_rfl) rfl rfl (cj2_ BK125.out (cj4_ BK128.out ⟨((HB.out.cell (World.block_lt_of_cell? w _ hw130_0)).trans hw130_0),⟨((HB.out.cell (World.block_lt_of_cell? w _ hw130_1)).trans hw130_1),⟨((HB.out.cell (World.block_lt_of_cell? w _ hw130_2)).trans hw130_2),((HB.out.cell (World.block_lt_of_cell? w _ hw130_3)).trans hw130_3)⟩⟩⟩)) (fun hHeld=>?_);refine with_tabW spec_SetRight.tab7 spec_SetRight.bits7 (fun HT_ HW_=>?_)
                generalize w37.drew=w38 at BK125 BK128 HB hx130_0 hx130_1 hx130_2 hx130_3 hHeld ⊢
                refine pu_ 0 27 spec_SetRight.q1 HT_.out ?_
                refine pu_ 2 29 spec_SetRight.q2 HT_.out ?_
                refine tk10_ 1 28 spec_SetRight.q3 HT_.out HW_.out hHeld ?_
                refine tk10_ 3 30 spec_SetRight.q4 HT_.out HW_.out hHeld ?_
                refine o1_ 4 31 spec_SetRight.q5 HT_.out (fun K hK=>?_)
                refine gs_ Try.func72 #[.slice A0_0 l0_0.length c0_0,.agg #[.int .i64 ((rd_T91 l0_1 x3_2).f0.f0),.int .i64 ((rd_T91 l0_1 x3_2).f0.f1)]] ?_
                with_reducible refine (spec_SeenHas.calls k2 _ _ l0_0 ((rd_T91 l0_1 x3_2).f0.f0) ((rd_T91 l0_1 x3_2).f0.f1) true _ ?s1 ?s2 A14.out).mono ?_
                (case s1=>repeat (first | exact (Kd.C_below HR0_0.out HB.out) | (with_reducible refine Kd.C_alloc ?_ _) | (with_reducible refine Kd.C_drewN ?_ _) | (with_reducible refine Kd.C_drew ?_)))
                (case s2=>exact HC0_0.out)
                rintro e w39 ⟨rfl,hb⟩
                refine ⟨_,rfl,?_⟩
                refine as3_ (blkB_ BK125.out hb) (blkB_ BK128.out hb) (below_step (z6_ HB.out GE125.out GE128.out) hb) ?_
                clear BK125 BK128 HB
                intro BK125 BK128 HB
                (try clear hb)
                refine hK.out _ _ (cj2_ BK125.out (cj4_ BK128.out ⟨((HB.out.cell (World.block_lt_of_cell? w _ hw130_0)).trans hw130_0),⟨((HB.out.cell (World.block_lt_of_cell? w _ hw130_1)).trans hw130_1),⟨((HB.out.cell (World.block_lt_of_cell? w _ hw130_2)).trans hw130_2),((HB.out.cell (World.block_lt_of_cell? w _ hw130_3)).trans hw130_3)⟩⟩⟩)) (fun hHeld=>?_)
                clear hK K
                refine nm_ 31 ?_
                refine pu_ 5 32 spec_SetRight.q6 HT_.out ?_
                refine pu_ 6 33 spec_SetRight.q7 HT_.out ?_
                refine pu_ 7 34 spec_SetRight.q8 HT_.out ?_
                refine tk10_ 8 35 spec_SetRight.q9 HT_.out HW_.out hHeld ?_
                refine pu_ 9 36 spec_SetRight.q10 HT_.out ?_
                refine pu_ 10 37 spec_SetRight.q11 HT_.out ?_
                refine pu_ 11 38 spec_SetRight.q12 HT_.out ?_
                refine pu_ 12 39 spec_SetRight.q13 HT_.out ?_
                refine pu_ 13 40 spec_SetRight.q14 HT_.out ?_
                refine tk10_ 14 41 spec_SetRight.q15 HT_.out HW_.out hHeld ?_
                refine pu_ 15 42 spec_SetRight.q16 HT_.out ?_
                refine pu_ 16 43 spec_SetRight.q17 HT_.out ?_
                refine tk10_ 17 44 spec_SetRight.q18 HT_.out HW_.out hHeld ?_
                refine pu_ 18 45 spec_SetRight.q19 HT_.out ?_
                refine pu_ 19 46 spec_SetRight.q20 HT_.out ?_
                refine pu_ 20 47 spec_SetRight.q21 HT_.out ?_
                refine pu_ 21 48 spec_SetRight.q22 HT_.out ?_
                refine pu_ 22 49 spec_SetRight.q23 HT_.out ?_
                refine pu_ 23 50 spec_SetRight.q24 HT_.out ?_
                refine pu_ 24 51 spec_SetRight.q25 HT_.out ?_
                refine pu_ 25 52 spec_SetRight.q26 HT_.out ?_
                refine pu_ 27 54 spec_SetRight.q39 HT_.out ?_
                refine pu_ 28 55 spec_SetRight.q40 HT_.out ?_
                refine pu_ 32 59 spec_SetRight.q41 HT_.out ?_
                refine tk10_ 26 53 spec_SetRight.q42 HT_.out HW_.out hHeld ?_
                refine pu_ 29 56 spec_SetRight.q43 HT_.out ?_
                refine pu_ 30 57 spec_SetRight.q44 HT_.out ?_
                refine tk10_ 31 58 spec_SetRight.q33 HT_.out HW_.out hHeld ?_
                refine tk10_ 33 60 spec_SetRight.q34 HT_.out HW_.out hHeld ?_
                refine o1_ 34 61 spec_SetRight.q35 HT_.out (fun K hK=>?_)
                refine goes_ Try.func82 (by kernel_rfl) rfl #[.agg #[.int .i64 ((rd_T91 l0_1 (ji28)).f0.f0),.int .i64 ((rd_T91 l0_1 (ji28)).f0.f1)],.agg #[.int .i64 ((rd_T91 l0_1 x3_2).f0.f0),.int .i64 ((rd_T91 l0_1 x3_2).f0.f1)]] (by rfl) rfl rfl (by (try simp only [List.map_toArray,List.map_cons,List.map_nil]);first | done | (simp only [hji28];rfl) | rfl | (simp only [List.length_drop,List.length_take];rfl)) ?_
                with_reducible refine (spec_l03Less.calls ((rd_T91 l0_1 (ji28)).f0.f0) ((rd_T91 l0_1 (ji28)).f0.f1) ((rd_T91 l0_1 x3_2).f0.f0) ((rd_T91 l0_1 x3_2).f0.f1) true _ A31.out).mono ?_
                rintro e w40 ⟨rfl,hb⟩
                refine ⟨_,rfl,?_⟩
                refine as3_ (blkB_ BK125.out hb) (blkB_ BK128.out hb) (below_step (z6_ HB.out GE125.out GE128.out) hb) ?_
                clear BK125 BK128 HB
                intro BK125 BK128 HB
                (try clear hb)
                refine hK.out _ _ (cj2_ BK125.out (cj4_ BK128.out ⟨((HB.out.cell (World.block_lt_of_cell? w _ hw130_0)).trans hw130_0),⟨((HB.out.cell (World.block_lt_of_cell? w _ hw130_1)).trans hw130_1),⟨((HB.out.cell (World.block_lt_of_cell? w _ hw130_2)).trans hw130_2),((HB.out.cell (World.block_lt_of_cell? w _ hw130_3)).trans hw130_3)⟩⟩⟩)) (fun hHeld=>?_)
                clear hK K
                refine nm_ 61 ?_
                refine pu_ 35 62 spec_SetRight.q36 HT_.out ?_
                refine pu_ 36 63 spec_SetRight.q37 HT_.out ?_
                refine pu_ 37 64 spec_SetRight.q38 HT_.out ?_
                refine done_ (done_of HT_.out (by kernel_rfl)) ?_
                try go_wp2
                go_roundg k2
                case measure=>have:=HJ1.out;have:=HK2.out;omega
                case rel=>exact ⟨(wrap64 (x3_2+1)),(z3_),H',⟨by have:=HJ1.out;have:=HK2.out;omega⟩,⟨z1_ BK125.out⟩,⟨z6_ HB.out GE125.out GE128.out⟩⟩
               ·replace c32:=Bool.eq_false_iff.mpr c32
                subst c32
                have H1:(some false)=some r:=by rw [if_neg (show ¬ (false=true) by decide)] at H;exact H
                clear H
                have H:=H1
                clear H1
                obtain rfl:=Option.some.inj H
                have ⟨hcz41_0,hcz41_1,hfz41_0,hfz41_1⟩:=cz2_ BK125.out
                have p127:0≤(x3_2:Int):=of_decide_eq_true (z2_)
                have q127:x3_2<(l0_1.length:Int):=of_decide_eq_true (z2_)
                obtain ⟨ad127,e127,hx127_0,hx127_1,hx127_2,hx127_3⟩:=at_T91 HR0_1.out x3_2 p127 q127
                (try rw [← Nbq24.out] at hx127_2)
                cases e127
                replace hx127_0:=(HB.out.cell (World.block_lt_of_cell? w _ hx127_0)).trans hx127_0
                replace hx127_1:=(HB.out.cell (World.block_lt_of_cell? w _ hx127_1)).trans hx127_1
                replace hx127_2:=(HB.out.cell (World.block_lt_of_cell? w _ hx127_2)).trans hx127_2
                replace hx127_3:=(HB.out.cell (World.block_lt_of_cell? w _ hx127_3)).trans hx127_3
                replace p127:=eq_true p127
                replace q127:=eq_true q127
                try go_wp2_with (first | ((with_reducible refine gd_ 4 ?_);(try (refine gate_guard (by rfl) ?_;dsimp only));refine be_ 4 #[.int .i64 0,.int .i64 0,.bool false,.string (⟨#[]⟩:ByteArray)] 91 ?_;intro gb128 hg w42 hbox hb;refine as7_ (blkB_ BK125.out hb) (below_step (z5_ HB.out GE125.out) hb) (hbox) ((z10_ HB.out GE125.out:w.heap.size≤gb128)) ((z10_ HB.out GE125.out:w.heap.size≤gb128)) (neL_ BK125.out hg) (neG_ BK125.out hg) ?_;clear BK125 HB;intro BK125 HB BK128 GW128 GE128 NB125_128 NB128_125;clear hb hbox hg;have hnb43:=NB128_125.out;have hnc43:=NB125_128.out;have ⟨hcz44_0,hcz44_1,hcz44_2,hcz44_3,hfz44_0,hfz44_1,hfz44_2,hfz44_3⟩:=cz4_ BK128.out))
                have n0_:Aside0 (((((w42.setCell ⟨gb128,0,none⟩ (.int .i64 ((rd_T91 l0_1 x3_2).f0.f0))).setCell ⟨gb128,1,none⟩ (.int .i64 ((rd_T91 l0_1 x3_2).f0.f1))).setCell ⟨gb128,2,none⟩ (.bool true)).setCell ⟨gb128,3,none⟩ (.string ((rd_T91 l0_1 x3_2).f2))).heap[gb125]? = some (.cells #[.slice A0_0 l0_0.length c0_0,.slice (some ad127) l0_1.length c0_1] 40 (0,0))):=⟨z16_ NB125_128.out BK125.out⟩
                have n1_:Aside0 (((((w42.setCell ⟨gb128,0,none⟩ (.int .i64 ((rd_T91 l0_1 x3_2).f0.f0))).setCell ⟨gb128,1,none⟩ (.int .i64 ((rd_T91 l0_1 x3_2).f0.f1))).setCell ⟨gb128,2,none⟩ (.bool true)).setCell ⟨gb128,3,none⟩ (.string ((rd_T91 l0_1 x3_2).f2))).heap[gb128]? = some (.cells #[.int .i64 ((rd_T91 l0_1 x3_2).f0.f0),.int .i64 ((rd_T91 l0_1 x3_2).f0.f1),.bool true,.string ((rd_T91 l0_1 x3_2).f2)] 91 (0,0))):=⟨z24_ BK128.out⟩
                have n2_:Aside0 (Below w.heap.size w ((((w42.setCell ⟨gb128,0,none⟩ (.int .i64 ((rd_T91 l0_1 x3_2).f0.f0))).setCell ⟨gb128,1,none⟩ (.int .i64 ((rd_T91 l0_1 x3_2).f0.f1))).setCell ⟨gb128,2,none⟩ (.bool true)).setCell ⟨gb128,3,none⟩ (.string ((rd_T91 l0_1 x3_2).f2)))):=⟨z6_ HB.out GE125.out GE128.out⟩
                (try clear BK125)
                (try clear BK128)
                (try clear HB)
                generalize ((((w42.setCell ⟨gb128,0,none⟩ (.int .i64 ((rd_T91 l0_1 x3_2).f0.f0))).setCell ⟨gb128,1,none⟩ (.int .i64 ((rd_T91 l0_1 x3_2).f0.f1))).setCell ⟨gb128,2,none⟩ (.bool true)).setCell ⟨gb128,3,none⟩ (.string ((rd_T91 l0_1 x3_2).f2)))=w45 at n0_ n1_ n2_ ⊢
                have BK125:=n0_
                have BK128:=n1_
                have HB:=n2_
                clear n0_ n1_ n2_
                refine as3_ (blk_drew BK125.out) (blk_drew BK128.out) (below_drew1 HB.out) ?_
                clear BK125 BK128 HB
                intro BK125 BK128 HB
                have p130:0≤((ji28):Int):=of_decide_eq_true (z2_)
                have q130:(ji28)<(l0_1.length:Int):=of_decide_eq_true (z2_)
                obtain ⟨ad130,e130,hx130_0,hx130_1,hx130_2,hx130_3⟩:=at_T91 HR0_1.out (ji28) p130 q130
                have hw130_3:=hx130_3
                have hw130_2:=hx130_2
                have hw130_1:=hx130_1
                have hw130_0:=hx130_0
                (try rw [← Nbq24.out] at hx130_2)
                obtain rfl:ad127=ad130:=(by injection e130)
                replace hx130_0:=(HB.out.cell (World.block_lt_of_cell? w _ hx130_0)).trans hx130_0
                replace hx130_1:=(HB.out.cell (World.block_lt_of_cell? w _ hx130_1)).trans hx130_1
                replace hx130_2:=(HB.out.cell (World.block_lt_of_cell? w _ hx130_2)).trans hx130_2
                replace hx130_3:=(HB.out.cell (World.block_lt_of_cell? w _ hx130_3)).trans hx130_3
                replace p130:=eq_true p130
                replace q130:=eq_true q130
                refine start_ (n:=38) (S:=fun w'=>w'.cell? ⟨gb125,0,none⟩=some (.slice A0_0 l0_0.length c0_0)∧w'.cell? ⟨gb125,1,none⟩=some (.slice (some ad127) l0_1.length c0_1)∧w'.cell? ⟨gb128,0,none⟩=some (.int .i64 ((rd_T91 l0_1 x3_2).f0.f0))∧w'.cell? ⟨gb128,1,none⟩=some (.int .i64 ((rd_T91 l0_1 x3_2).f0.f1))∧w'.cell? ⟨gb128,2,none⟩=some (.bool true)∧w'.cell? ⟨gb128,3,none⟩=some (.string ((rd_T91 l0_1 x3_2).f2))∧w'.cell? (ad127.add (((ji28)).toNat*4))=some (.int .i64 ((rd_T91 l0_1 (ji28)).f0.f0))∧w'.cell? ⟨(ad127.add (((ji28)).toNat*4)).block,(ad127.add (((ji28)).toNat*4)).off+1,none⟩=some (.int .i64 ((rd_T91 l0_1 (ji28)).f0.f1))∧w'.cell? ⟨(ad127.add (((ji28)).toNat*4)).block,(ad127.add (((ji28)).toNat*4)).off+2,none⟩=some (.bool ((rd_T91 l0_1 (ji28)).f1))∧w'.cell? ⟨(ad127.add (((ji28)).toNat*4)).block,(ad127.add (((ji28)).toNat*4)).off+3,none⟩=some (.string ((rd_T91 l0_1 (ji28)).f2))) (ds:=[]) spec_SetRight.q0 (by kernel_rfl) rfl rfl (cj2_ BK125.out (cj4_ BK128.out ⟨((HB.out.cell (World.block_lt_of_cell? w _ hw130_0)).trans hw130_0),⟨((HB.out.cell (World.block_lt_of_cell? w _ hw130_1)).trans hw130_1),⟨((HB.out.cell (World.block_lt_of_cell? w _ hw130_2)).trans hw130_2),((HB.out.cell (World.block_lt_of_cell? w _ hw130_3)).trans hw130_3)⟩⟩⟩)) (fun hHeld=>?_);refine with_tabW spec_SetRight.tab7 spec_SetRight.bits7 (fun HT_ HW_=>?_)
                generalize w45.drew=w46 at BK125 BK128 HB hx130_0 hx130_1 hx130_2 hx130_3 hHeld ⊢
                refine pu_ 0 27 spec_SetRight.q1 HT_.out ?_
                refine pu_ 2 29 spec_SetRight.q2 HT_.out ?_
                refine tk10_ 1 28 spec_SetRight.q3 HT_.out HW_.out hHeld ?_
                refine tk10_ 3 30 spec_SetRight.q4 HT_.out HW_.out hHeld ?_
                refine o1_ 4 31 spec_SetRight.q5 HT_.out (fun K hK=>?_)
                refine gs_ Try.func72 #[.slice A0_0 l0_0.length c0_0,.agg #[.int .i64 ((rd_T91 l0_1 x3_2).f0.f0),.int .i64 ((rd_T91 l0_1 x3_2).f0.f1)]] ?_
                with_reducible refine (spec_SeenHas.calls k2 _ _ l0_0 ((rd_T91 l0_1 x3_2).f0.f0) ((rd_T91 l0_1 x3_2).f0.f1) true _ ?s1 ?s2 A14.out).mono ?_
                (case s1=>repeat (first | exact (Kd.C_below HR0_0.out HB.out) | (with_reducible refine Kd.C_alloc ?_ _) | (with_reducible refine Kd.C_drewN ?_ _) | (with_reducible refine Kd.C_drew ?_)))
                (case s2=>exact HC0_0.out)
                rintro e w47 ⟨rfl,hb⟩
                refine ⟨_,rfl,?_⟩
                refine as3_ (blkB_ BK125.out hb) (blkB_ BK128.out hb) (below_step (z6_ HB.out GE125.out GE128.out) hb) ?_
                clear BK125 BK128 HB
                intro BK125 BK128 HB
                (try clear hb)
                refine hK.out _ _ (cj2_ BK125.out (cj4_ BK128.out ⟨((HB.out.cell (World.block_lt_of_cell? w _ hw130_0)).trans hw130_0),⟨((HB.out.cell (World.block_lt_of_cell? w _ hw130_1)).trans hw130_1),⟨((HB.out.cell (World.block_lt_of_cell? w _ hw130_2)).trans hw130_2),((HB.out.cell (World.block_lt_of_cell? w _ hw130_3)).trans hw130_3)⟩⟩⟩)) (fun hHeld=>?_)
                clear hK K
                refine nm_ 31 ?_
                refine pu_ 5 32 spec_SetRight.q6 HT_.out ?_
                refine pu_ 6 33 spec_SetRight.q7 HT_.out ?_
                refine pu_ 7 34 spec_SetRight.q8 HT_.out ?_
                refine tk10_ 8 35 spec_SetRight.q9 HT_.out HW_.out hHeld ?_
                refine pu_ 9 36 spec_SetRight.q10 HT_.out ?_
                refine pu_ 10 37 spec_SetRight.q11 HT_.out ?_
                refine pu_ 11 38 spec_SetRight.q12 HT_.out ?_
                refine pu_ 12 39 spec_SetRight.q13 HT_.out ?_
                refine pu_ 13 40 spec_SetRight.q14 HT_.out ?_
                refine tk10_ 14 41 spec_SetRight.q15 HT_.out HW_.out hHeld ?_
                refine pu_ 15 42 spec_SetRight.q16 HT_.out ?_
                refine pu_ 16 43 spec_SetRight.q17 HT_.out ?_
                refine tk10_ 17 44 spec_SetRight.q18 HT_.out HW_.out hHeld ?_
                refine pu_ 18 45 spec_SetRight.q19 HT_.out ?_
                refine pu_ 19 46 spec_SetRight.q20 HT_.out ?_
                refine pu_ 20 47 spec_SetRight.q21 HT_.out ?_
                refine pu_ 21 48 spec_SetRight.q22 HT_.out ?_
                refine pu_ 22 49 spec_SetRight.q23 HT_.out ?_
                refine pu_ 23 50 spec_SetRight.q24 HT_.out ?_
                refine pu_ 24 51 spec_SetRight.q25 HT_.out ?_
                refine pu_ 25 52 spec_SetRight.q26 HT_.out ?_
                refine pu_ 27 54 spec_SetRight.q39 HT_.out ?_
                refine pu_ 28 55 spec_SetRight.q40 HT_.out ?_
                refine pu_ 32 59 spec_SetRight.q41 HT_.out ?_
                refine tk10_ 26 53 spec_SetRight.q42 HT_.out HW_.out hHeld ?_
                refine pu_ 29 56 spec_SetRight.q43 HT_.out ?_
                refine pu_ 30 57 spec_SetRight.q44 HT_.out ?_
                refine tk10_ 31 58 spec_SetRight.q33 HT_.out HW_.out hHeld ?_
                refine tk10_ 33 60 spec_SetRight.q34 HT_.out HW_.out hHeld ?_
                refine o1_ 34 61 spec_SetRight.q35 HT_.out (fun K hK=>?_)
                refine goes_ Try.func82 (by kernel_rfl) rfl #[.agg #[.int .i64 ((rd_T91 l0_1 (ji28)).f0.f0),.int .i64 ((rd_T91 l0_1 (ji28)).f0.f1)],.agg #[.int .i64 ((rd_T91 l0_1 x3_2).f0.f0),.int .i64 ((rd_T91 l0_1 x3_2).f0.f1)]] (by rfl) rfl rfl (by (try simp only [List.map_toArray,List.map_cons,List.map_nil]);first | done | (simp only [hji28];rfl) | rfl | (simp only [List.length_drop,List.length_take];rfl)) ?_
                with_reducible refine (spec_l03Less.calls ((rd_T91 l0_1 (ji28)).f0.f0) ((rd_T91 l0_1 (ji28)).f0.f1) ((rd_T91 l0_1 x3_2).f0.f0) ((rd_T91 l0_1 x3_2).f0.f1) false _ A31.out).mono ?_
                rintro e w48 ⟨rfl,hb⟩
                refine ⟨_,rfl,?_⟩
                refine as3_ (blkB_ BK125.out hb) (blkB_ BK128.out hb) (below_step (z6_ HB.out GE125.out GE128.out) hb) ?_
                clear BK125 BK128 HB
                intro BK125 BK128 HB
                (try clear hb)
                refine hK.out _ _ (cj2_ BK125.out (cj4_ BK128.out ⟨((HB.out.cell (World.block_lt_of_cell? w _ hw130_0)).trans hw130_0),⟨((HB.out.cell (World.block_lt_of_cell? w _ hw130_1)).trans hw130_1),⟨((HB.out.cell (World.block_lt_of_cell? w _ hw130_2)).trans hw130_2),((HB.out.cell (World.block_lt_of_cell? w _ hw130_3)).trans hw130_3)⟩⟩⟩)) (fun hHeld=>?_)
                clear hK K
                refine nm_ 61 ?_
                refine pu_ 35 62 spec_SetRight.q36 HT_.out ?_
                refine pu_ 36 63 spec_SetRight.q37 HT_.out ?_
                refine pu_ 37 64 spec_SetRight.q38 HT_.out ?_
                refine done_ (done_of HT_.out (by kernel_rfl)) ?_
                try go_wp2
                go_ret
                exact ⟨by first | rfl | (simp [errW_none,errW_some] <;> rfl) | (simp only [← hji28];first | rfl | (simp [errW_none,errW_some] <;> rfl)) | (simp [*,errW_none,errW_some] <;> rfl),z6_ HB.out GE125.out GE128.out⟩
              ·rw [if_neg c30] at H
               exact absurd H (by simp)
             ·rw [if_neg c29] at H
              exact absurd H (by simp)
            ·rw [if_neg c27] at H
             have c27b0:decide (0<x3_2)=false:=decide_eq_false c27
             clear c27
             have H':=Aside0.mk H
             clear H
             have ⟨hcz49_0,hcz49_1,hfz49_0,hfz49_1⟩:=cz2_ BK125.out
             have p127:0≤(x3_2:Int):=of_decide_eq_true (z2_)
             have q127:x3_2<(l0_1.length:Int):=of_decide_eq_true (z2_)
             obtain ⟨ad127,e127,hx127_0,hx127_1,hx127_2,hx127_3⟩:=at_T91 HR0_1.out x3_2 p127 q127
             (try rw [← Nbq24.out] at hx127_2)
             cases e127
             replace hx127_0:=(HB.out.cell (World.block_lt_of_cell? w _ hx127_0)).trans hx127_0
             replace hx127_1:=(HB.out.cell (World.block_lt_of_cell? w _ hx127_1)).trans hx127_1
             replace hx127_2:=(HB.out.cell (World.block_lt_of_cell? w _ hx127_2)).trans hx127_2
             replace hx127_3:=(HB.out.cell (World.block_lt_of_cell? w _ hx127_3)).trans hx127_3
             replace p127:=eq_true p127
             replace q127:=eq_true q127
             try go_wp2_with (first | ((with_reducible refine gd_ 4 ?_);(try (refine gate_guard (by rfl) ?_;dsimp only));refine be_ 4 #[.int .i64 0,.int .i64 0,.bool false,.string (⟨#[]⟩:ByteArray)] 91 ?_;intro gb128 hg w50 hbox hb;refine as7_ (blkB_ BK125.out hb) (below_step (z5_ HB.out GE125.out) hb) (hbox) ((z10_ HB.out GE125.out:w.heap.size≤gb128)) ((z10_ HB.out GE125.out:w.heap.size≤gb128)) (neL_ BK125.out hg) (neG_ BK125.out hg) ?_;clear BK125 HB;intro BK125 HB BK128 GW128 GE128 NB125_128 NB128_125;clear hb hbox hg;have hnb51:=NB128_125.out;have hnc51:=NB125_128.out;have ⟨hcz52_0,hcz52_1,hcz52_2,hcz52_3,hfz52_0,hfz52_1,hfz52_2,hfz52_3⟩:=cz4_ BK128.out))
             have n0_:Aside0 (((((w50.setCell ⟨gb128,0,none⟩ (.int .i64 ((rd_T91 l0_1 x3_2).f0.f0))).setCell ⟨gb128,1,none⟩ (.int .i64 ((rd_T91 l0_1 x3_2).f0.f1))).setCell ⟨gb128,2,none⟩ (.bool true)).setCell ⟨gb128,3,none⟩ (.string ((rd_T91 l0_1 x3_2).f2))).heap[gb125]? = some (.cells #[.slice A0_0 l0_0.length c0_0,.slice (some ad127) l0_1.length c0_1] 40 (0,0))):=⟨z16_ NB125_128.out BK125.out⟩
             have n1_:Aside0 (((((w50.setCell ⟨gb128,0,none⟩ (.int .i64 ((rd_T91 l0_1 x3_2).f0.f0))).setCell ⟨gb128,1,none⟩ (.int .i64 ((rd_T91 l0_1 x3_2).f0.f1))).setCell ⟨gb128,2,none⟩ (.bool true)).setCell ⟨gb128,3,none⟩ (.string ((rd_T91 l0_1 x3_2).f2))).heap[gb128]? = some (.cells #[.int .i64 ((rd_T91 l0_1 x3_2).f0.f0),.int .i64 ((rd_T91 l0_1 x3_2).f0.f1),.bool true,.string ((rd_T91 l0_1 x3_2).f2)] 91 (0,0))):=⟨z24_ BK128.out⟩
             have n2_:Aside0 (Below w.heap.size w ((((w50.setCell ⟨gb128,0,none⟩ (.int .i64 ((rd_T91 l0_1 x3_2).f0.f0))).setCell ⟨gb128,1,none⟩ (.int .i64 ((rd_T91 l0_1 x3_2).f0.f1))).setCell ⟨gb128,2,none⟩ (.bool true)).setCell ⟨gb128,3,none⟩ (.string ((rd_T91 l0_1 x3_2).f2)))):=⟨z6_ HB.out GE125.out GE128.out⟩
             (try clear BK125)
             (try clear BK128)
             (try clear HB)
             generalize ((((w50.setCell ⟨gb128,0,none⟩ (.int .i64 ((rd_T91 l0_1 x3_2).f0.f0))).setCell ⟨gb128,1,none⟩ (.int .i64 ((rd_T91 l0_1 x3_2).f0.f1))).setCell ⟨gb128,2,none⟩ (.bool true)).setCell ⟨gb128,3,none⟩ (.string ((rd_T91 l0_1 x3_2).f2)))=w53 at n0_ n1_ n2_ ⊢
             have BK125:=n0_
             have BK128:=n1_
             have HB:=n2_
             clear n0_ n1_ n2_
             refine as3_ (blk_drew BK125.out) (blk_drew BK128.out) (below_drew1 HB.out) ?_
             clear BK125 BK128 HB
             intro BK125 BK128 HB
             refine start_ (n:=38) (S:=fun w'=>w'.cell? ⟨gb125,0,none⟩=some (.slice A0_0 l0_0.length c0_0)∧w'.cell? ⟨gb125,1,none⟩=some (.slice (some ad127) l0_1.length c0_1)∧w'.cell? ⟨gb128,0,none⟩=some (.int .i64 ((rd_T91 l0_1 x3_2).f0.f0))∧w'.cell? ⟨gb128,1,none⟩=some (.int .i64 ((rd_T91 l0_1 x3_2).f0.f1))∧w'.cell? ⟨gb128,2,none⟩=some (.bool true)∧w'.cell? ⟨gb128,3,none⟩=some (.string ((rd_T91 l0_1 x3_2).f2))) (ds:=[]) spec_SetRight.q0 (by kernel_rfl) rfl rfl (cj2_ BK125.out (cc4_ BK128.out)) (fun hHeld=>?_);refine with_tabW spec_SetRight.tab7 spec_SetRight.bits7 (fun HT_ HW_=>?_)
             generalize w53.drew=w54 at BK125 BK128 HB hHeld ⊢
             refine pu_ 0 27 spec_SetRight.q1 HT_.out ?_
             refine pu_ 2 29 spec_SetRight.q2 HT_.out ?_
             refine tk6_ 1 28 spec_SetRight.q3 HT_.out HW_.out hHeld ?_
             refine tk6_ 3 30 spec_SetRight.q4 HT_.out HW_.out hHeld ?_
             refine o1_ 4 31 spec_SetRight.q5 HT_.out (fun K hK=>?_)
             refine gs_ Try.func72 #[.slice A0_0 l0_0.length c0_0,.agg #[.int .i64 ((rd_T91 l0_1 x3_2).f0.f0),.int .i64 ((rd_T91 l0_1 x3_2).f0.f1)]] ?_
             with_reducible refine (spec_SeenHas.calls k2 _ _ l0_0 ((rd_T91 l0_1 x3_2).f0.f0) ((rd_T91 l0_1 x3_2).f0.f1) true _ ?s1 ?s2 A14.out).mono ?_
             (case s1=>repeat (first | exact (Kd.C_below HR0_0.out HB.out) | (with_reducible refine Kd.C_alloc ?_ _) | (with_reducible refine Kd.C_drewN ?_ _) | (with_reducible refine Kd.C_drew ?_)))
             (case s2=>exact HC0_0.out)
             rintro e w55 ⟨rfl,hb⟩
             refine ⟨_,rfl,?_⟩
             refine as3_ (blkB_ BK125.out hb) (blkB_ BK128.out hb) (below_step (z6_ HB.out GE125.out GE128.out) hb) ?_
             clear BK125 BK128 HB
             intro BK125 BK128 HB
             (try clear hb)
             refine hK.out _ _ (cj2_ BK125.out (cc4_ BK128.out)) (fun hHeld=>?_)
             clear hK K
             refine nm_ 31 ?_
             refine pu_ 5 32 spec_SetRight.q6 HT_.out ?_
             refine pu_ 6 33 spec_SetRight.q7 HT_.out ?_
             refine pu_ 7 34 spec_SetRight.q8 HT_.out ?_
             refine tk6_ 8 35 spec_SetRight.q9 HT_.out HW_.out hHeld ?_
             refine pu_ 9 36 spec_SetRight.q10 HT_.out ?_
             refine pu_ 10 37 spec_SetRight.q11 HT_.out ?_
             refine pu_ 11 38 spec_SetRight.q12 HT_.out ?_
             refine pu_ 12 39 spec_SetRight.q13 HT_.out ?_
             refine pu_ 13 40 spec_SetRight.q14 HT_.out ?_
             refine tk6_ 14 41 spec_SetRight.q15 HT_.out HW_.out hHeld ?_
             refine pu_ 15 42 spec_SetRight.q16 HT_.out ?_
             refine pu_ 16 43 spec_SetRight.q17 HT_.out ?_
             refine tk6_ 17 44 spec_SetRight.q18 HT_.out HW_.out hHeld ?_
             refine pu_ 18 45 spec_SetRight.q19 HT_.out ?_
             refine pu_ 19 46 spec_SetRight.q20 HT_.out ?_
             refine pu_ 20 47 spec_SetRight.q21 HT_.out ?_
             refine pu_ 21 48 spec_SetRight.q22 HT_.out ?_
             refine pu_ 22 49 spec_SetRight.q23 HT_.out ?_
             refine pu_ 23 50 spec_SetRight.q24 HT_.out ?_
             refine pu_ 24 51 spec_SetRight.q25 HT_.out ?_
             refine pn_ 25 52 spec_SetRight.q26 HT_.out ?_
             refine pn_ 26 53 spec_SetRight.q27 HT_.out ?_
             refine pn_ 27 54 spec_SetRight.q28 HT_.out ?_
             refine pn_ 28 55 spec_SetRight.q29 HT_.out ?_
             refine pn_ 29 56 spec_SetRight.q30 HT_.out ?_
             refine pn_ 30 57 spec_SetRight.q31 HT_.out ?_
             refine pn_ 31 58 spec_SetRight.q32 HT_.out ?_
             refine pn_ 32 59 spec_SetRight.q33 HT_.out ?_
             refine pn_ 33 60 spec_SetRight.q34 HT_.out ?_
             refine pn_ 34 61 spec_SetRight.q35 HT_.out ?_
             refine pn_ 35 62 spec_SetRight.q36 HT_.out ?_
             refine pu_ 36 63 spec_SetRight.q37 HT_.out ?_
             refine pu_ 37 64 spec_SetRight.q38 HT_.out ?_
             refine done_ (done_of HT_.out (by kernel_rfl)) ?_
             try go_wp2
             go_roundg k2
             case measure=>have:=HJ1.out;have:=HK2.out;omega
             case rel=>exact ⟨(wrap64 (x3_2+1)),(z3_),H',⟨by have:=HJ1.out;have:=HK2.out;omega⟩,⟨z1_ BK125.out⟩,⟨z6_ HB.out GE125.out GE128.out⟩⟩
           ·rw [if_neg c26] at H
            have c26b0:(((rd_T91 l0_1 x3_2).f2).toList == ([]:List UInt8))=false:=beq_eq_false_iff_ne.mpr c26
            have c26b1:(((rd_T91 l0_1 x3_2).f2).toList != ([]:List UInt8))=true:=bne_iff_ne.mpr c26
            obtain rfl:=Option.some.inj H
            have ⟨hcz56_0,hcz56_1,hfz56_0,hfz56_1⟩:=cz2_ BK125.out
            have p127:0≤(x3_2:Int):=of_decide_eq_true (z2_)
            have q127:x3_2<(l0_1.length:Int):=of_decide_eq_true (z2_)
            obtain ⟨ad127,e127,hx127_0,hx127_1,hx127_2,hx127_3⟩:=at_T91 HR0_1.out x3_2 p127 q127
            (try rw [← Nbq24.out] at hx127_2)
            cases e127
            replace hx127_0:=(HB.out.cell (World.block_lt_of_cell? w _ hx127_0)).trans hx127_0
            replace hx127_1:=(HB.out.cell (World.block_lt_of_cell? w _ hx127_1)).trans hx127_1
            replace hx127_2:=(HB.out.cell (World.block_lt_of_cell? w _ hx127_2)).trans hx127_2
            replace hx127_3:=(HB.out.cell (World.block_lt_of_cell? w _ hx127_3)).trans hx127_3
            replace p127:=eq_true p127
            replace q127:=eq_true q127
            try go_wp2_with (first | ((with_reducible refine gd_ 4 ?_);(try (refine gate_guard (by rfl) ?_;dsimp only));refine be_ 4 #[.int .i64 0,.int .i64 0,.bool false,.string (⟨#[]⟩:ByteArray)] 91 ?_;intro gb128 hg w57 hbox hb;refine as7_ (blkB_ BK125.out hb) (below_step (z5_ HB.out GE125.out) hb) (hbox) ((z10_ HB.out GE125.out:w.heap.size≤gb128)) ((z10_ HB.out GE125.out:w.heap.size≤gb128)) (neL_ BK125.out hg) (neG_ BK125.out hg) ?_;clear BK125 HB;intro BK125 HB BK128 GW128 GE128 NB125_128 NB128_125;clear hb hbox hg;have hnb58:=NB128_125.out;have hnc58:=NB125_128.out;have ⟨hcz59_0,hcz59_1,hcz59_2,hcz59_3,hfz59_0,hfz59_1,hfz59_2,hfz59_3⟩:=cz4_ BK128.out))
            have n0_:Aside0 (((((w57.setCell ⟨gb128,0,none⟩ (.int .i64 ((rd_T91 l0_1 x3_2).f0.f0))).setCell ⟨gb128,1,none⟩ (.int .i64 ((rd_T91 l0_1 x3_2).f0.f1))).setCell ⟨gb128,2,none⟩ (.bool true)).setCell ⟨gb128,3,none⟩ (.string ((rd_T91 l0_1 x3_2).f2))).heap[gb125]? = some (.cells #[.slice A0_0 l0_0.length c0_0,.slice (some ad127) l0_1.length c0_1] 40 (0,0))):=⟨z16_ NB125_128.out BK125.out⟩
            have n1_:Aside0 (((((w57.setCell ⟨gb128,0,none⟩ (.int .i64 ((rd_T91 l0_1 x3_2).f0.f0))).setCell ⟨gb128,1,none⟩ (.int .i64 ((rd_T91 l0_1 x3_2).f0.f1))).setCell ⟨gb128,2,none⟩ (.bool true)).setCell ⟨gb128,3,none⟩ (.string ((rd_T91 l0_1 x3_2).f2))).heap[gb128]? = some (.cells #[.int .i64 ((rd_T91 l0_1 x3_2).f0.f0),.int .i64 ((rd_T91 l0_1 x3_2).f0.f1),.bool true,.string ((rd_T91 l0_1 x3_2).f2)] 91 (0,0))):=⟨z24_ BK128.out⟩
            have n2_:Aside0 (Below w.heap.size w ((((w57.setCell ⟨gb128,0,none⟩ (.int .i64 ((rd_T91 l0_1 x3_2).f0.f0))).setCell ⟨gb128,1,none⟩ (.int .i64 ((rd_T91 l0_1 x3_2).f0.f1))).setCell ⟨gb128,2,none⟩ (.bool true)).setCell ⟨gb128,3,none⟩ (.string ((rd_T91 l0_1 x3_2).f2)))):=⟨z6_ HB.out GE125.out GE128.out⟩
            (try clear BK125)
            (try clear BK128)
            (try clear HB)
            generalize ((((w57.setCell ⟨gb128,0,none⟩ (.int .i64 ((rd_T91 l0_1 x3_2).f0.f0))).setCell ⟨gb128,1,none⟩ (.int .i64 ((rd_T91 l0_1 x3_2).f0.f1))).setCell ⟨gb128,2,none⟩ (.bool true)).setCell ⟨gb128,3,none⟩ (.string ((rd_T91 l0_1 x3_2).f2)))=w60 at n0_ n1_ n2_ ⊢
            have BK125:=n0_
            have BK128:=n1_
            have HB:=n2_
            clear n0_ n1_ n2_
            refine as3_ (blk_drew BK125.out) (blk_drew BK128.out) (below_drew1 HB.out) ?_
            clear BK125 BK128 HB
            intro BK125 BK128 HB
            refine start_ (n:=38) (S:=fun w'=>w'.cell? ⟨gb125,0,none⟩=some (.slice A0_0 l0_0.length c0_0)∧w'.cell? ⟨gb125,1,none⟩=some (.slice (some ad127) l0_1.length c0_1)∧w'.cell? ⟨gb128,0,none⟩=some (.int .i64 ((rd_T91 l0_1 x3_2).f0.f0))∧w'.cell? ⟨gb128,1,none⟩=some (.int .i64 ((rd_T91 l0_1 x3_2).f0.f1))∧w'.cell? ⟨gb128,2,none⟩=some (.bool true)∧w'.cell? ⟨gb128,3,none⟩=some (.string ((rd_T91 l0_1 x3_2).f2))) (ds:=[]) spec_SetRight.q0 (by kernel_rfl) rfl rfl (cj2_ BK125.out (cc4_ BK128.out)) (fun hHeld=>?_);refine with_tabW spec_SetRight.tab7 spec_SetRight.bits7 (fun HT_ HW_=>?_)
            generalize w60.drew=w61 at BK125 BK128 HB hHeld ⊢
            refine pu_ 0 27 spec_SetRight.q1 HT_.out ?_
            refine pu_ 2 29 spec_SetRight.q2 HT_.out ?_
            refine tk6_ 1 28 spec_SetRight.q3 HT_.out HW_.out hHeld ?_
            refine tk6_ 3 30 spec_SetRight.q4 HT_.out HW_.out hHeld ?_
            refine o1_ 4 31 spec_SetRight.q5 HT_.out (fun K hK=>?_)
            refine gs_ Try.func72 #[.slice A0_0 l0_0.length c0_0,.agg #[.int .i64 ((rd_T91 l0_1 x3_2).f0.f0),.int .i64 ((rd_T91 l0_1 x3_2).f0.f1)]] ?_
            with_reducible refine (spec_SeenHas.calls k2 _ _ l0_0 ((rd_T91 l0_1 x3_2).f0.f0) ((rd_T91 l0_1 x3_2).f0.f1) true _ ?s1 ?s2 A14.out).mono ?_
            (case s1=>repeat (first | exact (Kd.C_below HR0_0.out HB.out) | (with_reducible refine Kd.C_alloc ?_ _) | (with_reducible refine Kd.C_drewN ?_ _) | (with_reducible refine Kd.C_drew ?_)))
            (case s2=>exact HC0_0.out)
            rintro e w62 ⟨rfl,hb⟩
            refine ⟨_,rfl,?_⟩
            refine as3_ (blkB_ BK125.out hb) (blkB_ BK128.out hb) (below_step (z6_ HB.out GE125.out GE128.out) hb) ?_
            clear BK125 BK128 HB
            intro BK125 BK128 HB
            (try clear hb)
            refine hK.out _ _ (cj2_ BK125.out (cc4_ BK128.out)) (fun hHeld=>?_)
            clear hK K
            refine nm_ 31 ?_
            refine pu_ 5 32 spec_SetRight.q6 HT_.out ?_
            refine pu_ 6 33 spec_SetRight.q7 HT_.out ?_
            refine pu_ 7 34 spec_SetRight.q8 HT_.out ?_
            refine tk6_ 8 35 spec_SetRight.q9 HT_.out HW_.out hHeld ?_
            refine pu_ 9 36 spec_SetRight.q10 HT_.out ?_
            refine pu_ 10 37 spec_SetRight.q11 HT_.out ?_
            refine pu_ 11 38 spec_SetRight.q12 HT_.out ?_
            refine pu_ 12 39 spec_SetRight.q13 HT_.out ?_
            refine pu_ 13 40 spec_SetRight.q14 HT_.out ?_
            refine tk6_ 14 41 spec_SetRight.q15 HT_.out HW_.out hHeld ?_
            refine pu_ 15 42 spec_SetRight.q16 HT_.out ?_
            refine pu_ 16 43 spec_SetRight.q17 HT_.out ?_
            refine tk6_ 17 44 spec_SetRight.q18 HT_.out HW_.out hHeld ?_
            refine pu_ 18 45 spec_SetRight.q19 HT_.out ?_
            refine pu_ 19 46 spec_SetRight.q20 HT_.out ?_
            refine pu_ 20 47 spec_SetRight.q21 HT_.out ?_
            refine pu_ 21 48 spec_SetRight.q22 HT_.out ?_
            refine pn_ 22 49 spec_SetRight.q23 HT_.out ?_
            refine pn_ 23 50 spec_SetRight.q24 HT_.out ?_
            refine pn_ 24 51 spec_SetRight.q25 HT_.out ?_
            refine pn_ 25 52 spec_SetRight.q26 HT_.out ?_
            refine pn_ 26 53 spec_SetRight.q27 HT_.out ?_
            refine pn_ 27 54 spec_SetRight.q28 HT_.out ?_
            refine pn_ 28 55 spec_SetRight.q29 HT_.out ?_
            refine pn_ 29 56 spec_SetRight.q30 HT_.out ?_
            refine pn_ 30 57 spec_SetRight.q31 HT_.out ?_
            refine pn_ 31 58 spec_SetRight.q32 HT_.out ?_
            refine pn_ 32 59 spec_SetRight.q33 HT_.out ?_
            refine pn_ 33 60 spec_SetRight.q34 HT_.out ?_
            refine pn_ 34 61 spec_SetRight.q35 HT_.out ?_
            refine pn_ 35 62 spec_SetRight.q36 HT_.out ?_
            refine pn_ 36 63 spec_SetRight.q37 HT_.out ?_
            refine pu_ 37 64 spec_SetRight.q38 HT_.out ?_
            refine done_ (done_of HT_.out (by kernel_rfl)) ?_
            try go_wp2
            go_ret
            exact ⟨z8_,z6_ HB.out GE125.out GE128.out⟩
          ·replace c25:=Bool.eq_false_iff.mpr c25
           subst c25
           have H1:(if x3_2>0 then (if 0≤(wrap64 (x3_2-1)) then (if (wrap64 (x3_2-1))<(l0_1.length:Int) then ((spec_l03Less.f ((rd_T91 l0_1 (wrap64 (x3_2-1))).f0.f0) ((rd_T91 l0_1 (wrap64 (x3_2-1))).f0.f1) ((rd_T91 l0_1 x3_2).f0.f0) ((rd_T91 l0_1 x3_2).f0.f1)).bind fun t133=>(if t133=true then (spec_SetRight.l0 k2 (wrap64 (x3_2+1)) l0_0 l0_1) else (some false))) else (none)) else (none)) else (spec_SetRight.l0 k2 (wrap64 (x3_2+1)) l0_0 l0_1))=some r:=by rw [if_neg (show ¬ (false=true) by decide)] at H;exact H
           clear H
           have H:=H1
           clear H1
           by_cases c63:x3_2>0
           ·rw [if_pos c63] at H
            have c63b0:decide (0<x3_2)=true:=decide_eq_true c63
            clear c63
            obtain ⟨ji64,hji64⟩:∃ j_:Int,(wrap64 (x3_2-1))=j_:=⟨_,rfl⟩
            replace H:(if 0≤(ji64) then (if (ji64)<(l0_1.length:Int) then ((spec_l03Less.f ((rd_T91 l0_1 (ji64)).f0.f0) ((rd_T91 l0_1 (ji64)).f0.f1) ((rd_T91 l0_1 x3_2).f0.f0) ((rd_T91 l0_1 x3_2).f0.f1)).bind fun t133=>(if t133=true then (spec_SetRight.l0 k2 (wrap64 (x3_2+1)) l0_0 l0_1) else (some false))) else (none)) else (none))=some r:=by first | (rw [hji64] at H;exact H) | (simp only [hji64] at H ⊢;exact H)
            (try rw [hji64] at A14)
            have hji64w:(IntKind.i64.wrap (x3_2-1))=ji64:=(i64_w _).trans hji64
            by_cases c65:0≤(ji64)
            ·rw [if_pos c65] at H
             have c65b0:decide (0≤(ji64))=true:=decide_eq_true c65
             clear c65
             by_cases c66:(ji64)<(l0_1.length:Int)
             ·rw [if_pos c66] at H
              have c66b0:decide ((ji64)<(l0_1.length:Int))=true:=decide_eq_true c66
              clear c66
              replace H:=Option.bind_eq_some_iff.mp H
              obtain ⟨t133,A670,H⟩:=H
              replace H:(if t133=true then (spec_SetRight.l0 k2 (wrap64 (x3_2+1)) l0_0 l0_1) else (some false))=some r:=H
              have A67:=Aside0.mk A670
              clear A670
              by_cases c68:t133=true
              ·subst c68
               have H1:(spec_SetRight.l0 k2 (wrap64 (x3_2+1)) l0_0 l0_1)=some r:=by rw [if_pos rfl] at H;exact H
               clear H
               have H:=H1
               clear H1
               have H':=Aside0.mk H
               clear H
               have ⟨hcz69_0,hcz69_1,hfz69_0,hfz69_1⟩:=cz2_ BK125.out
               have p127:0≤(x3_2:Int):=of_decide_eq_true (z2_)
               have q127:x3_2<(l0_1.length:Int):=of_decide_eq_true (z2_)
               obtain ⟨ad127,e127,hx127_0,hx127_1,hx127_2,hx127_3⟩:=at_T91 HR0_1.out x3_2 p127 q127
               (try rw [← Nbq24.out] at hx127_2)
               cases e127
               replace hx127_0:=(HB.out.cell (World.block_lt_of_cell? w _ hx127_0)).trans hx127_0
               replace hx127_1:=(HB.out.cell (World.block_lt_of_cell? w _ hx127_1)).trans hx127_1
               replace hx127_2:=(HB.out.cell (World.block_lt_of_cell? w _ hx127_2)).trans hx127_2
               replace hx127_3:=(HB.out.cell (World.block_lt_of_cell? w _ hx127_3)).trans hx127_3
               replace p127:=eq_true p127
               replace q127:=eq_true q127
               try go_wp2_with (first | ((with_reducible refine gd_ 4 ?_);(try (refine gate_guard (by rfl) ?_;dsimp only));refine be_ 4 #[.int .i64 0,.int .i64 0,.bool false,.string (⟨#[]⟩:ByteArray)] 91 ?_;intro gb128 hg w70 hbox hb;refine as7_ (blkB_ BK125.out hb) (below_step (z5_ HB.out GE125.out) hb) (hbox) ((z10_ HB.out GE125.out:w.heap.size≤gb128)) ((z10_ HB.out GE125.out:w.heap.size≤gb128)) (neL_ BK125.out hg) (neG_ BK125.out hg) ?_;clear BK125 HB;intro BK125 HB BK128 GW128 GE128 NB125_128 NB128_125;clear hb hbox hg;have hnb71:=NB128_125.out;have hnc71:=NB125_128.out;have ⟨hcz72_0,hcz72_1,hcz72_2,hcz72_3,hfz72_0,hfz72_1,hfz72_2,hfz72_3⟩:=cz4_ BK128.out))
               have n0_:Aside0 (((((w70.setCell ⟨gb128,0,none⟩ (.int .i64 ((rd_T91 l0_1 x3_2).f0.f0))).setCell ⟨gb128,1,none⟩ (.int .i64 ((rd_T91 l0_1 x3_2).f0.f1))).setCell ⟨gb128,2,none⟩ (.bool false)).setCell ⟨gb128,3,none⟩ (.string ((rd_T91 l0_1 x3_2).f2))).heap[gb125]? = some (.cells #[.slice A0_0 l0_0.length c0_0,.slice (some ad127) l0_1.length c0_1] 40 (0,0))):=⟨z16_ NB125_128.out BK125.out⟩
               have n1_:Aside0 (((((w70.setCell ⟨gb128,0,none⟩ (.int .i64 ((rd_T91 l0_1 x3_2).f0.f0))).setCell ⟨gb128,1,none⟩ (.int .i64 ((rd_T91 l0_1 x3_2).f0.f1))).setCell ⟨gb128,2,none⟩ (.bool false)).setCell ⟨gb128,3,none⟩ (.string ((rd_T91 l0_1 x3_2).f2))).heap[gb128]? = some (.cells #[.int .i64 ((rd_T91 l0_1 x3_2).f0.f0),.int .i64 ((rd_T91 l0_1 x3_2).f0.f1),.bool false,.string ((rd_T91 l0_1 x3_2).f2)] 91 (0,0))):=⟨z24_ BK128.out⟩
               have n2_:Aside0 (Below w.heap.size w ((((w70.setCell ⟨gb128,0,none⟩ (.int .i64 ((rd_T91 l0_1 x3_2).f0.f0))).setCell ⟨gb128,1,none⟩ (.int .i64 ((rd_T91 l0_1 x3_2).f0.f1))).setCell ⟨gb128,2,none⟩ (.bool false)).setCell ⟨gb128,3,none⟩ (.string ((rd_T91 l0_1 x3_2).f2)))):=⟨z6_ HB.out GE125.out GE128.out⟩
               (try clear BK125)
               (try clear BK128)
               (try clear HB)
               generalize ((((w70.setCell ⟨gb128,0,none⟩ (.int .i64 ((rd_T91 l0_1 x3_2).f0.f0))).setCell ⟨gb128,1,none⟩ (.int .i64 ((rd_T91 l0_1 x3_2).f0.f1))).setCell ⟨gb128,2,none⟩ (.bool false)).setCell ⟨gb128,3,none⟩ (.string ((rd_T91 l0_1 x3_2).f2)))=w73 at n0_ n1_ n2_ ⊢
               have BK125:=n0_
               have BK128:=n1_
               have HB:=n2_
               clear n0_ n1_ n2_
               refine as3_ (blk_drew BK125.out) (blk_drew BK128.out) (below_drew1 HB.out) ?_
               clear BK125 BK128 HB
               intro BK125 BK128 HB
               have p132:0≤((ji64):Int):=of_decide_eq_true (z2_)
               have q132:(ji64)<(l0_1.length:Int):=of_decide_eq_true (z2_)
               obtain ⟨ad132,e132,hx132_0,hx132_1,hx132_2,hx132_3⟩:=at_T91 HR0_1.out (ji64) p132 q132
               have hw132_3:=hx132_3
               have hw132_2:=hx132_2
               have hw132_1:=hx132_1
               have hw132_0:=hx132_0
               (try rw [← Nbq24.out] at hx132_2)
               obtain rfl:ad127=ad132:=(by injection e132)
               replace hx132_0:=(HB.out.cell (World.block_lt_of_cell? w _ hx132_0)).trans hx132_0
               replace hx132_1:=(HB.out.cell (World.block_lt_of_cell? w _ hx132_1)).trans hx132_1
               replace hx132_2:=(HB.out.cell (World.block_lt_of_cell? w _ hx132_2)).trans hx132_2
               replace hx132_3:=(HB.out.cell (World.block_lt_of_cell? w _ hx132_3)).trans hx132_3
               replace p132:=eq_true p132
               replace q132:=eq_true q132
               refine start_ (n:=38) (S:=fun w'=>w'.cell? ⟨gb125,0,none⟩=some (.slice A0_0 l0_0.length c0_0)∧w'.cell? ⟨gb125,1,none⟩=some (.slice (some ad127) l0_1.length c0_1)∧w'.cell? ⟨gb128,0,none⟩=some (.int .i64 ((rd_T91 l0_1 x3_2).f0.f0))∧w'.cell? ⟨gb128,1,none⟩=some (.int .i64 ((rd_T91 l0_1 x3_2).f0.f1))∧w'.cell? ⟨gb128,2,none⟩=some (.bool false)∧w'.cell? ⟨gb128,3,none⟩=some (.string ((rd_T91 l0_1 x3_2).f2))∧w'.cell? (ad127.add (((ji64)).toNat*4))=some (.int .i64 ((rd_T91 l0_1 (ji64)).f0.f0))∧w'.cell? ⟨(ad127.add (((ji64)).toNat*4)).block,(ad127.add (((ji64)).toNat*4)).off+1,none⟩=some (.int .i64 ((rd_T91 l0_1 (ji64)).f0.f1))∧w'.cell? ⟨(ad127.add (((ji64)).toNat*4)).block,(ad127.add (((ji64)).toNat*4)).off+2,none⟩=some (.bool ((rd_T91 l0_1 (ji64)).f1))∧w'.cell? ⟨(ad127.add (((ji64)).toNat*4)).block,(ad127.add (((ji64)).toNat*4)).off+3,none⟩=some (.string ((rd_T91 l0_1 (ji64)).f2))) (ds:=[]) spec_SetRight.q0 (by kernel_rfl) rfl rfl (cj2_ BK125.out (cj4_ BK128.out ⟨((HB.out.cell (World.block_lt_of_cell? w _ hw132_0)).trans hw132_0),⟨((HB.out.cell (World.block_lt_of_cell? w _ hw132_1)).trans hw132_1),⟨((HB.out.cell (World.block_lt_of_cell? w _ hw132_2)).trans hw132_2),((HB.out.cell (World.block_lt_of_cell? w _ hw132_3)).trans hw132_3)⟩⟩⟩)) (fun hHeld=>?_);refine with_tabW spec_SetRight.tab7 spec_SetRight.bits7 (fun HT_ HW_=>?_)
               generalize w73.drew=w74 at BK125 BK128 HB hx132_0 hx132_1 hx132_2 hx132_3 hHeld ⊢
               refine pu_ 0 27 spec_SetRight.q1 HT_.out ?_
               refine pu_ 2 29 spec_SetRight.q2 HT_.out ?_
               refine tk10_ 1 28 spec_SetRight.q3 HT_.out HW_.out hHeld ?_
               refine tk10_ 3 30 spec_SetRight.q4 HT_.out HW_.out hHeld ?_
               refine o1_ 4 31 spec_SetRight.q5 HT_.out (fun K hK=>?_)
               refine gs_ Try.func72 #[.slice A0_0 l0_0.length c0_0,.agg #[.int .i64 ((rd_T91 l0_1 x3_2).f0.f0),.int .i64 ((rd_T91 l0_1 x3_2).f0.f1)]] ?_
               with_reducible refine (spec_SeenHas.calls k2 _ _ l0_0 ((rd_T91 l0_1 x3_2).f0.f0) ((rd_T91 l0_1 x3_2).f0.f1) true _ ?s1 ?s2 A14.out).mono ?_
               (case s1=>repeat (first | exact (Kd.C_below HR0_0.out HB.out) | (with_reducible refine Kd.C_alloc ?_ _) | (with_reducible refine Kd.C_drewN ?_ _) | (with_reducible refine Kd.C_drew ?_)))
               (case s2=>exact HC0_0.out)
               rintro e w75 ⟨rfl,hb⟩
               refine ⟨_,rfl,?_⟩
               refine as3_ (blkB_ BK125.out hb) (blkB_ BK128.out hb) (below_step (z6_ HB.out GE125.out GE128.out) hb) ?_
               clear BK125 BK128 HB
               intro BK125 BK128 HB
               (try clear hb)
               refine hK.out _ _ (cj2_ BK125.out (cj4_ BK128.out ⟨((HB.out.cell (World.block_lt_of_cell? w _ hw132_0)).trans hw132_0),⟨((HB.out.cell (World.block_lt_of_cell? w _ hw132_1)).trans hw132_1),⟨((HB.out.cell (World.block_lt_of_cell? w _ hw132_2)).trans hw132_2),((HB.out.cell (World.block_lt_of_cell? w _ hw132_3)).trans hw132_3)⟩⟩⟩)) (fun hHeld=>?_)
               clear hK K
               refine nm_ 31 ?_
               refine pu_ 5 32 spec_SetRight.q6 HT_.out ?_
               refine pu_ 6 33 spec_SetRight.q7 HT_.out ?_
               refine pu_ 7 34 spec_SetRight.q8 HT_.out ?_
               refine tk10_ 8 35 spec_SetRight.q9 HT_.out HW_.out hHeld ?_
               refine pu_ 9 36 spec_SetRight.q10 HT_.out ?_
               refine pu_ 10 37 spec_SetRight.q11 HT_.out ?_
               refine pu_ 11 38 spec_SetRight.q12 HT_.out ?_
               refine pu_ 12 39 spec_SetRight.q13 HT_.out ?_
               refine pu_ 13 40 spec_SetRight.q14 HT_.out ?_
               refine tk10_ 14 41 spec_SetRight.q15 HT_.out HW_.out hHeld ?_
               refine pu_ 15 42 spec_SetRight.q16 HT_.out ?_
               refine pn_ 16 43 spec_SetRight.q17 HT_.out ?_
               refine pn_ 17 44 spec_SetRight.q18 HT_.out ?_
               refine pn_ 18 45 spec_SetRight.q19 HT_.out ?_
               refine pu_ 19 46 spec_SetRight.q20 HT_.out ?_
               refine pu_ 20 47 spec_SetRight.q21 HT_.out ?_
               refine pu_ 21 48 spec_SetRight.q22 HT_.out ?_
               refine pu_ 22 49 spec_SetRight.q23 HT_.out ?_
               refine pu_ 23 50 spec_SetRight.q24 HT_.out ?_
               refine pu_ 24 51 spec_SetRight.q25 HT_.out ?_
               refine pu_ 25 52 spec_SetRight.q26 HT_.out ?_
               refine pu_ 27 54 spec_SetRight.q39 HT_.out ?_
               refine pu_ 28 55 spec_SetRight.q40 HT_.out ?_
               refine pu_ 32 59 spec_SetRight.q41 HT_.out ?_
               refine tk10_ 26 53 spec_SetRight.q42 HT_.out HW_.out hHeld ?_
               refine pu_ 29 56 spec_SetRight.q43 HT_.out ?_
               refine pu_ 30 57 spec_SetRight.q44 HT_.out ?_
               refine tk10_ 31 58 spec_SetRight.q33 HT_.out HW_.out hHeld ?_
               refine tk10_ 33 60 spec_SetRight.q34 HT_.out HW_.out hHeld ?_
               refine o1_ 34 61 spec_SetRight.q35 HT_.out (fun K hK=>?_)
               refine goes_ Try.func82 (by kernel_rfl) rfl #[.agg #[.int .i64 ((rd_T91 l0_1 (ji64)).f0.f0),.int .i64 ((rd_T91 l0_1 (ji64)).f0.f1)],.agg #[.int .i64 ((rd_T91 l0_1 x3_2).f0.f0),.int .i64 ((rd_T91 l0_1 x3_2).f0.f1)]] (by rfl) rfl rfl (by (try simp only [List.map_toArray,List.map_cons,List.map_nil]);first | done | (simp only [hji64];rfl) | rfl | (simp only [List.length_drop,List.length_take];rfl)) ?_
               with_reducible refine (spec_l03Less.calls ((rd_T91 l0_1 (ji64)).f0.f0) ((rd_T91 l0_1 (ji64)).f0.f1) ((rd_T91 l0_1 x3_2).f0.f0) ((rd_T91 l0_1 x3_2).f0.f1) true _ A67.out).mono ?_
               rintro e w76 ⟨rfl,hb⟩
               refine ⟨_,rfl,?_⟩
               refine as3_ (blkB_ BK125.out hb) (blkB_ BK128.out hb) (below_step (z6_ HB.out GE125.out GE128.out) hb) ?_
               clear BK125 BK128 HB
               intro BK125 BK128 HB
               (try clear hb)
               refine hK.out _ _ (cj2_ BK125.out (cj4_ BK128.out ⟨((HB.out.cell (World.block_lt_of_cell? w _ hw132_0)).trans hw132_0),⟨((HB.out.cell (World.block_lt_of_cell? w _ hw132_1)).trans hw132_1),⟨((HB.out.cell (World.block_lt_of_cell? w _ hw132_2)).trans hw132_2),((HB.out.cell (World.block_lt_of_cell? w _ hw132_3)).trans hw132_3)⟩⟩⟩)) (fun hHeld=>?_)
               clear hK K
               refine nm_ 61 ?_
               refine pu_ 35 62 spec_SetRight.q36 HT_.out ?_
               refine pu_ 36 63 spec_SetRight.q37 HT_.out ?_
               refine pu_ 37 64 spec_SetRight.q38 HT_.out ?_
               refine done_ (done_of HT_.out (by kernel_rfl)) ?_
               try go_wp2
               go_roundg k2
               case measure=>have:=HJ1.out;have:=HK2.out;omega
               case rel=>exact ⟨(wrap64 (x3_2+1)),(z3_),H',⟨by have:=HJ1.out;have:=HK2.out;omega⟩,⟨z1_ BK125.out⟩,⟨z6_ HB.out GE125.out GE128.out⟩⟩
              ·replace c68:=Bool.eq_false_iff.mpr c68
               subst c68
               have H1:(some false)=some r:=by rw [if_neg (show ¬ (false=true) by decide)] at H;exact H
               clear H
               have H:=H1
               clear H1
               obtain rfl:=Option.some.inj H
               have ⟨hcz77_0,hcz77_1,hfz77_0,hfz77_1⟩:=cz2_ BK125.out
               have p127:0≤(x3_2:Int):=of_decide_eq_true (z2_)
               have q127:x3_2<(l0_1.length:Int):=of_decide_eq_true (z2_)
               obtain ⟨ad127,e127,hx127_0,hx127_1,hx127_2,hx127_3⟩:=at_T91 HR0_1.out x3_2 p127 q127
               (try rw [← Nbq24.out] at hx127_2)
               cases e127
               replace hx127_0:=(HB.out.cell (World.block_lt_of_cell? w _ hx127_0)).trans hx127_0
               replace hx127_1:=(HB.out.cell (World.block_lt_of_cell? w _ hx127_1)).trans hx127_1
               replace hx127_2:=(HB.out.cell (World.block_lt_of_cell? w _ hx127_2)).trans hx127_2
               replace hx127_3:=(HB.out.cell (World.block_lt_of_cell? w _ hx127_3)).trans hx127_3
               replace p127:=eq_true p127
               replace q127:=eq_true q127
               try go_wp2_with (first | ((with_reducible refine gd_ 4 ?_);(try (refine gate_guard (by rfl) ?_;dsimp only));refine be_ 4 #[.int .i64 0,.int .i64 0,.bool false,.string (⟨#[]⟩:ByteArray)] 91 ?_;intro gb128 hg w78 hbox hb;refine as7_ (blkB_ BK125.out hb) (below_step (z5_ HB.out GE125.out) hb) (hbox) ((z10_ HB.out GE125.out:w.heap.size≤gb128)) ((z10_ HB.out GE125.out:w.heap.size≤gb128)) (neL_ BK125.out hg) (neG_ BK125.out hg) ?_;clear BK125 HB;intro BK125 HB BK128 GW128 GE128 NB125_128 NB128_125;clear hb hbox hg;have hnb79:=NB128_125.out;have hnc79:=NB125_128.out;have ⟨hcz80_0,hcz80_1,hcz80_2,hcz80_3,hfz80_0,hfz80_1,hfz80_2,hfz80_3⟩:=cz4_ BK128.out))
               have n0_:Aside0 (((((w78.setCell ⟨gb128,0,none⟩ (.int .i64 ((rd_T91 l0_1 x3_2).f0.f0))).setCell ⟨gb128,1,none⟩ (.int .i64 ((rd_T91 l0_1 x3_2).f0.f1))).setCell ⟨gb128,2,none⟩ (.bool false)).setCell ⟨gb128,3,none⟩ (.string ((rd_T91 l0_1 x3_2).f2))).heap[gb125]? = some (.cells #[.slice A0_0 l0_0.length c0_0,.slice (some ad127) l0_1.length c0_1] 40 (0,0))):=⟨z16_ NB125_128.out BK125.out⟩
               have n1_:Aside0 (((((w78.setCell ⟨gb128,0,none⟩ (.int .i64 ((rd_T91 l0_1 x3_2).f0.f0))).setCell ⟨gb128,1,none⟩ (.int .i64 ((rd_T91 l0_1 x3_2).f0.f1))).setCell ⟨gb128,2,none⟩ (.bool false)).setCell ⟨gb128,3,none⟩ (.string ((rd_T91 l0_1 x3_2).f2))).heap[gb128]? = some (.cells #[.int .i64 ((rd_T91 l0_1 x3_2).f0.f0),.int .i64 ((rd_T91 l0_1 x3_2).f0.f1),.bool false,.string ((rd_T91 l0_1 x3_2).f2)] 91 (0,0))):=⟨z24_ BK128.out⟩
               have n2_:Aside0 (Below w.heap.size w ((((w78.setCell ⟨gb128,0,none⟩ (.int .i64 ((rd_T91 l0_1 x3_2).f0.f0))).setCell ⟨gb128,1,none⟩ (.int .i64 ((rd_T91 l0_1 x3_2).f0.f1))).setCell ⟨gb128,2,none⟩ (.bool false)).setCell ⟨gb128,3,none⟩ (.string ((rd_T91 l0_1 x3_2).f2)))):=⟨z6_ HB.out GE125.out GE128.out⟩
               (try clear BK125)
               (try clear BK128)
               (try clear HB)
               generalize ((((w78.setCell ⟨gb128,0,none⟩ (.int .i64 ((rd_T91 l0_1 x3_2).f0.f0))).setCell ⟨gb128,1,none⟩ (.int .i64 ((rd_T91 l0_1 x3_2).f0.f1))).setCell ⟨gb128,2,none⟩ (.bool false)).setCell ⟨gb128,3,none⟩ (.string ((rd_T91 l0_1 x3_2).f2)))=w81 at n0_ n1_ n2_ ⊢
               have BK125:=n0_
               have BK128:=n1_
               have HB:=n2_
               clear n0_ n1_ n2_
               refine as3_ (blk_drew BK125.out) (blk_drew BK128.out) (below_drew1 HB.out) ?_
               clear BK125 BK128 HB
               intro BK125 BK128 HB
               have p132:0≤((ji64):Int):=of_decide_eq_true (z2_)
               have q132:(ji64)<(l0_1.length:Int):=of_decide_eq_true (z2_)
               obtain ⟨ad132,e132,hx132_0,hx132_1,hx132_2,hx132_3⟩:=at_T91 HR0_1.out (ji64) p132 q132
               have hw132_3:=hx132_3
               have hw132_2:=hx132_2
               have hw132_1:=hx132_1
               have hw132_0:=hx132_0
               (try rw [← Nbq24.out] at hx132_2)
               obtain rfl:ad127=ad132:=(by injection e132)
               replace hx132_0:=(HB.out.cell (World.block_lt_of_cell? w _ hx132_0)).trans hx132_0
               replace hx132_1:=(HB.out.cell (World.block_lt_of_cell? w _ hx132_1)).trans hx132_1
               replace hx132_2:=(HB.out.cell (World.block_lt_of_cell? w _ hx132_2)).trans hx132_2
               replace hx132_3:=(HB.out.cell (World.block_lt_of_cell? w _ hx132_3)).trans hx132_3
               replace p132:=eq_true p132
               replace q132:=eq_true q132
               refine start_ (n:=38) (S:=fun w'=>w'.cell? ⟨gb125,0,none⟩=some (.slice A0_0 l0_0.length c0_0)∧w'.cell? ⟨gb125,1,none⟩=some (.slice (some ad127) l0_1.length c0_1)∧w'.cell? ⟨gb128,0,none⟩=some (.int .i64 ((rd_T91 l0_1 x3_2).f0.f0))∧w'.cell? ⟨gb128,1,none⟩=some (.int .i64 ((rd_T91 l0_1 x3_2).f0.f1))∧w'.cell? ⟨gb128,2,none⟩=some (.bool false)∧w'.cell? ⟨gb128,3,none⟩=some (.string ((rd_T91 l0_1 x3_2).f2))∧w'.cell? (ad127.add (((ji64)).toNat*4))=some (.int .i64 ((rd_T91 l0_1 (ji64)).f0.f0))∧w'.cell? ⟨(ad127.add (((ji64)).toNat*4)).block,(ad127.add (((ji64)).toNat*4)).off+1,none⟩=some (.int .i64 ((rd_T91 l0_1 (ji64)).f0.f1))∧w'.cell? ⟨(ad127.add (((ji64)).toNat*4)).block,(ad127.add (((ji64)).toNat*4)).off+2,none⟩=some (.bool ((rd_T91 l0_1 (ji64)).f1))∧w'.cell? ⟨(ad127.add (((ji64)).toNat*4)).block,(ad127.add (((ji64)).toNat*4)).off+3,none⟩=some (.string ((rd_T91 l0_1 (ji64)).f2))) (ds:=[]) spec_SetRight.q0 (by kernel_rfl) rfl rfl (cj2_ BK125.out (cj4_ BK128.out ⟨((HB.out.cell (World.block_lt_of_cell? w _ hw132_0)).trans hw132_0),⟨((HB.out.cell (World.block_lt_of_cell? w _ hw132_1)).trans hw132_1),⟨((HB.out.cell (World.block_lt_of_cell? w _ hw132_2)).trans hw132_2),((HB.out.cell (World.block_lt_of_cell? w _ hw132_3)).trans hw132_3)⟩⟩⟩)) (fun hHeld=>?_);refine with_tabW spec_SetRight.tab7 spec_SetRight.bits7 (fun HT_ HW_=>?_)
               generalize w81.drew=w82 at BK125 BK128 HB hx132_0 hx132_1 hx132_2 hx132_3 hHeld ⊢
               refine pu_ 0 27 spec_SetRight.q1 HT_.out ?_
               refine pu_ 2 29 spec_SetRight.q2 HT_.out ?_
               refine tk10_ 1 28 spec_SetRight.q3 HT_.out HW_.out hHeld ?_
               refine tk10_ 3 30 spec_SetRight.q4 HT_.out HW_.out hHeld ?_
               refine o1_ 4 31 spec_SetRight.q5 HT_.out (fun K hK=>?_)
               refine gs_ Try.func72 #[.slice A0_0 l0_0.length c0_0,.agg #[.int .i64 ((rd_T91 l0_1 x3_2).f0.f0),.int .i64 ((rd_T91 l0_1 x3_2).f0.f1)]] ?_
               with_reducible refine (spec_SeenHas.calls k2 _ _ l0_0 ((rd_T91 l0_1 x3_2).f0.f0) ((rd_T91 l0_1 x3_2).f0.f1) true _ ?s1 ?s2 A14.out).mono ?_
               (case s1=>repeat (first | exact (Kd.C_below HR0_0.out HB.out) | (with_reducible refine Kd.C_alloc ?_ _) | (with_reducible refine Kd.C_drewN ?_ _) | (with_reducible refine Kd.C_drew ?_)))
               (case s2=>exact HC0_0.out)
               rintro e w83 ⟨rfl,hb⟩
               refine ⟨_,rfl,?_⟩
               refine as3_ (blkB_ BK125.out hb) (blkB_ BK128.out hb) (below_step (z6_ HB.out GE125.out GE128.out) hb) ?_
               clear BK125 BK128 HB
               intro BK125 BK128 HB
               (try clear hb)
               refine hK.out _ _ (cj2_ BK125.out (cj4_ BK128.out ⟨((HB.out.cell (World.block_lt_of_cell? w _ hw132_0)).trans hw132_0),⟨((HB.out.cell (World.block_lt_of_cell? w _ hw132_1)).trans hw132_1),⟨((HB.out.cell (World.block_lt_of_cell? w _ hw132_2)).trans hw132_2),((HB.out.cell (World.block_lt_of_cell? w _ hw132_3)).trans hw132_3)⟩⟩⟩)) (fun hHeld=>?_)
               clear hK K
               refine nm_ 31 ?_
               refine pu_ 5 32 spec_SetRight.q6 HT_.out ?_
               refine pu_ 6 33 spec_SetRight.q7 HT_.out ?_
               refine pu_ 7 34 spec_SetRight.q8 HT_.out ?_
               refine tk10_ 8 35 spec_SetRight.q9 HT_.out HW_.out hHeld ?_
               refine pu_ 9 36 spec_SetRight.q10 HT_.out ?_
               refine pu_ 10 37 spec_SetRight.q11 HT_.out ?_
               refine pu_ 11 38 spec_SetRight.q12 HT_.out ?_
               refine pu_ 12 39 spec_SetRight.q13 HT_.out ?_
               refine pu_ 13 40 spec_SetRight.q14 HT_.out ?_
               refine tk10_ 14 41 spec_SetRight.q15 HT_.out HW_.out hHeld ?_
               refine pu_ 15 42 spec_SetRight.q16 HT_.out ?_
               refine pn_ 16 43 spec_SetRight.q17 HT_.out ?_
               refine pn_ 17 44 spec_SetRight.q18 HT_.out ?_
               refine pn_ 18 45 spec_SetRight.q19 HT_.out ?_
               refine pu_ 19 46 spec_SetRight.q20 HT_.out ?_
               refine pu_ 20 47 spec_SetRight.q21 HT_.out ?_
               refine pu_ 21 48 spec_SetRight.q22 HT_.out ?_
               refine pu_ 22 49 spec_SetRight.q23 HT_.out ?_
               refine pu_ 23 50 spec_SetRight.q24 HT_.out ?_
               refine pu_ 24 51 spec_SetRight.q25 HT_.out ?_
               refine pu_ 25 52 spec_SetRight.q26 HT_.out ?_
               refine pu_ 27 54 spec_SetRight.q39 HT_.out ?_
               refine pu_ 28 55 spec_SetRight.q40 HT_.out ?_
               refine pu_ 32 59 spec_SetRight.q41 HT_.out ?_
               refine tk10_ 26 53 spec_SetRight.q42 HT_.out HW_.out hHeld ?_
               refine pu_ 29 56 spec_SetRight.q43 HT_.out ?_
               refine pu_ 30 57 spec_SetRight.q44 HT_.out ?_
               refine tk10_ 31 58 spec_SetRight.q33 HT_.out HW_.out hHeld ?_
               refine tk10_ 33 60 spec_SetRight.q34 HT_.out HW_.out hHeld ?_
               refine o1_ 34 61 spec_SetRight.q35 HT_.out (fun K hK=>?_)
               refine goes_ Try.func82 (by kernel_rfl) rfl #[.agg #[.int .i64 ((rd_T91 l0_1 (ji64)).f0.f0),.int .i64 ((rd_T91 l0_1 (ji64)).f0.f1)],.agg #[.int .i64 ((rd_T91 l0_1 x3_2).f0.f0),.int .i64 ((rd_T91 l0_1 x3_2).f0.f1)]] (by rfl) rfl rfl (by (try simp only [List.map_toArray,List.map_cons,List.map_nil]);first | done | (simp only [hji64];rfl) | rfl | (simp only [List.length_drop,List.length_take];rfl)) ?_
               with_reducible refine (spec_l03Less.calls ((rd_T91 l0_1 (ji64)).f0.f0) ((rd_T91 l0_1 (ji64)).f0.f1) ((rd_T91 l0_1 x3_2).f0.f0) ((rd_T91 l0_1 x3_2).f0.f1) false _ A67.out).mono ?_
               rintro e w84 ⟨rfl,hb⟩
               refine ⟨_,rfl,?_⟩
               refine as3_ (blkB_ BK125.out hb) (blkB_ BK128.out hb) (below_step (z6_ HB.out GE125.out GE128.out) hb) ?_
               clear BK125 BK128 HB
               intro BK125 BK128 HB
               (try clear hb)
               refine hK.out _ _ (cj2_ BK125.out (cj4_ BK128.out ⟨((HB.out.cell (World.block_lt_of_cell? w _ hw132_0)).trans hw132_0),⟨((HB.out.cell (World.block_lt_of_cell? w _ hw132_1)).trans hw132_1),⟨((HB.out.cell (World.block_lt_of_cell? w _ hw132_2)).trans hw132_2),((HB.out.cell (World.block_lt_of_cell? w _ hw132_3)).trans hw132_3)⟩⟩⟩)) (fun hHeld=>?_)
               clear hK K
               refine nm_ 61 ?_
               refine pu_ 35 62 spec_SetRight.q36 HT_.out ?_
               refine pu_ 36 63 spec_SetRight.q37 HT_.out ?_
               refine pu_ 37 64 spec_SetRight.q38 HT_.out ?_
               refine done_ (done_of HT_.out (by kernel_rfl)) ?_
               try go_wp2
               go_ret
               exact ⟨by first | rfl | (simp [errW_none,errW_some] <;> rfl) | (simp only [← hji64];first | rfl | (simp [errW_none,errW_some] <;> rfl)) | (simp [*,errW_none,errW_some] <;> rfl),z6_ HB.out GE125.out GE128.out⟩
             ·rw [if_neg c66] at H
              exact absurd H (by simp)
            ·rw [if_neg c65] at H
             exact absurd H (by simp)
           ·rw [if_neg c63] at H
            have c63b0:decide (0<x3_2)=false:=decide_eq_false c63
            clear c63
            have H':=Aside0.mk H
            clear H
            have ⟨hcz85_0,hcz85_1,hfz85_0,hfz85_1⟩:=cz2_ BK125.out
            have p127:0≤(x3_2:Int):=of_decide_eq_true (z2_)
            have q127:x3_2<(l0_1.length:Int):=of_decide_eq_true (z2_)
            obtain ⟨ad127,e127,hx127_0,hx127_1,hx127_2,hx127_3⟩:=at_T91 HR0_1.out x3_2 p127 q127
            (try rw [← Nbq24.out] at hx127_2)
            cases e127
            replace hx127_0:=(HB.out.cell (World.block_lt_of_cell? w _ hx127_0)).trans hx127_0
            replace hx127_1:=(HB.out.cell (World.block_lt_of_cell? w _ hx127_1)).trans hx127_1
            replace hx127_2:=(HB.out.cell (World.block_lt_of_cell? w _ hx127_2)).trans hx127_2
            replace hx127_3:=(HB.out.cell (World.block_lt_of_cell? w _ hx127_3)).trans hx127_3
            replace p127:=eq_true p127
            replace q127:=eq_true q127
            try go_wp2_with (first | ((with_reducible refine gd_ 4 ?_);(try (refine gate_guard (by rfl) ?_;dsimp only));refine be_ 4 #[.int .i64 0,.int .i64 0,.bool false,.string (⟨#[]⟩:ByteArray)] 91 ?_;intro gb128 hg w86 hbox hb;refine as7_ (blkB_ BK125.out hb) (below_step (z5_ HB.out GE125.out) hb) (hbox) ((z10_ HB.out GE125.out:w.heap.size≤gb128)) ((z10_ HB.out GE125.out:w.heap.size≤gb128)) (neL_ BK125.out hg) (neG_ BK125.out hg) ?_;clear BK125 HB;intro BK125 HB BK128 GW128 GE128 NB125_128 NB128_125;clear hb hbox hg;have hnb87:=NB128_125.out;have hnc87:=NB125_128.out;have ⟨hcz88_0,hcz88_1,hcz88_2,hcz88_3,hfz88_0,hfz88_1,hfz88_2,hfz88_3⟩:=cz4_ BK128.out))
            have n0_:Aside0 (((((w86.setCell ⟨gb128,0,none⟩ (.int .i64 ((rd_T91 l0_1 x3_2).f0.f0))).setCell ⟨gb128,1,none⟩ (.int .i64 ((rd_T91 l0_1 x3_2).f0.f1))).setCell ⟨gb128,2,none⟩ (.bool false)).setCell ⟨gb128,3,none⟩ (.string ((rd_T91 l0_1 x3_2).f2))).heap[gb125]? = some (.cells #[.slice A0_0 l0_0.length c0_0,.slice (some ad127) l0_1.length c0_1] 40 (0,0))):=⟨z16_ NB125_128.out BK125.out⟩
            have n1_:Aside0 (((((w86.setCell ⟨gb128,0,none⟩ (.int .i64 ((rd_T91 l0_1 x3_2).f0.f0))).setCell ⟨gb128,1,none⟩ (.int .i64 ((rd_T91 l0_1 x3_2).f0.f1))).setCell ⟨gb128,2,none⟩ (.bool false)).setCell ⟨gb128,3,none⟩ (.string ((rd_T91 l0_1 x3_2).f2))).heap[gb128]? = some (.cells #[.int .i64 ((rd_T91 l0_1 x3_2).f0.f0),.int .i64 ((rd_T91 l0_1 x3_2).f0.f1),.bool false,.string ((rd_T91 l0_1 x3_2).f2)] 91 (0,0))):=⟨z24_ BK128.out⟩
            have n2_:Aside0 (Below w.heap.size w ((((w86.setCell ⟨gb128,0,none⟩ (.int .i64 ((rd_T91 l0_1 x3_2).f0.f0))).setCell ⟨gb128,1,none⟩ (.int .i64 ((rd_T91 l0_1 x3_2).f0.f1))).setCell ⟨gb128,2,none⟩ (.bool false)).setCell ⟨gb128,3,none⟩ (.string ((rd_T91 l0_1 x3_2).f2)))):=⟨z6_ HB.out GE125.out GE128.out⟩
            (try clear BK125)
            (try clear BK128)
            (try clear HB)
            generalize ((((w86.setCell ⟨gb128,0,none⟩ (.int .i64 ((rd_T91 l0_1 x3_2).f0.f0))).setCell ⟨gb128,1,none⟩ (.int .i64 ((rd_T91 l0_1 x3_2).f0.f1))).setCell ⟨gb128,2,none⟩ (.bool false)).setCell ⟨gb128,3,none⟩ (.string ((rd_T91 l0_1 x3_2).f2)))=w89 at n0_ n1_ n2_ ⊢
            have BK125:=n0_
            have BK128:=n1_
            have HB:=n2_
            clear n0_ n1_ n2_
            refine as3_ (blk_drew BK125.out) (blk_drew BK128.out) (below_drew1 HB.out) ?_
            clear BK125 BK128 HB
            intro BK125 BK128 HB
            refine start_ (n:=38) (S:=fun w'=>w'.cell? ⟨gb125,0,none⟩=some (.slice A0_0 l0_0.length c0_0)∧w'.cell? ⟨gb125,1,none⟩=some (.slice (some ad127) l0_1.length c0_1)∧w'.cell? ⟨gb128,0,none⟩=some (.int .i64 ((rd_T91 l0_1 x3_2).f0.f0))∧w'.cell? ⟨gb128,1,none⟩=some (.int .i64 ((rd_T91 l0_1 x3_2).f0.f1))∧w'.cell? ⟨gb128,2,none⟩=some (.bool false)∧w'.cell? ⟨gb128,3,none⟩=some (.string ((rd_T91 l0_1 x3_2).f2))) (ds:=[]) spec_SetRight.q0 (by kernel_rfl) rfl rfl (cj2_ BK125.out (cc4_ BK128.out)) (fun hHeld=>?_);refine with_tabW spec_SetRight.tab7 spec_SetRight.bits7 (fun HT_ HW_=>?_)
            generalize w89.drew=w90 at BK125 BK128 HB hHeld ⊢
            refine pu_ 0 27 spec_SetRight.q1 HT_.out ?_
            refine pu_ 2 29 spec_SetRight.q2 HT_.out ?_
            refine tk6_ 1 28 spec_SetRight.q3 HT_.out HW_.out hHeld ?_
            refine tk6_ 3 30 spec_SetRight.q4 HT_.out HW_.out hHeld ?_
            refine o1_ 4 31 spec_SetRight.q5 HT_.out (fun K hK=>?_)
            refine gs_ Try.func72 #[.slice A0_0 l0_0.length c0_0,.agg #[.int .i64 ((rd_T91 l0_1 x3_2).f0.f0),.int .i64 ((rd_T91 l0_1 x3_2).f0.f1)]] ?_
            with_reducible refine (spec_SeenHas.calls k2 _ _ l0_0 ((rd_T91 l0_1 x3_2).f0.f0) ((rd_T91 l0_1 x3_2).f0.f1) true _ ?s1 ?s2 A14.out).mono ?_
            (case s1=>repeat (first | exact (Kd.C_below HR0_0.out HB.out) | (with_reducible refine Kd.C_alloc ?_ _) | (with_reducible refine Kd.C_drewN ?_ _) | (with_reducible refine Kd.C_drew ?_)))
            (case s2=>exact HC0_0.out)
            rintro e w91 ⟨rfl,hb⟩
            refine ⟨_,rfl,?_⟩
            refine as3_ (blkB_ BK125.out hb) (blkB_ BK128.out hb) (below_step (z6_ HB.out GE125.out GE128.out) hb) ?_
            clear BK125 BK128 HB
            intro BK125 BK128 HB
            (try clear hb)
            refine hK.out _ _ (cj2_ BK125.out (cc4_ BK128.out)) (fun hHeld=>?_)
            clear hK K
            refine nm_ 31 ?_
            refine pu_ 5 32 spec_SetRight.q6 HT_.out ?_
            refine pu_ 6 33 spec_SetRight.q7 HT_.out ?_
            refine pu_ 7 34 spec_SetRight.q8 HT_.out ?_
            refine tk6_ 8 35 spec_SetRight.q9 HT_.out HW_.out hHeld ?_
            refine pu_ 9 36 spec_SetRight.q10 HT_.out ?_
            refine pu_ 10 37 spec_SetRight.q11 HT_.out ?_
            refine pu_ 11 38 spec_SetRight.q12 HT_.out ?_
            refine pu_ 12 39 spec_SetRight.q13 HT_.out ?_
            refine pu_ 13 40 spec_SetRight.q14 HT_.out ?_
            refine tk6_ 14 41 spec_SetRight.q15 HT_.out HW_.out hHeld ?_
            refine pu_ 15 42 spec_SetRight.q16 HT_.out ?_
            refine pn_ 16 43 spec_SetRight.q17 HT_.out ?_
            refine pn_ 17 44 spec_SetRight.q18 HT_.out ?_
            refine pn_ 18 45 spec_SetRight.q19 HT_.out ?_
            refine pu_ 19 46 spec_SetRight.q20 HT_.out ?_
            refine pu_ 20 47 spec_SetRight.q21 HT_.out ?_
            refine pu_ 21 48 spec_SetRight.q22 HT_.out ?_
            refine pu_ 22 49 spec_SetRight.q23 HT_.out ?_
            refine pu_ 23 50 spec_SetRight.q24 HT_.out ?_
            refine pu_ 24 51 spec_SetRight.q25 HT_.out ?_
            refine pn_ 25 52 spec_SetRight.q26 HT_.out ?_
            refine pn_ 26 53 spec_SetRight.q27 HT_.out ?_
            refine pn_ 27 54 spec_SetRight.q28 HT_.out ?_
            refine pn_ 28 55 spec_SetRight.q29 HT_.out ?_
            refine pn_ 29 56 spec_SetRight.q30 HT_.out ?_
            refine pn_ 30 57 spec_SetRight.q31 HT_.out ?_
            refine pn_ 31 58 spec_SetRight.q32 HT_.out ?_
            refine pn_ 32 59 spec_SetRight.q33 HT_.out ?_
            refine pn_ 33 60 spec_SetRight.q34 HT_.out ?_
            refine pn_ 34 61 spec_SetRight.q35 HT_.out ?_
            refine pn_ 35 62 spec_SetRight.q36 HT_.out ?_
            refine pu_ 36 63 spec_SetRight.q37 HT_.out ?_
            refine pu_ 37 64 spec_SetRight.q38 HT_.out ?_
            refine done_ (done_of HT_.out (by kernel_rfl)) ?_
            try go_wp2
            go_roundg k2
            case measure=>have:=HJ1.out;have:=HK2.out;omega
            case rel=>exact ⟨(wrap64 (x3_2+1)),(z3_),H',⟨by have:=HJ1.out;have:=HK2.out;omega⟩,⟨z1_ BK125.out⟩,⟨z6_ HB.out GE125.out GE128.out⟩⟩
        ·replace c15:=Bool.eq_false_iff.mpr c15
         subst c15
         have H1:(some false)=some r:=by rw [if_neg (show ¬ (false=true) by decide)] at H;exact H
         clear H
         have H:=H1
         clear H1
         obtain rfl:=Option.some.inj H
         have ⟨hcz92_0,hcz92_1,hfz92_0,hfz92_1⟩:=cz2_ BK125.out
         have p127:0≤(x3_2:Int):=of_decide_eq_true (z2_)
         have q127:x3_2<(l0_1.length:Int):=of_decide_eq_true (z2_)
         obtain ⟨ad127,e127,hx127_0,hx127_1,hx127_2,hx127_3⟩:=at_T91 HR0_1.out x3_2 p127 q127
         cases e127
         replace hx127_0:=(HB.out.cell (World.block_lt_of_cell? w _ hx127_0)).trans hx127_0
         replace hx127_1:=(HB.out.cell (World.block_lt_of_cell? w _ hx127_1)).trans hx127_1
         replace hx127_2:=(HB.out.cell (World.block_lt_of_cell? w _ hx127_2)).trans hx127_2
         replace hx127_3:=(HB.out.cell (World.block_lt_of_cell? w _ hx127_3)).trans hx127_3
         replace p127:=eq_true p127
         replace q127:=eq_true q127
         try go_wp2_with (first | ((with_reducible refine gd_ 4 ?_);(try (refine gate_guard (by rfl) ?_;dsimp only));refine be_ 4 #[.int .i64 0,.int .i64 0,.bool false,.string (⟨#[]⟩:ByteArray)] 91 ?_;intro gb128 hg w93 hbox hb;refine as7_ (blkB_ BK125.out hb) (below_step (z5_ HB.out GE125.out) hb) (hbox) ((z10_ HB.out GE125.out:w.heap.size≤gb128)) ((z10_ HB.out GE125.out:w.heap.size≤gb128)) (neL_ BK125.out hg) (neG_ BK125.out hg) ?_;clear BK125 HB;intro BK125 HB BK128 GW128 GE128 NB125_128 NB128_125;clear hb hbox hg;have hnb94:=NB128_125.out;have hnc94:=NB125_128.out;have ⟨hcz95_0,hcz95_1,hcz95_2,hcz95_3,hfz95_0,hfz95_1,hfz95_2,hfz95_3⟩:=cz4_ BK128.out))
         have n0_:Aside0 (((((w93.setCell ⟨gb128,0,none⟩ (.int .i64 ((rd_T91 l0_1 x3_2).f0.f0))).setCell ⟨gb128,1,none⟩ (.int .i64 ((rd_T91 l0_1 x3_2).f0.f1))).setCell ⟨gb128,2,none⟩ (.bool ((rd_T91 l0_1 x3_2).f1))).setCell ⟨gb128,3,none⟩ (.string ((rd_T91 l0_1 x3_2).f2))).heap[gb125]? = some (.cells #[.slice A0_0 l0_0.length c0_0,.slice (some ad127) l0_1.length c0_1] 40 (0,0))):=⟨z16_ NB125_128.out BK125.out⟩
         have n1_:Aside0 (((((w93.setCell ⟨gb128,0,none⟩ (.int .i64 ((rd_T91 l0_1 x3_2).f0.f0))).setCell ⟨gb128,1,none⟩ (.int .i64 ((rd_T91 l0_1 x3_2).f0.f1))).setCell ⟨gb128,2,none⟩ (.bool ((rd_T91 l0_1 x3_2).f1))).setCell ⟨gb128,3,none⟩ (.string ((rd_T91 l0_1 x3_2).f2))).heap[gb128]? = some (.cells #[.int .i64 ((rd_T91 l0_1 x3_2).f0.f0),.int .i64 ((rd_T91 l0_1 x3_2).f0.f1),.bool ((rd_T91 l0_1 x3_2).f1),.string ((rd_T91 l0_1 x3_2).f2)] 91 (0,0))):=⟨z24_ BK128.out⟩
         have n2_:Aside0 (Below w.heap.size w ((((w93.setCell ⟨gb128,0,none⟩ (.int .i64 ((rd_T91 l0_1 x3_2).f0.f0))).setCell ⟨gb128,1,none⟩ (.int .i64 ((rd_T91 l0_1 x3_2).f0.f1))).setCell ⟨gb128,2,none⟩ (.bool ((rd_T91 l0_1 x3_2).f1))).setCell ⟨gb128,3,none⟩ (.string ((rd_T91 l0_1 x3_2).f2)))):=⟨z6_ HB.out GE125.out GE128.out⟩
         (try clear BK125)
         (try clear BK128)
         (try clear HB)
         generalize ((((w93.setCell ⟨gb128,0,none⟩ (.int .i64 ((rd_T91 l0_1 x3_2).f0.f0))).setCell ⟨gb128,1,none⟩ (.int .i64 ((rd_T91 l0_1 x3_2).f0.f1))).setCell ⟨gb128,2,none⟩ (.bool ((rd_T91 l0_1 x3_2).f1))).setCell ⟨gb128,3,none⟩ (.string ((rd_T91 l0_1 x3_2).f2)))=w96 at n0_ n1_ n2_ ⊢
         have BK125:=n0_
         have BK128:=n1_
         have HB:=n2_
         clear n0_ n1_ n2_
         refine as3_ (blk_drew BK125.out) (blk_drew BK128.out) (below_drew1 HB.out) ?_
         clear BK125 BK128 HB
         intro BK125 BK128 HB
         refine start_ (n:=38) (S:=fun w'=>w'.cell? ⟨gb125,0,none⟩=some (.slice A0_0 l0_0.length c0_0)∧w'.cell? ⟨gb125,1,none⟩=some (.slice (some ad127) l0_1.length c0_1)∧w'.cell? ⟨gb128,0,none⟩=some (.int .i64 ((rd_T91 l0_1 x3_2).f0.f0))∧w'.cell? ⟨gb128,1,none⟩=some (.int .i64 ((rd_T91 l0_1 x3_2).f0.f1))∧w'.cell? ⟨gb128,2,none⟩=some (.bool ((rd_T91 l0_1 x3_2).f1))∧w'.cell? ⟨gb128,3,none⟩=some (.string ((rd_T91 l0_1 x3_2).f2))) (ds:=[]) spec_SetRight.q0 (by kernel_rfl) rfl rfl (cj2_ BK125.out (cc4_ BK128.out)) (fun hHeld=>?_);refine with_tabW spec_SetRight.tab7 spec_SetRight.bits7 (fun HT_ HW_=>?_)
         generalize w96.drew=w97 at BK125 BK128 HB hHeld ⊢
         refine pu_ 0 27 spec_SetRight.q1 HT_.out ?_
         refine pu_ 2 29 spec_SetRight.q2 HT_.out ?_
         refine tk6_ 1 28 spec_SetRight.q3 HT_.out HW_.out hHeld ?_
         refine tk6_ 3 30 spec_SetRight.q4 HT_.out HW_.out hHeld ?_
         refine o1_ 4 31 spec_SetRight.q5 HT_.out (fun K hK=>?_)
         refine gs_ Try.func72 #[.slice A0_0 l0_0.length c0_0,.agg #[.int .i64 ((rd_T91 l0_1 x3_2).f0.f0),.int .i64 ((rd_T91 l0_1 x3_2).f0.f1)]] ?_
         with_reducible refine (spec_SeenHas.calls k2 _ _ l0_0 ((rd_T91 l0_1 x3_2).f0.f0) ((rd_T91 l0_1 x3_2).f0.f1) false _ ?s1 ?s2 A14.out).mono ?_
         (case s1=>repeat (first | exact (Kd.C_below HR0_0.out HB.out) | (with_reducible refine Kd.C_alloc ?_ _) | (with_reducible refine Kd.C_drewN ?_ _) | (with_reducible refine Kd.C_drew ?_)))
         (case s2=>exact HC0_0.out)
         rintro e w98 ⟨rfl,hb⟩
         refine ⟨_,rfl,?_⟩
         refine as3_ (blkB_ BK125.out hb) (blkB_ BK128.out hb) (below_step (z6_ HB.out GE125.out GE128.out) hb) ?_
         clear BK125 BK128 HB
         intro BK125 BK128 HB
         (try clear hb)
         refine hK.out _ _ (cj2_ BK125.out (cc4_ BK128.out)) (fun hHeld=>?_)
         clear hK K
         refine nm_ 31 ?_
         refine pu_ 5 32 spec_SetRight.q6 HT_.out ?_
         refine pu_ 6 33 spec_SetRight.q7 HT_.out ?_
         refine pn_ 7 34 spec_SetRight.q8 HT_.out ?_
         refine pn_ 8 35 spec_SetRight.q9 HT_.out ?_
         refine pn_ 9 36 spec_SetRight.q10 HT_.out ?_
         refine pn_ 10 37 spec_SetRight.q11 HT_.out ?_
         refine pu_ 11 38 spec_SetRight.q12 HT_.out ?_
         refine pu_ 12 39 spec_SetRight.q13 HT_.out ?_
         refine pn_ 13 40 spec_SetRight.q14 HT_.out ?_
         refine pn_ 14 41 spec_SetRight.q15 HT_.out ?_
         refine pn_ 15 42 spec_SetRight.q16 HT_.out ?_
         refine pn_ 16 43 spec_SetRight.q17 HT_.out ?_
         refine pn_ 17 44 spec_SetRight.q18 HT_.out ?_
         refine pn_ 18 45 spec_SetRight.q19 HT_.out ?_
         refine pn_ 19 46 spec_SetRight.q20 HT_.out ?_
         refine pu_ 20 47 spec_SetRight.q21 HT_.out ?_
         refine pu_ 21 48 spec_SetRight.q22 HT_.out ?_
         refine pn_ 22 49 spec_SetRight.q23 HT_.out ?_
         refine pn_ 23 50 spec_SetRight.q24 HT_.out ?_
         refine pn_ 24 51 spec_SetRight.q25 HT_.out ?_
         refine pn_ 25 52 spec_SetRight.q26 HT_.out ?_
         refine pn_ 26 53 spec_SetRight.q27 HT_.out ?_
         refine pn_ 27 54 spec_SetRight.q28 HT_.out ?_
         refine pn_ 28 55 spec_SetRight.q29 HT_.out ?_
         refine pn_ 29 56 spec_SetRight.q30 HT_.out ?_
         refine pn_ 30 57 spec_SetRight.q31 HT_.out ?_
         refine pn_ 31 58 spec_SetRight.q32 HT_.out ?_
         refine pn_ 32 59 spec_SetRight.q33 HT_.out ?_
         refine pn_ 33 60 spec_SetRight.q34 HT_.out ?_
         refine pn_ 34 61 spec_SetRight.q35 HT_.out ?_
         refine pn_ 35 62 spec_SetRight.q36 HT_.out ?_
         refine pn_ 36 63 spec_SetRight.q37 HT_.out ?_
         refine pu_ 37 64 spec_SetRight.q38 HT_.out ?_
         refine done_ (done_of HT_.out (by kernel_rfl)) ?_
         try go_wp2
         go_ret
         exact ⟨z8_,z6_ HB.out GE125.out GE128.out⟩
       ·rw [if_neg c13] at H
        exact absurd H (by simp)
      ·rw [if_neg c12] at H
       have c12b0:decide (x3_2<(l0_1.length:Int))=false:=decide_eq_false c12
       clear c12
       obtain rfl:=Option.some.inj H
       have ⟨hcz99_0,hcz99_1,hfz99_0,hfz99_1⟩:=cz2_ BK125.out
       go_wp2
       go_ret
       exact ⟨z8_,z5_ HB.out GE125.out⟩


/-! ### spec_l03Ill: function 60 -/
def spec_l03Ill.f (a0:Int):Option ((List (S56)) × (List (S91)) × Int × Int × Int):=some (([]:List (S56)),([]:List (S91)),0,0,a0)
set_option maxHeartbeats 8000000 in
set_option maxRecDepth 100000 in
theorem spec_l03Ill.calls (a0:Int) (r1:List (S56)) (r2:List (S91)) (r3:Int) (r4:Int) (r5:Int) (w:World) (h:spec_l03Ill.f a0=some (r1,r2,r3,r4,r5)) :
  Calls Try.prog 60 #[.int .i64 a0] w fun e w'=>∃ v0_ v1_:Value,e = .returned (.agg #[v0_,v1_,.int .i64 r3,.int .i64 r4,.int .i64 r5])∧Kd.R k56 56 w' w.heap.size (fun _=>True) v0_ r1∧Kd.R k91 91 w' w.heap.size (fun _=>True) v1_ r2∧Below w.heap.size w w':=by
 have hu58:=Try.underlying58
 have HB:=Aside0.mk (Below.refl w.heap.size w)
 have H:(some (([]:List (S56)),([]:List (S91)),0,0,a0))=some (r1,r2,r3,r4,r5):=h
 clear h
 simp only [Option.some.injEq,Prod.mk.injEq] at H
 obtain ⟨rfl,rfl,rfl,rfl,rfl⟩:=H
 go_enter Try.func60,Try.ntmps60
 go_wp2_with (first | ((with_reducible refine gd_ 2 ?_);refine be_ 2 #[.slice none 0 0,.slice none 0 0,.int .i64 0,.int .i64 0,.int .i64 0] 58 ?_;intro gb511 hg w2 hbox hb;refine as4_ (below_step (z4_ HB.out) hb) (hbox) ((z7_ HB.out:w.heap.size≤gb511)) ((z7_ HB.out:w.heap.size≤gb511)) ?_;clear HB;intro HB BK511 GW511 GE511;clear hb hbox hg;have ⟨hcz3_0,hcz3_1,hcz3_2,hcz3_3,hcz3_4,hfz3_0,hfz3_1,hfz3_2,hfz3_3,hfz3_4⟩:=cz5_ BK511.out))
 refine bodyPost_ret (results_cell_row rfl _ _ gb511 58 #[.slice none 0 0,.slice none 0 0,.int .i64 0,.int .i64 0,.int .i64 a0] (0,0) _ rfl (z31_ BK511.out) Try.underlying58 rfl (by kernel_rfl)) rfl ?_
 exact ⟨_,_,z8_,z32_,z32_,z5_ HB.out GE511.out⟩


/-! ### spec_l01Max: function 102 -/
def spec_l01Max.f (a0:Int) (a1:Int):Option (Int):=if a0>a1 then (some a0) else (some a1)
set_option maxHeartbeats 8000000 in
set_option maxRecDepth 100000 in
theorem spec_l01Max.calls (a0:Int) (a1:Int) (r:Int) (w:World) (h:spec_l01Max.f a0 a1=some r) :
  Calls Try.prog 102 #[.int .i64 a0,.int .i64 a1] w fun e w'=>e = .returned (.int .i64 r)∧Drawn0 w w':=by
 have H:(if a0>a1 then (some a0) else (some a1))=some r:=h
 clear h
 by_cases c3:a0>a1
 ·rw [if_pos c3] at H
  have c3b0:decide (a1<a0)=true:=decide_eq_true c3
  clear c3
  obtain rfl:=Option.some.inj H
  go_enter Try.func102,Try.ntmps102
  go_wp2
  go_ret
  exact ⟨z3_,z13_⟩
 ·rw [if_neg c3] at H
  have c3b0:decide (a1<a0)=false:=decide_eq_false c3
  clear c3
  obtain rfl:=Option.some.inj H
  go_enter Try.func102,Try.ntmps102
  go_wp2
  go_ret
  exact ⟨z3_,z13_⟩


/-! ### spec_l02Join: function 70 -/
def spec_l02Join.l0:Nat→List (S56)→List (S56)→List (S56)→Int→Option ((List (S56)))
 | 0,_,_,_,_=>none
 | k+1,x0,x1,x5,x6=>if x6≤5 then ((spec_l02Of.f k x0 x6).bind fun t515=>((spec_l02Of.f k x1 x6).bind fun t516=>((spec_l01Max.f t515 t516).bind fun t517=>(if t517>0 then (if x5.length<8796093022208 then (spec_l02Join.l0 k x0 x1 (x5 ++ [(⟨x6,t517⟩:S56)]) (wrap64 (x6+1))) else (none)) else (spec_l02Join.l0 k x0 x1 x5 (wrap64 (x6+1))))))) else (some x5)
def spec_l02Join.f (k:Nat) (l0:List (S56)) (l1:List (S56)):Option ((List (S56))):=spec_l02Join.l0 k l0 l1 (([]:List (S56))) 1
theorem spec_l02Join.mono_l:∀ k,(∀ y0 y1 y2 y3,LeO (spec_l02Join.l0 k y0 y1 y2 y3) (spec_l02Join.l0 (k+1) y0 y1 y2 y3))
 | 0=>fun _ _ _ _ r h=>by simp [spec_l02Join.l0] at h
 | k+1=>by
  have ih0:=spec_l02Join.mono_l k
  ·intro y0 y1 y2 y3
   unfold spec_l02Join.l0
   repeat' first
   | (with_reducible exact ih0 _ _ _ _)
   | (with_reducible exact spec_l02Of.mono _ _ _)
   | (with_reducible exact LeO.refl _)
   | (with_reducible exact LeO.none _)
   | (with_reducible refine LeO.ite ?_ ?_)
   | (with_reducible refine LeO.bind ?_ (fun _=>?_))
   | exact ih0 _ _ _ _
   | exact spec_l02Of.mono _ _ _
   | exact LeO.none _
   | refine LeO.ite ?_ ?_
   | refine LeO.bind ?_ (fun _=>?_)
theorem spec_l02Join.mono:∀ a0 a1 k,LeO (spec_l02Join.f k a0 a1) (spec_l02Join.f (k+1) a0 a1):=by
 intro a0 a1 k
 have ih0:=spec_l02Join.mono_l k
 unfold spec_l02Join.f
 repeat' first
   | (with_reducible exact ih0 _ _ _ _)
   | (with_reducible exact spec_l02Of.mono _ _ _)
   | (with_reducible exact LeO.refl _)
   | (with_reducible exact LeO.none _)
   | (with_reducible refine LeO.ite ?_ ?_)
   | (with_reducible refine LeO.bind ?_ (fun _=>?_))
   | exact ih0 _ _ _ _
   | exact spec_l02Of.mono _ _ _
   | exact LeO.none _
   | refine LeO.ite ?_ ?_
   | refine LeO.bind ?_ (fun _=>?_)
set_option maxHeartbeats 8000000 in
set_option maxRecDepth 100000 in
theorem spec_l02Join.calls (k:Nat) (A0:Option Addr) (c0:Nat) (l0:List (S56)) (A1:Option Addr) (c1:Nat) (l1:List (S56)) (r:List (S56)) (w:World) (hr0:Kd.C k56 w A0 l0.length l0) (hc0:l0.length≤c0) (hr1:Kd.C k56 w A1 l1.length l1) (hc1:l1.length≤c1) (h:spec_l02Join.f k l0 l1=some r) :
  Calls Try.prog 70 #[.slice A0 l0.length c0,.slice A1 l1.length c1] w fun e w'=>∃ v0_:Value,e = .returned (v0_)∧Kd.R k56 56 w' w.heap.size (fun _=>True) v0_ r∧Below w.heap.size w w':=by
 have hu56:=Try.underlying56
 have HR0:=Aside0.mk hr0
 have HC0:=Aside0.mk hc0
 clear hr0 hc0
 have HR1:=Aside0.mk hr1
 have HC1:=Aside0.mk hc1
 clear hr1 hc1
 have HB:=Aside0.mk (Below.refl w.heap.size w)
 have H:(spec_l02Join.l0 k l0 l1 (([]:List (S56))) 1)=some r:=h
 clear h
 obtain ⟨y512,hy512⟩:∃ y_:List (S56),y_=(([]:List (S56))):=⟨_,rfl⟩
 replace H:(spec_l02Join.l0 k l0 l1 y512 1)=some r:=by first | (rw [hy512];with_reducible exact H) | (have H2_:=(Option.bind_some _ _).symm.trans H;rw [hy512];with_reducible exact H2_) | (have H2_:=(Option.bind_some _ _).symm.trans H;with_reducible exact H2_) | with_reducible exact H | (rw [hy512];exact H) | exact H
 have Ny512:=Aside0.mk hy512
 clear hy512
 have H':=Aside0.mk H
 clear H
 go_enter Try.func70,Try.ntmps70
 go_wp2_with (first | ((with_reducible refine gd_ 8 ?_);refine Kd.R_lit k56 _ 56 ?hg (N:=8) ?hd (xs:=([]:List (S56))) (inner:=[]) (ok:=fun _=>True) (okp:=fun _=>True) ?hr ?hp (fun _ hk=>hk) trivial (Below.refl _ _) (Nat.le_refl _) (by simp) ?_;(case hd=>rfl);(case hg=>rfl);(case hr=>first | (go_simp;done) | (go_simp;rfl));(case hp=>exact (Reps.none _ _));intro v513 w3 ho4 hb hg_ hnew_;clear hg_ hnew_;(first | rw [← Ny512.out] at ho4 | (simp only [Int.reduceToNat] at ho4;rw [← Ny512.out] at ho4));refine as2_ (Kd.R_lower ho4 (below_size (z4_ HB.out))) (below_step (z4_ HB.out) hb) ?_;clear HB;intro HO514 HB;clear hb ho4))
 go_loopg [5,6] k (fun kq v5 v6 w'=>∃ (x5_1:List (S56)) (x6_1:Int),v6 = .int .i64 x6_1∧Aside0 (spec_l02Join.l0 kq l0 l1 x5_1 x6_1=some r)∧Aside0 (kq≤k)∧Aside0 (Kd.R k56 56 w' w.heap.size (fun _=>True) v5 x5_1)∧Aside0 (Below w.heap.size w w'))
 case atStart=>exact ⟨(y512),(1),(z3_),H',⟨Nat.le_refl _⟩,⟨z0_ HO514.out⟩,⟨z4_ HB.out⟩⟩
 case round =>
  clear H'
  try clear c1
  try clear p2
  obtain ⟨x5_1,x6_1,rfl,HA,HK1,HO_5,HB⟩:=hrel
  cases gk with
  | zero=>exact absurd HA.out (by simp [spec_l02Join.l0])
  | succ k1 =>
   have H:=HA.out
   clear HA
   simp only [spec_l02Join.l0] at H
   by_cases c5:x6_1≤5
   ·rw [if_pos c5] at H
    have c5b0:decide (x6_1≤5)=true:=decide_eq_true c5
    clear c5
    replace H:=Option.bind_eq_some_iff.mp H
    obtain ⟨t515,A60,H⟩:=H
    replace H:((spec_l02Of.f k1 l1 x6_1).bind fun t516=>((spec_l01Max.f t515 t516).bind fun t517=>(if t517>0 then (if x5_1.length<8796093022208 then (spec_l02Join.l0 k1 l0 l1 (x5_1 ++ [(⟨x6_1,t517⟩:S56)]) (wrap64 (x6_1+1))) else (none)) else (spec_l02Join.l0 k1 l0 l1 x5_1 (wrap64 (x6_1+1))))))=some r:=H
    have A6:=Aside0.mk A60
    clear A60
    replace H:=Option.bind_eq_some_iff.mp H
    obtain ⟨t516,A70,H⟩:=H
    replace H:((spec_l01Max.f t515 t516).bind fun t517=>(if t517>0 then (if x5_1.length<8796093022208 then (spec_l02Join.l0 k1 l0 l1 (x5_1 ++ [(⟨x6_1,t517⟩:S56)]) (wrap64 (x6_1+1))) else (none)) else (spec_l02Join.l0 k1 l0 l1 x5_1 (wrap64 (x6_1+1)))))=some r:=H
    have A7:=Aside0.mk A70
    clear A70
    replace H:=Option.bind_eq_some_iff.mp H
    obtain ⟨t517,A80,H⟩:=H
    replace H:(if t517>0 then (if x5_1.length<8796093022208 then (spec_l02Join.l0 k1 l0 l1 (x5_1 ++ [(⟨x6_1,t517⟩:S56)]) (wrap64 (x6_1+1))) else (none)) else (spec_l02Join.l0 k1 l0 l1 x5_1 (wrap64 (x6_1+1))))=some r:=H
    have A8:=Aside0.mk A80
    clear A80
    by_cases c9:t517>0
    ·rw [if_pos c9] at H
     have c9b0:decide (0<t517)=true:=decide_eq_true c9
     clear c9
     by_cases c10:x5_1.length<8796093022208
     ·rw [if_pos c10] at H
      have LMc10:=Aside0.mk c10
      clear c10
      obtain ⟨y518,hy518⟩:∃ y_:List (S56),y_=(x5_1 ++ [(⟨x6_1,t517⟩:S56)]):=⟨_,rfl⟩
      replace H:(spec_l02Join.l0 k1 l0 l1 y518 (wrap64 (x6_1+1)))=some r:=by first | (rw [hy518];with_reducible exact H) | (have H2_:=(Option.bind_some _ _).symm.trans H;rw [hy518];with_reducible exact H2_) | (have H2_:=(Option.bind_some _ _).symm.trans H;with_reducible exact H2_) | with_reducible exact H | (rw [hy518];exact H) | exact H
      have Ny518:=Aside0.mk hy518
      clear hy518
      have H':=Aside0.mk H
      clear H
      go_wp2_with (first | ((with_reducible refine gc_ 71 ?_);refine gl_ (some 15) Try.func71 #[.slice A0 l0.length c0,.int .i64 x6_1] ?_;(with_reducible refine (spec_l02Of.calls k1 _ _ l0 x6_1 t515 _ ?s1 ?s2 A6.out).mono ?_);(case s1=>repeat (first | exact (Kd.C_below HR0.out HB.out) | (with_reducible refine Kd.C_alloc ?_ _) | (with_reducible refine Kd.C_drewN ?_ _) | (with_reducible refine Kd.C_drew ?_)));(case s2=>exact HC0.out);rintro e w' ⟨rfl,⟨nd,rfl⟩⟩;refine ⟨_,rfl,?_⟩) | ((with_reducible refine gc_ 71 ?_);refine gl_ (some 18) Try.func71 #[.slice A1 l1.length c1,.int .i64 x6_1] ?_;(with_reducible refine (spec_l02Of.calls k1 _ _ l1 x6_1 t516 _ ?s1 ?s2 A7.out).mono ?_);(case s1=>repeat (first | exact (Kd.C_below HR1.out (z4_ HB.out)) | (with_reducible refine Kd.C_alloc ?_ _) | (with_reducible refine Kd.C_drewN ?_ _) | (with_reducible refine Kd.C_drew ?_)));(case s2=>exact HC1.out);rintro e w' ⟨rfl,⟨nd,rfl⟩⟩;refine ⟨_,rfl,?_⟩) | ((with_reducible refine gc_ 102 ?_);refine gl_ (some 19) Try.func102 #[.int .i64 t515,.int .i64 t516] ?_;(with_reducible refine (spec_l01Max.calls t515 t516 t517 _ A8.out).mono ?_);rintro e w' ⟨rfl,⟨nd,rfl⟩⟩;refine ⟨_,rfl,?_⟩) | ((with_reducible refine gate_builtin (b:=.append) (xs:=#[.tmp 22,.tmp 26]) rfl ?_);at_builtin;refine Kd.R_append k56 (w0:=w) w.heap.size rfl (.tmp 22) (.tmp 26) 37 56 (.agg #[(.int .i64 0),(.int .i64 0)]) 16 rfl Try.underlying37 info56 rfl (by decide) (by omega) u5 x5_1 (⟨x6_1,t517⟩:S56) [.int .i64 x6_1,.int .i64 t517] (fun _=>True) (fun _=>False) rfl rfl ?aP (fun _ hk=>hk.elim) ?aF ?aO ?aB ?aS ?aL ?_;(case aP=>exact k56_mkM _ _ _ (⟨x6_1,t517⟩:S56));(case aB=>exact (z4_ HB.out));(case aF=>exact (fun _ _=>trivial));(case aO=>exact (z0_ HO_5.out));(case aS=>exact (below_size (z4_ HB.out)));(case aL=>have:=LMc10.out;omega);intro v519 w11 ho hb hg hat;rw [← Ny518.out] at ho;refine as2_ (hb) (ho) ?_;clear HB HO_5;intro HB HO520;clear ho hb hg hat))
      go_roundg k1
      case measure=>have:=HK1.out;omega
      case rel=>exact ⟨(y518),(wrap64 (x6_1+1)),(z3_),H',⟨by have:=HK1.out;omega⟩,⟨z0_ HO520.out⟩,⟨z4_ HB.out⟩⟩
     ·rw [if_neg c10] at H
      exact absurd H (by simp)
    ·rw [if_neg c9] at H
     have c9b0:decide (0<t517)=false:=decide_eq_false c9
     clear c9
     have H':=Aside0.mk H
     clear H
     go_wp2_with (first | ((with_reducible refine gc_ 71 ?_);refine gl_ (some 15) Try.func71 #[.slice A0 l0.length c0,.int .i64 x6_1] ?_;(with_reducible refine (spec_l02Of.calls k1 _ _ l0 x6_1 t515 _ ?s1 ?s2 A6.out).mono ?_);(case s1=>repeat (first | exact (Kd.C_below HR0.out HB.out) | (with_reducible refine Kd.C_alloc ?_ _) | (with_reducible refine Kd.C_drewN ?_ _) | (with_reducible refine Kd.C_drew ?_)));(case s2=>exact HC0.out);rintro e w' ⟨rfl,⟨nd,rfl⟩⟩;refine ⟨_,rfl,?_⟩) | ((with_reducible refine gc_ 71 ?_);refine gl_ (some 18) Try.func71 #[.slice A1 l1.length c1,.int .i64 x6_1] ?_;(with_reducible refine (spec_l02Of.calls k1 _ _ l1 x6_1 t516 _ ?s1 ?s2 A7.out).mono ?_);(case s1=>repeat (first | exact (Kd.C_below HR1.out (z4_ HB.out)) | (with_reducible refine Kd.C_alloc ?_ _) | (with_reducible refine Kd.C_drewN ?_ _) | (with_reducible refine Kd.C_drew ?_)));(case s2=>exact HC1.out);rintro e w' ⟨rfl,⟨nd,rfl⟩⟩;refine ⟨_,rfl,?_⟩) | ((with_reducible refine gc_ 102 ?_);refine gl_ (some 19) Try.func102 #[.int .i64 t515,.int .i64 t516] ?_;(with_reducible refine (spec_l01Max.calls t515 t516 t517 _ A8.out).mono ?_);rintro e w' ⟨rfl,⟨nd,rfl⟩⟩;refine ⟨_,rfl,?_⟩))
     go_roundg k1
     case measure=>have:=HK1.out;omega
     case rel=>exact ⟨(x5_1),(wrap64 (x6_1+1)),(z3_),H',⟨by have:=HK1.out;omega⟩,⟨z0_ HO_5.out⟩,⟨z4_ HB.out⟩⟩
   ·rw [if_neg c5] at H
    have c5b0:decide (x6_1≤5)=false:=decide_eq_false c5
    clear c5
    obtain rfl:=Option.some.inj H
    go_wp2
    go_ret
    exact ⟨_,z8_,z0_ HO_5.out,z4_ HB.out⟩


/-! ### spec_l03In: function 73 -/
mutual
def spec_l03In.l0:Nat→List (S91)→Int→Int→Int→Bool→ByteArray→Option ((List (S91)))
 | 0,_,_,_,_,_,_=>none
 | k+1,x0,x5,x522000,x522001,x522002,x522003=>if x5<(x0.length:Int) then (if 0≤x5 then ((spec_l03Less.f ((rd_T91 x0 x5).f0.f0) ((rd_T91 x0 x5).f0.f1) x522000 x522001).bind fun t523=>(spec_l03In.j1 k x0 x5 t523 x522000 x522001 x522002 x522003)) else (none)) else (spec_l03In.j1 k x0 x5 false x522000 x522001 x522002 x522003)
def spec_l03In.j1:Nat→List (S91)→Int→Bool→Int→Int→Bool→ByteArray→Option ((List (S91)))
 | 0,_,_,_,_,_,_,_=>none
 | k+1,x0,x5,x20,x522000,x522001,x522002,x522003=>if x20=true then (spec_l03In.l0 k x0 (wrap64 (x5+1)) x522000 x522001 x522002 x522003) else ((some (([]:List (S91)):List (S91))).bind fun y524=>(if 0≤x5 then (if x5≤(x0.length:Int) then ((some (x0.take (x5:Int).toNat:List (S91))).bind fun y527=>(if y524.length+y527.length<3518437208883 then ((some (y524 ++ y527:List (S91))).bind fun y531=>(if y531.length<3518437208883 then ((some (y531 ++ [(⟨(⟨x522000,x522001⟩:S56),x522002,x522003⟩:S91)]:List (S91))).bind fun y534=>((some (x0.drop (x5:Int).toNat:List (S91))).bind fun y537=>(if y534.length+y537.length<3518437208883 then (some (y534 ++ y537)) else (none)))) else (none))) else (none))) else (none)) else (none)))
end
def spec_l03In.f (k:Nat) (l0:List (S91)) (a1_0:Int) (a1_1:Int) (a1_2:Bool) (a1_3:ByteArray):Option ((List (S91))):=spec_l03In.l0 k l0 0 a1_0 a1_1 a1_2 a1_3
theorem spec_l03In.mono_l:∀ k,(∀ y0 y1 y2 y3 y4 y5,LeO (spec_l03In.l0 k y0 y1 y2 y3 y4 y5) (spec_l03In.l0 (k+1) y0 y1 y2 y3 y4 y5))∧(∀ y0 y1 y2 y3 y4 y5 y6,LeO (spec_l03In.j1 k y0 y1 y2 y3 y4 y5 y6) (spec_l03In.j1 (k+1) y0 y1 y2 y3 y4 y5 y6))
 | 0=>⟨fun _ _ _ _ _ _ r h=>by simp [spec_l03In.l0] at h,fun _ _ _ _ _ _ _ r h=>by simp [spec_l03In.j1] at h⟩
 | k+1=>by
  obtain ⟨ih0,ih1⟩:=spec_l03In.mono_l k
  refine ⟨?_,?_⟩
  ·intro y0 y1 y2 y3 y4 y5
   unfold spec_l03In.l0
   repeat' first
   | (with_reducible exact ih0 _ _ _ _ _ _)
   | (with_reducible exact ih1 _ _ _ _ _ _ _)
   | (with_reducible exact LeO.refl _)
   | (with_reducible exact LeO.none _)
   | (with_reducible refine LeO.ite ?_ ?_)
   | (with_reducible refine LeO.bind ?_ (fun _=>?_))
   | exact ih0 _ _ _ _ _ _
   | exact ih1 _ _ _ _ _ _ _
   | exact LeO.none _
   | refine LeO.ite ?_ ?_
   | refine LeO.bind ?_ (fun _=>?_)
  ·intro y0 y1 y2 y3 y4 y5 y6
   unfold spec_l03In.j1
   repeat' first
   | (with_reducible exact ih0 _ _ _ _ _ _)
   | (with_reducible exact ih1 _ _ _ _ _ _ _)
   | (with_reducible exact LeO.refl _)
   | (with_reducible exact LeO.none _)
   | (with_reducible refine LeO.ite ?_ ?_)
   | (with_reducible refine LeO.bind ?_ (fun _=>?_))
   | exact ih0 _ _ _ _ _ _
   | exact ih1 _ _ _ _ _ _ _
   | exact LeO.none _
   | refine LeO.ite ?_ ?_
   | refine LeO.bind ?_ (fun _=>?_)
theorem spec_l03In.mono:∀ a0 a1 a2 a3 a4 k,LeO (spec_l03In.f k a0 a1 a2 a3 a4) (spec_l03In.f (k+1) a0 a1 a2 a3 a4):=by
 intro a0 a1 a2 a3 a4 k
 obtain ⟨ih0,ih1⟩:=spec_l03In.mono_l k
 unfold spec_l03In.f
 repeat' first
   | (with_reducible exact ih0 _ _ _ _ _ _)
   | (with_reducible exact ih1 _ _ _ _ _ _ _)
   | (with_reducible exact LeO.refl _)
   | (with_reducible exact LeO.none _)
   | (with_reducible refine LeO.ite ?_ ?_)
   | (with_reducible refine LeO.bind ?_ (fun _=>?_))
   | exact ih0 _ _ _ _ _ _
   | exact ih1 _ _ _ _ _ _ _
   | exact LeO.none _
   | refine LeO.ite ?_ ?_
   | refine LeO.bind ?_ (fun _=>?_)
def spec_l03In.T2:Bool × List (List Nat × List Nat):=(true,[([],[]),([],[]),([1],[1]),([0,2],[0,2]),([3],[3]),([4],[4]),([4],[4]),([5,6,4],[4,5,6]),([7,4],[4,7]),([8,4],[4,8]),([4],[4]),([10,4],[4,10]),([9,11,4,4],[4,9,11]),([4,12],[4,12])])
def spec_l03In.B2:List Nat:=[0,0,2,7,15,31,31,127,255,511,31,1055,4095,8191]
theorem spec_l03In.tab2:rtab .any (opsOf Try.f73 2)=spec_l03In.T2:=by kernel_rfl
theorem spec_l03In.bits2:waitsOk spec_l03In.T2.2 spec_l03In.B2=true:=by kernel_rfl
abbrev spec_l03In.q0:Array Bool:=#[O,O,O,O,O,O,O,O,O,O,O,O,O,O]
abbrev spec_l03In.q1:Array Bool:=#[I,O,O,O,O,O,O,O,O,O,O,O,O,O]
abbrev spec_l03In.q2:Array Bool:=#[I,I,O,O,O,O,O,O,O,O,O,O,O,O]
abbrev spec_l03In.q3:Array Bool:=#[I,I,I,O,O,O,O,O,O,O,O,O,O,O]
abbrev spec_l03In.q4:Array Bool:=#[I,I,I,I,O,O,O,O,O,O,O,O,O,O]
abbrev spec_l03In.q5:Array Bool:=#[I,I,I,I,I,O,O,O,O,O,O,O,O,O]
abbrev spec_l03In.q6:Array Bool:=#[I,I,I,I,I,I,O,O,O,O,O,O,O,O]
abbrev spec_l03In.q7:Array Bool:=#[I,I,I,I,I,I,I,O,O,O,O,O,O,O]
abbrev spec_l03In.q8:Array Bool:=#[I,I,I,I,I,I,I,I,O,O,O,O,O,O]
abbrev spec_l03In.q9:Array Bool:=#[I,I,I,I,I,I,I,I,I,O,O,O,O,O]
abbrev spec_l03In.q10:Array Bool:=#[I,I,I,I,I,I,I,I,I,I,I,O,O,O]
abbrev spec_l03In.q11:Array Bool:=#[I,I,I,I,I,I,I,I,I,I,I,I,O,O]
abbrev spec_l03In.q12:Array Bool:=#[I,I,I,I,I,I,I,I,I,I,I,I,I,O]
abbrev spec_l03In.q13:Array Bool:=#[I,I,I,I,I,I,I,I,I,I,I,I,I,I]
set_option maxHeartbeats 8000000 in
set_option maxRecDepth 100000 in
theorem spec_l03In.calls (k:Nat) (A0:Option Addr) (c0:Nat) (l0:List (S91)) (a1_0:Int) (a1_1:Int) (a1_2:Bool) (a1_3:ByteArray) (r:List (S91)) (w:World) (hr0:Kd.C k91 w A0 l0.length l0) (hc0:l0.length≤c0) (h:spec_l03In.f k l0 a1_0 a1_1 a1_2 a1_3=some r) :
  Calls Try.prog 73 #[.slice A0 l0.length c0,.agg #[.int .i64 a1_0,.int .i64 a1_1,.bool a1_2,.string a1_3]] w fun e w'=>∃ v0_:Value,e = .returned (v0_)∧Kd.R k91 91 w' w.heap.size (fun _=>True) v0_ r∧Below w.heap.size w w':=by
 have hu91:=Try.underlying91
 have hu56:=Try.underlying56
 have HR0:=Aside0.mk hr0
 have HC0:=Aside0.mk hc0
 clear hr0 hc0
 have HB:=Aside0.mk (Below.refl w.heap.size w)
 have H:(spec_l03In.l0 k l0 0 a1_0 a1_1 a1_2 a1_3)=some r:=h
 clear h
 have H':=Aside0.mk H
 clear H
 go_enter Try.func73,Try.ntmps73
 go_wp2_with (first | ((with_reducible refine gd_ 3 ?_);refine be_ 3 #[.int .i64 a1_0,.int .i64 a1_1,.bool a1_2,.string a1_3] 91 ?_;intro gb521 hg w3 hbox hb;refine as4_ (below_step (z4_ HB.out) hb) (hbox) ((z7_ HB.out:w.heap.size≤gb521)) ((z7_ HB.out:w.heap.size≤gb521)) ?_;clear HB;intro HB BK521 GW521 GE521;clear hb hbox hg))
 go_loopg [5] k (fun kq v5 w'=>∃ (x5_1:Int),v5 = .int .i64 x5_1∧Aside0 (spec_l03In.l0 kq l0 x5_1 a1_0 a1_1 a1_2 a1_3=some r)∧Aside0 (kq≤k)∧Aside0 (w'.heap[gb521]? = some (.cells #[.int .i64 a1_0,.int .i64 a1_1,.bool a1_2,.string a1_3] 91 (0,0)))∧Aside0 (Below w.heap.size w w'))
 case atStart=>exact ⟨(0),(z3_),H',⟨Nat.le_refl _⟩,⟨z1_ BK521.out⟩,⟨z5_ HB.out GE521.out⟩⟩
 case round =>
  clear H'
  try clear p2
  obtain ⟨x5_1,rfl,HA,HK1,BK521,HB⟩:=hrel
  cases gk with
  | zero=>exact absurd HA.out (by simp [spec_l03In.l0])
  | succ k1 =>
   have H:=HA.out
   clear HA
   simp only [spec_l03In.l0] at H
   have HC4:=Aside0.mk H
   clear H
   go_upto_region 2 with (fail)
   go_cut [20] (fun v20 wc=>∃ (kq:Nat) (x20_3:Bool),v20 = .bool x20_3∧Aside0 (spec_l03In.j1 kq l0 x5_1 x20_3 a1_0 a1_1 a1_2 a1_3=some r)∧Aside0 (kq≤k1)∧Aside0 (wc.heap[gb521]? = some (.cells #[.int .i64 a1_0,.int .i64 a1_1,.bool a1_2,.string a1_3] 91 (0,0)))∧Aside0 (Below w.heap.size w wc))
   case first =>
    have H:=HC4.out
    clear HC4
    by_cases c5:x5_1<(l0.length:Int)
    ·rw [if_pos c5] at H
     have c5b0:decide (x5_1<(l0.length:Int))=true:=decide_eq_true c5
     clear c5
     (first | rw [c5b0] | (simp only [i64_w,i32_w];rw [c5b0]) | skip)
     by_cases c6:0≤x5_1
     ·rw [if_pos c6] at H
      have c6b0:decide (0≤x5_1)=true:=decide_eq_true c6
      clear c6
      replace H:=Option.bind_eq_some_iff.mp H
      obtain ⟨t523,A70,H⟩:=H
      replace H:(spec_l03In.j1 k1 l0 x5_1 t523 a1_0 a1_1 a1_2 a1_3)=some r:=H
      have A7:=Aside0.mk A70
      clear A70
      have H':=Aside0.mk H
      clear H
      try go_wp2
      refine as2_ (blk_drew BK521.out) (below_drew1 HB.out) ?_
      clear BK521 HB
      intro BK521 HB
      have p522:0≤(x5_1:Int):=of_decide_eq_true (z2_)
      have q522:x5_1<(l0.length:Int):=of_decide_eq_true (z2_)
      obtain ⟨ad522,e522,hx522_0,hx522_1,hx522_2,hx522_3⟩:=at_T91 HR0.out x5_1 p522 q522
      have hw522_3:=hx522_3
      have hw522_2:=hx522_2
      have hw522_1:=hx522_1
      have hw522_0:=hx522_0
      cases e522
      replace hx522_0:=(HB.out.cell (World.block_lt_of_cell? w _ hx522_0)).trans hx522_0
      replace hx522_1:=(HB.out.cell (World.block_lt_of_cell? w _ hx522_1)).trans hx522_1
      replace hx522_2:=(HB.out.cell (World.block_lt_of_cell? w _ hx522_2)).trans hx522_2
      replace hx522_3:=(HB.out.cell (World.block_lt_of_cell? w _ hx522_3)).trans hx522_3
      replace p522:=eq_true p522
      replace q522:=eq_true q522
      refine start_ (n:=14) (S:=fun w'=>w'.cell? ⟨gb521,0,none⟩=some (.int .i64 a1_0)∧w'.cell? ⟨gb521,1,none⟩=some (.int .i64 a1_1)∧w'.cell? ⟨gb521,2,none⟩=some (.bool a1_2)∧w'.cell? ⟨gb521,3,none⟩=some (.string a1_3)∧w'.cell? (ad522.add ((x5_1).toNat*4))=some (.int .i64 ((rd_T91 l0 x5_1).f0.f0))∧w'.cell? ⟨(ad522.add ((x5_1).toNat*4)).block,(ad522.add ((x5_1).toNat*4)).off+1,none⟩=some (.int .i64 ((rd_T91 l0 x5_1).f0.f1))∧w'.cell? ⟨(ad522.add ((x5_1).toNat*4)).block,(ad522.add ((x5_1).toNat*4)).off+2,none⟩=some (.bool ((rd_T91 l0 x5_1).f1))∧w'.cell? ⟨(ad522.add ((x5_1).toNat*4)).block,(ad522.add ((x5_1).toNat*4)).off+3,none⟩=some (.string ((rd_T91 l0 x5_1).f2))) (ds:=[]) spec_l03In.q0 (by kernel_rfl) rfl rfl (cj4_ BK521.out ⟨((HB.out.cell (World.block_lt_of_cell? w _ hw522_0)).trans hw522_0),⟨((HB.out.cell (World.block_lt_of_cell? w _ hw522_1)).trans hw522_1),⟨((HB.out.cell (World.block_lt_of_cell? w _ hw522_2)).trans hw522_2),((HB.out.cell (World.block_lt_of_cell? w _ hw522_3)).trans hw522_3)⟩⟩⟩) (fun hHeld=>?_);refine with_tabW spec_l03In.tab2 spec_l03In.bits2 (fun HT_ HW_=>?_)
      generalize wr.drew=w8 at BK521 HB hx522_0 hx522_1 hx522_2 hx522_3 hHeld ⊢
      refine pu_ 0 7 spec_l03In.q1 HT_.out ?_
      refine pu_ 1 8 spec_l03In.q2 HT_.out ?_
      refine pu_ 2 9 spec_l03In.q3 HT_.out ?_
      refine pu_ 3 10 spec_l03In.q4 HT_.out ?_
      refine pu_ 4 11 spec_l03In.q5 HT_.out ?_
      refine pu_ 5 12 spec_l03In.q6 HT_.out ?_
      refine pu_ 6 13 spec_l03In.q7 HT_.out ?_
      refine pu_ 7 14 spec_l03In.q8 HT_.out ?_
      refine pu_ 8 15 spec_l03In.q9 HT_.out ?_
      refine pu_ 10 17 #[I,I,I,I,I,I,I,I,I,O,I,O,O,O] HT_.out ?_
      refine tk8_ 9 16 spec_l03In.q10 HT_.out HW_.out hHeld ?_
      refine tk8_ 11 18 spec_l03In.q11 HT_.out HW_.out hHeld ?_
      refine o1_ 12 19 spec_l03In.q12 HT_.out (fun K hK=>?_)
      refine gs_ Try.func82 #[.agg #[.int .i64 ((rd_T91 l0 x5_1).f0.f0),.int .i64 ((rd_T91 l0 x5_1).f0.f1)],.agg #[.int .i64 a1_0,.int .i64 a1_1]] ?_
      with_reducible refine (spec_l03Less.calls ((rd_T91 l0 x5_1).f0.f0) ((rd_T91 l0 x5_1).f0.f1) a1_0 a1_1 t523 _ A7.out).mono ?_
      rintro e w9 ⟨rfl,hb⟩
      refine ⟨_,rfl,?_⟩
      refine as2_ (blkB_ BK521.out hb) (below_step (z5_ HB.out GE521.out) hb) ?_
      clear BK521 HB
      intro BK521 HB
      (try clear hb)
      refine hK.out _ _ (cj4_ BK521.out ⟨((HB.out.cell (World.block_lt_of_cell? w _ hw522_0)).trans hw522_0),⟨((HB.out.cell (World.block_lt_of_cell? w _ hw522_1)).trans hw522_1),⟨((HB.out.cell (World.block_lt_of_cell? w _ hw522_2)).trans hw522_2),((HB.out.cell (World.block_lt_of_cell? w _ hw522_3)).trans hw522_3)⟩⟩⟩) (fun hHeld=>?_)
      clear hK K
      refine nm_ 19 ?_
      refine pu_ 13 20 spec_l03In.q13 HT_.out ?_
      refine done_ (done_of HT_.out (by kernel_rfl)) ?_
      try go_wp2
      go_meet
      case rel=>exact ⟨_,(t523),(z3_),H',⟨z33_ HK1.out⟩,⟨z1_ BK521.out⟩,⟨z5_ HB.out GE521.out⟩⟩
     ·rw [if_neg c6] at H
      exact absurd H (by simp)
    ·rw [if_neg c5] at H
     have c5b0:decide (x5_1<(l0.length:Int))=false:=decide_eq_false c5
     clear c5
     (first | rw [c5b0] | (simp only [i64_w,i32_w];rw [c5b0]) | skip)
     have H':=Aside0.mk H
     clear H
     try go_wp2
     refine as2_ (blk_drew BK521.out) (below_drew1 HB.out) ?_
     clear BK521 HB
     intro BK521 HB
     refine start_ (n:=14) (S:=fun w'=>True) (ds:=[]) spec_l03In.q0 (by kernel_rfl) rfl rfl trivial (fun hHeld=>?_);refine with_tabW spec_l03In.tab2 spec_l03In.bits2 (fun HT_ HW_=>?_)
     generalize wr.drew=w10 at BK521 HB hHeld ⊢
     refine pu_ 0 7 spec_l03In.q1 HT_.out ?_
     refine pu_ 1 8 spec_l03In.q2 HT_.out ?_
     refine pu_ 2 9 spec_l03In.q3 HT_.out ?_
     refine pu_ 3 10 spec_l03In.q4 HT_.out ?_
     refine pu_ 4 11 spec_l03In.q5 HT_.out ?_
     refine pn_ 5 12 spec_l03In.q6 HT_.out ?_
     refine pn_ 6 13 spec_l03In.q7 HT_.out ?_
     refine pn_ 7 14 spec_l03In.q8 HT_.out ?_
     refine pn_ 8 15 spec_l03In.q9 HT_.out ?_
     refine pn_ 9 16 #[I,I,I,I,I,I,I,I,I,I,O,O,O,O] HT_.out ?_
     refine pn_ 10 17 spec_l03In.q10 HT_.out ?_
     refine pn_ 11 18 spec_l03In.q11 HT_.out ?_
     refine pn_ 12 19 spec_l03In.q12 HT_.out ?_
     refine pu_ 13 20 spec_l03In.q13 HT_.out ?_
     refine done_ (done_of HT_.out (by kernel_rfl)) ?_
     try go_wp2
     go_meet
     case rel=>exact ⟨_,(false),(z3_),H',⟨z33_ HK1.out⟩,⟨z1_ BK521.out⟩,⟨z5_ HB.out GE521.out⟩⟩
   case rest =>
    clear HC4
    try clear p2
    try clear c5
    try clear c5b0
    try clear p5
    try clear q5
    try clear hx5
    try clear c6
    try clear c6b0
    try clear c7
    try clear c8
    try clear hx522_0
    try clear hx522_1
    try clear hx522_2
    try clear hx522_3
    try clear p2
    try clear p522
    try clear q522
    obtain ⟨kq,x20_3,rfl,HA,HJ3,BK521,HB⟩:=hcut
    cases kq with
    | zero=>exact absurd HA.out (by simp [spec_l03In.j1])
    | succ kj3 =>
     have H:=HA.out
     clear HA
     simp only [spec_l03In.j1] at H
     by_cases c11:x20_3=true
     ·subst c11
      have H1:(spec_l03In.l0 kj3 l0 (wrap64 (x5_1+1)) a1_0 a1_1 a1_2 a1_3)=some r:=by rw [if_pos rfl] at H;exact H
      clear H
      have H:=H1
      clear H1
      have H':=Aside0.mk H
      clear H
      go_wp2
      go_roundg kj3
      case measure=>have:=HK1.out;have:=HJ3.out;omega
      case rel=>exact ⟨(wrap64 (x5_1+1)),(z3_),H',⟨by have:=HK1.out;have:=HJ3.out;omega⟩,⟨z1_ BK521.out⟩,⟨z5_ HB.out GE521.out⟩⟩
     ·replace c11:=Bool.eq_false_iff.mpr c11
      subst c11
      have H1:((some (([]:List (S91)):List (S91))).bind fun y524=>(if 0≤x5_1 then (if x5_1≤(l0.length:Int) then ((some (l0.take (x5_1:Int).toNat:List (S91))).bind fun y527=>(if y524.length+y527.length<3518437208883 then ((some (y524 ++ y527:List (S91))).bind fun y531=>(if y531.length<3518437208883 then ((some (y531 ++ [(⟨(⟨a1_0,a1_1⟩:S56),a1_2,a1_3⟩:S91)]:List (S91))).bind fun y534=>((some (l0.drop (x5_1:Int).toNat:List (S91))).bind fun y537=>(if y534.length+y537.length<3518437208883 then (some (y534 ++ y537)) else (none)))) else (none))) else (none))) else (none)) else (none)))=some r:=by rw [if_neg (show ¬ (false=true) by decide)] at H;exact H
      clear H
      have H:=H1
      clear H1
      obtain ⟨y524,hy524⟩:∃ y_:List (S91),y_=(([]:List (S91))):=⟨_,rfl⟩
      replace H:(if 0≤x5_1 then (if x5_1≤(l0.length:Int) then ((some (l0.take (x5_1:Int).toNat:List (S91))).bind fun y527=>(if y524.length+y527.length<3518437208883 then ((some (y524 ++ y527:List (S91))).bind fun y531=>(if y531.length<3518437208883 then ((some (y531 ++ [(⟨(⟨a1_0,a1_1⟩:S56),a1_2,a1_3⟩:S91)]:List (S91))).bind fun y534=>((some (l0.drop (x5_1:Int).toNat:List (S91))).bind fun y537=>(if y534.length+y537.length<3518437208883 then (some (y534 ++ y537)) else (none)))) else (none))) else (none))) else (none)) else (none))=some r:=by first | (rw [hy524];with_reducible exact H) | (have H2_:=(Option.bind_some _ _).symm.trans H;rw [hy524];with_reducible exact H2_) | (have H2_:=(Option.bind_some _ _).symm.trans H;with_reducible exact H2_) | with_reducible exact H | (rw [hy524];exact H) | exact H
      have Ny524:=Aside0.mk hy524
      clear hy524
      by_cases c12:0≤x5_1
      ·rw [if_pos c12] at H
       have c12b0:=eq_true c12
       have c12b1:decide (0≤x5_1)=true:=decide_eq_true c12
       clear c12
       by_cases c13:x5_1≤(l0.length:Int)
       ·rw [if_pos c13] at H
        have c13b0:=eq_true c13
        have c13b1:decide (x5_1≤(l0.length:Int))=true:=decide_eq_true c13
        clear c13
        obtain ⟨y527,hy527⟩:∃ y_:List (S91),y_=(l0.take (x5_1:Int).toNat):=⟨_,rfl⟩
        replace H:(if y524.length+y527.length<3518437208883 then ((some (y524 ++ y527:List (S91))).bind fun y531=>(if y531.length<3518437208883 then ((some (y531 ++ [(⟨(⟨a1_0,a1_1⟩:S56),a1_2,a1_3⟩:S91)]:List (S91))).bind fun y534=>((some (l0.drop (x5_1:Int).toNat:List (S91))).bind fun y537=>(if y534.length+y537.length<3518437208883 then (some (y534 ++ y537)) else (none)))) else (none))) else (none))=some r:=by first | (rw [hy527];with_reducible exact H) | (have H2_:=(Option.bind_some _ _).symm.trans H;rw [hy527];with_reducible exact H2_) | (have H2_:=(Option.bind_some _ _).symm.trans H;with_reducible exact H2_) | with_reducible exact H | (rw [hy527];exact H) | exact H
        have Ny527:=Aside0.mk hy527
        clear hy527
        by_cases c14:y524.length+y527.length<3518437208883
        ·rw [if_pos c14] at H
         have LMc14:=Aside0.mk c14
         clear c14
         obtain ⟨y531,hy531⟩:∃ y_:List (S91),y_=(y524 ++ y527):=⟨_,rfl⟩
         replace H:(if y531.length<3518437208883 then ((some (y531 ++ [(⟨(⟨a1_0,a1_1⟩:S56),a1_2,a1_3⟩:S91)]:List (S91))).bind fun y534=>((some (l0.drop (x5_1:Int).toNat:List (S91))).bind fun y537=>(if y534.length+y537.length<3518437208883 then (some (y534 ++ y537)) else (none)))) else (none))=some r:=by first | (rw [hy531];with_reducible exact H) | (have H2_:=(Option.bind_some _ _).symm.trans H;rw [hy531];with_reducible exact H2_) | (have H2_:=(Option.bind_some _ _).symm.trans H;with_reducible exact H2_) | with_reducible exact H | (rw [hy531];exact H) | exact H
         have Ny531:=Aside0.mk hy531
         clear hy531
         by_cases c15:y531.length<3518437208883
         ·rw [if_pos c15] at H
          have LMc15:=Aside0.mk c15
          clear c15
          obtain ⟨y534,hy534⟩:∃ y_:List (S91),y_=(y531 ++ [(⟨(⟨a1_0,a1_1⟩:S56),a1_2,a1_3⟩:S91)]):=⟨_,rfl⟩
          replace H:((some (l0.drop (x5_1:Int).toNat:List (S91))).bind fun y537=>(if y534.length+y537.length<3518437208883 then (some (y534 ++ y537)) else (none)))=some r:=by first | (rw [hy534];with_reducible exact H) | (have H2_:=(Option.bind_some _ _).symm.trans H;rw [hy534];with_reducible exact H2_) | (have H2_:=(Option.bind_some _ _).symm.trans H;with_reducible exact H2_) | with_reducible exact H | (rw [hy534];exact H) | exact H
          have Ny534:=Aside0.mk hy534
          clear hy534
          have c16b0:=eq_true (of_decide_eq_true (z2_):0≤x5_1)
          have c17b0:=eq_true (of_decide_eq_true (z2_):x5_1≤(l0.length:Int))
          obtain ⟨y537,hy537⟩:∃ y_:List (S91),y_=(l0.drop (x5_1:Int).toNat):=⟨_,rfl⟩
          replace H:(if y534.length+y537.length<3518437208883 then (some (y534 ++ y537)) else (none))=some r:=by first | (rw [hy537];with_reducible exact H) | (have H2_:=(Option.bind_some _ _).symm.trans H;rw [hy537];with_reducible exact H2_) | (have H2_:=(Option.bind_some _ _).symm.trans H;with_reducible exact H2_) | with_reducible exact H | (rw [hy537];exact H) | exact H
          have Ny537:=Aside0.mk hy537
          clear hy537
          by_cases c18:y534.length+y537.length<3518437208883
          ·rw [if_pos c18] at H
           have LMc18:=Aside0.mk c18
           clear c18
           obtain ⟨y541,hy541⟩:∃ y_:List (S91),y_=(y534 ++ y537):=⟨_,rfl⟩
           replace H:(some y541)=some r:=by first | (rw [hy541];with_reducible exact H) | (have H2_:=(Option.bind_some _ _).symm.trans H;rw [hy541];with_reducible exact H2_) | (have H2_:=(Option.bind_some _ _).symm.trans H;with_reducible exact H2_) | with_reducible exact H | (rw [hy541];exact H) | exact H
           have Ny541:=Aside0.mk hy541
           clear hy541
           obtain rfl:=Option.some.inj H
           go_wp2_with (first | ((with_reducible refine gd_ 23 ?_);refine Kd.R_lit k91 _ 91 ?hg (N:=23) ?hd (xs:=([]:List (S91))) (inner:=[]) (ok:=fun _=>True) (okp:=fun _=>True) ?hr ?hp (fun _ hk=>hk) trivial (Below.refl _ _) (Nat.le_refl _) (by simp) ?_;(case hd=>rfl);(case hg=>rfl);(case hr=>first | (go_simp;done) | (go_simp;rfl));(case hp=>exact (Reps.none _ _));intro v525 w19 ho20 hb hg_ hnew_;clear hg_ hnew_;(first | rw [← Ny524.out] at ho20 | (simp only [Int.reduceToNat] at ho20;rw [← Ny524.out] at ho20));refine as3_ (Kd.R_lower (Kd.R_newB ho20 (g:=gb521) (o:=.cells #[.int .i64 a1_0,.int .i64 a1_1,.bool a1_2,.string a1_3] 91 (0,0)) (z1_ BK521.out)) (below_size (z5_ HB.out GE521.out))) (blkB_ BK521.out hb) (below_step (z5_ HB.out GE521.out) hb) ?_;clear BK521 HB;intro HO526 BK521 HB;clear hb ho20;have q21:(x5_1:Int)≤((l0.length:Int):Int):=of_decide_eq_true (z2_);obtain ⟨i021,hi021,_,hsz21,_⟩:=info_parts info91;have hroom21:l0.length≤c0:=HC0.out;have hC21:Kd.C k91 _ A0 l0.length l0:=HR0.out;have hcut21:=cut_to (P:=Try.prog) 38 91 .i64 Try.underlying38 hi021 A0 l0.length c0 x5_1 (of_decide_eq_true (z2_)) q21 hroom21;have hr21:=Kd.C_take (m:=(x5_1:Int).toNat) hC21 (by omega);have hy21:y527.length=(x5_1:Int).toNat:=(by rw [Ny527.out,List.length_take];omega);rw [← Ny527.out] at hr21;rw [← hy21] at hcut21;have HR530:=Aside0.mk hr21;have HC530:=Aside0.mk (show y527.length≤c0 from by omega);clear hr21 hC21 hroom21 hi021 hsz21;have KY21:=Aside0.mk hy21;clear hy21;replace q21:=eq_true q21) | ((with_reducible refine gate_builtin (b:=.append) (xs:=#[.tmp 23,.tmp 26]) rfl ?_);at_builtin;refine Kd.R_append_rows k91 (w0:=w) w.heap.size rfl (.tmp 23) (.tmp 26) 38 91 (.agg #[(.int .i64 0),(.int .i64 0),(.bool false),(.string ⟨#[]⟩)]) 40 rfl Try.underlying38 info91 rfl (by decide) (by omega) v525 y524 y527 _ _ _ (fun k_=>k_≠gb521) (fun _=>False) rfl rfl ?aO ?aR (fun _ _ h=>h) (fun _ h=>h.elim) ?aF ?aB ?aS ?aL ?_;(case aR=>repeat (first | exact (Kd.C_below HR530.out HB.out) | (with_reducible refine Kd.C_alloc ?_ _) | (with_reducible refine Kd.C_drewN ?_ _) | (with_reducible refine Kd.C_drew ?_)));(case aB=>exact (z5_ HB.out GE521.out));(case aF=>exact (fun k_ hk=>Kd.freshB (g:=gb521) (o:=.cells #[.int .i64 a1_0,.int .i64 a1_1,.bool a1_2,.string a1_3] 91 (0,0)) (z1_ BK521.out) k_ hk));(case aO=>exact (z41_ HO526.out));(case aS=>exact (below_size (z5_ HB.out GE521.out)));(case aL=>have:=LMc14.out;omega);intro v532 w22 ho hb hg hat;rw [← Ny531.out] at ho;refine as3_ (blk_grown (g:=gb521) (o:=.cells #[.int .i64 a1_0,.int .i64 a1_1,.bool a1_2,.string a1_3] 91 (0,0)) (z1_ BK521.out) hg (Kd.R_away HO526.out (fun _ hk=>hk.2))) (hb) (ho) ?_;clear BK521 HB HO526;intro BK521 HB HO533;clear ho hb hg hat;have ⟨hcz23_0,hcz23_1,hcz23_2,hcz23_3,hfz23_0,hfz23_1,hfz23_2,hfz23_3⟩:=cz4_ BK521.out) | ((with_reducible refine gate_builtin (b:=.append) (xs:=#[.tmp 28,.tmp 30]) rfl ?_);at_builtin;refine Kd.R_append k91 (w0:=w) w.heap.size rfl (.tmp 28) (.tmp 30) 38 91 (.agg #[(.int .i64 0),(.int .i64 0),(.bool false),(.string ⟨#[]⟩)]) 40 rfl Try.underlying38 info91 rfl (by decide) (by omega) v532 y531 (⟨(⟨a1_0,a1_1⟩:S56),a1_2,a1_3⟩:S91) [.int .i64 a1_0,.int .i64 a1_1,.bool a1_2,.string a1_3] (fun k_=>k_≠gb521) (fun _=>False) rfl rfl ?aP (fun _ hk=>hk.elim) ?aF ?aO ?aB ?aS ?aL ?_;(case aP=>exact k91_mkM _ _ _ (⟨(⟨a1_0,a1_1⟩:S56),a1_2,a1_3⟩:S91));(case aB=>exact (z5_ HB.out GE521.out));(case aF=>exact (fun k_ hk=>Kd.freshB (g:=gb521) (o:=.cells #[.int .i64 a1_0,.int .i64 a1_1,.bool a1_2,.string a1_3] 91 (0,0)) (z1_ BK521.out) k_ hk));(case aO=>exact (z0_ HO533.out));(case aS=>exact (below_size (z5_ HB.out GE521.out)));(case aL=>have:=LMc15.out;omega);intro v535 w24 ho hb hg hat;rw [← Ny534.out] at ho;refine as3_ (blk_grown (g:=gb521) (o:=.cells #[.int .i64 a1_0,.int .i64 a1_1,.bool a1_2,.string a1_3] 91 (0,0)) (z1_ BK521.out) hg (Kd.R_away HO533.out (fun _ hk=>hk))) (hb) (ho) ?_;clear BK521 HB HO533;intro BK521 HB HO536;clear ho hb hg hat;have q25:(x5_1:Int)≤((l0.length:Int):Int):=of_decide_eq_true (z2_);obtain ⟨i025,hi025,_,hsz25,_⟩:=info_parts info91;have hroom25:l0.length≤c0:=HC0.out;have hC25:Kd.C k91 _ A0 l0.length l0:=HR0.out;have q025:(0:Int)≤(x5_1:Int):=of_decide_eq_true (z2_);have hcut25:=cut_from (P:=Try.prog) 38 91 .i64 Try.underlying38 hi025 4 hsz25 A0 l0.length c0 x5_1 q025 q25;have hr25:=Kd.C_drop (m:=(x5_1:Int).toNat) (c:=c0) hC25 (by omega) hroom25;obtain ⟨A25,hA25⟩:∃ A1,A1=(if c0=(x5_1:Int).toNat then A0 else (A0:Option Addr).map (·.add ((x5_1:Int).toNat*4))):=⟨_,rfl⟩;obtain ⟨c25,hc25⟩:∃ c1,c1=c0-(x5_1:Int).toNat:=⟨_,rfl⟩;have hy25:y537.length=l0.length-(x5_1:Int).toNat:=(by rw [Ny537.out,List.length_drop] <;> omega);rw [show (l0).drop (x5_1:Int).toNat=y537 from Ny537.out.symm] at hr25;replace hr25:Kd.C k91 _ A25 y537.length y537:=(by rw [hA25];exact hr25);rw [← hy25,← hA25,← hc25] at hcut25;have HR540:=Aside0.mk hr25;have HC540:=Aside0.mk (show y537.length≤c25 from by rw [hy25,hc25];exact Nat.sub_le_sub_right hroom25 _);clear hr25 hC25 hroom25 hi025 hsz25 hc25;have KY25:=Aside0.mk hy25;have KA25:=Aside0.mk hA25;clear hy25 hA25;replace q25:=eq_true q25) | ((with_reducible refine gate_builtin (b:=.append) (xs:=#[.tmp 32,.tmp 35]) rfl ?_);at_builtin;refine Kd.R_append_rows k91 (w0:=w) w.heap.size rfl (.tmp 32) (.tmp 35) 38 91 (.agg #[(.int .i64 0),(.int .i64 0),(.bool false),(.string ⟨#[]⟩)]) 40 rfl Try.underlying38 info91 rfl (by decide) (by omega) v535 y534 y537 _ _ _ (fun k_=>k_≠gb521) (fun _=>False) rfl rfl ?aO ?aR (fun _ _ h=>h) (fun _ h=>h.elim) ?aF ?aB ?aS ?aL ?_;(case aR=>repeat (first | exact (Kd.C_below HR540.out HB.out) | (with_reducible refine Kd.C_alloc ?_ _) | (with_reducible refine Kd.C_drewN ?_ _) | (with_reducible refine Kd.C_drew ?_)));(case aB=>exact (z5_ HB.out GE521.out));(case aF=>exact (fun k_ hk=>Kd.freshB (g:=gb521) (o:=.cells #[.int .i64 a1_0,.int .i64 a1_1,.bool a1_2,.string a1_3] 91 (0,0)) (z1_ BK521.out) k_ hk));(case aO=>exact (z0_ HO536.out));(case aS=>exact (below_size (z5_ HB.out GE521.out)));(case aL=>have:=LMc18.out;omega);intro v542 w26 ho hb hg hat;rw [← Ny541.out] at ho;refine as3_ (blk_grown (g:=gb521) (o:=.cells #[.int .i64 a1_0,.int .i64 a1_1,.bool a1_2,.string a1_3] 91 (0,0)) (z1_ BK521.out) hg (Kd.R_away HO536.out (fun _ hk=>hk))) (hb) (ho) ?_;clear BK521 HB HO536;intro BK521 HB HO543;clear ho hb hg hat))
           go_ret
           exact ⟨_,z8_,z44_ HO543.out,z5_ HB.out GE521.out⟩
          ·rw [if_neg c18] at H
           exact absurd H (by simp)
         ·rw [if_neg c15] at H
          exact absurd H (by simp)
        ·rw [if_neg c14] at H
         exact absurd H (by simp)
       ·rw [if_neg c13] at H
        exact absurd H (by simp)
      ·rw [if_neg c12] at H
       exact absurd H (by simp)


theorem eqA56 (d:Nat) (w:World) (x0 y0:Int) (x1 y1:Int) :
  (Op.equalIn (d+2) 56 (.agg #[.int .i64 x0,.int .i64 x1]) (.agg #[.int .i64 y0,.int .i64 y1])).run Try.prog w = .ok (x0 == y0 && (x1 == y1)) w:=by
 refine eqA_of Try.underlying56 (by kernel_rfl) ?_
 refine eqf_cons (by rfl) (by go_simp;rfl) (by go_simp;rfl) (by go_simp) ?_
 exact eqf_last (by rfl) (by go_simp;rfl) (by go_simp;rfl) (by go_simp)

attribute [local go_sem high] eqA56
/-! ### spec_l03At: function 93 -/
def spec_l03At.l0:Nat→List (S91)→Int→Int→Int→Option (Int)
 | 0,_,_,_,_=>none
 | k+1,x0,x5,x545000,x545001=>if x5<(x0.length:Int) then (if 0≤x5 then (if (((rd_T91 x0 x5).f0.f0) == x545000 && (((rd_T91 x0 x5).f0.f1) == x545001))=true then (some x5) else (spec_l03At.l0 k x0 (wrap64 (x5+1)) x545000 x545001)) else (none)) else (some (-1))
def spec_l03At.f (k:Nat) (l0:List (S91)) (a1_0:Int) (a1_1:Int):Option (Int):=spec_l03At.l0 k l0 0 a1_0 a1_1
theorem spec_l03At.mono_l:∀ k,(∀ y0 y1 y2 y3,LeO (spec_l03At.l0 k y0 y1 y2 y3) (spec_l03At.l0 (k+1) y0 y1 y2 y3))
 | 0=>fun _ _ _ _ r h=>by simp [spec_l03At.l0] at h
 | k+1=>by
  have ih0:=spec_l03At.mono_l k
  ·intro y0 y1 y2 y3
   unfold spec_l03At.l0
   repeat' first
   | (with_reducible exact ih0 _ _ _ _)
   | (with_reducible exact LeO.refl _)
   | (with_reducible exact LeO.none _)
   | (with_reducible refine LeO.ite ?_ ?_)
   | (with_reducible refine LeO.bind ?_ (fun _=>?_))
   | exact ih0 _ _ _ _
   | exact LeO.none _
   | refine LeO.ite ?_ ?_
   | refine LeO.bind ?_ (fun _=>?_)
theorem spec_l03At.mono:∀ a0 a1 a2 k,LeO (spec_l03At.f k a0 a1 a2) (spec_l03At.f (k+1) a0 a1 a2):=by
 intro a0 a1 a2 k
 have ih0:=spec_l03At.mono_l k
 unfold spec_l03At.f
 repeat' first
   | (with_reducible exact ih0 _ _ _ _)
   | (with_reducible exact LeO.refl _)
   | (with_reducible exact LeO.none _)
   | (with_reducible refine LeO.ite ?_ ?_)
   | (with_reducible refine LeO.bind ?_ (fun _=>?_))
   | exact ih0 _ _ _ _
   | exact LeO.none _
   | refine LeO.ite ?_ ?_
   | refine LeO.bind ?_ (fun _=>?_)
set_option maxHeartbeats 8000000 in
set_option maxRecDepth 100000 in
theorem spec_l03At.calls (k:Nat) (A0:Option Addr) (c0:Nat) (l0:List (S91)) (a1_0:Int) (a1_1:Int) (r:Int) (w:World) (hr0:Kd.C k91 w A0 l0.length l0) (hc0:l0.length≤c0) (h:spec_l03At.f k l0 a1_0 a1_1=some r) :
  Calls Try.prog 93 #[.slice A0 l0.length c0,.agg #[.int .i64 a1_0,.int .i64 a1_1]] w fun e w'=>e = .returned (.int .i64 r)∧Below w.heap.size w w':=by
 have hu56:=Try.underlying56
 have HR0:=Aside0.mk hr0
 have HC0:=Aside0.mk hc0
 clear hr0 hc0
 have HB:=Aside0.mk (Below.refl w.heap.size w)
 have H:(spec_l03At.l0 k l0 0 a1_0 a1_1)=some r:=h
 clear h
 have H':=Aside0.mk H
 clear H
 go_enter Try.func93,Try.ntmps93
 go_wp2_with (first | ((with_reducible refine gd_ 3 ?_);refine be_ 3 #[.int .i64 a1_0,.int .i64 a1_1] 56 ?_;intro gb544 hg w3 hbox hb;refine as4_ (below_step (z4_ HB.out) hb) (hbox) ((z7_ HB.out:w.heap.size≤gb544)) ((z7_ HB.out:w.heap.size≤gb544)) ?_;clear HB;intro HB BK544 GW544 GE544;clear hb hbox hg))
 repeat (go_quiet (first | ((with_reducible refine gd_ 3 ?_);refine be_ 3 #[.int .i64 a1_0,.int .i64 a1_1] 56 ?_;intro gb544 hg w3 hbox hb;refine as4_ (below_step (z4_ HB.out) hb) (hbox) ((z7_ HB.out:w.heap.size≤gb544)) ((z7_ HB.out:w.heap.size≤gb544)) ?_;clear HB;intro HB BK544 GW544 GE544;clear hb hbox hg));try go_wp2_with (first | ((with_reducible refine gd_ 3 ?_);refine be_ 3 #[.int .i64 a1_0,.int .i64 a1_1] 56 ?_;intro gb544 hg w3 hbox hb;refine as4_ (below_step (z4_ HB.out) hb) (hbox) ((z7_ HB.out:w.heap.size≤gb544)) ((z7_ HB.out:w.heap.size≤gb544)) ?_;clear HB;intro HB BK544 GW544 GE544;clear hb hbox hg)))
 go_loopg [5] k (fun kq v5 w'=>∃ (x5_1:Int),v5 = .int .i64 x5_1∧Aside0 (spec_l03At.l0 kq l0 x5_1 a1_0 a1_1=some r)∧Aside0 (kq≤k)∧Aside0 (w'.heap[gb544]? = some (.cells #[.int .i64 a1_0,.int .i64 a1_1] 56 (0,0)))∧Aside0 (Below w.heap.size w w'))
 case atStart=>exact ⟨(0),(z3_),H',⟨Nat.le_refl _⟩,⟨z1_ BK544.out⟩,⟨z5_ HB.out GE544.out⟩⟩
 case round =>
  clear H'
  try clear p2
  obtain ⟨x5_1,rfl,HA,HK1,BK544,HB⟩:=hrel
  cases gk with
  | zero=>exact absurd HA.out (by simp [spec_l03At.l0])
  | succ k1 =>
   have H:=HA.out
   clear HA
   simp only [spec_l03At.l0] at H
   by_cases c4:x5_1<(l0.length:Int)
   ·rw [if_pos c4] at H
    have c4b0:decide (x5_1<(l0.length:Int))=true:=decide_eq_true c4
    clear c4
    by_cases c5:0≤x5_1
    ·rw [if_pos c5] at H
     have c5b0:decide (0≤x5_1)=true:=decide_eq_true c5
     clear c5
     by_cases c6:(((rd_T91 l0 x5_1).f0.f0) == a1_0 && (((rd_T91 l0 x5_1).f0.f1) == a1_1))=true
     ·rw [if_pos c6] at H
      have c6b0:(((rd_T91 l0 x5_1).f0.f0) == a1_0 && (((rd_T91 l0 x5_1).f0.f1) == a1_1))=true:=c6
      (try (have c6b1:decide (((rd_T91 l0 x5_1).f0.f0)=a1_0 && (((rd_T91 l0 x5_1).f0.f1) == a1_1))=true:=by simpa using c6))
      (try (have c6b2:(((rd_T91 l0 x5_1).f0.f0) == a1_0 && (((rd_T91 l0 x5_1).f0.f1) == a1_1))=true:=by simpa using c6))
      clear c6
      obtain rfl:=Option.some.inj H
      have p545:0≤(x5_1:Int):=of_decide_eq_true (z2_)
      have q545:x5_1<(l0.length:Int):=of_decide_eq_true (z2_)
      obtain ⟨ad545,e545,hx545_0,hx545_1,hx545_2,hx545_3⟩:=at_T91 HR0.out x5_1 p545 q545
      cases e545
      replace hx545_0:=(HB.out.cell (World.block_lt_of_cell? w _ hx545_0)).trans hx545_0
      replace hx545_1:=(HB.out.cell (World.block_lt_of_cell? w _ hx545_1)).trans hx545_1
      replace hx545_2:=(HB.out.cell (World.block_lt_of_cell? w _ hx545_2)).trans hx545_2
      replace hx545_3:=(HB.out.cell (World.block_lt_of_cell? w _ hx545_3)).trans hx545_3
      replace p545:=eq_true p545
      replace q545:=eq_true q545
      have ⟨hcz7_0,hcz7_1,hfz7_0,hfz7_1⟩:=cz2_ BK544.out
      go_wp2
      repeat (go_quiet (fail);try go_wp2)
      go_ret
      exact ⟨z8_,z5_ HB.out GE544.out⟩
     ·rw [if_neg c6] at H
      have c6b0:(((rd_T91 l0 x5_1).f0.f0) == a1_0 && (((rd_T91 l0 x5_1).f0.f1) == a1_1))=false:=by simpa using c6
      (try (have c6b1:decide (((rd_T91 l0 x5_1).f0.f0)=a1_0 && (((rd_T91 l0 x5_1).f0.f1) == a1_1))=false:=by simpa using c6))
      (try (have c6b2:(((rd_T91 l0 x5_1).f0.f0) == a1_0 && (((rd_T91 l0 x5_1).f0.f1) == a1_1))=false:=by simpa using c6))
      (try (have c6b3:¬ (((rd_T91 l0 x5_1).f0.f0)=a1_0 && (((rd_T91 l0 x5_1).f0.f1) == a1_1)):=by simpa using c6))
      clear c6
      have H':=Aside0.mk H
      clear H
      have p545:0≤(x5_1:Int):=of_decide_eq_true (z2_)
      have q545:x5_1<(l0.length:Int):=of_decide_eq_true (z2_)
      obtain ⟨ad545,e545,hx545_0,hx545_1,hx545_2,hx545_3⟩:=at_T91 HR0.out x5_1 p545 q545
      cases e545
      replace hx545_0:=(HB.out.cell (World.block_lt_of_cell? w _ hx545_0)).trans hx545_0
      replace hx545_1:=(HB.out.cell (World.block_lt_of_cell? w _ hx545_1)).trans hx545_1
      replace hx545_2:=(HB.out.cell (World.block_lt_of_cell? w _ hx545_2)).trans hx545_2
      replace hx545_3:=(HB.out.cell (World.block_lt_of_cell? w _ hx545_3)).trans hx545_3
      replace p545:=eq_true p545
      replace q545:=eq_true q545
      have ⟨hcz8_0,hcz8_1,hfz8_0,hfz8_1⟩:=cz2_ BK544.out
      go_wp2
      repeat (go_quiet (fail);try go_wp2)
      go_roundg k1
      case measure=>have:=HK1.out;omega
      case rel=>exact ⟨(wrap64 (x5_1+1)),(z3_),H',⟨by have:=HK1.out;omega⟩,⟨z1_ BK544.out⟩,⟨z5_ HB.out GE544.out⟩⟩
    ·rw [if_neg c5] at H
     exact absurd H (by simp)
   ·rw [if_neg c4] at H
    have c4b0:decide (x5_1<(l0.length:Int))=false:=decide_eq_false c4
    clear c4
    obtain rfl:=Option.some.inj H
    go_wp2
    repeat (go_quiet (fail);try go_wp2)
    go_ret
    exact ⟨z8_,z5_ HB.out GE544.out⟩


/-! ### spec_l03Sync: function 61 -/
mutual
def spec_l03Sync.l0:Nat→Int→List (S56)→List (S91)→List (S56)→List (S91)→List (S56)→List (S91)→Option ((List (S56)) × (List (S91)) × Int × Int × Int)
 | 0,_,_,_,_,_,_,_=>none
 | k+1,x6,x547000,x547001,x548000,x548001,x553000,x553001=>if x6<(x547001.length:Int) then (if 0≤x6 then ((spec_l03At.f k x548001 ((rd_T91 x547001 x6).f0.f0) ((rd_T91 x547001 x6).f0.f1)).bind fun t554=>(if t554≥0 then (spec_l03Sync.j1 k x6 true x547000 x547001 x548000 x548001 x553000 x553001) else ((spec_SeenHas.f k x548000 ((rd_T91 x547001 x6).f0.f0) ((rd_T91 x547001 x6).f0.f1)).bind fun t556=>(spec_l03Sync.j1 k x6 (!t556) x547000 x547001 x548000 x548001 x553000 x553001)))) else (none)) else (spec_l03Sync.l1 k 0 x547000 x547001 x548000 x548001 x553000 x553001)
def spec_l03Sync.j1:Nat→Int→Bool→List (S56)→List (S91)→List (S56)→List (S91)→List (S56)→List (S91)→Option ((List (S56)) × (List (S91)) × Int × Int × Int)
 | 0,_,_,_,_,_,_,_,_=>none
 | k+1,x6,x42,x547000,x547001,x548000,x548001,x553000,x553001=>if x42=true then (if 0≤x6 then (if x6<(x547001.length:Int) then ((spec_l03In.f k x553001 ((rd_T91 x547001 x6).f0.f0) ((rd_T91 x547001 x6).f0.f1) ((rd_T91 x547001 x6).f1) ((rd_T91 x547001 x6).f2)).bind fun t558=>(spec_l03Sync.l0 k (wrap64 (x6+1)) x547000 x547001 x548000 x548001 x553000 t558)) else (none)) else (none)) else (spec_l03Sync.l0 k (wrap64 (x6+1)) x547000 x547001 x548000 x548001 x553000 x553001)
def spec_l03Sync.l1:Nat→Int→List (S56)→List (S91)→List (S56)→List (S91)→List (S56)→List (S91)→Option ((List (S56)) × (List (S91)) × Int × Int × Int)
 | 0,_,_,_,_,_,_,_=>none
 | k+1,x7,x547000,x547001,x548000,x548001,x553000,x553001=>if x7<(x548001.length:Int) then (if 0≤x7 then ((spec_l03At.f k x547001 ((rd_T91 x548001 x7).f0.f0) ((rd_T91 x548001 x7).f0.f1)).bind fun t562=>(if t562<0 then ((spec_SeenHas.f k x547000 ((rd_T91 x548001 x7).f0.f0) ((rd_T91 x548001 x7).f0.f1)).bind fun t564=>(spec_l03Sync.j3 k x7 (!t564) x547000 x547001 x548000 x548001 x553000 x553001)) else (spec_l03Sync.j3 k x7 false x547000 x547001 x548000 x548001 x553000 x553001))) else (none)) else (if (x553001.length:Int)>8 then ((spec_l03Ill.f 9).bind fun bt569=>(some (bt569.1,bt569.2.1,bt569.2.2.1,bt569.2.2.2.1,bt569.2.2.2.2))) else (some (x553000,x553001,0,0,0)))
def spec_l03Sync.j3:Nat→Int→Bool→List (S56)→List (S91)→List (S56)→List (S91)→List (S56)→List (S91)→Option ((List (S56)) × (List (S91)) × Int × Int × Int)
 | 0,_,_,_,_,_,_,_,_=>none
 | k+1,x7,x80,x547000,x547001,x548000,x548001,x553000,x553001=>if x80=true then (if 0≤x7 then (if x7<(x548001.length:Int) then ((spec_l03In.f k x553001 ((rd_T91 x548001 x7).f0.f0) ((rd_T91 x548001 x7).f0.f1) ((rd_T91 x548001 x7).f1) ((rd_T91 x548001 x7).f2)).bind fun t566=>(spec_l03Sync.l1 k (wrap64 (x7+1)) x547000 x547001 x548000 x548001 x553000 t566)) else (none)) else (none)) else (spec_l03Sync.l1 k (wrap64 (x7+1)) x547000 x547001 x548000 x548001 x553000 x553001)
end
def spec_l03Sync.f (k:Nat) (l0_0:List (S56)) (l0_1:List (S91)) (l1_0:List (S56)) (l1_1:List (S91)):Option ((List (S56)) × (List (S91)) × Int × Int × Int):=(spec_l02Join.f k l0_0 l1_0).bind fun t549=>(spec_l03Sync.l0 k 0 l0_0 l0_1 l1_0 l1_1 t549 ([]:List (S91)))
theorem spec_l03Sync.mono_l:∀ k,(∀ y0 y1 y2 y3 y4 y5 y6,LeO (spec_l03Sync.l0 k y0 y1 y2 y3 y4 y5 y6) (spec_l03Sync.l0 (k+1) y0 y1 y2 y3 y4 y5 y6))∧(∀ y0 y1 y2 y3 y4 y5 y6 y7,LeO (spec_l03Sync.j1 k y0 y1 y2 y3 y4 y5 y6 y7) (spec_l03Sync.j1 (k+1) y0 y1 y2 y3 y4 y5 y6 y7))∧(∀ y0 y1 y2 y3 y4 y5 y6,LeO (spec_l03Sync.l1 k y0 y1 y2 y3 y4 y5 y6) (spec_l03Sync.l1 (k+1) y0 y1 y2 y3 y4 y5 y6))∧(∀ y0 y1 y2 y3 y4 y5 y6 y7,LeO (spec_l03Sync.j3 k y0 y1 y2 y3 y4 y5 y6 y7) (spec_l03Sync.j3 (k+1) y0 y1 y2 y3 y4 y5 y6 y7))
 | 0=>⟨fun _ _ _ _ _ _ _ r h=>by simp [spec_l03Sync.l0] at h,fun _ _ _ _ _ _ _ _ r h=>by simp [spec_l03Sync.j1] at h,fun _ _ _ _ _ _ _ r h=>by simp [spec_l03Sync.l1] at h,fun _ _ _ _ _ _ _ _ r h=>by simp [spec_l03Sync.j3] at h⟩
 | k+1=>by
  obtain ⟨ih0,ih1,ih2,ih3⟩:=spec_l03Sync.mono_l k
  refine ⟨?_,?_,?_,?_⟩
  ·intro y0 y1 y2 y3 y4 y5 y6
   unfold spec_l03Sync.l0
   repeat' first
   | (with_reducible exact ih0 _ _ _ _ _ _ _)
   | (with_reducible exact ih1 _ _ _ _ _ _ _ _)
   | (with_reducible exact ih2 _ _ _ _ _ _ _)
   | (with_reducible exact ih3 _ _ _ _ _ _ _ _)
   | (with_reducible exact spec_SeenHas.mono _ _ _ _)
   | (with_reducible exact spec_l02Join.mono _ _ _)
   | (with_reducible exact spec_l03At.mono _ _ _ _)
   | (with_reducible exact spec_l03In.mono _ _ _ _ _ _)
   | (with_reducible exact LeO.refl _)
   | (with_reducible exact LeO.none _)
   | (with_reducible refine LeO.ite ?_ ?_)
   | (with_reducible refine LeO.bind ?_ (fun _=>?_))
   | exact ih0 _ _ _ _ _ _ _
   | exact ih1 _ _ _ _ _ _ _ _
   | exact ih2 _ _ _ _ _ _ _
   | exact ih3 _ _ _ _ _ _ _ _
   | exact spec_SeenHas.mono _ _ _ _
   | exact spec_l02Join.mono _ _ _
   | exact spec_l03At.mono _ _ _ _
   | exact spec_l03In.mono _ _ _ _ _ _
   | exact LeO.none _
   | refine LeO.ite ?_ ?_
   | refine LeO.bind ?_ (fun _=>?_)
  ·intro y0 y1 y2 y3 y4 y5 y6 y7
   unfold spec_l03Sync.j1
   repeat' first
   | (with_reducible exact ih0 _ _ _ _ _ _ _)
   | (with_reducible exact ih1 _ _ _ _ _ _ _ _)
   | (with_reducible exact ih2 _ _ _ _ _ _ _)
   | (with_reducible exact ih3 _ _ _ _ _ _ _ _)
   | (with_reducible exact spec_SeenHas.mono _ _ _ _)
   | (with_reducible exact spec_l02Join.mono _ _ _)
   | (with_reducible exact spec_l03At.mono _ _ _ _)
   | (with_reducible exact spec_l03In.mono _ _ _ _ _ _)
   | (with_reducible exact LeO.refl _)
   | (with_reducible exact LeO.none _)
   | (with_reducible refine LeO.ite ?_ ?_)
   | (with_reducible refine LeO.bind ?_ (fun _=>?_))
   | exact ih0 _ _ _ _ _ _ _
   | exact ih1 _ _ _ _ _ _ _ _
   | exact ih2 _ _ _ _ _ _ _
   | exact ih3 _ _ _ _ _ _ _ _
   | exact spec_SeenHas.mono _ _ _ _
   | exact spec_l02Join.mono _ _ _
   | exact spec_l03At.mono _ _ _ _
   | exact spec_l03In.mono _ _ _ _ _ _
   | exact LeO.none _
   | refine LeO.ite ?_ ?_
   | refine LeO.bind ?_ (fun _=>?_)
  ·intro y0 y1 y2 y3 y4 y5 y6
   unfold spec_l03Sync.l1
   repeat' first
   | (with_reducible exact ih0 _ _ _ _ _ _ _)
   | (with_reducible exact ih1 _ _ _ _ _ _ _ _)
   | (with_reducible exact ih2 _ _ _ _ _ _ _)
   | (with_reducible exact ih3 _ _ _ _ _ _ _ _)
   | (with_reducible exact spec_SeenHas.mono _ _ _ _)
   | (with_reducible exact spec_l02Join.mono _ _ _)
   | (with_reducible exact spec_l03At.mono _ _ _ _)
   | (with_reducible exact spec_l03In.mono _ _ _ _ _ _)
   | (with_reducible exact LeO.refl _)
   | (with_reducible exact LeO.none _)
   | (with_reducible refine LeO.ite ?_ ?_)
   | (with_reducible refine LeO.bind ?_ (fun _=>?_))
   | exact ih0 _ _ _ _ _ _ _
   | exact ih1 _ _ _ _ _ _ _ _
   | exact ih2 _ _ _ _ _ _ _
   | exact ih3 _ _ _ _ _ _ _ _
   | exact spec_SeenHas.mono _ _ _ _
   | exact spec_l02Join.mono _ _ _
   | exact spec_l03At.mono _ _ _ _
   | exact spec_l03In.mono _ _ _ _ _ _
   | exact LeO.none _
   | refine LeO.ite ?_ ?_
   | refine LeO.bind ?_ (fun _=>?_)
  ·intro y0 y1 y2 y3 y4 y5 y6 y7
   unfold spec_l03Sync.j3
   repeat' first
   | (with_reducible exact ih0 _ _ _ _ _ _ _)
   | (with_reducible exact ih1 _ _ _ _ _ _ _ _)
   | (with_reducible exact ih2 _ _ _ _ _ _ _)
   | (with_reducible exact ih3 _ _ _ _ _ _ _ _)
   | (with_reducible exact spec_SeenHas.mono _ _ _ _)
   | (with_reducible exact spec_l02Join.mono _ _ _)
   | (with_reducible exact spec_l03At.mono _ _ _ _)
   | (with_reducible exact spec_l03In.mono _ _ _ _ _ _)
   | (with_reducible exact LeO.refl _)
   | (with_reducible exact LeO.none _)
   | (with_reducible refine LeO.ite ?_ ?_)
   | (with_reducible refine LeO.bind ?_ (fun _=>?_))
   | exact ih0 _ _ _ _ _ _ _
   | exact ih1 _ _ _ _ _ _ _ _
   | exact ih2 _ _ _ _ _ _ _
   | exact ih3 _ _ _ _ _ _ _ _
   | exact spec_SeenHas.mono _ _ _ _
   | exact spec_l02Join.mono _ _ _
   | exact spec_l03At.mono _ _ _ _
   | exact spec_l03In.mono _ _ _ _ _ _
   | exact LeO.none _
   | refine LeO.ite ?_ ?_
   | refine LeO.bind ?_ (fun _=>?_)
theorem spec_l03Sync.mono:∀ a0 a1 a2 a3 k,LeO (spec_l03Sync.f k a0 a1 a2 a3) (spec_l03Sync.f (k+1) a0 a1 a2 a3):=by
 intro a0 a1 a2 a3 k
 obtain ⟨ih0,ih1,ih2,ih3⟩:=spec_l03Sync.mono_l k
 unfold spec_l03Sync.f
 repeat' first
   | (with_reducible exact ih0 _ _ _ _ _ _ _)
   | (with_reducible exact ih1 _ _ _ _ _ _ _ _)
   | (with_reducible exact ih2 _ _ _ _ _ _ _)
   | (with_reducible exact ih3 _ _ _ _ _ _ _ _)
   | (with_reducible exact spec_SeenHas.mono _ _ _ _)
   | (with_reducible exact spec_l02Join.mono _ _ _)
   | (with_reducible exact spec_l03At.mono _ _ _ _)
   | (with_reducible exact spec_l03In.mono _ _ _ _ _ _)
   | (with_reducible exact LeO.refl _)
   | (with_reducible exact LeO.none _)
   | (with_reducible refine LeO.ite ?_ ?_)
   | (with_reducible refine LeO.bind ?_ (fun _=>?_))
   | exact ih0 _ _ _ _ _ _ _
   | exact ih1 _ _ _ _ _ _ _ _
   | exact ih2 _ _ _ _ _ _ _
   | exact ih3 _ _ _ _ _ _ _ _
   | exact spec_SeenHas.mono _ _ _ _
   | exact spec_l02Join.mono _ _ _
   | exact spec_l03At.mono _ _ _ _
   | exact spec_l03In.mono _ _ _ _ _ _
   | exact LeO.none _
   | refine LeO.ite ?_ ?_
   | refine LeO.bind ?_ (fun _=>?_)
def spec_l03Sync.T5:Bool × List (List Nat × List Nat):=(true,[([],[]),([0],[0]),([],[]),([2],[2]),([],[]),([3,4],[3,4]),([5],[5]),([6],[6]),([1,7],[1,7]),([8],[8]),([9,8],[9]),([10],[10]),([11,10],[10,11]),([10],[10]),([13,10],[10,13]),([10],[10]),([14,15,10],[10,14,15]),([16,10],[10,16]),([17,10],[10,17]),([12,18,10,10],[10,12,18]),([19,10],[10,19]),([10,20],[10,20])])
def spec_l03Sync.B5:List Nat:=[0,1,0,4,0,28,60,124,255,511,1023,2047,4095,2047,10239,2047,59391,124927,255999,524287,1048575,2097151]
theorem spec_l03Sync.tab5:rtab .any (opsOf Try.f61 5)=spec_l03Sync.T5:=by kernel_rfl
theorem spec_l03Sync.bits5:waitsOk spec_l03Sync.T5.2 spec_l03Sync.B5=true:=by kernel_rfl
def spec_l03Sync.T6:Bool × List (List Nat × List Nat):=(true,[([],[]),([0],[0]),([],[]),([2],[2]),([],[]),([3,4],[3,4]),([5],[5]),([1,6],[1,6]),([0,1,2,3,4,5,6,7],[]),([8,7,7,0,1,2,3,4,5,6,7],[7,8])])
def spec_l03Sync.B6:List Nat:=[0,1,0,4,0,28,60,127,255,511]
theorem spec_l03Sync.tab6:rtab .any (opsOf Try.f61 6)=spec_l03Sync.T6:=by kernel_rfl
theorem spec_l03Sync.bits6:waitsOk spec_l03Sync.T6.2 spec_l03Sync.B6=true:=by kernel_rfl
def spec_l03Sync.T10:Bool × List (List Nat × List Nat):=(true,[([],[]),([0],[0]),([],[]),([2],[2]),([],[]),([3,4],[3,4]),([5],[5]),([6],[6]),([1,7],[1,7]),([8],[8]),([9,8],[9]),([10],[10]),([11,10],[10,11]),([10],[10]),([13,10],[10,13]),([10],[10]),([14,15,10],[10,14,15]),([16,10],[10,16]),([17,10],[10,17]),([12,18,10,10],[10,12,18]),([19,10],[10,19]),([10,20],[10,20])])
def spec_l03Sync.B10:List Nat:=[0,1,0,4,0,28,60,124,255,511,1023,2047,4095,2047,10239,2047,59391,124927,255999,524287,1048575,2097151]
theorem spec_l03Sync.tab10:rtab .any (opsOf Try.f61 10)=spec_l03Sync.T10:=by kernel_rfl
theorem spec_l03Sync.bits10:waitsOk spec_l03Sync.T10.2 spec_l03Sync.B10=true:=by kernel_rfl
def spec_l03Sync.T11:Bool × List (List Nat × List Nat):=(true,[([],[]),([0],[0]),([],[]),([2],[2]),([],[]),([3,4],[3,4]),([5],[5]),([1,6],[1,6]),([0,1,2,3,4,5,6,7],[]),([8,7,7,0,1,2,3,4,5,6,7],[7,8])])
def spec_l03Sync.B11:List Nat:=[0,1,0,4,0,28,60,127,255,511]
theorem spec_l03Sync.tab11:rtab .any (opsOf Try.f61 11)=spec_l03Sync.T11:=by kernel_rfl
theorem spec_l03Sync.bits11:waitsOk spec_l03Sync.T11.2 spec_l03Sync.B11=true:=by kernel_rfl
abbrev spec_l03Sync.q0:Array Bool:=#[O,O,O,O,O,O,O,O,O,O,O,O,O,O,O,O,O,O,O,O,O,O]
abbrev spec_l03Sync.q1:Array Bool:=#[I,O,O,O,O,O,O,O,O,O,O,O,O,O,O,O,O,O,O,O,O,O]
abbrev spec_l03Sync.q2:Array Bool:=#[I,O,I,O,O,O,O,O,O,O,O,O,O,O,O,O,O,O,O,O,O,O]
abbrev spec_l03Sync.q3:Array Bool:=#[I,O,I,O,I,O,O,O,O,O,O,O,O,O,O,O,O,O,O,O,O,O]
abbrev spec_l03Sync.q4:Array Bool:=#[I,I,I,O,I,O,O,O,O,O,O,O,O,O,O,O,O,O,O,O,O,O]
abbrev spec_l03Sync.q5:Array Bool:=#[I,I,I,I,I,O,O,O,O,O,O,O,O,O,O,O,O,O,O,O,O,O]
abbrev spec_l03Sync.q6:Array Bool:=#[I,I,I,I,I,I,O,O,O,O,O,O,O,O,O,O,O,O,O,O,O,O]
abbrev spec_l03Sync.q7:Array Bool:=#[I,I,I,I,I,I,I,O,O,O,O,O,O,O,O,O,O,O,O,O,O,O]
abbrev spec_l03Sync.q8:Array Bool:=#[I,I,I,I,I,I,I,I,O,O,O,O,O,O,O,O,O,O,O,O,O,O]
abbrev spec_l03Sync.q9:Array Bool:=#[I,I,I,I,I,I,I,I,I,O,O,O,O,O,O,O,O,O,O,O,O,O]
abbrev spec_l03Sync.q10:Array Bool:=#[I,I,I,I,I,I,I,I,I,I,O,O,O,O,O,O,O,O,O,O,O,O]
abbrev spec_l03Sync.q11:Array Bool:=#[I,I,I,I,I,I,I,I,I,I,I,O,O,O,O,O,O,O,O,O,O,O]
abbrev spec_l03Sync.q12:Array Bool:=#[I,I,I,I,I,I,I,I,I,I,I,I,O,O,O,O,O,O,O,O,O,O]
abbrev spec_l03Sync.q13:Array Bool:=#[I,I,I,I,I,I,I,I,I,I,I,I,I,O,O,O,O,O,O,O,O,O]
abbrev spec_l03Sync.q14:Array Bool:=#[I,I,I,I,I,I,I,I,I,I,I,I,I,I,O,O,O,O,O,O,O,O]
abbrev spec_l03Sync.q15:Array Bool:=#[I,I,I,I,I,I,I,I,I,I,I,I,I,I,I,O,O,O,O,O,O,O]
abbrev spec_l03Sync.q16:Array Bool:=#[I,I,I,I,I,I,I,I,I,I,I,I,I,I,I,I,O,O,O,O,O,O]
abbrev spec_l03Sync.q17:Array Bool:=#[I,I,I,I,I,I,I,I,I,I,I,I,I,I,I,I,I,O,O,O,O,O]
abbrev spec_l03Sync.q18:Array Bool:=#[I,I,I,I,I,I,I,I,I,I,I,I,I,I,I,I,I,I,O,O,O,O]
abbrev spec_l03Sync.q19:Array Bool:=#[I,I,I,I,I,I,I,I,I,I,I,I,I,I,I,I,I,I,I,O,O,O]
abbrev spec_l03Sync.q20:Array Bool:=#[I,I,I,I,I,I,I,I,I,I,I,I,I,I,I,I,I,I,I,I,O,O]
abbrev spec_l03Sync.q21:Array Bool:=#[I,I,I,I,I,I,I,I,I,I,I,I,I,I,I,I,I,I,I,I,I,O]
abbrev spec_l03Sync.q22:Array Bool:=#[I,I,I,I,I,I,I,I,I,I,I,I,I,I,I,I,I,I,I,I,I,I]
abbrev spec_l03Sync.q23:Array Bool:=#[I,I,I,I,I,I,I,I,I,I,I,I,O,I,O,O,O,O,O,O,O,O]
abbrev spec_l03Sync.q24:Array Bool:=#[I,I,I,I,I,I,I,I,I,I,I,I,O,I,O,I,O,O,O,O,O,O]
abbrev spec_l03Sync.q25:Array Bool:=#[I,I,I,I,I,I,I,I,I,I,I,I,I,I,O,I,O,O,O,O,O,O]
set_option maxHeartbeats 8000000 in
set_option maxRecDepth 100000 in
theorem spec_l03Sync.calls (k:Nat) (A0_0:Option Addr) (c0_0:Nat) (l0_0:List (S56)) (A0_1:Option Addr) (c0_1:Nat) (l0_1:List (S91)) (A1_0:Option Addr) (c1_0:Nat) (l1_0:List (S56)) (A1_1:Option Addr) (c1_1:Nat) (l1_1:List (S91)) (r1:List (S56)) (r2:List (S91)) (r3:Int) (r4:Int) (r5:Int) (w:World) (hr0_0:Kd.C k56 w A0_0 l0_0.length l0_0) (hc0_0:l0_0.length≤c0_0) (hr0_1:Kd.C k91 w A0_1 l0_1.length l0_1) (hc0_1:l0_1.length≤c0_1) (hr1_0:Kd.C k56 w A1_0 l1_0.length l1_0) (hc1_0:l1_0.length≤c1_0) (hr1_1:Kd.C k91 w A1_1 l1_1.length l1_1) (hc1_1:l1_1.length≤c1_1) (h:spec_l03Sync.f k l0_0 l0_1 l1_0 l1_1=some (r1,r2,r3,r4,r5)) :
  Calls Try.prog 61 #[.agg #[.slice A0_0 l0_0.length c0_0,.slice A0_1 l0_1.length c0_1],.agg #[.slice A1_0 l1_0.length c1_0,.slice A1_1 l1_1.length c1_1]] w fun e w'=>∃ v0_ v1_:Value,e = .returned (.agg #[v0_,v1_,.int .i64 r3,.int .i64 r4,.int .i64 r5])∧Kd.R k56 56 w' w.heap.size (fun _=>True) v0_ r1∧Kd.R k91 91 w' w.heap.size (fun _=>True) v1_ r2∧Below w.heap.size w w':=by
 have hu40:=Try.underlying40
 have hu58:=Try.underlying58
 have hu56:=Try.underlying56
 have hu91:=Try.underlying91
 have HR0_0:=Aside0.mk hr0_0
 have HC0_0:=Aside0.mk hc0_0
 clear hr0_0 hc0_0
 have HR0_1:=Aside0.mk hr0_1
 have HC0_1:=Aside0.mk hc0_1
 clear hr0_1 hc0_1
 have HR1_0:=Aside0.mk hr1_0
 have HC1_0:=Aside0.mk hc1_0
 clear hr1_0 hc1_0
 have HR1_1:=Aside0.mk hr1_1
 have HC1_1:=Aside0.mk hc1_1
 clear hr1_1 hc1_1
 have HB:=Aside0.mk (Below.refl w.heap.size w)
 have H:((spec_l02Join.f k l0_0 l1_0).bind fun t549=>(spec_l03Sync.l0 k 0 l0_0 l0_1 l1_0 l1_1 t549 ([]:List (S91))))=some (r1,r2,r3,r4,r5):=h
 clear h
 replace H:=Option.bind_eq_some_iff.mp H
 obtain ⟨t549,A30,H⟩:=H
 replace H:(spec_l03Sync.l0 k 0 l0_0 l0_1 l1_0 l1_1 t549 ([]:List (S91)))=some (r1,r2,r3,r4,r5):=H
 have A3:=Aside0.mk A30
 clear A30
 have H':=Aside0.mk H
 clear H
 go_enter Try.func61,Try.ntmps61
 go_wp2_with (first | ((with_reducible refine gd_ 2 ?_);refine be_ 2 #[.slice A0_0 l0_0.length c0_0,.slice A0_1 l0_1.length c0_1] 40 ?_;intro gb546 hg w4 hbox hb;refine as4_ (below_step (z4_ HB.out) hb) (hbox) ((z7_ HB.out:w.heap.size≤gb546)) ((z7_ HB.out:w.heap.size≤gb546)) ?_;clear HB;intro HB BK546 GW546 GE546;clear hb hbox hg) | ((with_reducible refine gd_ 3 ?_);refine be_ 3 #[.slice A1_0 l1_0.length c1_0,.slice A1_1 l1_1.length c1_1] 40 ?_;intro gb547 hg w5 hbox hb;refine as7_ (blkB_ BK546.out hb) (below_step (z5_ HB.out GE546.out) hb) (hbox) ((z10_ HB.out GE546.out:w.heap.size≤gb547)) ((z10_ HB.out GE546.out:w.heap.size≤gb547)) (neL_ BK546.out hg) (neG_ BK546.out hg) ?_;clear BK546 HB;intro BK546 HB BK547 GW547 GE547 NB546_547 NB547_546;clear hb hbox hg) | ((with_reducible refine gd_ 4 ?_);refine be_ 4 #[.slice none 0 0,.slice none 0 0,.int .i64 0,.int .i64 0,.int .i64 0] 58 ?_;intro gb548 hg w6 hbox hb;refine as10_ (blkB_ BK546.out hb) (blkB_ BK547.out hb) (below_step (z6_ HB.out GE546.out GE547.out) hb) (hbox) ((z23_ HB.out GE546.out GE547.out:w.heap.size≤gb548)) ((z23_ HB.out GE546.out GE547.out:w.heap.size≤gb548)) (neL_ BK546.out hg) (neG_ BK546.out hg) (neL_ BK547.out hg) (neG_ BK547.out hg) ?_;clear BK546 BK547 HB;intro BK546 BK547 HB BK548 GW548 GE548 NB546_548 NB548_546 NB547_548 NB548_547;clear hb hbox hg;have hnb7:=NB546_547.out;have hnc7:=NB547_546.out;have hnb8:=NB546_548.out;have hnc8:=NB548_546.out;have ⟨hcz9_0,hcz9_1,hfz9_0,hfz9_1⟩:=cz2_ BK546.out;have hnb10:=NB547_548.out;have hnc10:=NB548_547.out;have ⟨hcz11_0,hcz11_1,hfz11_0,hfz11_1⟩:=cz2_ BK547.out) | ((with_reducible refine gc_ 70 ?_);refine gl_ (some 12) Try.func70 #[.slice A0_0 l0_0.length c0_0,.slice A1_0 l1_0.length c1_0] ?_;(with_reducible refine (spec_l02Join.calls k _ _ l0_0 _ _ l1_0 t549 _ ?s1 ?s2 ?s3 ?s4 A3.out).mono ?_);(case s1=>repeat (first | exact (Kd.C_below HR0_0.out HB.out) | (with_reducible refine Kd.C_alloc ?_ _) | (with_reducible refine Kd.C_drewN ?_ _) | (with_reducible refine Kd.C_drew ?_)));(case s2=>exact HC0_0.out);(case s3=>repeat (first | exact (Kd.C_below HR1_0.out HB.out) | (with_reducible refine Kd.C_alloc ?_ _) | (with_reducible refine Kd.C_drewN ?_ _) | (with_reducible refine Kd.C_drew ?_)));(case s4=>exact HC1_0.out);rintro e w12 ⟨v550,rfl,ho0,hb⟩;refine ⟨_,rfl,?_⟩;refine as5_ (Kd.R_lower ho0 (below_size (z9_ HB.out GE546.out GE547.out GE548.out))) (blkB_ BK546.out hb) (blkB_ BK547.out hb) (blkB_ BK548.out hb) (below_step (z9_ HB.out GE546.out GE547.out GE548.out) hb) ?_;clear BK546 BK547 BK548 HB;intro HO551 BK546 BK547 BK548 HB;(try clear hb);(try clear ho0);obtain ⟨Ao13,co13,eo13⟩:=Kd.R_slice HO551.out;subst eo13) | ((with_reducible refine gd_ 5 ?_);refine be_ 5 #[.slice none 0 0,.slice none 0 0] 40 ?_;intro gb552 hg w14 hbox hb;refine as14_ (Kd.R_below (z0_ HO551.out) hb) (blkB_ BK546.out hb) (blkB_ BK547.out hb) (blkB_ BK548.out hb) (below_step (z9_ HB.out GE546.out GE547.out GE548.out) hb) (hbox) ((z38_ HB.out GE546.out GE547.out GE548.out:w.heap.size≤gb552)) ((z38_ HB.out GE546.out GE547.out GE548.out:w.heap.size≤gb552)) (neL_ BK546.out hg) (neG_ BK546.out hg) (neL_ BK547.out hg) (neG_ BK547.out hg) (neL_ BK548.out hg) (neG_ BK548.out hg) ?_;clear HO551 BK546 BK547 BK548 HB;intro HO551 BK546 BK547 BK548 HB BK552 GW552 GE552 NB546_552 NB552_546 NB547_552 NB552_547 NB548_552 NB552_548;clear hb hbox hg;have hnb15:=NB552_546.out;have hnc15:=NB546_552.out;have hnb16:=NB552_547.out;have hnc16:=NB547_552.out;have hnb17:=NB552_548.out;have hnc17:=NB548_552.out;have ⟨hcz18_0,hcz18_1,hfz18_0,hfz18_1⟩:=cz2_ BK552.out))
 go_loopg [6] k (fun kq v6 w'=>∃ (x6_1:Int) (x553001_1:List (S91)) (u553001:Value),v6 = .int .i64 x6_1∧Aside0 (spec_l03Sync.l0 kq x6_1 l0_0 l0_1 l1_0 l1_1 t549 x553001_1=some (r1,r2,r3,r4,r5))∧Aside0 (kq≤k)∧Aside0 (Kd.R k56 56 w' w.heap.size (fun _=>True) (.slice Ao13 t549.length co13) t549)∧Aside0 (Kd.R k91 91 w' w.heap.size (fun _=>True) u553001 x553001_1)∧Aside0 (w'.heap[gb546]? = some (.cells #[(.slice A0_0 l0_0.length c0_0),(.slice A0_1 l0_1.length c0_1)] 40 (0,0)))∧Aside0 (w'.heap[gb547]? = some (.cells #[(.slice A1_0 l1_0.length c1_0),(.slice A1_1 l1_1.length c1_1)] 40 (0,0)))∧Aside0 (w'.heap[gb548]? = some (.cells #[(.slice none 0 0),(.slice none 0 0),.int .i64 0,.int .i64 0,.int .i64 0] 58 (0,0)))∧Aside0 (w'.heap[gb552]? = some (.cells #[(.slice Ao13 t549.length co13),u553001] 40 (0,0)))∧Aside0 (Below w.heap.size w w'))
 case atStart=>exact ⟨(0),(([]:List (S91))),(.slice none 0 0),(z3_),H',⟨Nat.le_refl _⟩,⟨by (with_reducible repeat (first | apply Kd.R_alloc | apply Kd.R_drewN | apply Kd.R_drew));exact Kd.R_mono (rf2_ (Kd.R_types HO551.out BK552.out (by decide)) (fun _ hk=>hk.2)) (fun _ hk=>trivial)⟩,⟨z32_⟩,⟨z27_ NB546_552.out BK546.out⟩,⟨z27_ NB547_552.out BK547.out⟩,⟨z27_ NB548_552.out BK548.out⟩,⟨z34_ BK552.out⟩,⟨z14_ HB.out GE546.out GE547.out GE548.out GE552.out⟩⟩
 case round =>
  clear H'
  try clear c1
  try clear p2
  try clear c6
  try clear c7
  try clear c8
  try clear c10
  try clear c15
  try clear c16
  try clear c17
  try clear hcz11_0
  try clear hcz11_1
  try clear hcz18_0
  try clear hcz18_1
  try clear hcz9_0
  try clear hcz9_1
  try clear hfz11_0
  try clear hfz11_1
  try clear hfz18_0
  try clear hfz18_1
  try clear hfz9_0
  try clear hfz9_1
  obtain ⟨x6_1,x553001_1,u553001,rfl,HA,HK1,HO_553000,HO_553001,BK546,BK547,BK548,BK552,HB⟩:=hrel
  cases gk with
  | zero=>exact absurd HA.out (by simp [spec_l03Sync.l0])
  | succ k1 =>
   have H:=HA.out
   clear HA
   simp only [spec_l03Sync.l0] at H
   by_cases c19:x6_1<(l0_1.length:Int)
   ·rw [if_pos c19] at H
    have c19b0:decide (x6_1<(l0_1.length:Int))=true:=decide_eq_true c19
    clear c19
    have HC20:=Aside0.mk H
    clear H
    have hnb21:=NB546_547.out
    have hnc21:=NB547_546.out
    have hnb22:=NB546_548.out
    have hnc22:=NB548_546.out
    have hnb23:=NB546_552.out
    have hnc23:=NB552_546.out
    have ⟨hcz24_0,hcz24_1,hfz24_0,hfz24_1⟩:=cz2_ BK546.out
    go_upto_region 5 with (fail)
    go_cut [42] (fun v42 wc=>∃ (kq:Nat) (x42_19:Bool),v42 = .bool x42_19∧Aside0 (spec_l03Sync.j1 kq x6_1 x42_19 l0_0 l0_1 l1_0 l1_1 t549 x553001_1=some (r1,r2,r3,r4,r5))∧Aside0 (kq≤k1)∧Aside0 (Kd.R k56 56 wc w.heap.size (fun _=>True) (.slice Ao13 t549.length co13) t549)∧Aside0 (Kd.R k91 91 wc w.heap.size (fun _=>True) u553001 x553001_1)∧Aside0 (wc.heap[gb546]? = some (.cells #[(.slice A0_0 l0_0.length c0_0),(.slice A0_1 l0_1.length c0_1)] 40 (0,0)))∧Aside0 (wc.heap[gb547]? = some (.cells #[(.slice A1_0 l1_0.length c1_0),(.slice A1_1 l1_1.length c1_1)] 40 (0,0)))∧Aside0 (wc.heap[gb548]? = some (.cells #[(.slice none 0 0),(.slice none 0 0),.int .i64 0,.int .i64 0,.int .i64 0] 58 (0,0)))∧Aside0 (wc.heap[gb552]? = some (.cells #[(.slice Ao13 t549.length co13),u553001] 40 (0,0)))∧Aside0 (Below w.heap.size w wc))
    case first =>
     have H:=HC20.out
     clear HC20
     by_cases c25:0≤x6_1
     ·rw [if_pos c25] at H
      have c25b0:decide (0≤x6_1)=true:=decide_eq_true c25
      clear c25
      (first | rw [c25b0] | (simp only [i64_w,i32_w];rw [c25b0]) | skip)
      replace H:=Option.bind_eq_some_iff.mp H
      obtain ⟨t554,A260,H⟩:=H
      replace H:(if t554≥0 then (spec_l03Sync.j1 k1 x6_1 true l0_0 l0_1 l1_0 l1_1 t549 x553001_1) else ((spec_SeenHas.f k1 l1_0 ((rd_T91 l0_1 x6_1).f0.f0) ((rd_T91 l0_1 x6_1).f0.f1)).bind fun t556=>(spec_l03Sync.j1 k1 x6_1 (!t556) l0_0 l0_1 l1_0 l1_1 t549 x553001_1)))=some (r1,r2,r3,r4,r5):=H
      have A26:=Aside0.mk A260
      clear A260
      by_cases c27:t554≥0
      ·rw [if_pos c27] at H
       have c27b0:decide (0≤t554)=true:=decide_eq_true c27
       clear c27
       have H':=Aside0.mk H
       clear H
       try go_wp2
       refine as7_ (Kd.R_drew HO_553000.out) (Kd.R_drew HO_553001.out) (blk_drew BK546.out) (blk_drew BK547.out) (blk_drew BK548.out) (blk_drew BK552.out) (below_drew1 HB.out) ?_
       clear HO_553000 HO_553001 BK546 BK547 BK548 BK552 HB
       intro HO_553000 HO_553001 BK546 BK547 BK548 BK552 HB
       have p553:0≤(x6_1:Int):=of_decide_eq_true (z2_)
       have q553:x6_1<(l0_1.length:Int):=of_decide_eq_true (z2_)
       obtain ⟨ad553,e553,hx553_0,hx553_1,hx553_2,hx553_3⟩:=at_T91 HR0_1.out x6_1 p553 q553
       have hw553_3:=hx553_3
       have hw553_2:=hx553_2
       have hw553_1:=hx553_1
       have hw553_0:=hx553_0
       cases e553
       replace hx553_0:=(HB.out.cell (World.block_lt_of_cell? w _ hx553_0)).trans hx553_0
       replace hx553_1:=(HB.out.cell (World.block_lt_of_cell? w _ hx553_1)).trans hx553_1
       replace hx553_2:=(HB.out.cell (World.block_lt_of_cell? w _ hx553_2)).trans hx553_2
       replace hx553_3:=(HB.out.cell (World.block_lt_of_cell? w _ hx553_3)).trans hx553_3
       replace p553:=eq_true p553
       replace q553:=eq_true q553
       refine start_ (n:=22) (S:=fun w'=>w'.cell? ⟨gb547,0,none⟩=some (.slice A1_0 l1_0.length c1_0)∧w'.cell? ⟨gb547,1,none⟩=some (.slice A1_1 l1_1.length c1_1)∧w'.cell? ⟨gb546,0,none⟩=some (.slice A0_0 l0_0.length c0_0)∧w'.cell? ⟨gb546,1,none⟩=some (.slice (some ad553) l0_1.length c0_1)∧w'.cell? (ad553.add ((x6_1).toNat*4))=some (.int .i64 ((rd_T91 l0_1 x6_1).f0.f0))∧w'.cell? ⟨(ad553.add ((x6_1).toNat*4)).block,(ad553.add ((x6_1).toNat*4)).off+1,none⟩=some (.int .i64 ((rd_T91 l0_1 x6_1).f0.f1))∧w'.cell? ⟨(ad553.add ((x6_1).toNat*4)).block,(ad553.add ((x6_1).toNat*4)).off+2,none⟩=some (.bool ((rd_T91 l0_1 x6_1).f1))∧w'.cell? ⟨(ad553.add ((x6_1).toNat*4)).block,(ad553.add ((x6_1).toNat*4)).off+3,none⟩=some (.string ((rd_T91 l0_1 x6_1).f2))) (ds:=[]) spec_l03Sync.q0 (by kernel_rfl) rfl rfl (cj2_ BK547.out (cj2_ BK546.out ⟨((HB.out.cell (World.block_lt_of_cell? w _ hw553_0)).trans hw553_0),⟨((HB.out.cell (World.block_lt_of_cell? w _ hw553_1)).trans hw553_1),⟨((HB.out.cell (World.block_lt_of_cell? w _ hw553_2)).trans hw553_2),((HB.out.cell (World.block_lt_of_cell? w _ hw553_3)).trans hw553_3)⟩⟩⟩)) (fun hHeld=>?_);refine with_tabW spec_l03Sync.tab5 spec_l03Sync.bits5 (fun HT_ HW_=>?_)
       generalize wr.drew=w28 at HO_553000 HO_553001 BK546 BK547 BK548 BK552 HB hx553_0 hx553_1 hx553_2 hx553_3 hHeld ⊢
       refine pu_ 0 21 spec_l03Sync.q1 HT_.out ?_
       refine pu_ 2 23 spec_l03Sync.q2 HT_.out ?_
       refine pu_ 4 25 spec_l03Sync.q3 HT_.out ?_
       refine tk8_ 1 22 spec_l03Sync.q4 HT_.out HW_.out hHeld ?_
       refine tk8_ 3 24 spec_l03Sync.q5 HT_.out HW_.out hHeld ?_
       refine pu_ 5 26 spec_l03Sync.q6 HT_.out ?_
       refine pu_ 6 27 spec_l03Sync.q7 HT_.out ?_
       refine tk8_ 7 28 spec_l03Sync.q8 HT_.out HW_.out hHeld ?_
       refine o1_ 8 29 spec_l03Sync.q9 HT_.out (fun K hK=>?_)
       refine gs_ Try.func93 #[.slice A1_1 l1_1.length c1_1,.agg #[.int .i64 ((rd_T91 l0_1 x6_1).f0.f0),.int .i64 ((rd_T91 l0_1 x6_1).f0.f1)]] ?_
       with_reducible refine (spec_l03At.calls k1 _ _ l1_1 ((rd_T91 l0_1 x6_1).f0.f0) ((rd_T91 l0_1 x6_1).f0.f1) t554 _ ?s1 ?s2 A26.out).mono ?_
       (case s1=>repeat (first | exact (Kd.C_below HR1_1.out HB.out) | (with_reducible refine Kd.C_alloc ?_ _) | (with_reducible refine Kd.C_drewN ?_ _) | (with_reducible refine Kd.C_drew ?_)))
       (case s2=>exact HC1_1.out)
       rintro e w29 ⟨rfl,hb⟩
       refine ⟨_,rfl,?_⟩
       refine as7_ (Kd.R_below (z0_ HO_553000.out) hb) (Kd.R_below (z0_ HO_553001.out) hb) (blkB_ BK546.out hb) (blkB_ BK547.out hb) (blkB_ BK548.out hb) (blkB_ BK552.out hb) (below_step (z14_ HB.out GE546.out GE547.out GE548.out GE552.out) hb) ?_
       clear HO_553000 HO_553001 BK546 BK547 BK548 BK552 HB
       intro HO_553000 HO_553001 BK546 BK547 BK548 BK552 HB
       (try clear hb)
       refine hK.out _ _ (cj2_ BK547.out (cj2_ BK546.out ⟨((HB.out.cell (World.block_lt_of_cell? w _ hw553_0)).trans hw553_0),⟨((HB.out.cell (World.block_lt_of_cell? w _ hw553_1)).trans hw553_1),⟨((HB.out.cell (World.block_lt_of_cell? w _ hw553_2)).trans hw553_2),((HB.out.cell (World.block_lt_of_cell? w _ hw553_3)).trans hw553_3)⟩⟩⟩)) (fun hHeld=>?_)
       clear hK K
       refine nm_ 29 ?_
       refine pu_ 9 30 spec_l03Sync.q10 HT_.out ?_
       refine pu_ 10 31 spec_l03Sync.q11 HT_.out ?_
       refine pn_ 11 32 spec_l03Sync.q12 HT_.out ?_
       refine pn_ 12 33 spec_l03Sync.q13 HT_.out ?_
       refine pn_ 13 34 spec_l03Sync.q14 HT_.out ?_
       refine pn_ 14 35 spec_l03Sync.q15 HT_.out ?_
       refine pn_ 15 36 spec_l03Sync.q16 HT_.out ?_
       refine pn_ 16 37 spec_l03Sync.q17 HT_.out ?_
       refine pn_ 17 38 spec_l03Sync.q18 HT_.out ?_
       refine pn_ 18 39 spec_l03Sync.q19 HT_.out ?_
       refine pn_ 19 40 spec_l03Sync.q20 HT_.out ?_
       refine pn_ 20 41 spec_l03Sync.q21 HT_.out ?_
       refine pu_ 21 42 spec_l03Sync.q22 HT_.out ?_
       refine done_ (done_of HT_.out (by kernel_rfl)) ?_
       try go_wp2
       go_meet
       case rel=>exact ⟨_,(true),(z3_),H',⟨z33_ HK1.out⟩,⟨z0_ HO_553000.out⟩,⟨z0_ HO_553001.out⟩,⟨z1_ BK546.out⟩,⟨z1_ BK547.out⟩,⟨z1_ BK548.out⟩,⟨z1_ BK552.out⟩,⟨z14_ HB.out GE546.out GE547.out GE548.out GE552.out⟩⟩
      ·rw [if_neg c27] at H
       have c27b0:decide (0≤t554)=false:=decide_eq_false c27
       clear c27
       replace H:=Option.bind_eq_some_iff.mp H
       obtain ⟨t556,A300,H⟩:=H
       replace H:(spec_l03Sync.j1 k1 x6_1 (!t556) l0_0 l0_1 l1_0 l1_1 t549 x553001_1)=some (r1,r2,r3,r4,r5):=H
       have A30:=Aside0.mk A300
       clear A300
       have H':=Aside0.mk H
       clear H
       try go_wp2
       refine as7_ (Kd.R_drew HO_553000.out) (Kd.R_drew HO_553001.out) (blk_drew BK546.out) (blk_drew BK547.out) (blk_drew BK548.out) (blk_drew BK552.out) (below_drew1 HB.out) ?_
       clear HO_553000 HO_553001 BK546 BK547 BK548 BK552 HB
       intro HO_553000 HO_553001 BK546 BK547 BK548 BK552 HB
       have p553:0≤(x6_1:Int):=of_decide_eq_true (z2_)
       have q553:x6_1<(l0_1.length:Int):=of_decide_eq_true (z2_)
       obtain ⟨ad553,e553,hx553_0,hx553_1,hx553_2,hx553_3⟩:=at_T91 HR0_1.out x6_1 p553 q553
       have hw553_3:=hx553_3
       have hw553_2:=hx553_2
       have hw553_1:=hx553_1
       have hw553_0:=hx553_0
       cases e553
       replace hx553_0:=(HB.out.cell (World.block_lt_of_cell? w _ hx553_0)).trans hx553_0
       replace hx553_1:=(HB.out.cell (World.block_lt_of_cell? w _ hx553_1)).trans hx553_1
       replace hx553_2:=(HB.out.cell (World.block_lt_of_cell? w _ hx553_2)).trans hx553_2
       replace hx553_3:=(HB.out.cell (World.block_lt_of_cell? w _ hx553_3)).trans hx553_3
       replace p553:=eq_true p553
       replace q553:=eq_true q553
       have p555:0≤(x6_1:Int):=of_decide_eq_true (z2_)
       have q555:x6_1<(l0_1.length:Int):=of_decide_eq_true (z2_)
       obtain ⟨ad555,e555,hx555_0,hx555_1,hx555_2,hx555_3⟩:=at_T91 HR0_1.out x6_1 p555 q555
       have hw555_3:=hx555_3
       have hw555_2:=hx555_2
       have hw555_1:=hx555_1
       have hw555_0:=hx555_0
       obtain rfl:ad553=ad555:=(by injection e555)
       replace hx555_0:=(HB.out.cell (World.block_lt_of_cell? w _ hx555_0)).trans hx555_0
       replace hx555_1:=(HB.out.cell (World.block_lt_of_cell? w _ hx555_1)).trans hx555_1
       replace hx555_2:=(HB.out.cell (World.block_lt_of_cell? w _ hx555_2)).trans hx555_2
       replace hx555_3:=(HB.out.cell (World.block_lt_of_cell? w _ hx555_3)).trans hx555_3
       replace p555:=eq_true p555
       replace q555:=eq_true q555
       refine start_ (n:=22) (S:=fun w'=>w'.cell? ⟨gb547,0,none⟩=some (.slice A1_0 l1_0.length c1_0)∧w'.cell? ⟨gb547,1,none⟩=some (.slice A1_1 l1_1.length c1_1)∧w'.cell? ⟨gb546,0,none⟩=some (.slice A0_0 l0_0.length c0_0)∧w'.cell? ⟨gb546,1,none⟩=some (.slice (some ad553) l0_1.length c0_1)∧w'.cell? (ad553.add ((x6_1).toNat*4))=some (.int .i64 ((rd_T91 l0_1 x6_1).f0.f0))∧w'.cell? ⟨(ad553.add ((x6_1).toNat*4)).block,(ad553.add ((x6_1).toNat*4)).off+1,none⟩=some (.int .i64 ((rd_T91 l0_1 x6_1).f0.f1))∧w'.cell? ⟨(ad553.add ((x6_1).toNat*4)).block,(ad553.add ((x6_1).toNat*4)).off+2,none⟩=some (.bool ((rd_T91 l0_1 x6_1).f1))∧w'.cell? ⟨(ad553.add ((x6_1).toNat*4)).block,(ad553.add ((x6_1).toNat*4)).off+3,none⟩=some (.string ((rd_T91 l0_1 x6_1).f2))∧w'.cell? (ad553.add ((x6_1).toNat*4))=some (.int .i64 ((rd_T91 l0_1 x6_1).f0.f0))∧w'.cell? ⟨(ad553.add ((x6_1).toNat*4)).block,(ad553.add ((x6_1).toNat*4)).off+1,none⟩=some (.int .i64 ((rd_T91 l0_1 x6_1).f0.f1))∧w'.cell? ⟨(ad553.add ((x6_1).toNat*4)).block,(ad553.add ((x6_1).toNat*4)).off+2,none⟩=some (.bool ((rd_T91 l0_1 x6_1).f1))∧w'.cell? ⟨(ad553.add ((x6_1).toNat*4)).block,(ad553.add ((x6_1).toNat*4)).off+3,none⟩=some (.string ((rd_T91 l0_1 x6_1).f2))) (ds:=[]) spec_l03Sync.q0 (by kernel_rfl) rfl rfl (cj2_ BK547.out (cj2_ BK546.out ⟨((HB.out.cell (World.block_lt_of_cell? w _ hw553_0)).trans hw553_0),⟨((HB.out.cell (World.block_lt_of_cell? w _ hw553_1)).trans hw553_1),⟨((HB.out.cell (World.block_lt_of_cell? w _ hw553_2)).trans hw553_2),⟨((HB.out.cell (World.block_lt_of_cell? w _ hw553_3)).trans hw553_3),⟨((HB.out.cell (World.block_lt_of_cell? w _ hw555_0)).trans hw555_0),⟨((HB.out.cell (World.block_lt_of_cell? w _ hw555_1)).trans hw555_1),⟨((HB.out.cell (World.block_lt_of_cell? w _ hw555_2)).trans hw555_2),((HB.out.cell (World.block_lt_of_cell? w _ hw555_3)).trans hw555_3)⟩⟩⟩⟩⟩⟩⟩)) (fun hHeld=>?_);refine with_tabW spec_l03Sync.tab5 spec_l03Sync.bits5 (fun HT_ HW_=>?_)
       generalize wr.drew=w31 at HO_553000 HO_553001 BK546 BK547 BK548 BK552 HB hx553_0 hx553_1 hx553_2 hx553_3 hx555_0 hx555_1 hx555_2 hx555_3 hHeld ⊢
       refine pu_ 0 21 spec_l03Sync.q1 HT_.out ?_
       refine pu_ 2 23 spec_l03Sync.q2 HT_.out ?_
       refine pu_ 4 25 spec_l03Sync.q3 HT_.out ?_
       refine tk12_ 1 22 spec_l03Sync.q4 HT_.out HW_.out hHeld ?_
       refine tk12_ 3 24 spec_l03Sync.q5 HT_.out HW_.out hHeld ?_
       refine pu_ 5 26 spec_l03Sync.q6 HT_.out ?_
       refine pu_ 6 27 spec_l03Sync.q7 HT_.out ?_
       refine tk12_ 7 28 spec_l03Sync.q8 HT_.out HW_.out hHeld ?_
       refine o1_ 8 29 spec_l03Sync.q9 HT_.out (fun K hK=>?_)
       refine gs_ Try.func93 #[.slice A1_1 l1_1.length c1_1,.agg #[.int .i64 ((rd_T91 l0_1 x6_1).f0.f0),.int .i64 ((rd_T91 l0_1 x6_1).f0.f1)]] ?_
       with_reducible refine (spec_l03At.calls k1 _ _ l1_1 ((rd_T91 l0_1 x6_1).f0.f0) ((rd_T91 l0_1 x6_1).f0.f1) t554 _ ?s1 ?s2 A26.out).mono ?_
       (case s1=>repeat (first | exact (Kd.C_below HR1_1.out HB.out) | (with_reducible refine Kd.C_alloc ?_ _) | (with_reducible refine Kd.C_drewN ?_ _) | (with_reducible refine Kd.C_drew ?_)))
       (case s2=>exact HC1_1.out)
       rintro e w32 ⟨rfl,hb⟩
       refine ⟨_,rfl,?_⟩
       refine as7_ (Kd.R_below (z0_ HO_553000.out) hb) (Kd.R_below (z0_ HO_553001.out) hb) (blkB_ BK546.out hb) (blkB_ BK547.out hb) (blkB_ BK548.out hb) (blkB_ BK552.out hb) (below_step (z14_ HB.out GE546.out GE547.out GE548.out GE552.out) hb) ?_
       clear HO_553000 HO_553001 BK546 BK547 BK548 BK552 HB
       intro HO_553000 HO_553001 BK546 BK547 BK548 BK552 HB
       (try clear hb)
       refine hK.out _ _ (cj2_ BK547.out (cj2_ BK546.out ⟨((HB.out.cell (World.block_lt_of_cell? w _ hw553_0)).trans hw553_0),⟨((HB.out.cell (World.block_lt_of_cell? w _ hw553_1)).trans hw553_1),⟨((HB.out.cell (World.block_lt_of_cell? w _ hw553_2)).trans hw553_2),⟨((HB.out.cell (World.block_lt_of_cell? w _ hw553_3)).trans hw553_3),⟨((HB.out.cell (World.block_lt_of_cell? w _ hw555_0)).trans hw555_0),⟨((HB.out.cell (World.block_lt_of_cell? w _ hw555_1)).trans hw555_1),⟨((HB.out.cell (World.block_lt_of_cell? w _ hw555_2)).trans hw555_2),((HB.out.cell (World.block_lt_of_cell? w _ hw555_3)).trans hw555_3)⟩⟩⟩⟩⟩⟩⟩)) (fun hHeld=>?_)
       clear hK K
       refine nm_ 29 ?_
       refine pu_ 9 30 spec_l03Sync.q10 HT_.out ?_
       refine pu_ 10 31 spec_l03Sync.q11 HT_.out ?_
       refine pu_ 11 32 spec_l03Sync.q12 HT_.out ?_
       refine pu_ 13 34 spec_l03Sync.q23 HT_.out ?_
       refine pu_ 15 36 spec_l03Sync.q24 HT_.out ?_
       refine tk12_ 12 33 spec_l03Sync.q25 HT_.out HW_.out hHeld ?_
       refine tk12_ 14 35 spec_l03Sync.q16 HT_.out HW_.out hHeld ?_
       refine pu_ 16 37 spec_l03Sync.q17 HT_.out ?_
       refine pu_ 17 38 spec_l03Sync.q18 HT_.out ?_
       refine tk12_ 18 39 spec_l03Sync.q19 HT_.out HW_.out hHeld ?_
       refine o1_ 19 40 spec_l03Sync.q20 HT_.out (fun K hK=>?_)
       refine gs_ Try.func72 #[.slice A1_0 l1_0.length c1_0,.agg #[.int .i64 ((rd_T91 l0_1 x6_1).f0.f0),.int .i64 ((rd_T91 l0_1 x6_1).f0.f1)]] ?_
       with_reducible refine (spec_SeenHas.calls k1 _ _ l1_0 ((rd_T91 l0_1 x6_1).f0.f0) ((rd_T91 l0_1 x6_1).f0.f1) t556 _ ?s1 ?s2 A30.out).mono ?_
       (case s1=>repeat (first | exact (Kd.C_below HR1_0.out HB.out) | (with_reducible refine Kd.C_alloc ?_ _) | (with_reducible refine Kd.C_drewN ?_ _) | (with_reducible refine Kd.C_drew ?_)))
       (case s2=>exact HC1_0.out)
       rintro e w33 ⟨rfl,hb⟩
       refine ⟨_,rfl,?_⟩
       refine as7_ (Kd.R_below (z0_ HO_553000.out) hb) (Kd.R_below (z0_ HO_553001.out) hb) (blkB_ BK546.out hb) (blkB_ BK547.out hb) (blkB_ BK548.out hb) (blkB_ BK552.out hb) (below_step (z14_ HB.out GE546.out GE547.out GE548.out GE552.out) hb) ?_
       clear HO_553000 HO_553001 BK546 BK547 BK548 BK552 HB
       intro HO_553000 HO_553001 BK546 BK547 BK548 BK552 HB
       (try clear hb)
       refine hK.out _ _ (cj2_ BK547.out (cj2_ BK546.out ⟨((HB.out.cell (World.block_lt_of_cell? w _ hw553_0)).trans hw553_0),⟨((HB.out.cell (World.block_lt_of_cell? w _ hw553_1)).trans hw553_1),⟨((HB.out.cell (World.block_lt_of_cell? w _ hw553_2)).trans hw553_2),⟨((HB.out.cell (World.block_lt_of_cell? w _ hw553_3)).trans hw553_3),⟨((HB.out.cell (World.block_lt_of_cell? w _ hw555_0)).trans hw555_0),⟨((HB.out.cell (World.block_lt_of_cell? w _ hw555_1)).trans hw555_1),⟨((HB.out.cell (World.block_lt_of_cell? w _ hw555_2)).trans hw555_2),((HB.out.cell (World.block_lt_of_cell? w _ hw555_3)).trans hw555_3)⟩⟩⟩⟩⟩⟩⟩)) (fun hHeld=>?_)
       clear hK K
       refine nm_ 40 ?_
       refine pu_ 20 41 spec_l03Sync.q21 HT_.out ?_
       refine pu_ 21 42 spec_l03Sync.q22 HT_.out ?_
       refine done_ (done_of HT_.out (by kernel_rfl)) ?_
       try go_wp2
       go_meet
       case rel=>exact ⟨_,(!t556),(z3_),H',⟨z33_ HK1.out⟩,⟨z0_ HO_553000.out⟩,⟨z0_ HO_553001.out⟩,⟨z1_ BK546.out⟩,⟨z1_ BK547.out⟩,⟨z1_ BK548.out⟩,⟨z1_ BK552.out⟩,⟨z14_ HB.out GE546.out GE547.out GE548.out GE552.out⟩⟩
     ·rw [if_neg c25] at H
      exact absurd H (by simp)
    case rest =>
     clear HC20
     try clear c1
     try clear c2
     try clear p2
     try clear p5
     try clear q5
     try clear hx5
     try clear c6
     try clear c7
     try clear c8
     try clear c9
     try clear c10
     try clear c15
     try clear c16
     try clear c17
     try clear c19
     try clear c19b0
     try clear c21
     try clear c22
     try clear c23
     try clear c25
     try clear c25b0
     try clear c27
     try clear c27b0
     try clear hcz11_0
     try clear hcz11_1
     try clear hcz18_0
     try clear hcz18_1
     try clear hcz24_0
     try clear hcz24_1
     try clear hcz9_0
     try clear hcz9_1
     try clear hfz11_0
     try clear hfz11_1
     try clear hfz18_0
     try clear hfz18_1
     try clear hfz24_0
     try clear hfz24_1
     try clear hfz9_0
     try clear hfz9_1
     try clear hx553_0
     try clear hx553_1
     try clear hx553_2
     try clear hx553_3
     try clear hx555_0
     try clear hx555_1
     try clear hx555_2
     try clear hx555_3
     try clear p2
     try clear p553
     try clear p555
     try clear q553
     try clear q555
     obtain ⟨kq,x42_19,rfl,HA,HJ19,HO_553000,HO_553001,BK546,BK547,BK548,BK552,HB⟩:=hcut
     cases kq with
     | zero=>exact absurd HA.out (by simp [spec_l03Sync.j1])
     | succ kj19 =>
      have H:=HA.out
      clear HA
      simp only [spec_l03Sync.j1] at H
      by_cases c34:x42_19=true
      ·subst c34
       have H1:(if 0≤x6_1 then (if x6_1<(l0_1.length:Int) then ((spec_l03In.f kj19 x553001_1 ((rd_T91 l0_1 x6_1).f0.f0) ((rd_T91 l0_1 x6_1).f0.f1) ((rd_T91 l0_1 x6_1).f1) ((rd_T91 l0_1 x6_1).f2)).bind fun t558=>(spec_l03Sync.l0 kj19 (wrap64 (x6_1+1)) l0_0 l0_1 l1_0 l1_1 t549 t558)) else (none)) else (none))=some (r1,r2,r3,r4,r5):=by rw [if_pos rfl] at H;exact H
       clear H
       have H:=H1
       clear H1
       by_cases c35:0≤x6_1
       ·rw [if_pos c35] at H
        have c35b0:decide (0≤x6_1)=true:=decide_eq_true c35
        clear c35
        by_cases c36:x6_1<(l0_1.length:Int)
        ·rw [if_pos c36] at H
         have c36b0:decide (x6_1<(l0_1.length:Int))=true:=decide_eq_true c36
         clear c36
         replace H:=Option.bind_eq_some_iff.mp H
         obtain ⟨t558,A370,H⟩:=H
         replace H:(spec_l03Sync.l0 kj19 (wrap64 (x6_1+1)) l0_0 l0_1 l1_0 l1_1 t549 t558)=some (r1,r2,r3,r4,r5):=H
         have A37:=Aside0.mk A370
         clear A370
         have H':=Aside0.mk H
         clear H
         try go_wp2
         refine as7_ (Kd.R_drew HO_553000.out) (Kd.R_drew HO_553001.out) (blk_drew BK546.out) (blk_drew BK547.out) (blk_drew BK548.out) (blk_drew BK552.out) (below_drew1 HB.out) ?_
         clear HO_553000 HO_553001 BK546 BK547 BK548 BK552 HB
         intro HO_553000 HO_553001 BK546 BK547 BK548 BK552 HB
         have p557:0≤(x6_1:Int):=of_decide_eq_true (z2_)
         have q557:x6_1<(l0_1.length:Int):=of_decide_eq_true (z2_)
         obtain ⟨ad557,e557,hx557_0,hx557_1,hx557_2,hx557_3⟩:=at_T91 HR0_1.out x6_1 p557 q557
         have hw557_3:=hx557_3
         have hw557_2:=hx557_2
         have hw557_1:=hx557_1
         have hw557_0:=hx557_0
         cases e557
         replace hx557_0:=(HB.out.cell (World.block_lt_of_cell? w _ hx557_0)).trans hx557_0
         replace hx557_1:=(HB.out.cell (World.block_lt_of_cell? w _ hx557_1)).trans hx557_1
         replace hx557_2:=(HB.out.cell (World.block_lt_of_cell? w _ hx557_2)).trans hx557_2
         replace hx557_3:=(HB.out.cell (World.block_lt_of_cell? w _ hx557_3)).trans hx557_3
         replace p557:=eq_true p557
         replace q557:=eq_true q557
         obtain ⟨Ao39,co39,eo39⟩:=Kd.R_slice HO_553001.out
         (first | subst eo39 | (injection eo39 with f1_ f2_ f3_;have f4_:=f1_.symm;have f5_:=f3_.symm;clear f1_ f2_ f3_;subst f4_;subst f5_))
         refine start_ (n:=10) (S:=fun w'=>w'.cell? ⟨gb552,0,none⟩=some (.slice Ao13 t549.length co13)∧w'.cell? ⟨gb552,1,none⟩=some (.slice Ao39 x553001_1.length co39)∧w'.cell? ⟨gb546,0,none⟩=some (.slice A0_0 l0_0.length c0_0)∧w'.cell? ⟨gb546,1,none⟩=some (.slice (some ad557) l0_1.length c0_1)∧w'.cell? (ad557.add ((x6_1).toNat*4))=some (.int .i64 ((rd_T91 l0_1 x6_1).f0.f0))∧w'.cell? ⟨(ad557.add ((x6_1).toNat*4)).block,(ad557.add ((x6_1).toNat*4)).off+1,none⟩=some (.int .i64 ((rd_T91 l0_1 x6_1).f0.f1))∧w'.cell? ⟨(ad557.add ((x6_1).toNat*4)).block,(ad557.add ((x6_1).toNat*4)).off+2,none⟩=some (.bool ((rd_T91 l0_1 x6_1).f1))∧w'.cell? ⟨(ad557.add ((x6_1).toNat*4)).block,(ad557.add ((x6_1).toNat*4)).off+3,none⟩=some (.string ((rd_T91 l0_1 x6_1).f2))) (ds:=[9]) #[O,O,O,O,O,O,O,O,O,O] (by kernel_rfl) rfl rfl (cj2_ BK552.out (cj2_ BK546.out ⟨((HB.out.cell (World.block_lt_of_cell? w _ hw557_0)).trans hw557_0),⟨((HB.out.cell (World.block_lt_of_cell? w _ hw557_1)).trans hw557_1),⟨((HB.out.cell (World.block_lt_of_cell? w _ hw557_2)).trans hw557_2),((HB.out.cell (World.block_lt_of_cell? w _ hw557_3)).trans hw557_3)⟩⟩⟩)) (fun hHeld=>?_);refine with_tabW spec_l03Sync.tab6 spec_l03Sync.bits6 (fun HT_ HW_=>?_)
         generalize wc.drew=w38 at HO_553000 HO_553001 BK546 BK547 BK548 BK552 HB hx557_0 hx557_1 hx557_2 hx557_3 hHeld ⊢
         refine pu_ 0 43 #[I,O,O,O,O,O,O,O,O,O] HT_.out ?_
         refine pu_ 2 45 #[I,O,I,O,O,O,O,O,O,O] HT_.out ?_
         refine pu_ 4 47 #[I,O,I,O,I,O,O,O,O,O] HT_.out ?_
         refine tk8_ 1 44 #[I,I,I,O,I,O,O,O,O,O] HT_.out HW_.out hHeld ?_
         refine tk8_ 3 46 #[I,I,I,I,I,O,O,O,O,O] HT_.out HW_.out hHeld ?_
         refine pu_ 5 48 #[I,I,I,I,I,I,O,O,O,O] HT_.out ?_
         refine tk8_ 6 49 #[I,I,I,I,I,I,I,O,O,O] HT_.out HW_.out hHeld ?_
         refine o1_ 7 50 #[I,I,I,I,I,I,I,I,O,O] HT_.out (fun K hK=>?_)
         refine gs_ Try.func73 #[.slice Ao39 x553001_1.length co39,.agg #[.int .i64 ((rd_T91 l0_1 x6_1).f0.f0),.int .i64 ((rd_T91 l0_1 x6_1).f0.f1),.bool ((rd_T91 l0_1 x6_1).f1),.string ((rd_T91 l0_1 x6_1).f2)]] ?_
         with_reducible refine (spec_l03In.calls kj19 _ _ x553001_1 ((rd_T91 l0_1 x6_1).f0.f0) ((rd_T91 l0_1 x6_1).f0.f1) ((rd_T91 l0_1 x6_1).f1) ((rd_T91 l0_1 x6_1).f2) t558 _ ?s1 ?s2 A37.out).mono ?_
         (case s1=>repeat (first | exact (Kd.R_reads' HO_553001.out).2.2 | (with_reducible refine Kd.C_alloc ?_ _) | (with_reducible refine Kd.C_drewN ?_ _) | (with_reducible refine Kd.C_drew ?_)))
         (case s2=>exact (Kd.R_reads' HO_553001.out).2.1)
         rintro e w40 ⟨v559,rfl,ho0,hb⟩
         refine ⟨_,rfl,?_⟩
         refine as8_ (Kd.R_below (z0_ HO_553000.out) hb) (Kd.R_elder' (z0_ HO_553001.out) (Kd.R_base ho0) hb) (Kd.R_lower (Kd.R_new' ho0 (Kd.R_lt (z0_ HO_553001.out))) (below_size (z14_ HB.out GE546.out GE547.out GE548.out GE552.out))) (blkB_ BK546.out hb) (blkB_ BK547.out hb) (blkB_ BK548.out hb) (blkB_ BK552.out hb) (below_step (z14_ HB.out GE546.out GE547.out GE548.out GE552.out) hb) ?_
         clear HO_553000 HO_553001 BK546 BK547 BK548 BK552 HB
         intro HO_553000 HO_553001 HO560 BK546 BK547 BK548 BK552 HB
         (try clear hb)
         (try clear ho0)
         obtain ⟨Ao41,co41,eo41⟩:=Kd.R_slice HO560.out
         (first | subst eo41 | (injection eo41 with f1_ f2_ f3_;have f4_:=f1_.symm;have f5_:=f3_.symm;clear f1_ f2_ f3_;subst f4_;subst f5_))
         refine hK.out _ _ (cj2_ BK552.out (cj2_ BK546.out ⟨((HB.out.cell (World.block_lt_of_cell? w _ hw557_0)).trans hw557_0),⟨((HB.out.cell (World.block_lt_of_cell? w _ hw557_1)).trans hw557_1),⟨((HB.out.cell (World.block_lt_of_cell? w _ hw557_2)).trans hw557_2),((HB.out.cell (World.block_lt_of_cell? w _ hw557_3)).trans hw557_3)⟩⟩⟩)) (fun hHeld=>?_)
         clear hK K
         refine nm_ 50 ?_
         refine pu_ 8 51 #[I,I,I,I,I,I,I,I,I,O] HT_.out ?_
         refine last_ (i:=9) (N:=none) #[I,I,I,I,I,I,I,I,I,I] rfl rfl (one_of HT_.out (by kernel_rfl)) (by decide) (fun K hK=>?_)
         have hs42:w40.cell? ⟨gb552,1,none⟩=some (.slice Ao39 x553001_1.length co39):=(blk_cell BK552.out 1).trans rfl
         have hfs42:=blk_frozen BK552.out 1
         have hns42_0:=NB546_552.out
         have hns42_1:=NB547_552.out
         have hns42_2:=NB548_552.out
         have hms42_0:=NB552_546.out
         have hms42_1:=NB552_547.out
         have hms42_2:=NB552_548.out
         refine skip_ (w1:=?_) (by rfl) rfl ?_ ?_
         rotate_left
         ·go_simp
          rfl
         refine hK.out _ _ ?_
         clear hK K
         refine done_ (done_of HT_.out (by kernel_rfl)) ?_
         try go_wp2
         go_roundg kj19
         case measure=>have:=HK1.out;have:=HJ19.out;omega
         case rel=>exact ⟨(wrap64 (x6_1+1)),(t558),(.slice Ao41 t558.length co41),(z3_),H',⟨by have:=HK1.out;have:=HJ19.out;omega⟩,⟨by (with_reducible repeat (first | apply Kd.R_alloc | apply Kd.R_drewN | apply Kd.R_drew));exact Kd.R_mono (Kd.R_far (p:=⟨gb552,1,none⟩) (Kd.R_types HO_553000.out BK552.out (by decide)) (fun _ hk=>hk.2) (.slice Ao41 t558.length co41)) (fun _ hk=>trivial)⟩,⟨by (with_reducible repeat (first | apply Kd.R_alloc | apply Kd.R_drewN | apply Kd.R_drew));exact Kd.R_mono (Kd.R_far (p:=⟨gb552,1,none⟩) (Kd.R_types HO560.out BK552.out (by decide)) (fun _ hk=>hk.2) (.slice Ao41 t558.length co41)) (fun _ hk=>trivial)⟩,⟨z26_ NB546_552.out BK546.out⟩,⟨z26_ NB547_552.out BK547.out⟩,⟨z26_ NB548_552.out BK548.out⟩,⟨by (with_reducible repeat (first | refine blk_drewN ?_ _ | refine blk_drew ?_ | refine blk_alloc ?_ _));refine blk_put (cs:=#[.slice Ao13 t549.length co13,.slice Ao39 x553001_1.length co39]) ?_ 1 _ rfl;(with_reducible repeat (first | refine blk_drewN ?_ _ | refine blk_drew ?_ | refine blk_alloc ?_ _));exact BK552.out⟩,⟨z14_ HB.out GE546.out GE547.out GE548.out GE552.out⟩⟩
        ·rw [if_neg c36] at H
         exact absurd H (by simp)
       ·rw [if_neg c35] at H
        exact absurd H (by simp)
      ·replace c34:=Bool.eq_false_iff.mpr c34
       subst c34
       have H1:(spec_l03Sync.l0 kj19 (wrap64 (x6_1+1)) l0_0 l0_1 l1_0 l1_1 t549 x553001_1)=some (r1,r2,r3,r4,r5):=by rw [if_neg (show ¬ (false=true) by decide)] at H;exact H
       clear H
       have H:=H1
       clear H1
       have H':=Aside0.mk H
       clear H
       go_wp2
       go_roundg kj19
       case measure=>have:=HK1.out;have:=HJ19.out;omega
       case rel=>exact ⟨(wrap64 (x6_1+1)),(x553001_1),(u553001),(z3_),H',⟨by have:=HK1.out;have:=HJ19.out;omega⟩,⟨z0_ HO_553000.out⟩,⟨z0_ HO_553001.out⟩,⟨z1_ BK546.out⟩,⟨z1_ BK547.out⟩,⟨z1_ BK548.out⟩,⟨z1_ BK552.out⟩,⟨z14_ HB.out GE546.out GE547.out GE548.out GE552.out⟩⟩
   ·rw [if_neg c19] at H
    have c19b0:decide (x6_1<(l0_1.length:Int))=false:=decide_eq_false c19
    clear c19
    have H':=Aside0.mk H
    clear H
    have hnb43:=NB546_547.out
    have hnc43:=NB547_546.out
    have hnb44:=NB546_548.out
    have hnc44:=NB548_546.out
    have hnb45:=NB546_552.out
    have hnc45:=NB552_546.out
    have ⟨hcz46_0,hcz46_1,hfz46_0,hfz46_1⟩:=cz2_ BK546.out
    go_wp2
    go_loopg [7] k1 (fun kq v7 w'=>∃ (x7_2:Int) (x553001_2:List (S91)) (u553001:Value),v7 = .int .i64 x7_2∧Aside0 (spec_l03Sync.l1 kq x7_2 l0_0 l0_1 l1_0 l1_1 t549 x553001_2=some (r1,r2,r3,r4,r5))∧Aside0 (kq≤k1)∧Aside0 (Kd.R k56 56 w' w.heap.size (fun _=>True) (.slice Ao13 t549.length co13) t549)∧Aside0 (Kd.R k91 91 w' w.heap.size (fun _=>True) u553001 x553001_2)∧Aside0 (w'.heap[gb546]? = some (.cells #[(.slice A0_0 l0_0.length c0_0),(.slice A0_1 l0_1.length c0_1)] 40 (0,0)))∧Aside0 (w'.heap[gb547]? = some (.cells #[(.slice A1_0 l1_0.length c1_0),(.slice A1_1 l1_1.length c1_1)] 40 (0,0)))∧Aside0 (w'.heap[gb548]? = some (.cells #[(.slice none 0 0),(.slice none 0 0),.int .i64 0,.int .i64 0,.int .i64 0] 58 (0,0)))∧Aside0 (w'.heap[gb552]? = some (.cells #[(.slice Ao13 t549.length co13),u553001] 40 (0,0)))∧Aside0 (Below w.heap.size w w'))
    case atStart=>exact ⟨(0),(x553001_1),(u553001),(z3_),H',⟨Nat.le_refl _⟩,⟨z0_ HO_553000.out⟩,⟨z0_ HO_553001.out⟩,⟨z1_ BK546.out⟩,⟨z1_ BK547.out⟩,⟨z1_ BK548.out⟩,⟨z1_ BK552.out⟩,⟨z14_ HB.out GE546.out GE547.out GE548.out GE552.out⟩⟩
    case round =>
     clear H'
     try clear c1
     try clear c2
     try clear p2
     try clear c3
     try clear c4
     try clear p5
     try clear q5
     try clear hx5
     try clear c6
     try clear p6
     try clear c7
     try clear c8
     try clear c9
     try clear c10
     try clear c15
     try clear c16
     try clear c17
     try clear c19
     try clear c19b0
     try clear c21
     try clear c22
     try clear c23
     try clear c25
     try clear c25b0
     try clear c27
     try clear c27b0
     try clear c34
     try clear c35
     try clear c35b0
     try clear c36
     try clear c36b0
     try clear c43
     try clear c44
     try clear c45
     try clear hcz11_0
     try clear hcz11_1
     try clear hcz18_0
     try clear hcz18_1
     try clear hcz24_0
     try clear hcz24_1
     try clear hcz46_0
     try clear hcz46_1
     try clear hcz9_0
     try clear hcz9_1
     try clear hfz11_0
     try clear hfz11_1
     try clear hfz18_0
     try clear hfz18_1
     try clear hfz24_0
     try clear hfz24_1
     try clear hfz46_0
     try clear hfz46_1
     try clear hfz9_0
     try clear hfz9_1
     try clear hx553_0
     try clear hx553_1
     try clear hx553_2
     try clear hx553_3
     try clear hx555_0
     try clear hx555_1
     try clear hx555_2
     try clear hx555_3
     try clear hx557_0
     try clear hx557_1
     try clear hx557_2
     try clear hx557_3
     try clear p2
     try clear p5
     try clear p553
     try clear p555
     try clear p557
     try clear q5
     try clear q553
     try clear q555
     try clear q557
     obtain ⟨x7_2,x553001_2,u553001,rfl,HA,HK2,HO_553000,HO_553001,BK546,BK547,BK548,BK552,HB⟩:=hrel
     cases gk with
     | zero=>exact absurd HA.out (by simp [spec_l03Sync.l1])
     | succ k2 =>
      have H:=HA.out
      clear HA
      simp only [spec_l03Sync.l1] at H
      by_cases c47:x7_2<(l1_1.length:Int)
      ·rw [if_pos c47] at H
       have c47b0:decide (x7_2<(l1_1.length:Int))=true:=decide_eq_true c47
       clear c47
       have HC48:=Aside0.mk H
       clear H
       have hnb49:=NB547_546.out
       have hnc49:=NB546_547.out
       have hnb50:=NB547_548.out
       have hnc50:=NB548_547.out
       have hnb51:=NB547_552.out
       have hnc51:=NB552_547.out
       have ⟨hcz52_0,hcz52_1,hfz52_0,hfz52_1⟩:=cz2_ BK547.out
       go_upto_region 10 with (fail)
       go_cut [80] (fun v80 wc=>∃ (kq:Nat) (x80_47:Bool),v80 = .bool x80_47∧Aside0 (spec_l03Sync.j3 kq x7_2 x80_47 l0_0 l0_1 l1_0 l1_1 t549 x553001_2=some (r1,r2,r3,r4,r5))∧Aside0 (kq≤k2)∧Aside0 (Kd.R k56 56 wc w.heap.size (fun _=>True) (.slice Ao13 t549.length co13) t549)∧Aside0 (Kd.R k91 91 wc w.heap.size (fun _=>True) u553001 x553001_2)∧Aside0 (wc.heap[gb546]? = some (.cells #[(.slice A0_0 l0_0.length c0_0),(.slice A0_1 l0_1.length c0_1)] 40 (0,0)))∧Aside0 (wc.heap[gb547]? = some (.cells #[(.slice A1_0 l1_0.length c1_0),(.slice A1_1 l1_1.length c1_1)] 40 (0,0)))∧Aside0 (wc.heap[gb548]? = some (.cells #[(.slice none 0 0),(.slice none 0 0),.int .i64 0,.int .i64 0,.int .i64 0] 58 (0,0)))∧Aside0 (wc.heap[gb552]? = some (.cells #[(.slice Ao13 t549.length co13),u553001] 40 (0,0)))∧Aside0 (Below w.heap.size w wc))
       case first =>
        have H:=HC48.out
        clear HC48
        by_cases c53:0≤x7_2
        ·rw [if_pos c53] at H
         have c53b0:decide (0≤x7_2)=true:=decide_eq_true c53
         clear c53
         (first | rw [c53b0] | (simp only [i64_w,i32_w];rw [c53b0]) | skip)
         replace H:=Option.bind_eq_some_iff.mp H
         obtain ⟨t562,A540,H⟩:=H
         replace H:(if t562<0 then ((spec_SeenHas.f k2 l0_0 ((rd_T91 l1_1 x7_2).f0.f0) ((rd_T91 l1_1 x7_2).f0.f1)).bind fun t564=>(spec_l03Sync.j3 k2 x7_2 (!t564) l0_0 l0_1 l1_0 l1_1 t549 x553001_2)) else (spec_l03Sync.j3 k2 x7_2 false l0_0 l0_1 l1_0 l1_1 t549 x553001_2))=some (r1,r2,r3,r4,r5):=H
         have A54:=Aside0.mk A540
         clear A540
         by_cases c55:t562<0
         ·rw [if_pos c55] at H
          have c55b0:decide (t562<0)=true:=decide_eq_true c55
          clear c55
          replace H:=Option.bind_eq_some_iff.mp H
          obtain ⟨t564,A560,H⟩:=H
          replace H:(spec_l03Sync.j3 k2 x7_2 (!t564) l0_0 l0_1 l1_0 l1_1 t549 x553001_2)=some (r1,r2,r3,r4,r5):=H
          have A56:=Aside0.mk A560
          clear A560
          have H':=Aside0.mk H
          clear H
          try go_wp2
          refine as7_ (Kd.R_drew HO_553000.out) (Kd.R_drew HO_553001.out) (blk_drew BK546.out) (blk_drew BK547.out) (blk_drew BK548.out) (blk_drew BK552.out) (below_drew1 HB.out) ?_
          clear HO_553000 HO_553001 BK546 BK547 BK548 BK552 HB
          intro HO_553000 HO_553001 BK546 BK547 BK548 BK552 HB
          have p561:0≤(x7_2:Int):=of_decide_eq_true (z2_)
          have q561:x7_2<(l1_1.length:Int):=of_decide_eq_true (z2_)
          obtain ⟨ad561,e561,hx561_0,hx561_1,hx561_2,hx561_3⟩:=at_T91 HR1_1.out x7_2 p561 q561
          have hw561_3:=hx561_3
          have hw561_2:=hx561_2
          have hw561_1:=hx561_1
          have hw561_0:=hx561_0
          cases e561
          replace hx561_0:=(HB.out.cell (World.block_lt_of_cell? w _ hx561_0)).trans hx561_0
          replace hx561_1:=(HB.out.cell (World.block_lt_of_cell? w _ hx561_1)).trans hx561_1
          replace hx561_2:=(HB.out.cell (World.block_lt_of_cell? w _ hx561_2)).trans hx561_2
          replace hx561_3:=(HB.out.cell (World.block_lt_of_cell? w _ hx561_3)).trans hx561_3
          replace p561:=eq_true p561
          replace q561:=eq_true q561
          have p563:0≤(x7_2:Int):=of_decide_eq_true (z2_)
          have q563:x7_2<(l1_1.length:Int):=of_decide_eq_true (z2_)
          obtain ⟨ad563,e563,hx563_0,hx563_1,hx563_2,hx563_3⟩:=at_T91 HR1_1.out x7_2 p563 q563
          have hw563_3:=hx563_3
          have hw563_2:=hx563_2
          have hw563_1:=hx563_1
          have hw563_0:=hx563_0
          obtain rfl:ad561=ad563:=(by injection e563)
          replace hx563_0:=(HB.out.cell (World.block_lt_of_cell? w _ hx563_0)).trans hx563_0
          replace hx563_1:=(HB.out.cell (World.block_lt_of_cell? w _ hx563_1)).trans hx563_1
          replace hx563_2:=(HB.out.cell (World.block_lt_of_cell? w _ hx563_2)).trans hx563_2
          replace hx563_3:=(HB.out.cell (World.block_lt_of_cell? w _ hx563_3)).trans hx563_3
          replace p563:=eq_true p563
          replace q563:=eq_true q563
          refine start_ (n:=22) (S:=fun w'=>w'.cell? ⟨gb546,0,none⟩=some (.slice A0_0 l0_0.length c0_0)∧w'.cell? ⟨gb546,1,none⟩=some (.slice A0_1 l0_1.length c0_1)∧w'.cell? ⟨gb547,0,none⟩=some (.slice A1_0 l1_0.length c1_0)∧w'.cell? ⟨gb547,1,none⟩=some (.slice (some ad561) l1_1.length c1_1)∧w'.cell? (ad561.add ((x7_2).toNat*4))=some (.int .i64 ((rd_T91 l1_1 x7_2).f0.f0))∧w'.cell? ⟨(ad561.add ((x7_2).toNat*4)).block,(ad561.add ((x7_2).toNat*4)).off+1,none⟩=some (.int .i64 ((rd_T91 l1_1 x7_2).f0.f1))∧w'.cell? ⟨(ad561.add ((x7_2).toNat*4)).block,(ad561.add ((x7_2).toNat*4)).off+2,none⟩=some (.bool ((rd_T91 l1_1 x7_2).f1))∧w'.cell? ⟨(ad561.add ((x7_2).toNat*4)).block,(ad561.add ((x7_2).toNat*4)).off+3,none⟩=some (.string ((rd_T91 l1_1 x7_2).f2))∧w'.cell? (ad561.add ((x7_2).toNat*4))=some (.int .i64 ((rd_T91 l1_1 x7_2).f0.f0))∧w'.cell? ⟨(ad561.add ((x7_2).toNat*4)).block,(ad561.add ((x7_2).toNat*4)).off+1,none⟩=some (.int .i64 ((rd_T91 l1_1 x7_2).f0.f1))∧w'.cell? ⟨(ad561.add ((x7_2).toNat*4)).block,(ad561.add ((x7_2).toNat*4)).off+2,none⟩=some (.bool ((rd_T91 l1_1 x7_2).f1))∧w'.cell? ⟨(ad561.add ((x7_2).toNat*4)).block,(ad561.add ((x7_2).toNat*4)).off+3,none⟩=some (.string ((rd_T91 l1_1 x7_2).f2))) (ds:=[]) spec_l03Sync.q0 (by kernel_rfl) rfl rfl (cj2_ BK546.out (cj2_ BK547.out ⟨((HB.out.cell (World.block_lt_of_cell? w _ hw561_0)).trans hw561_0),⟨((HB.out.cell (World.block_lt_of_cell? w _ hw561_1)).trans hw561_1),⟨((HB.out.cell (World.block_lt_of_cell? w _ hw561_2)).trans hw561_2),⟨((HB.out.cell (World.block_lt_of_cell? w _ hw561_3)).trans hw561_3),⟨((HB.out.cell (World.block_lt_of_cell? w _ hw563_0)).trans hw563_0),⟨((HB.out.cell (World.block_lt_of_cell? w _ hw563_1)).trans hw563_1),⟨((HB.out.cell (World.block_lt_of_cell? w _ hw563_2)).trans hw563_2),((HB.out.cell (World.block_lt_of_cell? w _ hw563_3)).trans hw563_3)⟩⟩⟩⟩⟩⟩⟩)) (fun hHeld=>?_);refine with_tabW spec_l03Sync.tab10 spec_l03Sync.bits10 (fun HT_ HW_=>?_)
          generalize wr.drew=w57 at HO_553000 HO_553001 BK546 BK547 BK548 BK552 HB hx561_0 hx561_1 hx561_2 hx561_3 hx563_0 hx563_1 hx563_2 hx563_3 hHeld ⊢
          refine pu_ 0 59 spec_l03Sync.q1 HT_.out ?_
          refine pu_ 2 61 spec_l03Sync.q2 HT_.out ?_
          refine pu_ 4 63 spec_l03Sync.q3 HT_.out ?_
          refine tk12_ 1 60 spec_l03Sync.q4 HT_.out HW_.out hHeld ?_
          refine tk12_ 3 62 spec_l03Sync.q5 HT_.out HW_.out hHeld ?_
          refine pu_ 5 64 spec_l03Sync.q6 HT_.out ?_
          refine pu_ 6 65 spec_l03Sync.q7 HT_.out ?_
          refine tk12_ 7 66 spec_l03Sync.q8 HT_.out HW_.out hHeld ?_
          refine o1_ 8 67 spec_l03Sync.q9 HT_.out (fun K hK=>?_)
          refine gs_ Try.func93 #[.slice A0_1 l0_1.length c0_1,.agg #[.int .i64 ((rd_T91 l1_1 x7_2).f0.f0),.int .i64 ((rd_T91 l1_1 x7_2).f0.f1)]] ?_
          with_reducible refine (spec_l03At.calls k2 _ _ l0_1 ((rd_T91 l1_1 x7_2).f0.f0) ((rd_T91 l1_1 x7_2).f0.f1) t562 _ ?s1 ?s2 A54.out).mono ?_
          (case s1=>repeat (first | exact (Kd.C_below HR0_1.out HB.out) | (with_reducible refine Kd.C_alloc ?_ _) | (with_reducible refine Kd.C_drewN ?_ _) | (with_reducible refine Kd.C_drew ?_)))
          (case s2=>exact HC0_1.out)
          rintro e w58 ⟨rfl,hb⟩
          refine ⟨_,rfl,?_⟩
          refine as7_ (Kd.R_below (z0_ HO_553000.out) hb) (Kd.R_below (z0_ HO_553001.out) hb) (blkB_ BK546.out hb) (blkB_ BK547.out hb) (blkB_ BK548.out hb) (blkB_ BK552.out hb) (below_step (z14_ HB.out GE546.out GE547.out GE548.out GE552.out) hb) ?_
          clear HO_553000 HO_553001 BK546 BK547 BK548 BK552 HB
          intro HO_553000 HO_553001 BK546 BK547 BK548 BK552 HB
          (try clear hb)
          refine hK.out _ _ (cj2_ BK546.out (cj2_ BK547.out ⟨((HB.out.cell (World.block_lt_of_cell? w _ hw561_0)).trans hw561_0),⟨((HB.out.cell (World.block_lt_of_cell? w _ hw561_1)).trans hw561_1),⟨((HB.out.cell (World.block_lt_of_cell? w _ hw561_2)).trans hw561_2),⟨((HB.out.cell (World.block_lt_of_cell? w _ hw561_3)).trans hw561_3),⟨((HB.out.cell (World.block_lt_of_cell? w _ hw563_0)).trans hw563_0),⟨((HB.out.cell (World.block_lt_of_cell? w _ hw563_1)).trans hw563_1),⟨((HB.out.cell (World.block_lt_of_cell? w _ hw563_2)).trans hw563_2),((HB.out.cell (World.block_lt_of_cell? w _ hw563_3)).trans hw563_3)⟩⟩⟩⟩⟩⟩⟩)) (fun hHeld=>?_)
          clear hK K
          refine nm_ 67 ?_
          refine pu_ 9 68 spec_l03Sync.q10 HT_.out ?_
          refine pu_ 10 69 spec_l03Sync.q11 HT_.out ?_
          refine pu_ 11 70 spec_l03Sync.q12 HT_.out ?_
          refine pu_ 13 72 spec_l03Sync.q23 HT_.out ?_
          refine pu_ 15 74 spec_l03Sync.q24 HT_.out ?_
          refine tk12_ 12 71 spec_l03Sync.q25 HT_.out HW_.out hHeld ?_
          refine tk12_ 14 73 spec_l03Sync.q16 HT_.out HW_.out hHeld ?_
          refine pu_ 16 75 spec_l03Sync.q17 HT_.out ?_
          refine pu_ 17 76 spec_l03Sync.q18 HT_.out ?_
          refine tk12_ 18 77 spec_l03Sync.q19 HT_.out HW_.out hHeld ?_
          refine o1_ 19 78 spec_l03Sync.q20 HT_.out (fun K hK=>?_)
          refine gs_ Try.func72 #[.slice A0_0 l0_0.length c0_0,.agg #[.int .i64 ((rd_T91 l1_1 x7_2).f0.f0),.int .i64 ((rd_T91 l1_1 x7_2).f0.f1)]] ?_
          with_reducible refine (spec_SeenHas.calls k2 _ _ l0_0 ((rd_T91 l1_1 x7_2).f0.f0) ((rd_T91 l1_1 x7_2).f0.f1) t564 _ ?s1 ?s2 A56.out).mono ?_
          (case s1=>repeat (first | exact (Kd.C_below HR0_0.out HB.out) | (with_reducible refine Kd.C_alloc ?_ _) | (with_reducible refine Kd.C_drewN ?_ _) | (with_reducible refine Kd.C_drew ?_)))
          (case s2=>exact HC0_0.out)
          rintro e w59 ⟨rfl,hb⟩
          refine ⟨_,rfl,?_⟩
          refine as7_ (Kd.R_below (z0_ HO_553000.out) hb) (Kd.R_below (z0_ HO_553001.out) hb) (blkB_ BK546.out hb) (blkB_ BK547.out hb) (blkB_ BK548.out hb) (blkB_ BK552.out hb) (below_step (z14_ HB.out GE546.out GE547.out GE548.out GE552.out) hb) ?_
          clear HO_553000 HO_553001 BK546 BK547 BK548 BK552 HB
          intro HO_553000 HO_553001 BK546 BK547 BK548 BK552 HB
          (try clear hb)
          refine hK.out _ _ (cj2_ BK546.out (cj2_ BK547.out ⟨((HB.out.cell (World.block_lt_of_cell? w _ hw561_0)).trans hw561_0),⟨((HB.out.cell (World.block_lt_of_cell? w _ hw561_1)).trans hw561_1),⟨((HB.out.cell (World.block_lt_of_cell? w _ hw561_2)).trans hw561_2),⟨((HB.out.cell (World.block_lt_of_cell? w _ hw561_3)).trans hw561_3),⟨((HB.out.cell (World.block_lt_of_cell? w _ hw563_0)).trans hw563_0),⟨((HB.out.cell (World.block_lt_of_cell? w _ hw563_1)).trans hw563_1),⟨((HB.out.cell (World.block_lt_of_cell? w _ hw563_2)).trans hw563_2),((HB.out.cell (World.block_lt_of_cell? w _ hw563_3)).trans hw563_3)⟩⟩⟩⟩⟩⟩⟩)) (fun hHeld=>?_)
          clear hK K
          refine nm_ 78 ?_
          refine pu_ 20 79 spec_l03Sync.q21 HT_.out ?_
          refine pu_ 21 80 spec_l03Sync.q22 HT_.out ?_
          refine done_ (done_of HT_.out (by kernel_rfl)) ?_
          try go_wp2
          go_meet
          case rel=>exact ⟨_,(!t564),(z3_),H',⟨z30_ HK1.out HK2.out⟩,⟨z0_ HO_553000.out⟩,⟨z0_ HO_553001.out⟩,⟨z1_ BK546.out⟩,⟨z1_ BK547.out⟩,⟨z1_ BK548.out⟩,⟨z1_ BK552.out⟩,⟨z14_ HB.out GE546.out GE547.out GE548.out GE552.out⟩⟩
         ·rw [if_neg c55] at H
          have c55b0:decide (t562<0)=false:=decide_eq_false c55
          clear c55
          have H':=Aside0.mk H
          clear H
          try go_wp2
          refine as7_ (Kd.R_drew HO_553000.out) (Kd.R_drew HO_553001.out) (blk_drew BK546.out) (blk_drew BK547.out) (blk_drew BK548.out) (blk_drew BK552.out) (below_drew1 HB.out) ?_
          clear HO_553000 HO_553001 BK546 BK547 BK548 BK552 HB
          intro HO_553000 HO_553001 BK546 BK547 BK548 BK552 HB
          have p561:0≤(x7_2:Int):=of_decide_eq_true (z2_)
          have q561:x7_2<(l1_1.length:Int):=of_decide_eq_true (z2_)
          obtain ⟨ad561,e561,hx561_0,hx561_1,hx561_2,hx561_3⟩:=at_T91 HR1_1.out x7_2 p561 q561
          have hw561_3:=hx561_3
          have hw561_2:=hx561_2
          have hw561_1:=hx561_1
          have hw561_0:=hx561_0
          cases e561
          replace hx561_0:=(HB.out.cell (World.block_lt_of_cell? w _ hx561_0)).trans hx561_0
          replace hx561_1:=(HB.out.cell (World.block_lt_of_cell? w _ hx561_1)).trans hx561_1
          replace hx561_2:=(HB.out.cell (World.block_lt_of_cell? w _ hx561_2)).trans hx561_2
          replace hx561_3:=(HB.out.cell (World.block_lt_of_cell? w _ hx561_3)).trans hx561_3
          replace p561:=eq_true p561
          replace q561:=eq_true q561
          refine start_ (n:=22) (S:=fun w'=>w'.cell? ⟨gb546,0,none⟩=some (.slice A0_0 l0_0.length c0_0)∧w'.cell? ⟨gb546,1,none⟩=some (.slice A0_1 l0_1.length c0_1)∧w'.cell? ⟨gb547,0,none⟩=some (.slice A1_0 l1_0.length c1_0)∧w'.cell? ⟨gb547,1,none⟩=some (.slice (some ad561) l1_1.length c1_1)∧w'.cell? (ad561.add ((x7_2).toNat*4))=some (.int .i64 ((rd_T91 l1_1 x7_2).f0.f0))∧w'.cell? ⟨(ad561.add ((x7_2).toNat*4)).block,(ad561.add ((x7_2).toNat*4)).off+1,none⟩=some (.int .i64 ((rd_T91 l1_1 x7_2).f0.f1))∧w'.cell? ⟨(ad561.add ((x7_2).toNat*4)).block,(ad561.add ((x7_2).toNat*4)).off+2,none⟩=some (.bool ((rd_T91 l1_1 x7_2).f1))∧w'.cell? ⟨(ad561.add ((x7_2).toNat*4)).block,(ad561.add ((x7_2).toNat*4)).off+3,none⟩=some (.string ((rd_T91 l1_1 x7_2).f2))) (ds:=[]) spec_l03Sync.q0 (by kernel_rfl) rfl rfl (cj2_ BK546.out (cj2_ BK547.out ⟨((HB.out.cell (World.block_lt_of_cell? w _ hw561_0)).trans hw561_0),⟨((HB.out.cell (World.block_lt_of_cell? w _ hw561_1)).trans hw561_1),⟨((HB.out.cell (World.block_lt_of_cell? w _ hw561_2)).trans hw561_2),((HB.out.cell (World.block_lt_of_cell? w _ hw561_3)).trans hw561_3)⟩⟩⟩)) (fun hHeld=>?_);refine with_tabW spec_l03Sync.tab10 spec_l03Sync.bits10 (fun HT_ HW_=>?_)
          generalize wr.drew=w60 at HO_553000 HO_553001 BK546 BK547 BK548 BK552 HB hx561_0 hx561_1 hx561_2 hx561_3 hHeld ⊢
          refine pu_ 0 59 spec_l03Sync.q1 HT_.out ?_
          refine pu_ 2 61 spec_l03Sync.q2 HT_.out ?_
          refine pu_ 4 63 spec_l03Sync.q3 HT_.out ?_
          refine tk8_ 1 60 spec_l03Sync.q4 HT_.out HW_.out hHeld ?_
          refine tk8_ 3 62 spec_l03Sync.q5 HT_.out HW_.out hHeld ?_
          refine pu_ 5 64 spec_l03Sync.q6 HT_.out ?_
          refine pu_ 6 65 spec_l03Sync.q7 HT_.out ?_
          refine tk8_ 7 66 spec_l03Sync.q8 HT_.out HW_.out hHeld ?_
          refine o1_ 8 67 spec_l03Sync.q9 HT_.out (fun K hK=>?_)
          refine gs_ Try.func93 #[.slice A0_1 l0_1.length c0_1,.agg #[.int .i64 ((rd_T91 l1_1 x7_2).f0.f0),.int .i64 ((rd_T91 l1_1 x7_2).f0.f1)]] ?_
          with_reducible refine (spec_l03At.calls k2 _ _ l0_1 ((rd_T91 l1_1 x7_2).f0.f0) ((rd_T91 l1_1 x7_2).f0.f1) t562 _ ?s1 ?s2 A54.out).mono ?_
          (case s1=>repeat (first | exact (Kd.C_below HR0_1.out HB.out) | (with_reducible refine Kd.C_alloc ?_ _) | (with_reducible refine Kd.C_drewN ?_ _) | (with_reducible refine Kd.C_drew ?_)))
          (case s2=>exact HC0_1.out)
          rintro e w61 ⟨rfl,hb⟩
          refine ⟨_,rfl,?_⟩
          refine as7_ (Kd.R_below (z0_ HO_553000.out) hb) (Kd.R_below (z0_ HO_553001.out) hb) (blkB_ BK546.out hb) (blkB_ BK547.out hb) (blkB_ BK548.out hb) (blkB_ BK552.out hb) (below_step (z14_ HB.out GE546.out GE547.out GE548.out GE552.out) hb) ?_
          clear HO_553000 HO_553001 BK546 BK547 BK548 BK552 HB
          intro HO_553000 HO_553001 BK546 BK547 BK548 BK552 HB
          (try clear hb)
          refine hK.out _ _ (cj2_ BK546.out (cj2_ BK547.out ⟨((HB.out.cell (World.block_lt_of_cell? w _ hw561_0)).trans hw561_0),⟨((HB.out.cell (World.block_lt_of_cell? w _ hw561_1)).trans hw561_1),⟨((HB.out.cell (World.block_lt_of_cell? w _ hw561_2)).trans hw561_2),((HB.out.cell (World.block_lt_of_cell? w _ hw561_3)).trans hw561_3)⟩⟩⟩)) (fun hHeld=>?_)
          clear hK K
          refine nm_ 67 ?_
          refine pu_ 9 68 spec_l03Sync.q10 HT_.out ?_
          refine pu_ 10 69 spec_l03Sync.q11 HT_.out ?_
          refine pn_ 11 70 spec_l03Sync.q12 HT_.out ?_
          refine pn_ 12 71 spec_l03Sync.q13 HT_.out ?_
          refine pn_ 13 72 spec_l03Sync.q14 HT_.out ?_
          refine pn_ 14 73 spec_l03Sync.q15 HT_.out ?_
          refine pn_ 15 74 spec_l03Sync.q16 HT_.out ?_
          refine pn_ 16 75 spec_l03Sync.q17 HT_.out ?_
          refine pn_ 17 76 spec_l03Sync.q18 HT_.out ?_
          refine pn_ 18 77 spec_l03Sync.q19 HT_.out ?_
          refine pn_ 19 78 spec_l03Sync.q20 HT_.out ?_
          refine pn_ 20 79 spec_l03Sync.q21 HT_.out ?_
          refine pu_ 21 80 spec_l03Sync.q22 HT_.out ?_
          refine done_ (done_of HT_.out (by kernel_rfl)) ?_
          try go_wp2
          go_meet
          case rel=>exact ⟨_,(false),(z3_),H',⟨z30_ HK1.out HK2.out⟩,⟨z0_ HO_553000.out⟩,⟨z0_ HO_553001.out⟩,⟨z1_ BK546.out⟩,⟨z1_ BK547.out⟩,⟨z1_ BK548.out⟩,⟨z1_ BK552.out⟩,⟨z14_ HB.out GE546.out GE547.out GE548.out GE552.out⟩⟩
        ·rw [if_neg c53] at H
         exact absurd H (by simp)
       case rest =>
        clear HC48
        try clear c1
        try clear p2
        try clear c4
        try clear c5
        try clear p5
        try clear q5
        try clear hx5
        try clear c7
        try clear c9
        try clear c47
        try clear c47b0
        try clear c49
        try clear c50
        try clear c51
        try clear c53
        try clear c53b0
        try clear c55
        try clear c55b0
        try clear p55
        try clear q55
        try clear hx55
        try clear p56
        try clear q56
        try clear hx56
        try clear hcz46_1
        try clear hcz52_0
        try clear hcz52_1
        try clear hcz9_0
        try clear hcz9_1
        try clear hfz11_0
        try clear hfz11_1
        try clear hfz18_0
        try clear hfz18_1
        try clear hfz24_0
        try clear hfz24_1
        try clear hfz46_0
        try clear hfz46_1
        try clear hfz52_0
        try clear hfz52_1
        try clear hfz9_0
        try clear hfz9_1
        try clear hx553_0
        try clear hx553_1
        try clear hx553_2
        try clear hx553_3
        try clear hx555_0
        try clear hx555_1
        try clear hx555_2
        try clear hx555_3
        try clear hx557_0
        try clear hx557_1
        try clear hx557_2
        try clear hx557_3
        try clear hx561_0
        try clear hx561_1
        try clear hx561_2
        try clear hx561_3
        try clear hx563_0
        try clear hx563_1
        try clear hx563_2
        try clear hx563_3
        try clear p2
        try clear p5
        try clear p553
        try clear p555
        try clear p557
        try clear p561
        try clear p563
        try clear q5
        try clear q553
        try clear q555
        try clear q557
        try clear q561
        try clear q563
        obtain ⟨kq,x80_47,rfl,HA,HJ47,HO_553000,HO_553001,BK546,BK547,BK548,BK552,HB⟩:=hcut
        cases kq with
        | zero=>exact absurd HA.out (by simp [spec_l03Sync.j3])
        | succ kj47 =>
         have H:=HA.out
         clear HA
         simp only [spec_l03Sync.j3] at H
         by_cases c62:x80_47=true
         ·subst c62
          have H1:(if 0≤x7_2 then (if x7_2<(l1_1.length:Int) then ((spec_l03In.f kj47 x553001_2 ((rd_T91 l1_1 x7_2).f0.f0) ((rd_T91 l1_1 x7_2).f0.f1) ((rd_T91 l1_1 x7_2).f1) ((rd_T91 l1_1 x7_2).f2)).bind fun t566=>(spec_l03Sync.l1 kj47 (wrap64 (x7_2+1)) l0_0 l0_1 l1_0 l1_1 t549 t566)) else (none)) else (none))=some (r1,r2,r3,r4,r5):=by rw [if_pos rfl] at H;exact H
          clear H
          have H:=H1
          clear H1
          by_cases c63:0≤x7_2
          ·rw [if_pos c63] at H
           have c63b0:decide (0≤x7_2)=true:=decide_eq_true c63
           clear c63
           by_cases c64:x7_2<(l1_1.length:Int)
           ·rw [if_pos c64] at H
            have c64b0:decide (x7_2<(l1_1.length:Int))=true:=decide_eq_true c64
            clear c64
            replace H:=Option.bind_eq_some_iff.mp H
            obtain ⟨t566,A650,H⟩:=H
            replace H:(spec_l03Sync.l1 kj47 (wrap64 (x7_2+1)) l0_0 l0_1 l1_0 l1_1 t549 t566)=some (r1,r2,r3,r4,r5):=H
            have A65:=Aside0.mk A650
            clear A650
            have H':=Aside0.mk H
            clear H
            try go_wp2
            refine as7_ (Kd.R_drew HO_553000.out) (Kd.R_drew HO_553001.out) (blk_drew BK546.out) (blk_drew BK547.out) (blk_drew BK548.out) (blk_drew BK552.out) (below_drew1 HB.out) ?_
            clear HO_553000 HO_553001 BK546 BK547 BK548 BK552 HB
            intro HO_553000 HO_553001 BK546 BK547 BK548 BK552 HB
            have p565:0≤(x7_2:Int):=of_decide_eq_true (z2_)
            have q565:x7_2<(l1_1.length:Int):=of_decide_eq_true (z2_)
            obtain ⟨ad565,e565,hx565_0,hx565_1,hx565_2,hx565_3⟩:=at_T91 HR1_1.out x7_2 p565 q565
            have hw565_3:=hx565_3
            have hw565_2:=hx565_2
            have hw565_1:=hx565_1
            have hw565_0:=hx565_0
            cases e565
            replace hx565_0:=(HB.out.cell (World.block_lt_of_cell? w _ hx565_0)).trans hx565_0
            replace hx565_1:=(HB.out.cell (World.block_lt_of_cell? w _ hx565_1)).trans hx565_1
            replace hx565_2:=(HB.out.cell (World.block_lt_of_cell? w _ hx565_2)).trans hx565_2
            replace hx565_3:=(HB.out.cell (World.block_lt_of_cell? w _ hx565_3)).trans hx565_3
            replace p565:=eq_true p565
            replace q565:=eq_true q565
            obtain ⟨Ao67,co67,eo67⟩:=Kd.R_slice HO_553001.out
            (first | subst eo67 | (injection eo67 with f1_ f2_ f3_;have f4_:=f1_.symm;have f5_:=f3_.symm;clear f1_ f2_ f3_;subst f4_;subst f5_))
            refine start_ (n:=10) (S:=fun w'=>w'.cell? ⟨gb552,0,none⟩=some (.slice Ao13 t549.length co13)∧w'.cell? ⟨gb552,1,none⟩=some (.slice Ao67 x553001_2.length co67)∧w'.cell? ⟨gb547,0,none⟩=some (.slice A1_0 l1_0.length c1_0)∧w'.cell? ⟨gb547,1,none⟩=some (.slice (some ad565) l1_1.length c1_1)∧w'.cell? (ad565.add ((x7_2).toNat*4))=some (.int .i64 ((rd_T91 l1_1 x7_2).f0.f0))∧w'.cell? ⟨(ad565.add ((x7_2).toNat*4)).block,(ad565.add ((x7_2).toNat*4)).off+1,none⟩=some (.int .i64 ((rd_T91 l1_1 x7_2).f0.f1))∧w'.cell? ⟨(ad565.add ((x7_2).toNat*4)).block,(ad565.add ((x7_2).toNat*4)).off+2,none⟩=some (.bool ((rd_T91 l1_1 x7_2).f1))∧w'.cell? ⟨(ad565.add ((x7_2).toNat*4)).block,(ad565.add ((x7_2).toNat*4)).off+3,none⟩=some (.string ((rd_T91 l1_1 x7_2).f2))) (ds:=[9]) #[O,O,O,O,O,O,O,O,O,O] (by kernel_rfl) rfl rfl (cj2_ BK552.out (cj2_ BK547.out ⟨((HB.out.cell (World.block_lt_of_cell? w _ hw565_0)).trans hw565_0),⟨((HB.out.cell (World.block_lt_of_cell? w _ hw565_1)).trans hw565_1),⟨((HB.out.cell (World.block_lt_of_cell? w _ hw565_2)).trans hw565_2),((HB.out.cell (World.block_lt_of_cell? w _ hw565_3)).trans hw565_3)⟩⟩⟩)) (fun hHeld=>?_);refine with_tabW spec_l03Sync.tab11 spec_l03Sync.bits11 (fun HT_ HW_=>?_)
            generalize wc.drew=w66 at HO_553000 HO_553001 BK546 BK547 BK548 BK552 HB hx565_0 hx565_1 hx565_2 hx565_3 hHeld ⊢
            refine pu_ 0 81 #[I,O,O,O,O,O,O,O,O,O] HT_.out ?_
            refine pu_ 2 83 #[I,O,I,O,O,O,O,O,O,O] HT_.out ?_
            refine pu_ 4 85 #[I,O,I,O,I,O,O,O,O,O] HT_.out ?_
            refine tk8_ 1 82 #[I,I,I,O,I,O,O,O,O,O] HT_.out HW_.out hHeld ?_
            refine tk8_ 3 84 #[I,I,I,I,I,O,O,O,O,O] HT_.out HW_.out hHeld ?_
            refine pu_ 5 86 #[I,I,I,I,I,I,O,O,O,O] HT_.out ?_
            refine tk8_ 6 87 #[I,I,I,I,I,I,I,O,O,O] HT_.out HW_.out hHeld ?_
            refine o1_ 7 88 #[I,I,I,I,I,I,I,I,O,O] HT_.out (fun K hK=>?_)
            refine gs_ Try.func73 #[.slice Ao67 x553001_2.length co67,.agg #[.int .i64 ((rd_T91 l1_1 x7_2).f0.f0),.int .i64 ((rd_T91 l1_1 x7_2).f0.f1),.bool ((rd_T91 l1_1 x7_2).f1),.string ((rd_T91 l1_1 x7_2).f2)]] ?_
            with_reducible refine (spec_l03In.calls kj47 _ _ x553001_2 ((rd_T91 l1_1 x7_2).f0.f0) ((rd_T91 l1_1 x7_2).f0.f1) ((rd_T91 l1_1 x7_2).f1) ((rd_T91 l1_1 x7_2).f2) t566 _ ?s1 ?s2 A65.out).mono ?_
            (case s1=>repeat (first | exact (Kd.R_reads' HO_553001.out).2.2 | (with_reducible refine Kd.C_alloc ?_ _) | (with_reducible refine Kd.C_drewN ?_ _) | (with_reducible refine Kd.C_drew ?_)))
            (case s2=>exact (Kd.R_reads' HO_553001.out).2.1)
            rintro e w68 ⟨v567,rfl,ho0,hb⟩
            refine ⟨_,rfl,?_⟩
            refine as8_ (Kd.R_below (z0_ HO_553000.out) hb) (Kd.R_elder' (z0_ HO_553001.out) (Kd.R_base ho0) hb) (Kd.R_lower (Kd.R_new' ho0 (Kd.R_lt (z0_ HO_553001.out))) (below_size (z14_ HB.out GE546.out GE547.out GE548.out GE552.out))) (blkB_ BK546.out hb) (blkB_ BK547.out hb) (blkB_ BK548.out hb) (blkB_ BK552.out hb) (below_step (z14_ HB.out GE546.out GE547.out GE548.out GE552.out) hb) ?_
            clear HO_553000 HO_553001 BK546 BK547 BK548 BK552 HB
            intro HO_553000 HO_553001 HO568 BK546 BK547 BK548 BK552 HB
            (try clear hb)
            (try clear ho0)
            obtain ⟨Ao69,co69,eo69⟩:=Kd.R_slice HO568.out
            (first | subst eo69 | (injection eo69 with f1_ f2_ f3_;have f4_:=f1_.symm;have f5_:=f3_.symm;clear f1_ f2_ f3_;subst f4_;subst f5_))
            refine hK.out _ _ (cj2_ BK552.out (cj2_ BK547.out ⟨((HB.out.cell (World.block_lt_of_cell? w _ hw565_0)).trans hw565_0),⟨((HB.out.cell (World.block_lt_of_cell? w _ hw565_1)).trans hw565_1),⟨((HB.out.cell (World.block_lt_of_cell? w _ hw565_2)).trans hw565_2),((HB.out.cell (World.block_lt_of_cell? w _ hw565_3)).trans hw565_3)⟩⟩⟩)) (fun hHeld=>?_)
            clear hK K
            refine nm_ 88 ?_
            refine pu_ 8 89 #[I,I,I,I,I,I,I,I,I,O] HT_.out ?_
            refine last_ (i:=9) (N:=none) #[I,I,I,I,I,I,I,I,I,I] rfl rfl (one_of HT_.out (by kernel_rfl)) (by decide) (fun K hK=>?_)
            have hs70:w68.cell? ⟨gb552,1,none⟩=some (.slice Ao67 x553001_2.length co67):=(blk_cell BK552.out 1).trans rfl
            have hfs70:=blk_frozen BK552.out 1
            have hns70_0:=NB546_552.out
            have hns70_1:=NB547_552.out
            have hns70_2:=NB548_552.out
            have hms70_0:=NB552_546.out
            have hms70_1:=NB552_547.out
            have hms70_2:=NB552_548.out
            refine skip_ (w1:=?_) (by rfl) rfl ?_ ?_
            rotate_left
            ·go_simp
             rfl
            refine hK.out _ _ ?_
            clear hK K
            refine done_ (done_of HT_.out (by kernel_rfl)) ?_
            try go_wp2
            go_roundg kj47
            case measure=>have:=HK1.out;have:=HK2.out;have:=HJ47.out;omega
            case rel=>exact ⟨(wrap64 (x7_2+1)),(t566),(.slice Ao69 t566.length co69),(z3_),H',⟨by have:=HK1.out;have:=HK2.out;have:=HJ47.out;omega⟩,⟨by (with_reducible repeat (first | apply Kd.R_alloc | apply Kd.R_drewN | apply Kd.R_drew));exact Kd.R_mono (Kd.R_far (p:=⟨gb552,1,none⟩) (Kd.R_types HO_553000.out BK552.out (by decide)) (fun _ hk=>hk.2) (.slice Ao69 t566.length co69)) (fun _ hk=>trivial)⟩,⟨by (with_reducible repeat (first | apply Kd.R_alloc | apply Kd.R_drewN | apply Kd.R_drew));exact Kd.R_mono (Kd.R_far (p:=⟨gb552,1,none⟩) (Kd.R_types HO568.out BK552.out (by decide)) (fun _ hk=>hk.2) (.slice Ao69 t566.length co69)) (fun _ hk=>trivial)⟩,⟨z26_ NB546_552.out BK546.out⟩,⟨z26_ NB547_552.out BK547.out⟩,⟨z26_ NB548_552.out BK548.out⟩,⟨by (with_reducible repeat (first | refine blk_drewN ?_ _ | refine blk_drew ?_ | refine blk_alloc ?_ _));refine blk_put (cs:=#[.slice Ao13 t549.length co13,.slice Ao67 x553001_2.length co67]) ?_ 1 _ rfl;(with_reducible repeat (first | refine blk_drewN ?_ _ | refine blk_drew ?_ | refine blk_alloc ?_ _));exact BK552.out⟩,⟨z14_ HB.out GE546.out GE547.out GE548.out GE552.out⟩⟩
           ·rw [if_neg c64] at H
            exact absurd H (by simp)
          ·rw [if_neg c63] at H
           exact absurd H (by simp)
         ·replace c62:=Bool.eq_false_iff.mpr c62
          subst c62
          have H1:(spec_l03Sync.l1 kj47 (wrap64 (x7_2+1)) l0_0 l0_1 l1_0 l1_1 t549 x553001_2)=some (r1,r2,r3,r4,r5):=by rw [if_neg (show ¬ (false=true) by decide)] at H;exact H
          clear H
          have H:=H1
          clear H1
          have H':=Aside0.mk H
          clear H
          go_wp2
          go_roundg kj47
          case measure=>have:=HK1.out;have:=HK2.out;have:=HJ47.out;omega
          case rel=>exact ⟨(wrap64 (x7_2+1)),(x553001_2),(u553001),(z3_),H',⟨by have:=HK1.out;have:=HK2.out;have:=HJ47.out;omega⟩,⟨z0_ HO_553000.out⟩,⟨z0_ HO_553001.out⟩,⟨z1_ BK546.out⟩,⟨z1_ BK547.out⟩,⟨z1_ BK548.out⟩,⟨z1_ BK552.out⟩,⟨z14_ HB.out GE546.out GE547.out GE548.out GE552.out⟩⟩
      ·rw [if_neg c47] at H
       have c47b0:decide (x7_2<(l1_1.length:Int))=false:=decide_eq_false c47
       clear c47
       by_cases c71:(x553001_2.length:Int)>8
       ·rw [if_pos c71] at H
        have c71b0:decide (8<(x553001_2.length:Int))=true:=decide_eq_true c71
        have c71b1:decide (8<x553001_2.length)=true:=decide_eq_true (by omega)
        clear c71
        replace H:=Option.bind_eq_some_iff.mp H
        obtain ⟨⟨t569,t572,t575,t576,t577⟩,A720,H⟩:=H
        replace H:(some (t569,t572,t575,t576,t577))=some (r1,r2,r3,r4,r5):=H
        have A72:=Aside0.mk A720
        clear A720
        simp only [Option.some.injEq,Prod.mk.injEq] at H
        obtain ⟨rfl,rfl,rfl,rfl,rfl⟩:=H
        have hnb73:=NB547_546.out
        have hnc73:=NB546_547.out
        have hnb74:=NB547_548.out
        have hnc74:=NB548_547.out
        have hnb75:=NB547_552.out
        have hnc75:=NB552_547.out
        have ⟨hcz76_0,hcz76_1,hfz76_0,hfz76_1⟩:=cz2_ BK547.out
        have hnb77:=NB552_546.out
        have hnc77:=NB546_552.out
        have hnb78:=NB552_548.out
        have hnc78:=NB548_552.out
        have ⟨hcz79_0,hcz79_1,hfz79_0,hfz79_1⟩:=cz2_ BK552.out
        obtain ⟨Ao80,co80,eo80⟩:=Kd.R_slice HO_553001.out
        subst eo80
        go_wp2_with (first | ((with_reducible refine gc_ 60 ?_);refine gl_ (some 94) Try.func60 #[.int .i64 9] ?_;(with_reducible refine (spec_l03Ill.calls 9 t569 t572 t575 t576 t577 _ A72.out).mono ?_);rintro e w81 ⟨v570,v573,rfl,ho0,ho1,hb⟩;refine ⟨_,rfl,?_⟩;refine as9_ (Kd.R_elder' (z0_ HO_553000.out) (Kd.R_base ho0) hb) (Kd.R_elder' (z0_ HO_553001.out) (Kd.R_base ho1) hb) (Kd.R_lower (Kd.R_new' ho0 (Kd.R_lt (z0_ HO_553000.out))) (below_size (z14_ HB.out GE546.out GE547.out GE548.out GE552.out))) (Kd.R_lower (Kd.R_new' ho1 (Kd.R_lt (z0_ HO_553001.out))) (below_size (z14_ HB.out GE546.out GE547.out GE548.out GE552.out))) (blkB_ BK546.out hb) (blkB_ BK547.out hb) (blkB_ BK548.out hb) (blkB_ BK552.out hb) (below_step (z14_ HB.out GE546.out GE547.out GE548.out GE552.out) hb) ?_;clear HO_553000 HO_553001 BK546 BK547 BK548 BK552 HB;intro HO_553000 HO_553001 HO571 HO574 BK546 BK547 BK548 BK552 HB;(try clear hb);(try clear ho0);(try clear ho1);obtain ⟨Ao82,co82,eo82⟩:=Kd.R_slice HO571.out;subst eo82;have hnb83:=NB548_546.out;have hnc83:=NB546_548.out;have ⟨hcz84_0,hcz84_1,hcz84_2,hcz84_3,hcz84_4,hfz84_0,hfz84_1,hfz84_2,hfz84_3,hfz84_4⟩:=cz5_ BK548.out;obtain ⟨Ao85,co85,eo85⟩:=Kd.R_slice HO574.out;subst eo85))
        refine bodyPost_ret (results_cell_row rfl _ _ gb548 58 #[.slice Ao82 t569.length co82,.slice Ao85 t572.length co85,.int .i64 t575,.int .i64 t576,.int .i64 t577] (0,0) _ rfl (z31_ BK548.out) Try.underlying58 rfl (by kernel_rfl)) rfl ?_
        exact ⟨_,_,z8_,z35_ HO571.out BK548.out,z35_ HO574.out BK548.out,z14_ HB.out GE546.out GE547.out GE548.out GE552.out⟩
       ·rw [if_neg c71] at H
        have c71b0:decide (8<(x553001_2.length:Int))=false:=decide_eq_false c71
        have c71b1:decide (8<x553001_2.length)=false:=decide_eq_false (by omega)
        clear c71
        simp only [Option.some.injEq,Prod.mk.injEq] at H
        obtain ⟨rfl,rfl,rfl,rfl,rfl⟩:=H
        have hnb86:=NB547_546.out
        have hnc86:=NB546_547.out
        have hnb87:=NB547_548.out
        have hnc87:=NB548_547.out
        have hnb88:=NB547_552.out
        have hnc88:=NB552_547.out
        have ⟨hcz89_0,hcz89_1,hfz89_0,hfz89_1⟩:=cz2_ BK547.out
        have hnb90:=NB552_546.out
        have hnc90:=NB546_552.out
        have hnb91:=NB552_548.out
        have hnc91:=NB548_552.out
        have ⟨hcz92_0,hcz92_1,hfz92_0,hfz92_1⟩:=cz2_ BK552.out
        obtain ⟨Ao93,co93,eo93⟩:=Kd.R_slice HO_553001.out
        subst eo93
        have hnb94:=NB548_546.out
        have hnc94:=NB546_548.out
        have ⟨hcz95_0,hcz95_1,hcz95_2,hcz95_3,hcz95_4,hfz95_0,hfz95_1,hfz95_2,hfz95_3,hfz95_4⟩:=cz5_ BK548.out
        go_wp2
        refine bodyPost_ret (results_cell_row rfl _ _ gb548 58 #[.slice Ao13 t549.length co13,.slice Ao93 x553001_2.length co93,.int .i64 0,.int .i64 0,.int .i64 0] (0,0) _ rfl (z31_ BK548.out) Try.underlying58 rfl (by kernel_rfl)) rfl ?_
        exact ⟨_,_,z8_,z35_ HO_553000.out BK548.out,z35_ HO_553001.out BK548.out,z14_ HB.out GE546.out GE547.out GE548.out GE552.out⟩


/-! ### spec_SetSync: function 24 -/
def spec_SetSync.j0:Nat→Bool→List (S56)→List (S91)→List (S56)→List (S91)→Option ((List (S56)) × (List (S91)) × Int × Int × Int)
 | 0,_,_,_,_,_=>none
 | k+1,x12,x579000,x579001,x580000,x580001=>if x12=true then ((spec_l03Ill.f 1).bind fun bt583=>(some (bt583.1,bt583.2.1,bt583.2.2.1,bt583.2.2.2.1,bt583.2.2.2.2))) else ((spec_l03Sync.f k x579000 x579001 x580000 x580001).bind fun bt592=>(some (bt592.1,bt592.2.1,bt592.2.2.1,bt592.2.2.2.1,bt592.2.2.2.2)))
def spec_SetSync.f (k:Nat) (l0_0:List (S56)) (l0_1:List (S91)) (l1_0:List (S56)) (l1_1:List (S91)):Option ((List (S56)) × (List (S91)) × Int × Int × Int):=(spec_SetRight.f k l0_0 l0_1).bind fun t581=>(if t581=true then ((spec_SetRight.f k l1_0 l1_1).bind fun t582=>(spec_SetSync.j0 k (!t582) l0_0 l0_1 l1_0 l1_1)) else (spec_SetSync.j0 k true l0_0 l0_1 l1_0 l1_1))
theorem spec_SetSync.mono_l:∀ k,(∀ y0 y1 y2 y3 y4,LeO (spec_SetSync.j0 k y0 y1 y2 y3 y4) (spec_SetSync.j0 (k+1) y0 y1 y2 y3 y4))
 | 0=>fun _ _ _ _ _ r h=>by simp [spec_SetSync.j0] at h
 | k+1=>by
  have ih0:=spec_SetSync.mono_l k
  ·intro y0 y1 y2 y3 y4
   unfold spec_SetSync.j0
   repeat' first
   | (with_reducible exact ih0 _ _ _ _ _)
   | (with_reducible exact spec_SetRight.mono _ _ _)
   | (with_reducible exact spec_l03Sync.mono _ _ _ _ _)
   | (with_reducible exact LeO.refl _)
   | (with_reducible exact LeO.none _)
   | (with_reducible refine LeO.ite ?_ ?_)
   | (with_reducible refine LeO.bind ?_ (fun _=>?_))
   | exact ih0 _ _ _ _ _
   | exact spec_SetRight.mono _ _ _
   | exact spec_l03Sync.mono _ _ _ _ _
   | exact LeO.none _
   | refine LeO.ite ?_ ?_
   | refine LeO.bind ?_ (fun _=>?_)
theorem spec_SetSync.mono:∀ a0 a1 a2 a3 k,LeO (spec_SetSync.f k a0 a1 a2 a3) (spec_SetSync.f (k+1) a0 a1 a2 a3):=by
 intro a0 a1 a2 a3 k
 have ih0:=spec_SetSync.mono_l k
 unfold spec_SetSync.f
 repeat' first
   | (with_reducible exact ih0 _ _ _ _ _)
   | (with_reducible exact spec_SetRight.mono _ _ _)
   | (with_reducible exact spec_l03Sync.mono _ _ _ _ _)
   | (with_reducible exact LeO.refl _)
   | (with_reducible exact LeO.none _)
   | (with_reducible refine LeO.ite ?_ ?_)
   | (with_reducible refine LeO.bind ?_ (fun _=>?_))
   | exact ih0 _ _ _ _ _
   | exact spec_SetRight.mono _ _ _
   | exact spec_l03Sync.mono _ _ _ _ _
   | exact LeO.none _
   | refine LeO.ite ?_ ?_
   | refine LeO.bind ?_ (fun _=>?_)
set_option maxHeartbeats 8000000 in
set_option maxRecDepth 100000 in
theorem spec_SetSync.calls (k:Nat) (A0_0:Option Addr) (c0_0:Nat) (l0_0:List (S56)) (A0_1:Option Addr) (c0_1:Nat) (l0_1:List (S91)) (A1_0:Option Addr) (c1_0:Nat) (l1_0:List (S56)) (A1_1:Option Addr) (c1_1:Nat) (l1_1:List (S91)) (r1:List (S56)) (r2:List (S91)) (r3:Int) (r4:Int) (r5:Int) (w:World) (hr0_0:Kd.C k56 w A0_0 l0_0.length l0_0) (hc0_0:l0_0.length≤c0_0) (hr0_1:Kd.C k91 w A0_1 l0_1.length l0_1) (hc0_1:l0_1.length≤c0_1) (hr1_0:Kd.C k56 w A1_0 l1_0.length l1_0) (hc1_0:l1_0.length≤c1_0) (hr1_1:Kd.C k91 w A1_1 l1_1.length l1_1) (hc1_1:l1_1.length≤c1_1) (h:spec_SetSync.f k l0_0 l0_1 l1_0 l1_1=some (r1,r2,r3,r4,r5)) :
  Calls Try.prog 24 #[.agg #[.slice A0_0 l0_0.length c0_0,.slice A0_1 l0_1.length c0_1],.agg #[.slice A1_0 l1_0.length c1_0,.slice A1_1 l1_1.length c1_1]] w fun e w'=>∃ v0_ v1_:Value,e = .returned (.agg #[v0_,v1_,.int .i64 r3,.int .i64 r4,.int .i64 r5])∧Kd.R k56 56 w' w.heap.size (fun _=>True) v0_ r1∧Kd.R k91 91 w' w.heap.size (fun _=>True) v1_ r2∧Below w.heap.size w w':=by
 have hu40:=Try.underlying40
 have hu58:=Try.underlying58
 have HR0_0:=Aside0.mk hr0_0
 have HC0_0:=Aside0.mk hc0_0
 clear hr0_0 hc0_0
 have HR0_1:=Aside0.mk hr0_1
 have HC0_1:=Aside0.mk hc0_1
 clear hr0_1 hc0_1
 have HR1_0:=Aside0.mk hr1_0
 have HC1_0:=Aside0.mk hc1_0
 clear hr1_0 hc1_0
 have HR1_1:=Aside0.mk hr1_1
 have HC1_1:=Aside0.mk hc1_1
 clear hr1_1 hc1_1
 have HB:=Aside0.mk (Below.refl w.heap.size w)
 have H:((spec_SetRight.f k l0_0 l0_1).bind fun t581=>(if t581=true then ((spec_SetRight.f k l1_0 l1_1).bind fun t582=>(spec_SetSync.j0 k (!t582) l0_0 l0_1 l1_0 l1_1)) else (spec_SetSync.j0 k true l0_0 l0_1 l1_0 l1_1)))=some (r1,r2,r3,r4,r5):=h
 clear h
 have HC3:=Aside0.mk H
 clear H
 go_enter Try.func24,Try.ntmps24
 go_upto_region 1 with (first | ((with_reducible refine gd_ 2 ?_);refine be_ 2 #[.slice A0_0 l0_0.length c0_0,.slice A0_1 l0_1.length c0_1] 40 ?_;intro gb578 hg w4 hbox hb;refine as4_ (below_step (z4_ HB.out) hb) (hbox) ((z7_ HB.out:w.heap.size≤gb578)) ((z7_ HB.out:w.heap.size≤gb578)) ?_;clear HB;intro HB BK578 GW578 GE578;clear hb hbox hg) | ((with_reducible refine gd_ 3 ?_);refine be_ 3 #[.slice A1_0 l1_0.length c1_0,.slice A1_1 l1_1.length c1_1] 40 ?_;intro gb579 hg w5 hbox hb;refine as7_ (blkB_ BK578.out hb) (below_step (z5_ HB.out GE578.out) hb) (hbox) ((z10_ HB.out GE578.out:w.heap.size≤gb579)) ((z10_ HB.out GE578.out:w.heap.size≤gb579)) (neL_ BK578.out hg) (neG_ BK578.out hg) ?_;clear BK578 HB;intro BK578 HB BK579 GW579 GE579 NB578_579 NB579_578;clear hb hbox hg) | ((with_reducible refine gd_ 4 ?_);refine be_ 4 #[.slice none 0 0,.slice none 0 0,.int .i64 0,.int .i64 0,.int .i64 0] 58 ?_;intro gb580 hg w6 hbox hb;refine as10_ (blkB_ BK578.out hb) (blkB_ BK579.out hb) (below_step (z6_ HB.out GE578.out GE579.out) hb) (hbox) ((z23_ HB.out GE578.out GE579.out:w.heap.size≤gb580)) ((z23_ HB.out GE578.out GE579.out:w.heap.size≤gb580)) (neL_ BK578.out hg) (neG_ BK578.out hg) (neL_ BK579.out hg) (neG_ BK579.out hg) ?_;clear BK578 BK579 HB;intro BK578 BK579 HB BK580 GW580 GE580 NB578_580 NB580_578 NB579_580 NB580_579;clear hb hbox hg))
 (try simp only [Act.put,sa_,s0_,ss_])
 go_cut [12] (fun v12 wc=>∃ (kq:Nat) (x12_2:Bool),v12 = .bool x12_2∧Aside0 (spec_SetSync.j0 kq x12_2 l0_0 l0_1 l1_0 l1_1=some (r1,r2,r3,r4,r5))∧Aside0 (kq≤k)∧Aside0 (wc.heap[gb578]? = some (.cells #[(.slice A0_0 l0_0.length c0_0),(.slice A0_1 l0_1.length c0_1)] 40 (0,0)))∧Aside0 (wc.heap[gb579]? = some (.cells #[(.slice A1_0 l1_0.length c1_0),(.slice A1_1 l1_1.length c1_1)] 40 (0,0)))∧Aside0 (wc.heap[gb580]? = some (.cells #[(.slice none 0 0),(.slice none 0 0),.int .i64 0,.int .i64 0,.int .i64 0] 58 (0,0)))∧Aside0 (Below w.heap.size w wc))
 case first =>
  have H:=HC3.out
  clear HC3
  replace H:=Option.bind_eq_some_iff.mp H
  obtain ⟨t581,A70,H⟩:=H
  replace H:(if t581=true then ((spec_SetRight.f k l1_0 l1_1).bind fun t582=>(spec_SetSync.j0 k (!t582) l0_0 l0_1 l1_0 l1_1)) else (spec_SetSync.j0 k true l0_0 l0_1 l1_0 l1_1))=some (r1,r2,r3,r4,r5):=H
  have A7:=Aside0.mk A70
  clear A70
  by_cases c8:t581=true
  ·subst c8
   have H1:((spec_SetRight.f k l1_0 l1_1).bind fun t582=>(spec_SetSync.j0 k (!t582) l0_0 l0_1 l1_0 l1_1))=some (r1,r2,r3,r4,r5):=by rw [if_pos rfl] at H;exact H
   clear H
   have H:=H1
   clear H1
   replace H:=Option.bind_eq_some_iff.mp H
   obtain ⟨t582,A90,H⟩:=H
   replace H:(spec_SetSync.j0 k (!t582) l0_0 l0_1 l1_0 l1_1)=some (r1,r2,r3,r4,r5):=H
   have A9:=Aside0.mk A90
   clear A90
   have H':=Aside0.mk H
   clear H
   have hnb10:=NB578_579.out
   have hnc10:=NB579_578.out
   have hnb11:=NB578_580.out
   have hnc11:=NB580_578.out
   have ⟨hcz12_0,hcz12_1,hfz12_0,hfz12_1⟩:=cz2_ BK578.out
   go_wp2_with (first | ((with_reducible refine gc_ 51 ?_);refine gl_ (some 6) Try.func51 #[.agg #[.slice A0_0 l0_0.length c0_0,.slice A0_1 l0_1.length c0_1]] ?_;(with_reducible refine (spec_SetRight.calls k _ _ l0_0 _ _ l0_1 true _ ?s1 ?s2 ?s3 ?s4 A7.out).mono ?_);(case s1=>repeat (first | exact (Kd.C_below HR0_0.out HB.out) | (with_reducible refine Kd.C_alloc ?_ _) | (with_reducible refine Kd.C_drewN ?_ _) | (with_reducible refine Kd.C_drew ?_)));(case s2=>exact HC0_0.out);(case s3=>repeat (first | exact (Kd.C_below HR0_1.out HB.out) | (with_reducible refine Kd.C_alloc ?_ _) | (with_reducible refine Kd.C_drewN ?_ _) | (with_reducible refine Kd.C_drew ?_)));(case s4=>exact HC0_1.out);rintro e w13 ⟨rfl,hb⟩;refine ⟨_,rfl,?_⟩;refine as4_ (blkB_ BK578.out hb) (blkB_ BK579.out hb) (blkB_ BK580.out hb) (below_step (z9_ HB.out GE578.out GE579.out GE580.out) hb) ?_;clear BK578 BK579 BK580 HB;intro BK578 BK579 BK580 HB;(try clear hb);have hnb14:=NB579_580.out;have hnc14:=NB580_579.out;have ⟨hcz15_0,hcz15_1,hfz15_0,hfz15_1⟩:=cz2_ BK579.out) | (go_at_call 51;(with_reducible refine (spec_SetRight.calls k _ _ l1_0 _ _ l1_1 t582 _ ?s1 ?s2 ?s3 ?s4 A9.out).mono ?_);(case s1=>repeat (first | exact (Kd.C_below HR1_0.out HB.out) | (with_reducible refine Kd.C_alloc ?_ _) | (with_reducible refine Kd.C_drewN ?_ _) | (with_reducible refine Kd.C_drew ?_)));(case s2=>exact HC1_0.out);(case s3=>repeat (first | exact (Kd.C_below HR1_1.out HB.out) | (with_reducible refine Kd.C_alloc ?_ _) | (with_reducible refine Kd.C_drewN ?_ _) | (with_reducible refine Kd.C_drew ?_)));(case s4=>exact HC1_1.out);rintro e w16 ⟨rfl,hb⟩;refine as4_ (blkB_ BK578.out hb) (blkB_ BK579.out hb) (blkB_ BK580.out hb) (below_step (z9_ HB.out GE578.out GE579.out GE580.out) hb) ?_;clear BK578 BK579 BK580 HB;intro BK578 BK579 BK580 HB;(try clear hb)))
   go_meet
   case rel=>exact ⟨_,(!t582),(z3_),H',⟨by first | omega | exact Nat.le_refl _⟩,⟨z1_ BK578.out⟩,⟨z1_ BK579.out⟩,⟨z1_ BK580.out⟩,⟨z9_ HB.out GE578.out GE579.out GE580.out⟩⟩
  ·replace c8:=Bool.eq_false_iff.mpr c8
   subst c8
   have H1:(spec_SetSync.j0 k true l0_0 l0_1 l1_0 l1_1)=some (r1,r2,r3,r4,r5):=by rw [if_neg (show ¬ (false=true) by decide)] at H;exact H
   clear H
   have H:=H1
   clear H1
   have H':=Aside0.mk H
   clear H
   have hnb17:=NB578_579.out
   have hnc17:=NB579_578.out
   have hnb18:=NB578_580.out
   have hnc18:=NB580_578.out
   have ⟨hcz19_0,hcz19_1,hfz19_0,hfz19_1⟩:=cz2_ BK578.out
   go_wp2_with (first | ((with_reducible refine gc_ 51 ?_);refine gl_ (some 6) Try.func51 #[.agg #[.slice A0_0 l0_0.length c0_0,.slice A0_1 l0_1.length c0_1]] ?_;(with_reducible refine (spec_SetRight.calls k _ _ l0_0 _ _ l0_1 false _ ?s1 ?s2 ?s3 ?s4 A7.out).mono ?_);(case s1=>repeat (first | exact (Kd.C_below HR0_0.out HB.out) | (with_reducible refine Kd.C_alloc ?_ _) | (with_reducible refine Kd.C_drewN ?_ _) | (with_reducible refine Kd.C_drew ?_)));(case s2=>exact HC0_0.out);(case s3=>repeat (first | exact (Kd.C_below HR0_1.out HB.out) | (with_reducible refine Kd.C_alloc ?_ _) | (with_reducible refine Kd.C_drewN ?_ _) | (with_reducible refine Kd.C_drew ?_)));(case s4=>exact HC0_1.out);rintro e w20 ⟨rfl,hb⟩;refine ⟨_,rfl,?_⟩;refine as4_ (blkB_ BK578.out hb) (blkB_ BK579.out hb) (blkB_ BK580.out hb) (below_step (z9_ HB.out GE578.out GE579.out GE580.out) hb) ?_;clear BK578 BK579 BK580 HB;intro BK578 BK579 BK580 HB;(try clear hb)))
   go_meet
   case rel=>exact ⟨_,(true),(z3_),H',⟨by first | omega | exact Nat.le_refl _⟩,⟨z1_ BK578.out⟩,⟨z1_ BK579.out⟩,⟨z1_ BK580.out⟩,⟨z9_ HB.out GE578.out GE579.out GE580.out⟩⟩
 case rest =>
  clear HC3
  try clear c1
  try clear c2
  try clear p2
  try clear c5
  try clear c8
  try clear c10
  try clear c11
  try clear c14
  try clear c17
  try clear c18
  try clear hcz12_0
  try clear hcz12_1
  try clear hcz15_0
  try clear hcz15_1
  try clear hcz19_0
  try clear hcz19_1
  try clear hfz12_0
  try clear hfz12_1
  try clear hfz15_0
  try clear hfz15_1
  try clear hfz19_0
  try clear hfz19_1
  obtain ⟨kq,x12_2,rfl,HA,HJ2,BK578,BK579,BK580,HB⟩:=hcut
  cases kq with
  | zero=>exact absurd HA.out (by simp [spec_SetSync.j0])
  | succ kj2 =>
   have H:=HA.out
   clear HA
   simp only [spec_SetSync.j0] at H
   by_cases c21:x12_2=true
   ·subst c21
    have H1:((spec_l03Ill.f 1).bind fun bt583=>(some (bt583.1,bt583.2.1,bt583.2.2.1,bt583.2.2.2.1,bt583.2.2.2.2)))=some (r1,r2,r3,r4,r5):=by rw [if_pos rfl] at H;exact H
    clear H
    have H:=H1
    clear H1
    replace H:=Option.bind_eq_some_iff.mp H
    obtain ⟨⟨t583,t586,t589,t590,t591⟩,A220,H⟩:=H
    replace H:(some (t583,t586,t589,t590,t591))=some (r1,r2,r3,r4,r5):=H
    have A22:=Aside0.mk A220
    clear A220
    simp only [Option.some.injEq,Prod.mk.injEq] at H
    obtain ⟨rfl,rfl,rfl,rfl,rfl⟩:=H
    go_wp2_with (first | ((with_reducible refine gc_ 60 ?_);refine gl_ (some 13) Try.func60 #[.int .i64 1] ?_;(with_reducible refine (spec_l03Ill.calls 1 t583 t586 t589 t590 t591 _ A22.out).mono ?_);rintro e w23 ⟨v584,v587,rfl,ho0,ho1,hb⟩;refine ⟨_,rfl,?_⟩;refine as6_ (Kd.R_lower ho0 (below_size (z9_ HB.out GE578.out GE579.out GE580.out))) (Kd.R_lower ho1 (below_size (z9_ HB.out GE578.out GE579.out GE580.out))) (blkB_ BK578.out hb) (blkB_ BK579.out hb) (blkB_ BK580.out hb) (below_step (z9_ HB.out GE578.out GE579.out GE580.out) hb) ?_;clear BK578 BK579 BK580 HB;intro HO585 HO588 BK578 BK579 BK580 HB;(try clear hb);(try clear ho0);(try clear ho1);obtain ⟨Ao24,co24,eo24⟩:=Kd.R_slice HO585.out;subst eo24;have hnb25:=NB580_578.out;have hnc25:=NB578_580.out;have hnb26:=NB580_579.out;have hnc26:=NB579_580.out;have ⟨hcz27_0,hcz27_1,hcz27_2,hcz27_3,hcz27_4,hfz27_0,hfz27_1,hfz27_2,hfz27_3,hfz27_4⟩:=cz5_ BK580.out;obtain ⟨Ao28,co28,eo28⟩:=Kd.R_slice HO588.out;subst eo28))
    refine bodyPost_ret (results_cell_row rfl _ _ gb580 58 #[.slice Ao24 t583.length co24,.slice Ao28 t586.length co28,.int .i64 t589,.int .i64 t590,.int .i64 t591] (0,0) _ rfl (z31_ BK580.out) Try.underlying58 rfl (by kernel_rfl)) rfl ?_
    exact ⟨_,_,z8_,z35_ HO585.out BK580.out,z35_ HO588.out BK580.out,z9_ HB.out GE578.out GE579.out GE580.out⟩
   ·replace c21:=Bool.eq_false_iff.mpr c21
    subst c21
    have H1:((spec_l03Sync.f kj2 l0_0 l0_1 l1_0 l1_1).bind fun bt592=>(some (bt592.1,bt592.2.1,bt592.2.2.1,bt592.2.2.2.1,bt592.2.2.2.2)))=some (r1,r2,r3,r4,r5):=by rw [if_neg (show ¬ (false=true) by decide)] at H;exact H
    clear H
    have H:=H1
    clear H1
    replace H:=Option.bind_eq_some_iff.mp H
    obtain ⟨⟨t592,t595,t598,t599,t600⟩,A290,H⟩:=H
    replace H:(some (t592,t595,t598,t599,t600))=some (r1,r2,r3,r4,r5):=H
    have A29:=Aside0.mk A290
    clear A290
    simp only [Option.some.injEq,Prod.mk.injEq] at H
    obtain ⟨rfl,rfl,rfl,rfl,rfl⟩:=H
    have hnb30:=NB578_579.out
    have hnc30:=NB579_578.out
    have hnb31:=NB578_580.out
    have hnc31:=NB580_578.out
    have ⟨hcz32_0,hcz32_1,hfz32_0,hfz32_1⟩:=cz2_ BK578.out
    have hnb33:=NB579_580.out
    have hnc33:=NB580_579.out
    have ⟨hcz34_0,hcz34_1,hfz34_0,hfz34_1⟩:=cz2_ BK579.out
    go_wp2_with (first | ((with_reducible refine gc_ 61 ?_);refine gl_ (some 16) Try.func61 #[.agg #[.slice A0_0 l0_0.length c0_0,.slice A0_1 l0_1.length c0_1],.agg #[.slice A1_0 l1_0.length c1_0,.slice A1_1 l1_1.length c1_1]] ?_;(with_reducible refine (spec_l03Sync.calls kj2 _ _ l0_0 _ _ l0_1 _ _ l1_0 _ _ l1_1 t592 t595 t598 t599 t600 _ ?s1 ?s2 ?s3 ?s4 ?s5 ?s6 ?s7 ?s8 A29.out).mono ?_);(case s1=>repeat (first | exact (Kd.C_below HR0_0.out HB.out) | (with_reducible refine Kd.C_alloc ?_ _) | (with_reducible refine Kd.C_drewN ?_ _) | (with_reducible refine Kd.C_drew ?_)));(case s2=>exact HC0_0.out);(case s3=>repeat (first | exact (Kd.C_below HR0_1.out HB.out) | (with_reducible refine Kd.C_alloc ?_ _) | (with_reducible refine Kd.C_drewN ?_ _) | (with_reducible refine Kd.C_drew ?_)));(case s4=>exact HC0_1.out);(case s5=>repeat (first | exact (Kd.C_below HR1_0.out HB.out) | (with_reducible refine Kd.C_alloc ?_ _) | (with_reducible refine Kd.C_drewN ?_ _) | (with_reducible refine Kd.C_drew ?_)));(case s6=>exact HC1_0.out);(case s7=>repeat (first | exact (Kd.C_below HR1_1.out HB.out) | (with_reducible refine Kd.C_alloc ?_ _) | (with_reducible refine Kd.C_drewN ?_ _) | (with_reducible refine Kd.C_drew ?_)));(case s8=>exact HC1_1.out);rintro e w35 ⟨v593,v596,rfl,ho0,ho1,hb⟩;refine ⟨_,rfl,?_⟩;refine as6_ (Kd.R_lower ho0 (below_size (z9_ HB.out GE578.out GE579.out GE580.out))) (Kd.R_lower ho1 (below_size (z9_ HB.out GE578.out GE579.out GE580.out))) (blkB_ BK578.out hb) (blkB_ BK579.out hb) (blkB_ BK580.out hb) (below_step (z9_ HB.out GE578.out GE579.out GE580.out) hb) ?_;clear BK578 BK579 BK580 HB;intro HO594 HO597 BK578 BK579 BK580 HB;(try clear hb);(try clear ho0);(try clear ho1);obtain ⟨Ao36,co36,eo36⟩:=Kd.R_slice HO594.out;subst eo36;have ⟨hcz37_0,hcz37_1,hcz37_2,hcz37_3,hcz37_4,hfz37_0,hfz37_1,hfz37_2,hfz37_3,hfz37_4⟩:=cz5_ BK580.out;obtain ⟨Ao38,co38,eo38⟩:=Kd.R_slice HO597.out;subst eo38))
    refine bodyPost_ret (results_cell_row rfl _ _ gb580 58 #[.slice Ao36 t592.length co36,.slice Ao38 t595.length co38,.int .i64 t598,.int .i64 t599,.int .i64 t600] (0,0) _ rfl (z31_ BK580.out) Try.underlying58 rfl (by kernel_rfl)) rfl ?_
    exact ⟨_,_,z8_,z35_ HO594.out BK580.out,z35_ HO597.out BK580.out,z9_ HB.out GE578.out GE579.out GE580.out⟩


/-! ### impl_seenOf: function 94 -/
def impl_seenOf.l0:Nat→Int→List (S56)→Int→Int→Option (Int)
 | 0,_,_,_,_=>none
 | k+1,x1,x7,x8,x9=>if x9<x8 then (if 0≤x9 then (if x9<(x7.length:Int) then (if ((rd_T56 x7 x9).f0)=x1 then (some ((rd_T56 x7 x9).f1)) else (impl_seenOf.l0 k x1 x7 x8 (wrap64 (x9+1)))) else (none)) else (none)) else (some 0)
def impl_seenOf.f (k:Nat) (l0:List (S56)) (a1:Int):Option (Int):=impl_seenOf.l0 k a1 l0 (l0.length:Int) 0
theorem impl_seenOf.mono_l:∀ k,(∀ y0 y1 y2 y3,LeO (impl_seenOf.l0 k y0 y1 y2 y3) (impl_seenOf.l0 (k+1) y0 y1 y2 y3))
 | 0=>fun _ _ _ _ r h=>by simp [impl_seenOf.l0] at h
 | k+1=>by
  have ih0:=impl_seenOf.mono_l k
  ·intro y0 y1 y2 y3
   unfold impl_seenOf.l0
   repeat' first
   | (with_reducible exact ih0 _ _ _ _)
   | (with_reducible exact LeO.refl _)
   | (with_reducible exact LeO.none _)
   | (with_reducible refine LeO.ite ?_ ?_)
   | (with_reducible refine LeO.bind ?_ (fun _=>?_))
   | exact ih0 _ _ _ _
   | exact LeO.none _
   | refine LeO.ite ?_ ?_
   | refine LeO.bind ?_ (fun _=>?_)
theorem impl_seenOf.mono:∀ a0 a1 k,LeO (impl_seenOf.f k a0 a1) (impl_seenOf.f (k+1) a0 a1):=by
 intro a0 a1 k
 have ih0:=impl_seenOf.mono_l k
 unfold impl_seenOf.f
 repeat' first
   | (with_reducible exact ih0 _ _ _ _)
   | (with_reducible exact LeO.refl _)
   | (with_reducible exact LeO.none _)
   | (with_reducible refine LeO.ite ?_ ?_)
   | (with_reducible refine LeO.bind ?_ (fun _=>?_))
   | exact ih0 _ _ _ _
   | exact LeO.none _
   | refine LeO.ite ?_ ?_
   | refine LeO.bind ?_ (fun _=>?_)
set_option maxHeartbeats 8000000 in
set_option maxRecDepth 100000 in
theorem impl_seenOf.calls (k:Nat) (A0:Option Addr) (c0:Nat) (l0:List (S56)) (a1:Int) (r:Int) (w:World) (hr0:Kd.C k56 w A0 l0.length l0) (hc0:l0.length≤c0) (h:impl_seenOf.f k l0 a1=some r) :
  Calls Try.prog 94 #[.slice A0 l0.length c0,.int .i64 a1] w fun e w'=>e = .returned (.int .i64 r)∧Below w.heap.size w w':=by
 have hu56:=Try.underlying56
 have HR0:=Aside0.mk hr0
 have HC0:=Aside0.mk hc0
 clear hr0 hc0
 have HB:=Aside0.mk (Below.refl w.heap.size w)
 have H:(impl_seenOf.l0 k a1 l0 (l0.length:Int) 0)=some r:=h
 clear h
 have H':=Aside0.mk H
 clear H
 go_enter Try.func94,Try.ntmps94
 go_wp2
 go_loopg [9] k (fun kq v9 w'=>∃ (x9_1:Int),v9 = .int .i64 x9_1∧Aside0 (impl_seenOf.l0 kq a1 l0 (l0.length:Int) x9_1=some r)∧Aside0 (kq≤k)∧Aside0 (Below w.heap.size w w'))
 case atStart=>exact ⟨(0),(z3_),H',⟨Nat.le_refl _⟩,⟨z4_ HB.out⟩⟩
 case round =>
  clear H'
  try clear p2
  obtain ⟨x9_1,rfl,HA,HK1,HB⟩:=hrel
  cases gk with
  | zero=>exact absurd HA.out (by simp [impl_seenOf.l0])
  | succ k1 =>
   have H:=HA.out
   clear HA
   simp only [impl_seenOf.l0] at H
   by_cases c3:x9_1<(l0.length:Int)
   ·rw [if_pos c3] at H
    have c3b0:decide (x9_1<(l0.length:Int))=true:=decide_eq_true c3
    clear c3
    by_cases c4:0≤x9_1
    ·rw [if_pos c4] at H
     have c4b0:decide (0≤x9_1)=true:=decide_eq_true c4
     clear c4
     by_cases c5:x9_1<(l0.length:Int)
     ·rw [if_pos c5] at H
      have c5b0:decide (x9_1<(l0.length:Int))=true:=decide_eq_true c5
      clear c5
      by_cases c6:((rd_T56 l0 x9_1).f0)=a1
      ·rw [if_pos c6] at H
       have c6b0:(((rd_T56 l0 x9_1).f0) == a1)=true:=beq_iff_eq.mpr c6
       have c6b1:(((rd_T56 l0 x9_1).f0) != a1)=false:=bne_eq_false_iff_eq.mpr c6
       clear c6
       obtain rfl:=Option.some.inj H
       have p258:0≤(x9_1:Int):=of_decide_eq_true (z2_)
       have q258:x9_1<(l0.length:Int):=of_decide_eq_true (z2_)
       obtain ⟨ad258,e258,hx258_0,hx258_1⟩:=at_T56 HR0.out x9_1 p258 q258
       cases e258
       replace hx258_0:=(HB.out.cell (World.block_lt_of_cell? w _ hx258_0)).trans hx258_0
       replace hx258_1:=(HB.out.cell (World.block_lt_of_cell? w _ hx258_1)).trans hx258_1
       replace p258:=eq_true p258
       replace q258:=eq_true q258
       go_wp2_with (first | ((with_reducible refine gd_ 6 ?_);refine be_ 6 #[.int .i64 0,.int .i64 0] 56 ?_;intro gb259 hg w7 hbox hb;refine as4_ (below_step (z4_ HB.out) hb) (hbox) ((z7_ HB.out:w.heap.size≤gb259)) ((z7_ HB.out:w.heap.size≤gb259)) ?_;clear HB;intro HB BK259 GW259 GE259;clear hb hbox hg;have ⟨hcz8_0,hcz8_1,hfz8_0,hfz8_1⟩:=cz2_ BK259.out))
       go_ret
       exact ⟨z8_,z5_ HB.out GE259.out⟩
      ·rw [if_neg c6] at H
       have c6b0:(((rd_T56 l0 x9_1).f0) == a1)=false:=beq_eq_false_iff_ne.mpr c6
       have c6b1:(((rd_T56 l0 x9_1).f0) != a1)=true:=bne_iff_ne.mpr c6
       have H':=Aside0.mk H
       clear H
       have p258:0≤(x9_1:Int):=of_decide_eq_true (z2_)
       have q258:x9_1<(l0.length:Int):=of_decide_eq_true (z2_)
       obtain ⟨ad258,e258,hx258_0,hx258_1⟩:=at_T56 HR0.out x9_1 p258 q258
       cases e258
       replace hx258_0:=(HB.out.cell (World.block_lt_of_cell? w _ hx258_0)).trans hx258_0
       replace hx258_1:=(HB.out.cell (World.block_lt_of_cell? w _ hx258_1)).trans hx258_1
       replace p258:=eq_true p258
       replace q258:=eq_true q258
       go_wp2_with (first | ((with_reducible refine gd_ 6 ?_);refine be_ 6 #[.int .i64 0,.int .i64 0] 56 ?_;intro gb259 hg w9 hbox hb;refine as4_ (below_step (z4_ HB.out) hb) (hbox) ((z7_ HB.out:w.heap.size≤gb259)) ((z7_ HB.out:w.heap.size≤gb259)) ?_;clear HB;intro HB BK259 GW259 GE259;clear hb hbox hg;have ⟨hcz10_0,hcz10_1,hfz10_0,hfz10_1⟩:=cz2_ BK259.out))
       go_roundg k1
       case measure=>have:=HK1.out;omega
       case rel=>exact ⟨(wrap64 (x9_1+1)),(z3_),H',⟨by have:=HK1.out;omega⟩,⟨z5_ HB.out GE259.out⟩⟩
     ·rw [if_neg c5] at H
      exact absurd H (by simp)
    ·rw [if_neg c4] at H
     exact absurd H (by simp)
   ·rw [if_neg c3] at H
    have c3b0:decide (x9_1<(l0.length:Int))=false:=decide_eq_false c3
    clear c3
    obtain rfl:=Option.some.inj H
    go_wp2
    go_ret
    exact ⟨z8_,z4_ HB.out⟩


/-! ### impl_seenHas: function 64 -/
def impl_seenHas.f (k:Nat) (l0:List (S56)) (a1_0:Int) (a1_1:Int):Option (Bool):=(impl_seenOf.f k l0 a1_0).bind fun t261=>(some (decide (a1_1≤t261)))
theorem impl_seenHas.mono:∀ a0 a1 a2 k,LeO (impl_seenHas.f k a0 a1 a2) (impl_seenHas.f (k+1) a0 a1 a2):=by
 intro a0 a1 a2 k
 unfold impl_seenHas.f
 repeat' first
   | (with_reducible exact impl_seenOf.mono _ _ _)
   | (with_reducible exact LeO.refl _)
   | (with_reducible exact LeO.none _)
   | (with_reducible refine LeO.ite ?_ ?_)
   | (with_reducible refine LeO.bind ?_ (fun _=>?_))
   | exact impl_seenOf.mono _ _ _
   | exact LeO.none _
   | refine LeO.ite ?_ ?_
   | refine LeO.bind ?_ (fun _=>?_)
def impl_seenHas.T1:Bool × List (List Nat × List Nat):=(true,[([],[]),([0],[0]),([],[]),([],[]),([3],[3]),([2,4],[2,4]),([1,5],[1,5]),([6,5,0,1,2,3,4,5,6],[6])])
def impl_seenHas.B1:List Nat:=[0,1,0,0,8,28,63,127]
theorem impl_seenHas.tab1:rtab .any (opsOf Try.f64 1)=impl_seenHas.T1:=by kernel_rfl
theorem impl_seenHas.bits1:waitsOk impl_seenHas.T1.2 impl_seenHas.B1=true:=by kernel_rfl
set_option maxHeartbeats 8000000 in
set_option maxRecDepth 100000 in
theorem impl_seenHas.calls (k:Nat) (A0:Option Addr) (c0:Nat) (l0:List (S56)) (a1_0:Int) (a1_1:Int) (r:Bool) (w:World) (hr0:Kd.C k56 w A0 l0.length l0) (hc0:l0.length≤c0) (h:impl_seenHas.f k l0 a1_0 a1_1=some r) :
  Calls Try.prog 64 #[.slice A0 l0.length c0,.agg #[.int .i64 a1_0,.int .i64 a1_1]] w fun e w'=>e = .returned (.bool r)∧Below w.heap.size w w':=by
 have hu56:=Try.underlying56
 have HR0:=Aside0.mk hr0
 have HC0:=Aside0.mk hc0
 clear hr0 hc0
 have HB:=Aside0.mk (Below.refl w.heap.size w)
 have H:((impl_seenOf.f k l0 a1_0).bind fun t261=>(some (decide (a1_1≤t261))))=some r:=h
 clear h
 replace H:=Option.bind_eq_some_iff.mp H
 obtain ⟨t261,A30,H⟩:=H
 replace H:(some (decide (a1_1≤t261)))=some r:=H
 have A3:=Aside0.mk A30
 clear A30
 obtain rfl:=Option.some.inj H
 go_enter Try.func64,Try.ntmps64
 try go_wp2_with (first | ((with_reducible refine gd_ 3 ?_);refine be_ 3 #[.int .i64 a1_0,.int .i64 a1_1] 56 ?_;intro gb260 hg w4 hbox hb;refine as4_ (below_step (z4_ HB.out) hb) (hbox) ((z7_ HB.out:w.heap.size≤gb260)) ((z7_ HB.out:w.heap.size≤gb260)) ?_;clear HB;intro HB BK260 GW260 GE260;clear hb hbox hg))
 refine as2_ (blk_drew BK260.out) (below_drew1 HB.out) ?_
 clear BK260 HB
 intro BK260 HB
 refine start_ (n:=8) (S:=fun w'=>w'.cell? ⟨gb260,0,none⟩=some (.int .i64 a1_0)∧w'.cell? ⟨gb260,1,none⟩=some (.int .i64 a1_1)) (ds:=[]) #[O,O,O,O,O,O,O,O] (by kernel_rfl) rfl rfl (cc2_ BK260.out) (fun hHeld=>?_);refine with_tabW impl_seenHas.tab1 impl_seenHas.bits1 (fun HT_ HW_=>?_)
 generalize w4.drew=w5 at BK260 HB hHeld ⊢
 refine pu_ 0 5 #[I,O,O,O,O,O,O,O] HT_.out ?_
 refine pu_ 2 7 #[I,O,I,O,O,O,O,O] HT_.out ?_
 refine pu_ 3 8 #[I,O,I,I,O,O,O,O] HT_.out ?_
 refine tk2_ 1 6 #[I,I,I,I,O,O,O,O] HT_.out HW_.out hHeld ?_
 refine tk2_ 4 9 #[I,I,I,I,I,O,O,O] HT_.out HW_.out hHeld ?_
 refine o1_ 5 10 #[I,I,I,I,I,I,O,O] HT_.out (fun K hK=>?_)
 refine gs_ Try.func94 #[.slice A0 l0.length c0,.int .i64 a1_0] ?_
 with_reducible refine (impl_seenOf.calls k _ _ l0 a1_0 t261 _ ?s1 ?s2 A3.out).mono ?_
 (case s1=>repeat (first | exact (Kd.C_below HR0.out HB.out) | (with_reducible refine Kd.C_alloc ?_ _) | (with_reducible refine Kd.C_drewN ?_ _) | (with_reducible refine Kd.C_drew ?_)))
 (case s2=>exact HC0.out)
 rintro e w6 ⟨rfl,hb⟩
 refine ⟨_,rfl,?_⟩
 refine as2_ (blkB_ BK260.out hb) (below_step (z5_ HB.out GE260.out) hb) ?_
 clear BK260 HB
 intro BK260 HB
 (try clear hb)
 refine hK.out _ _ (cc2_ BK260.out) (fun hHeld=>?_)
 clear hK K
 refine nm_ 10 ?_
 refine pu_ 6 11 #[I,I,I,I,I,I,I,O] HT_.out ?_
 refine pu_ 7 4 #[I,I,I,I,I,I,I,I] HT_.out ?_
 refine done_ (done_of HT_.out (by kernel_rfl)) ?_
 try go_wp2
 go_ret
 exact ⟨z8_,z5_ HB.out GE260.out⟩


/-! ### impl_within: function 41 -/
def impl_within.f (a0:Int) (a1:Int) (a2:Int):Option (Bool):=if a1≤a0 then (some (decide (a0≤a2))) else (some false)
set_option maxHeartbeats 8000000 in
set_option maxRecDepth 100000 in
theorem impl_within.calls (a0:Int) (a1:Int) (a2:Int) (r:Bool) (w:World) (h:impl_within.f a0 a1 a2=some r) :
  Calls Try.prog 41 #[.int .i64 a0,.int .i64 a1,.int .i64 a2] w fun e w'=>e = .returned (.bool r)∧Drawn0 w w':=by
 have H:(if a1≤a0 then (some (decide (a0≤a2))) else (some false))=some r:=h
 clear h
 by_cases c4:a1≤a0
 ·rw [if_pos c4] at H
  have c4b0:decide (a1≤a0)=true:=decide_eq_true c4
  clear c4
  obtain rfl:=Option.some.inj H
  go_enter Try.func41,Try.ntmps41
  go_wp2
  go_ret
  exact ⟨z3_,z13_⟩
 ·rw [if_neg c4] at H
  have c4b0:decide (a1≤a0)=false:=decide_eq_false c4
  clear c4
  obtain rfl:=Option.some.inj H
  go_enter Try.func41,Try.ntmps41
  go_wp2
  go_ret
  exact ⟨z3_,z13_⟩


/-! ### impl_isNode: function 86 -/
def impl_isNode.f (a0:Int):Option (Bool):=(impl_within.f a0 1 5).bind fun t262=>(some t262)
set_option maxHeartbeats 8000000 in
set_option maxRecDepth 100000 in
theorem impl_isNode.calls (a0:Int) (r:Bool) (w:World) (h:impl_isNode.f a0=some r) :
  Calls Try.prog 86 #[.int .i64 a0] w fun e w'=>e = .returned (.bool r)∧Drawn0 w w':=by
 have H:((impl_within.f a0 1 5).bind fun t262=>(some t262))=some r:=h
 clear h
 replace H:=Option.bind_eq_some_iff.mp H
 obtain ⟨t262,A20,H⟩:=H
 replace H:(some t262)=some r:=H
 have A2:=Aside0.mk A20
 clear A20
 obtain rfl:=Option.some.inj H
 go_enter Try.func86,Try.ntmps86
 go_wp2_with (first | ((with_reducible refine gc_ 41 ?_);refine gl_ (some 4) Try.func41 #[.int .i64 a0,.int .i64 1,.int .i64 5] ?_;(with_reducible refine (impl_within.calls a0 1 5 t262 _ A2.out).mono ?_);rintro e w' ⟨rfl,⟨nd,rfl⟩⟩;refine ⟨_,rfl,?_⟩))
 go_ret
 exact ⟨z3_,z13_⟩


/-! ### impl_isDot: function 88 -/
def impl_isDot.f (a0_0:Int) (a0_1:Int):Option (Bool):=(impl_isNode.f a0_0).bind fun t264=>(if t264=true then ((impl_within.f a0_1 1 1000000).bind fun t265=>(some t265)) else (some false))
set_option maxHeartbeats 8000000 in
set_option maxRecDepth 100000 in
theorem impl_isDot.calls (a0_0:Int) (a0_1:Int) (r:Bool) (w:World) (h:impl_isDot.f a0_0 a0_1=some r) :
  Calls Try.prog 88 #[.agg #[.int .i64 a0_0,.int .i64 a0_1]] w fun e w'=>e = .returned (.bool r)∧Below w.heap.size w w':=by
 have hu56:=Try.underlying56
 have HB:=Aside0.mk (Below.refl w.heap.size w)
 have H:((impl_isNode.f a0_0).bind fun t264=>(if t264=true then ((impl_within.f a0_1 1 1000000).bind fun t265=>(some t265)) else (some false)))=some r:=h
 clear h
 replace H:=Option.bind_eq_some_iff.mp H
 obtain ⟨t264,A20,H⟩:=H
 replace H:(if t264=true then ((impl_within.f a0_1 1 1000000).bind fun t265=>(some t265)) else (some false))=some r:=H
 have A2:=Aside0.mk A20
 clear A20
 by_cases c3:t264=true
 ·subst c3
  have H1:((impl_within.f a0_1 1 1000000).bind fun t265=>(some t265))=some r:=by rw [if_pos rfl] at H;exact H
  clear H
  have H:=H1
  clear H1
  replace H:=Option.bind_eq_some_iff.mp H
  obtain ⟨t265,A40,H⟩:=H
  replace H:(some t265)=some r:=H
  have A4:=Aside0.mk A40
  clear A40
  obtain rfl:=Option.some.inj H
  go_enter Try.func88,Try.ntmps88
  go_wp2_with (first | ((with_reducible refine gd_ 1 ?_);refine be_ 1 #[.int .i64 a0_0,.int .i64 a0_1] 56 ?_;intro gb263 hg w5 hbox hb;refine as4_ (below_step (z4_ HB.out) hb) (hbox) ((z7_ HB.out:w.heap.size≤gb263)) ((z7_ HB.out:w.heap.size≤gb263)) ?_;clear HB;intro HB BK263 GW263 GE263;clear hb hbox hg;have ⟨hcz6_0,hcz6_1,hfz6_0,hfz6_1⟩:=cz2_ BK263.out) | ((with_reducible refine gc_ 86 ?_);refine gl_ (some 5) Try.func86 #[.int .i64 a0_0] ?_;(with_reducible refine (impl_isNode.calls a0_0 true _ A2.out).mono ?_);rintro e w' ⟨rfl,⟨nd,rfl⟩⟩;refine ⟨_,rfl,?_⟩) | (go_at_call 41;(with_reducible refine (impl_within.calls a0_1 1 1000000 t265 _ A4.out).mono ?_);rintro e w' ⟨rfl,⟨nd,rfl⟩⟩))
  go_ret
  exact ⟨z8_,z5_ HB.out GE263.out⟩
 ·replace c3:=Bool.eq_false_iff.mpr c3
  subst c3
  have H1:(some false)=some r:=by rw [if_neg (show ¬ (false=true) by decide)] at H;exact H
  clear H
  have H:=H1
  clear H1
  obtain rfl:=Option.some.inj H
  go_enter Try.func88,Try.ntmps88
  go_wp2_with (first | ((with_reducible refine gd_ 1 ?_);refine be_ 1 #[.int .i64 a0_0,.int .i64 a0_1] 56 ?_;intro gb263 hg w7 hbox hb;refine as4_ (below_step (z4_ HB.out) hb) (hbox) ((z7_ HB.out:w.heap.size≤gb263)) ((z7_ HB.out:w.heap.size≤gb263)) ?_;clear HB;intro HB BK263 GW263 GE263;clear hb hbox hg;have ⟨hcz8_0,hcz8_1,hfz8_0,hfz8_1⟩:=cz2_ BK263.out) | ((with_reducible refine gc_ 86 ?_);refine gl_ (some 5) Try.func86 #[.int .i64 a0_0] ?_;(with_reducible refine (impl_isNode.calls a0_0 false _ A2.out).mono ?_);rintro e w' ⟨rfl,⟨nd,rfl⟩⟩;refine ⟨_,rfl,?_⟩))
  go_ret
  exact ⟨z8_,z5_ HB.out GE263.out⟩

end Go.Proofs.Ytphbgcfpcadabaa.P
