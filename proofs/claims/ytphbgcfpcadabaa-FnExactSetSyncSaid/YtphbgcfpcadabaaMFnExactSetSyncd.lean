/- For all sets the program's SetSync and the reference's return the same, of its own memory, and leave what they are given. No condition. (Part 4 of 6: written by programs of this workplace and by hand, merged.) -/
import Derived.Test.YtphbgcfpcadabaaMFnExactSetSynca
import Derived.Test.YtphbgcfpcadabaaMFnExactSetSyncb
import Derived.Test.YtphbgcfpcadabaaMFnExactSetSyncc
set_option linter.unusedVariables false
set_option linter.unusedSimpArgs false

namespace Go.Proofs.Ytphbgcfpcadabaa.P
open Go.RowKit Go.Proofs.YtphbgcfpcadabaaW.PrintWords Go.Proofs.YtphbgcfpcadabaaW.PrintLast Go.Proofs.YtphbgcfpcadabaaW.PrintMore
attribute [local go_sem] max2_int min2_int max_two min_two max_three min_three max_four min_four   -- for this text's walks alone
set_option linter.unusedVariables false
set_option linter.unusedSimpArgs false

/-! ### impl_SetSync: function 25 -/
mutual
def impl_SetSync.j0:Nat→Bool→List (S56)→List (S91)→List (S56)→List (S91)→Option ((List (S56)) × (List (S91)) × Int × Int × Int)
 | 0,_,_,_,_,_=>none
 | k+1,x17,x628000,x628001,x629000,x629001=>if x17=true then (some (([]:List (S56)),([]:List (S91)),0,0,1)) else ((impl_seenJoin.f k x628000 x629000).bind fun t632=>(impl_SetSync.l0 k x628001 (x628001.length:Int) 0 x628000 x628001 x629000 x629001 t632 ([]:List (S91))))
def impl_SetSync.l0:Nat→List (S91)→Int→Int→List (S56)→List (S91)→List (S56)→List (S91)→List (S56)→List (S91)→Option ((List (S56)) × (List (S91)) × Int × Int × Int)
 | 0,_,_,_,_,_,_,_,_,_=>none
 | k+1,x26,x27,x28,x628000,x628001,x629000,x629001,x636000,x636001=>if x28<x27 then (if 0≤x28 then (if x28<(x26.length:Int) then ((impl_Set_sib.f k x629000 x629001 ((rd_T91 x26 x28).f0.f0) ((rd_T91 x26 x28).f0.f1)).bind fun t638=>(if t638≥0 then (impl_SetSync.j2 k x26 x27 x28 true x628000 x628001 x629000 x629001 x636000 x636001 ((rd_T91 x26 x28).f0.f0) ((rd_T91 x26 x28).f0.f1) ((rd_T91 x26 x28).f1) ((rd_T91 x26 x28).f2)) else ((impl_seenHas.f k x629000 ((rd_T91 x26 x28).f0.f0) ((rd_T91 x26 x28).f0.f1)).bind fun t639=>(impl_SetSync.j2 k x26 x27 x28 (!t639) x628000 x628001 x629000 x629001 x636000 x636001 ((rd_T91 x26 x28).f0.f0) ((rd_T91 x26 x28).f0.f1) ((rd_T91 x26 x28).f1) ((rd_T91 x26 x28).f2))))) else (none)) else (none)) else (impl_SetSync.l1 k x629001 (x629001.length:Int) 0 x628000 x628001 x636000 x636001)
def impl_SetSync.j2:Nat→List (S91)→Int→Int→Bool→List (S56)→List (S91)→List (S56)→List (S91)→List (S56)→List (S91)→Int→Int→Bool→ByteArray→Option ((List (S56)) × (List (S91)) × Int × Int × Int)
 | 0,_,_,_,_,_,_,_,_,_,_,_,_,_,_=>none
 | k+1,x26,x27,x28,x44,x628000,x628001,x629000,x629001,x636000,x636001,x638000,x638001,x638002,x638003=>if x44=true then (if x636001.length<3518437208883 then (impl_SetSync.l0 k x26 x27 (wrap64 (x28+1)) x628000 x628001 x629000 x629001 x636000 (x636001 ++ [(⟨(⟨x638000,x638001⟩:S56),x638002,x638003⟩:S91)])) else (none)) else (impl_SetSync.l0 k x26 x27 (wrap64 (x28+1)) x628000 x628001 x629000 x629001 x636000 x636001)
def impl_SetSync.l1:Nat→List (S91)→Int→Int→List (S56)→List (S91)→List (S56)→List (S91)→Option ((List (S56)) × (List (S91)) × Int × Int × Int)
 | 0,_,_,_,_,_,_,_=>none
 | k+1,x53,x54,x55,x628000,x628001,x636000,x636001=>if x55<x54 then (if 0≤x55 then (if x55<(x53.length:Int) then ((impl_Set_sib.f k x628000 x628001 ((rd_T91 x53 x55).f0.f0) ((rd_T91 x53 x55).f0.f1)).bind fun t645=>(if t645<0 then ((impl_seenHas.f k x628000 ((rd_T91 x53 x55).f0.f0) ((rd_T91 x53 x55).f0.f1)).bind fun t646=>(impl_SetSync.j4 k x53 x54 x55 (!t646) x628000 x628001 x636000 x636001 ((rd_T91 x53 x55).f0.f0) ((rd_T91 x53 x55).f0.f1) ((rd_T91 x53 x55).f1) ((rd_T91 x53 x55).f2))) else (impl_SetSync.j4 k x53 x54 x55 false x628000 x628001 x636000 x636001 ((rd_T91 x53 x55).f0.f0) ((rd_T91 x53 x55).f0.f1) ((rd_T91 x53 x55).f1) ((rd_T91 x53 x55).f2)))) else (none)) else (none)) else (if (x636001.length:Int)>8 then (some (([]:List (S56)),([]:List (S91)),0,0,9)) else ((impl_sorted.f k x636001).bind fun t650=>(some (x636000,t650,0,0,0))))
def impl_SetSync.j4:Nat→List (S91)→Int→Int→Bool→List (S56)→List (S91)→List (S56)→List (S91)→Int→Int→Bool→ByteArray→Option ((List (S56)) × (List (S91)) × Int × Int × Int)
 | 0,_,_,_,_,_,_,_,_,_,_,_,_=>none
 | k+1,x53,x54,x55,x71,x628000,x628001,x636000,x636001,x645000,x645001,x645002,x645003=>if x71=true then (if x636001.length<3518437208883 then (impl_SetSync.l1 k x53 x54 (wrap64 (x55+1)) x628000 x628001 x636000 (x636001 ++ [(⟨(⟨x645000,x645001⟩:S56),x645002,x645003⟩:S91)])) else (none)) else (impl_SetSync.l1 k x53 x54 (wrap64 (x55+1)) x628000 x628001 x636000 x636001)
end
def impl_SetSync.f (k:Nat) (l0_0:List (S56)) (l0_1:List (S91)) (l1_0:List (S56)) (l1_1:List (S91)):Option ((List (S56)) × (List (S91)) × Int × Int × Int):=(impl_SetRight.f k l0_0 l0_1).bind fun t630=>(if t630=true then ((impl_SetRight.f k l1_0 l1_1).bind fun t631=>(impl_SetSync.j0 k (!t631) l0_0 l0_1 l1_0 l1_1)) else (impl_SetSync.j0 k true l0_0 l0_1 l1_0 l1_1))
theorem impl_SetSync.mono_l:∀ k,(∀ y0 y1 y2 y3 y4,LeO (impl_SetSync.j0 k y0 y1 y2 y3 y4) (impl_SetSync.j0 (k+1) y0 y1 y2 y3 y4))∧(∀ y0 y1 y2 y3 y4 y5 y6 y7 y8,LeO (impl_SetSync.l0 k y0 y1 y2 y3 y4 y5 y6 y7 y8) (impl_SetSync.l0 (k+1) y0 y1 y2 y3 y4 y5 y6 y7 y8))∧(∀ y0 y1 y2 y3 y4 y5 y6 y7 y8 y9 y10 y11 y12 y13,LeO (impl_SetSync.j2 k y0 y1 y2 y3 y4 y5 y6 y7 y8 y9 y10 y11 y12 y13) (impl_SetSync.j2 (k+1) y0 y1 y2 y3 y4 y5 y6 y7 y8 y9 y10 y11 y12 y13))∧(∀ y0 y1 y2 y3 y4 y5 y6,LeO (impl_SetSync.l1 k y0 y1 y2 y3 y4 y5 y6) (impl_SetSync.l1 (k+1) y0 y1 y2 y3 y4 y5 y6))∧(∀ y0 y1 y2 y3 y4 y5 y6 y7 y8 y9 y10 y11,LeO (impl_SetSync.j4 k y0 y1 y2 y3 y4 y5 y6 y7 y8 y9 y10 y11) (impl_SetSync.j4 (k+1) y0 y1 y2 y3 y4 y5 y6 y7 y8 y9 y10 y11))
 | 0=>⟨fun _ _ _ _ _ r h=>by simp [impl_SetSync.j0] at h,fun _ _ _ _ _ _ _ _ _ r h=>by simp [impl_SetSync.l0] at h,fun _ _ _ _ _ _ _ _ _ _ _ _ _ _ r h=>by simp [impl_SetSync.j2] at h,fun _ _ _ _ _ _ _ r h=>by simp [impl_SetSync.l1] at h,fun _ _ _ _ _ _ _ _ _ _ _ _ r h=>by simp [impl_SetSync.j4] at h⟩
 | k+1=>by
  obtain ⟨ih0,ih1,ih2,ih3,ih4⟩:=impl_SetSync.mono_l k
  refine ⟨?_,?_,?_,?_,?_⟩
  ·intro y0 y1 y2 y3 y4
   unfold impl_SetSync.j0
   repeat' first
   | (with_reducible exact ih0 _ _ _ _ _)
   | (with_reducible exact ih1 _ _ _ _ _ _ _ _ _)
   | (with_reducible exact ih2 _ _ _ _ _ _ _ _ _ _ _ _ _ _)
   | (with_reducible exact ih3 _ _ _ _ _ _ _)
   | (with_reducible exact ih4 _ _ _ _ _ _ _ _ _ _ _ _)
   | (with_reducible exact impl_SetRight.mono _ _ _)
   | (with_reducible exact impl_Set_sib.mono _ _ _ _ _)
   | (with_reducible exact impl_seenHas.mono _ _ _ _)
   | (with_reducible exact impl_seenJoin.mono _ _ _)
   | (with_reducible exact impl_sorted.mono _ _)
   | (with_reducible exact LeO.refl _)
   | (with_reducible exact LeO.none _)
   | (with_reducible refine LeO.ite ?_ ?_)
   | (with_reducible refine LeO.bind ?_ (fun _=>?_))
   | exact ih0 _ _ _ _ _
   | exact ih1 _ _ _ _ _ _ _ _ _
   | exact ih2 _ _ _ _ _ _ _ _ _ _ _ _ _ _
   | exact ih3 _ _ _ _ _ _ _
   | exact ih4 _ _ _ _ _ _ _ _ _ _ _ _
   | exact impl_SetRight.mono _ _ _
   | exact impl_Set_sib.mono _ _ _ _ _
   | exact impl_seenHas.mono _ _ _ _
   | exact impl_seenJoin.mono _ _ _
   | exact impl_sorted.mono _ _
   | exact LeO.none _
   | refine LeO.ite ?_ ?_
   | refine LeO.bind ?_ (fun _=>?_)
  ·intro y0 y1 y2 y3 y4 y5 y6 y7 y8
   unfold impl_SetSync.l0
   repeat' first
   | (with_reducible exact ih0 _ _ _ _ _)
   | (with_reducible exact ih1 _ _ _ _ _ _ _ _ _)
   | (with_reducible exact ih2 _ _ _ _ _ _ _ _ _ _ _ _ _ _)
   | (with_reducible exact ih3 _ _ _ _ _ _ _)
   | (with_reducible exact ih4 _ _ _ _ _ _ _ _ _ _ _ _)
   | (with_reducible exact impl_SetRight.mono _ _ _)
   | (with_reducible exact impl_Set_sib.mono _ _ _ _ _)
   | (with_reducible exact impl_seenHas.mono _ _ _ _)
   | (with_reducible exact impl_seenJoin.mono _ _ _)
   | (with_reducible exact impl_sorted.mono _ _)
   | (with_reducible exact LeO.refl _)
   | (with_reducible exact LeO.none _)
   | (with_reducible refine LeO.ite ?_ ?_)
   | (with_reducible refine LeO.bind ?_ (fun _=>?_))
   | exact ih0 _ _ _ _ _
   | exact ih1 _ _ _ _ _ _ _ _ _
   | exact ih2 _ _ _ _ _ _ _ _ _ _ _ _ _ _
   | exact ih3 _ _ _ _ _ _ _
   | exact ih4 _ _ _ _ _ _ _ _ _ _ _ _
   | exact impl_SetRight.mono _ _ _
   | exact impl_Set_sib.mono _ _ _ _ _
   | exact impl_seenHas.mono _ _ _ _
   | exact impl_seenJoin.mono _ _ _
   | exact impl_sorted.mono _ _
   | exact LeO.none _
   | refine LeO.ite ?_ ?_
   | refine LeO.bind ?_ (fun _=>?_)
  ·intro y0 y1 y2 y3 y4 y5 y6 y7 y8 y9 y10 y11 y12 y13
   unfold impl_SetSync.j2
   repeat' first
   | (with_reducible exact ih0 _ _ _ _ _)
   | (with_reducible exact ih1 _ _ _ _ _ _ _ _ _)
   | (with_reducible exact ih2 _ _ _ _ _ _ _ _ _ _ _ _ _ _)
   | (with_reducible exact ih3 _ _ _ _ _ _ _)
   | (with_reducible exact ih4 _ _ _ _ _ _ _ _ _ _ _ _)
   | (with_reducible exact impl_SetRight.mono _ _ _)
   | (with_reducible exact impl_Set_sib.mono _ _ _ _ _)
   | (with_reducible exact impl_seenHas.mono _ _ _ _)
   | (with_reducible exact impl_seenJoin.mono _ _ _)
   | (with_reducible exact impl_sorted.mono _ _)
   | (with_reducible exact LeO.refl _)
   | (with_reducible exact LeO.none _)
   | (with_reducible refine LeO.ite ?_ ?_)
   | (with_reducible refine LeO.bind ?_ (fun _=>?_))
   | exact ih0 _ _ _ _ _
   | exact ih1 _ _ _ _ _ _ _ _ _
   | exact ih2 _ _ _ _ _ _ _ _ _ _ _ _ _ _
   | exact ih3 _ _ _ _ _ _ _
   | exact ih4 _ _ _ _ _ _ _ _ _ _ _ _
   | exact impl_SetRight.mono _ _ _
   | exact impl_Set_sib.mono _ _ _ _ _
   | exact impl_seenHas.mono _ _ _ _
   | exact impl_seenJoin.mono _ _ _
   | exact impl_sorted.mono _ _
   | exact LeO.none _
   | refine LeO.ite ?_ ?_
   | refine LeO.bind ?_ (fun _=>?_)
  ·intro y0 y1 y2 y3 y4 y5 y6
   unfold impl_SetSync.l1
   repeat' first
   | (with_reducible exact ih0 _ _ _ _ _)
   | (with_reducible exact ih1 _ _ _ _ _ _ _ _ _)
   | (with_reducible exact ih2 _ _ _ _ _ _ _ _ _ _ _ _ _ _)
   | (with_reducible exact ih3 _ _ _ _ _ _ _)
   | (with_reducible exact ih4 _ _ _ _ _ _ _ _ _ _ _ _)
   | (with_reducible exact impl_SetRight.mono _ _ _)
   | (with_reducible exact impl_Set_sib.mono _ _ _ _ _)
   | (with_reducible exact impl_seenHas.mono _ _ _ _)
   | (with_reducible exact impl_seenJoin.mono _ _ _)
   | (with_reducible exact impl_sorted.mono _ _)
   | (with_reducible exact LeO.refl _)
   | (with_reducible exact LeO.none _)
   | (with_reducible refine LeO.ite ?_ ?_)
   | (with_reducible refine LeO.bind ?_ (fun _=>?_))
   | exact ih0 _ _ _ _ _
   | exact ih1 _ _ _ _ _ _ _ _ _
   | exact ih2 _ _ _ _ _ _ _ _ _ _ _ _ _ _
   | exact ih3 _ _ _ _ _ _ _
   | exact ih4 _ _ _ _ _ _ _ _ _ _ _ _
   | exact impl_SetRight.mono _ _ _
   | exact impl_Set_sib.mono _ _ _ _ _
   | exact impl_seenHas.mono _ _ _ _
   | exact impl_seenJoin.mono _ _ _
   | exact impl_sorted.mono _ _
   | exact LeO.none _
   | refine LeO.ite ?_ ?_
   | refine LeO.bind ?_ (fun _=>?_)
  ·intro y0 y1 y2 y3 y4 y5 y6 y7 y8 y9 y10 y11
   unfold impl_SetSync.j4
   repeat' first
   | (with_reducible exact ih0 _ _ _ _ _)
   | (with_reducible exact ih1 _ _ _ _ _ _ _ _ _)
   | (with_reducible exact ih2 _ _ _ _ _ _ _ _ _ _ _ _ _ _)
   | (with_reducible exact ih3 _ _ _ _ _ _ _)
   | (with_reducible exact ih4 _ _ _ _ _ _ _ _ _ _ _ _)
   | (with_reducible exact impl_SetRight.mono _ _ _)
   | (with_reducible exact impl_Set_sib.mono _ _ _ _ _)
   | (with_reducible exact impl_seenHas.mono _ _ _ _)
   | (with_reducible exact impl_seenJoin.mono _ _ _)
   | (with_reducible exact impl_sorted.mono _ _)
   | (with_reducible exact LeO.refl _)
   | (with_reducible exact LeO.none _)
   | (with_reducible refine LeO.ite ?_ ?_)
   | (with_reducible refine LeO.bind ?_ (fun _=>?_))
   | exact ih0 _ _ _ _ _
   | exact ih1 _ _ _ _ _ _ _ _ _
   | exact ih2 _ _ _ _ _ _ _ _ _ _ _ _ _ _
   | exact ih3 _ _ _ _ _ _ _
   | exact ih4 _ _ _ _ _ _ _ _ _ _ _ _
   | exact impl_SetRight.mono _ _ _
   | exact impl_Set_sib.mono _ _ _ _ _
   | exact impl_seenHas.mono _ _ _ _
   | exact impl_seenJoin.mono _ _ _
   | exact impl_sorted.mono _ _
   | exact LeO.none _
   | refine LeO.ite ?_ ?_
   | refine LeO.bind ?_ (fun _=>?_)
theorem impl_SetSync.mono:∀ a0 a1 a2 a3 k,LeO (impl_SetSync.f k a0 a1 a2 a3) (impl_SetSync.f (k+1) a0 a1 a2 a3):=by
 intro a0 a1 a2 a3 k
 obtain ⟨ih0,ih1,ih2,ih3,ih4⟩:=impl_SetSync.mono_l k
 unfold impl_SetSync.f
 repeat' first
   | (with_reducible exact ih0 _ _ _ _ _)
   | (with_reducible exact ih1 _ _ _ _ _ _ _ _ _)
   | (with_reducible exact ih2 _ _ _ _ _ _ _ _ _ _ _ _ _ _)
   | (with_reducible exact ih3 _ _ _ _ _ _ _)
   | (with_reducible exact ih4 _ _ _ _ _ _ _ _ _ _ _ _)
   | (with_reducible exact impl_SetRight.mono _ _ _)
   | (with_reducible exact impl_Set_sib.mono _ _ _ _ _)
   | (with_reducible exact impl_seenHas.mono _ _ _ _)
   | (with_reducible exact impl_seenJoin.mono _ _ _)
   | (with_reducible exact impl_sorted.mono _ _)
   | (with_reducible exact LeO.refl _)
   | (with_reducible exact LeO.none _)
   | (with_reducible refine LeO.ite ?_ ?_)
   | (with_reducible refine LeO.bind ?_ (fun _=>?_))
   | exact ih0 _ _ _ _ _
   | exact ih1 _ _ _ _ _ _ _ _ _
   | exact ih2 _ _ _ _ _ _ _ _ _ _ _ _ _ _
   | exact ih3 _ _ _ _ _ _ _
   | exact ih4 _ _ _ _ _ _ _ _ _ _ _ _
   | exact impl_SetRight.mono _ _ _
   | exact impl_Set_sib.mono _ _ _ _ _
   | exact impl_seenHas.mono _ _ _ _
   | exact impl_seenJoin.mono _ _ _
   | exact impl_sorted.mono _ _
   | exact LeO.none _
   | refine LeO.ite ?_ ?_
   | refine LeO.bind ?_ (fun _=>?_)
set_option maxHeartbeats 8000000 in
set_option maxRecDepth 100000 in
theorem impl_SetSync.calls (k:Nat) (A0_0:Option Addr) (c0_0:Nat) (l0_0:List (S56)) (A0_1:Option Addr) (c0_1:Nat) (l0_1:List (S91)) (A1_0:Option Addr) (c1_0:Nat) (l1_0:List (S56)) (A1_1:Option Addr) (c1_1:Nat) (l1_1:List (S91)) (r1:List (S56)) (r2:List (S91)) (r3:Int) (r4:Int) (r5:Int) (w:World) (hr0_0:Kd.C k56 w A0_0 l0_0.length l0_0) (hc0_0:l0_0.length≤c0_0) (hr0_1:Kd.C k91 w A0_1 l0_1.length l0_1) (hc0_1:l0_1.length≤c0_1) (hr1_0:Kd.C k56 w A1_0 l1_0.length l1_0) (hc1_0:l1_0.length≤c1_0) (hr1_1:Kd.C k91 w A1_1 l1_1.length l1_1) (hc1_1:l1_1.length≤c1_1) (h:impl_SetSync.f k l0_0 l0_1 l1_0 l1_1=some (r1,r2,r3,r4,r5)) :
  Calls Try.prog 25 #[.agg #[.slice A0_0 l0_0.length c0_0,.slice A0_1 l0_1.length c0_1],.agg #[.slice A1_0 l1_0.length c1_0,.slice A1_1 l1_1.length c1_1]] w fun e w'=>∃ v0_ v1_:Value,e = .returned (.agg #[v0_,v1_,.int .i64 r3,.int .i64 r4,.int .i64 r5])∧Kd.R k56 56 w' w.heap.size (fun _=>True) v0_ r1∧Kd.R k91 91 w' w.heap.size (fun _=>True) v1_ r2∧Below w.heap.size w w':=by
 have hu40:=Try.underlying40
 have hu58:=Try.underlying58
 have hu91:=Try.underlying91
 have hu56:=Try.underlying56
 have HR0_0:=Aside0.mk hr0_0
 have HC0_0:=Aside0.mk hc0_0
 clear hr0_0 hc0_0
 have HR0_1:=Aside0.mk hr0_1
 have HC0_1:=Aside0.mk hc0_1
 clear hr0_1 hc0_1
 have HR1_0:=Aside0.mk hr1_0
 have HC1_0:=Aside0.mk hc1_0
 clear hr1_0 hc1_0
 have HR1_1:=Aside0.mk hr1_1
 have HC1_1:=Aside0.mk hc1_1
 clear hr1_1 hc1_1
 have HB:=Aside0.mk (Below.refl w.heap.size w)
 have H:((impl_SetRight.f k l0_0 l0_1).bind fun t630=>(if t630=true then ((impl_SetRight.f k l1_0 l1_1).bind fun t631=>(impl_SetSync.j0 k (!t631) l0_0 l0_1 l1_0 l1_1)) else (impl_SetSync.j0 k true l0_0 l0_1 l1_0 l1_1)))=some (r1,r2,r3,r4,r5):=h
 clear h
 have HC3:=Aside0.mk H
 clear H
 go_enter Try.func25,Try.ntmps25
 go_upto_region 1 with (first | ((with_reducible refine gd_ 2 ?_);refine be_ 2 #[.slice A0_0 l0_0.length c0_0,.slice A0_1 l0_1.length c0_1] 40 ?_;intro gb627 hg w4 hbox hb;refine as4_ (below_step (z4_ HB.out) hb) (hbox) ((z7_ HB.out:w.heap.size≤gb627)) ((z7_ HB.out:w.heap.size≤gb627)) ?_;clear HB;intro HB BK627 GW627 GE627;clear hb hbox hg) | ((with_reducible refine gd_ 3 ?_);refine be_ 3 #[.slice A1_0 l1_0.length c1_0,.slice A1_1 l1_1.length c1_1] 40 ?_;intro gb628 hg w5 hbox hb;refine as7_ (blkB_ BK627.out hb) (below_step (z5_ HB.out GE627.out) hb) (hbox) ((z10_ HB.out GE627.out:w.heap.size≤gb628)) ((z10_ HB.out GE627.out:w.heap.size≤gb628)) (neL_ BK627.out hg) (neG_ BK627.out hg) ?_;clear BK627 HB;intro BK627 HB BK628 GW628 GE628 NB627_628 NB628_627;clear hb hbox hg) | ((with_reducible refine gd_ 4 ?_);refine be_ 4 #[.slice none 0 0,.slice none 0 0,.int .i64 0,.int .i64 0,.int .i64 0] 58 ?_;intro gb629 hg w6 hbox hb;refine as10_ (blkB_ BK627.out hb) (blkB_ BK628.out hb) (below_step (z6_ HB.out GE627.out GE628.out) hb) (hbox) ((z23_ HB.out GE627.out GE628.out:w.heap.size≤gb629)) ((z23_ HB.out GE627.out GE628.out:w.heap.size≤gb629)) (neL_ BK627.out hg) (neG_ BK627.out hg) (neL_ BK628.out hg) (neG_ BK628.out hg) ?_;clear BK627 BK628 HB;intro BK627 BK628 HB BK629 GW629 GE629 NB627_629 NB629_627 NB628_629 NB629_628;clear hb hbox hg))
 (try simp only [Act.put,sa_,s0_,ss_])
 go_cut [17] (fun v17 wc=>∃ (kq:Nat) (x17_2:Bool),v17 = .bool x17_2∧Aside0 (impl_SetSync.j0 kq x17_2 l0_0 l0_1 l1_0 l1_1=some (r1,r2,r3,r4,r5))∧Aside0 (kq≤k)∧Aside0 (wc.heap[gb627]? = some (.cells #[(.slice A0_0 l0_0.length c0_0),(.slice A0_1 l0_1.length c0_1)] 40 (0,0)))∧Aside0 (wc.heap[gb628]? = some (.cells #[(.slice A1_0 l1_0.length c1_0),(.slice A1_1 l1_1.length c1_1)] 40 (0,0)))∧Aside0 (wc.heap[gb629]? = some (.cells #[(.slice none 0 0),(.slice none 0 0),.int .i64 0,.int .i64 0,.int .i64 0] 58 (0,0)))∧Aside0 (Below w.heap.size w wc))
 case first =>
  have H:=HC3.out
  clear HC3
  replace H:=Option.bind_eq_some_iff.mp H
  obtain ⟨t630,A70,H⟩:=H
  replace H:(if t630=true then ((impl_SetRight.f k l1_0 l1_1).bind fun t631=>(impl_SetSync.j0 k (!t631) l0_0 l0_1 l1_0 l1_1)) else (impl_SetSync.j0 k true l0_0 l0_1 l1_0 l1_1))=some (r1,r2,r3,r4,r5):=H
  have A7:=Aside0.mk A70
  clear A70
  by_cases c8:t630=true
  ·subst c8
   have H1:((impl_SetRight.f k l1_0 l1_1).bind fun t631=>(impl_SetSync.j0 k (!t631) l0_0 l0_1 l1_0 l1_1))=some (r1,r2,r3,r4,r5):=by rw [if_pos rfl] at H;exact H
   clear H
   have H:=H1
   clear H1
   replace H:=Option.bind_eq_some_iff.mp H
   obtain ⟨t631,A90,H⟩:=H
   replace H:(impl_SetSync.j0 k (!t631) l0_0 l0_1 l1_0 l1_1)=some (r1,r2,r3,r4,r5):=H
   have A9:=Aside0.mk A90
   clear A90
   have H':=Aside0.mk H
   clear H
   have hnb10:=NB627_628.out
   have hnc10:=NB628_627.out
   have hnb11:=NB627_629.out
   have hnc11:=NB629_627.out
   have ⟨hcz12_0,hcz12_1,hfz12_0,hfz12_1⟩:=cz2_ BK627.out
   go_wp2_with (first | ((with_reducible refine gc_ 56 ?_);refine gl_ (some 11) Try.func56 #[.agg #[.slice A0_0 l0_0.length c0_0,.slice A0_1 l0_1.length c0_1]] ?_;(with_reducible refine (impl_SetRight.calls k _ _ l0_0 _ _ l0_1 true _ ?s1 ?s2 ?s3 ?s4 A7.out).mono ?_);(case s1=>repeat (first | exact (Kd.C_below HR0_0.out HB.out) | (with_reducible refine Kd.C_alloc ?_ _) | (with_reducible refine Kd.C_drewN ?_ _) | (with_reducible refine Kd.C_drew ?_)));(case s2=>exact HC0_0.out);(case s3=>repeat (first | exact (Kd.C_below HR0_1.out HB.out) | (with_reducible refine Kd.C_alloc ?_ _) | (with_reducible refine Kd.C_drewN ?_ _) | (with_reducible refine Kd.C_drew ?_)));(case s4=>exact HC0_1.out);rintro e w13 ⟨rfl,hb⟩;refine ⟨_,rfl,?_⟩;refine as4_ (blkB_ BK627.out hb) (blkB_ BK628.out hb) (blkB_ BK629.out hb) (below_step (z9_ HB.out GE627.out GE628.out GE629.out) hb) ?_;clear BK627 BK628 BK629 HB;intro BK627 BK628 BK629 HB;(try clear hb);have hnb14:=NB628_629.out;have hnc14:=NB629_628.out;have ⟨hcz15_0,hcz15_1,hfz15_0,hfz15_1⟩:=cz2_ BK628.out) | (go_at_call 56;(with_reducible refine (impl_SetRight.calls k _ _ l1_0 _ _ l1_1 t631 _ ?s1 ?s2 ?s3 ?s4 A9.out).mono ?_);(case s1=>repeat (first | exact (Kd.C_below HR1_0.out HB.out) | (with_reducible refine Kd.C_alloc ?_ _) | (with_reducible refine Kd.C_drewN ?_ _) | (with_reducible refine Kd.C_drew ?_)));(case s2=>exact HC1_0.out);(case s3=>repeat (first | exact (Kd.C_below HR1_1.out HB.out) | (with_reducible refine Kd.C_alloc ?_ _) | (with_reducible refine Kd.C_drewN ?_ _) | (with_reducible refine Kd.C_drew ?_)));(case s4=>exact HC1_1.out);rintro e w16 ⟨rfl,hb⟩;refine as4_ (blkB_ BK627.out hb) (blkB_ BK628.out hb) (blkB_ BK629.out hb) (below_step (z9_ HB.out GE627.out GE628.out GE629.out) hb) ?_;clear BK627 BK628 BK629 HB;intro BK627 BK628 BK629 HB;(try clear hb)))
   go_meet
   case rel=>exact ⟨_,(!t631),(z3_),H',⟨by first | omega | exact Nat.le_refl _⟩,⟨z1_ BK627.out⟩,⟨z1_ BK628.out⟩,⟨z1_ BK629.out⟩,⟨z9_ HB.out GE627.out GE628.out GE629.out⟩⟩
  ·replace c8:=Bool.eq_false_iff.mpr c8
   subst c8
   have H1:(impl_SetSync.j0 k true l0_0 l0_1 l1_0 l1_1)=some (r1,r2,r3,r4,r5):=by rw [if_neg (show ¬ (false=true) by decide)] at H;exact H
   clear H
   have H:=H1
   clear H1
   have H':=Aside0.mk H
   clear H
   have hnb17:=NB627_628.out
   have hnc17:=NB628_627.out
   have hnb18:=NB627_629.out
   have hnc18:=NB629_627.out
   have ⟨hcz19_0,hcz19_1,hfz19_0,hfz19_1⟩:=cz2_ BK627.out
   go_wp2_with (first | ((with_reducible refine gc_ 56 ?_);refine gl_ (some 11) Try.func56 #[.agg #[.slice A0_0 l0_0.length c0_0,.slice A0_1 l0_1.length c0_1]] ?_;(with_reducible refine (impl_SetRight.calls k _ _ l0_0 _ _ l0_1 false _ ?s1 ?s2 ?s3 ?s4 A7.out).mono ?_);(case s1=>repeat (first | exact (Kd.C_below HR0_0.out HB.out) | (with_reducible refine Kd.C_alloc ?_ _) | (with_reducible refine Kd.C_drewN ?_ _) | (with_reducible refine Kd.C_drew ?_)));(case s2=>exact HC0_0.out);(case s3=>repeat (first | exact (Kd.C_below HR0_1.out HB.out) | (with_reducible refine Kd.C_alloc ?_ _) | (with_reducible refine Kd.C_drewN ?_ _) | (with_reducible refine Kd.C_drew ?_)));(case s4=>exact HC0_1.out);rintro e w20 ⟨rfl,hb⟩;refine ⟨_,rfl,?_⟩;refine as4_ (blkB_ BK627.out hb) (blkB_ BK628.out hb) (blkB_ BK629.out hb) (below_step (z9_ HB.out GE627.out GE628.out GE629.out) hb) ?_;clear BK627 BK628 BK629 HB;intro BK627 BK628 BK629 HB;(try clear hb)))
   go_meet
   case rel=>exact ⟨_,(true),(z3_),H',⟨by first | omega | exact Nat.le_refl _⟩,⟨z1_ BK627.out⟩,⟨z1_ BK628.out⟩,⟨z1_ BK629.out⟩,⟨z9_ HB.out GE627.out GE628.out GE629.out⟩⟩
 case rest =>
  clear HC3
  try clear c1
  try clear c2
  try clear p2
  try clear c5
  try clear c8
  try clear c10
  try clear c11
  try clear c14
  try clear c17
  try clear c18
  try clear hcz12_0
  try clear hcz12_1
  try clear hcz15_0
  try clear hcz15_1
  try clear hcz19_0
  try clear hcz19_1
  try clear hfz12_0
  try clear hfz12_1
  try clear hfz15_0
  try clear hfz15_1
  try clear hfz19_0
  try clear hfz19_1
  obtain ⟨kq,x17_2,rfl,HA,HJ2,BK627,BK628,BK629,HB⟩:=hcut
  cases kq with
  | zero=>exact absurd HA.out (by simp [impl_SetSync.j0])
  | succ kj2 =>
   have H:=HA.out
   clear HA
   simp only [impl_SetSync.j0] at H
   by_cases c21:x17_2=true
   ·subst c21
    have H1:(some (([]:List (S56)),([]:List (S91)),0,0,1))=some (r1,r2,r3,r4,r5):=by rw [if_pos rfl] at H;exact H
    clear H
    have H:=H1
    clear H1
    simp only [Option.some.injEq,Prod.mk.injEq] at H
    obtain ⟨rfl,rfl,rfl,rfl,rfl⟩:=H
    have hnb22:=NB629_627.out
    have hnc22:=NB627_629.out
    have hnb23:=NB629_628.out
    have hnc23:=NB628_629.out
    have ⟨hcz24_0,hcz24_1,hcz24_2,hcz24_3,hcz24_4,hfz24_0,hfz24_1,hfz24_2,hfz24_3,hfz24_4⟩:=cz5_ BK629.out
    go_wp2
    refine bodyPost_ret (results_cell_row rfl _ _ gb629 58 #[.slice none 0 0,.slice none 0 0,.int .i64 0,.int .i64 0,.int .i64 1] (0,0) _ rfl (z31_ BK629.out) Try.underlying58 rfl (by kernel_rfl)) rfl ?_
    exact ⟨_,_,z8_,z32_,z32_,z9_ HB.out GE627.out GE628.out GE629.out⟩
   ·replace c21:=Bool.eq_false_iff.mpr c21
    subst c21
    have H1:((impl_seenJoin.f kj2 l0_0 l1_0).bind fun t632=>(impl_SetSync.l0 kj2 l0_1 (l0_1.length:Int) 0 l0_0 l0_1 l1_0 l1_1 t632 ([]:List (S91))))=some (r1,r2,r3,r4,r5):=by rw [if_neg (show ¬ (false=true) by decide)] at H;exact H
    clear H
    have H:=H1
    clear H1
    replace H:=Option.bind_eq_some_iff.mp H
    obtain ⟨t632,A250,H⟩:=H
    replace H:(impl_SetSync.l0 kj2 l0_1 (l0_1.length:Int) 0 l0_0 l0_1 l1_0 l1_1 t632 ([]:List (S91)))=some (r1,r2,r3,r4,r5):=H
    have A25:=Aside0.mk A250
    clear A250
    have H':=Aside0.mk H
    clear H
    have hnb26:=NB627_628.out
    have hnc26:=NB628_627.out
    have hnb27:=NB627_629.out
    have hnc27:=NB629_627.out
    have ⟨hcz28_0,hcz28_1,hfz28_0,hfz28_1⟩:=cz2_ BK627.out
    have hnb29:=NB628_629.out
    have hnc29:=NB629_628.out
    have ⟨hcz30_0,hcz30_1,hfz30_0,hfz30_1⟩:=cz2_ BK628.out
    go_wp2_with (first | ((with_reducible refine gc_ 62 ?_);refine gl_ (some 23) Try.func62 #[.slice A0_0 l0_0.length c0_0,.slice A1_0 l1_0.length c1_0] ?_;(with_reducible refine (impl_seenJoin.calls kj2 _ _ l0_0 _ _ l1_0 t632 _ ?s1 ?s2 ?s3 ?s4 A25.out).mono ?_);(case s1=>repeat (first | exact (Kd.C_below HR0_0.out HB.out) | (with_reducible refine Kd.C_alloc ?_ _) | (with_reducible refine Kd.C_drewN ?_ _) | (with_reducible refine Kd.C_drew ?_)));(case s2=>exact HC0_0.out);(case s3=>repeat (first | exact (Kd.C_below HR1_0.out HB.out) | (with_reducible refine Kd.C_alloc ?_ _) | (with_reducible refine Kd.C_drewN ?_ _) | (with_reducible refine Kd.C_drew ?_)));(case s4=>exact HC1_0.out);rintro e w31 ⟨v633,rfl,ho0,hb⟩;refine ⟨_,rfl,?_⟩;refine as5_ (Kd.R_lower ho0 (below_size (z9_ HB.out GE627.out GE628.out GE629.out))) (blkB_ BK627.out hb) (blkB_ BK628.out hb) (blkB_ BK629.out hb) (below_step (z9_ HB.out GE627.out GE628.out GE629.out) hb) ?_;clear BK627 BK628 BK629 HB;intro HO634 BK627 BK628 BK629 HB;(try clear hb);(try clear ho0);obtain ⟨Ao32,co32,eo32⟩:=Kd.R_slice HO634.out;subst eo32) | ((with_reducible refine gd_ 5 ?_);refine be_ 5 #[.slice none 0 0,.slice none 0 0] 40 ?_;intro gb635 hg w33 hbox hb;refine as14_ (Kd.R_below (z0_ HO634.out) hb) (blkB_ BK627.out hb) (blkB_ BK628.out hb) (blkB_ BK629.out hb) (below_step (z9_ HB.out GE627.out GE628.out GE629.out) hb) (hbox) ((z38_ HB.out GE627.out GE628.out GE629.out:w.heap.size≤gb635)) ((z38_ HB.out GE627.out GE628.out GE629.out:w.heap.size≤gb635)) (neL_ BK627.out hg) (neG_ BK627.out hg) (neL_ BK628.out hg) (neG_ BK628.out hg) (neL_ BK629.out hg) (neG_ BK629.out hg) ?_;clear HO634 BK627 BK628 BK629 HB;intro HO634 BK627 BK628 BK629 HB BK635 GW635 GE635 NB627_635 NB635_627 NB628_635 NB635_628 NB629_635 NB635_629;clear hb hbox hg;have hnb34:=NB635_627.out;have hnc34:=NB627_635.out;have hnb35:=NB635_628.out;have hnc35:=NB628_635.out;have hnb36:=NB635_629.out;have hnc36:=NB629_635.out;have ⟨hcz37_0,hcz37_1,hfz37_0,hfz37_1⟩:=cz2_ BK635.out;have ⟨hcz38_0,hcz38_1,hfz38_0,hfz38_1⟩:=cz2_ BK627.out))
    go_loopg [28] kj2 (fun kq v28 w'=>∃ (x28_2:Int) (x636001_2:List (S91)) (u636001:Value),v28 = .int .i64 x28_2∧Aside0 (impl_SetSync.l0 kq l0_1 (l0_1.length:Int) x28_2 l0_0 l0_1 l1_0 l1_1 t632 x636001_2=some (r1,r2,r3,r4,r5))∧Aside0 (kq≤kj2)∧Aside0 (Kd.R k56 56 w' w.heap.size (fun _=>True) (.slice Ao32 t632.length co32) t632)∧Aside0 (Kd.R k91 91 w' w.heap.size (fun _=>True) u636001 x636001_2)∧Aside0 (w'.heap[gb627]? = some (.cells #[(.slice A0_0 l0_0.length c0_0),(.slice A0_1 l0_1.length c0_1)] 40 (0,0)))∧Aside0 (w'.heap[gb628]? = some (.cells #[(.slice A1_0 l1_0.length c1_0),(.slice A1_1 l1_1.length c1_1)] 40 (0,0)))∧Aside0 (w'.heap[gb629]? = some (.cells #[(.slice none 0 0),(.slice none 0 0),.int .i64 0,.int .i64 0,.int .i64 0] 58 (0,0)))∧Aside0 (w'.heap[gb635]? = some (.cells #[(.slice Ao32 t632.length co32),u636001] 40 (0,0)))∧Aside0 (Below w.heap.size w w'))
    case atStart=>exact ⟨(0),(([]:List (S91))),(.slice none 0 0),(z3_),H',⟨Nat.le_refl _⟩,⟨by (with_reducible repeat (first | apply Kd.R_alloc | apply Kd.R_drewN | apply Kd.R_drew));exact Kd.R_mono (rf2_ (Kd.R_types HO634.out BK635.out (by decide)) (fun _ hk=>hk.2)) (fun _ hk=>trivial)⟩,⟨z32_⟩,⟨z27_ NB627_635.out BK627.out⟩,⟨z27_ NB628_635.out BK628.out⟩,⟨z27_ NB629_635.out BK629.out⟩,⟨z34_ BK635.out⟩,⟨z14_ HB.out GE627.out GE628.out GE629.out GE635.out⟩⟩
    case round =>
     clear H'
     try clear c1
     try clear c2
     try clear p2
     try clear c3
     try clear c5
     try clear c6
     try clear c8
     try clear c10
     try clear c11
     try clear c14
     try clear c17
     try clear c18
     try clear c21
     try clear c22
     try clear c23
     try clear c25
     try clear c26
     try clear c27
     try clear c29
     try clear c34
     try clear c35
     try clear c36
     try clear hcz12_0
     try clear hcz12_1
     try clear hcz15_0
     try clear hcz15_1
     try clear hcz19_0
     try clear hcz19_1
     try clear hcz24_0
     try clear hcz24_1
     try clear hcz24_2
     try clear hcz24_3
     try clear hcz24_4
     try clear hcz28_0
     try clear hcz28_1
     try clear hcz30_0
     try clear hcz30_1
     try clear hcz37_0
     try clear hcz37_1
     try clear hcz38_0
     try clear hcz38_1
     try clear hfz12_0
     try clear hfz12_1
     try clear hfz15_0
     try clear hfz15_1
     try clear hfz19_0
     try clear hfz19_1
     try clear hfz24_0
     try clear hfz24_1
     try clear hfz24_2
     try clear hfz24_3
     try clear hfz24_4
     try clear hfz28_0
     try clear hfz28_1
     try clear hfz30_0
     try clear hfz30_1
     try clear hfz37_0
     try clear hfz37_1
     try clear hfz38_0
     try clear hfz38_1
     try clear p2
     obtain ⟨x28_2,x636001_2,u636001,rfl,HA,HK2,HO_636000,HO_636001,BK627,BK628,BK629,BK635,HB⟩:=hrel
     cases gk with
     | zero=>exact absurd HA.out (by simp [impl_SetSync.l0])
     | succ k2 =>
      have H:=HA.out
      clear HA
      simp only [impl_SetSync.l0] at H
      by_cases c39:x28_2<(l0_1.length:Int)
      ·rw [if_pos c39] at H
       have c39b0:decide (x28_2<(l0_1.length:Int))=true:=decide_eq_true c39
       clear c39
       by_cases c40:0≤x28_2
       ·rw [if_pos c40] at H
        have c40b0:decide (0≤x28_2)=true:=decide_eq_true c40
        clear c40
        by_cases c41:x28_2<(l0_1.length:Int)
        ·rw [if_pos c41] at H
         have c41b0:decide (x28_2<(l0_1.length:Int))=true:=decide_eq_true c41
         clear c41
         have HC42:=Aside0.mk H
         clear H
         have p636:0≤(x28_2:Int):=of_decide_eq_true (z2_)
         have q636:x28_2<(l0_1.length:Int):=of_decide_eq_true (z2_)
         obtain ⟨ad636,e636,hx636_0,hx636_1,hx636_2,hx636_3⟩:=at_T91 HR0_1.out x28_2 p636 q636
         cases e636
         replace hx636_0:=(HB.out.cell (World.block_lt_of_cell? w _ hx636_0)).trans hx636_0
         replace hx636_1:=(HB.out.cell (World.block_lt_of_cell? w _ hx636_1)).trans hx636_1
         replace hx636_2:=(HB.out.cell (World.block_lt_of_cell? w _ hx636_2)).trans hx636_2
         replace hx636_3:=(HB.out.cell (World.block_lt_of_cell? w _ hx636_3)).trans hx636_3
         replace p636:=eq_true p636
         replace q636:=eq_true q636
         go_upto_region 7 with (first | ((with_reducible refine gd_ 7 ?_);refine be_ 7 #[.int .i64 0,.int .i64 0,.bool false,.string (⟨#[]⟩:ByteArray)] 91 ?_;intro gb637 hg w43 hbox hb;refine as18_ (Kd.R_below (z0_ HO_636000.out) hb) (Kd.R_below (Kd.R_elderB (z0_ HO_636001.out) gb637 (Nat.le_of_eq hg.symm)) hb) (blkB_ BK627.out hb) (blkB_ BK628.out hb) (blkB_ BK629.out hb) (blkB_ BK635.out hb) (below_step (z14_ HB.out GE627.out GE628.out GE629.out GE635.out) hb) (hbox) ((z39_ HB.out GE627.out GE628.out GE629.out GE635.out:w.heap.size≤gb637)) ((z39_ HB.out GE627.out GE628.out GE629.out GE635.out:w.heap.size≤gb637)) (neL_ BK627.out hg) (neG_ BK627.out hg) (neL_ BK628.out hg) (neG_ BK628.out hg) (neL_ BK629.out hg) (neG_ BK629.out hg) (neL_ BK635.out hg) (neG_ BK635.out hg) ?_;clear HO_636000 HO_636001 BK627 BK628 BK629 BK635 HB;intro HO_636000 HO_636001 BK627 BK628 BK629 BK635 HB BK637 GW637 GE637 NB627_637 NB637_627 NB628_637 NB637_628 NB629_637 NB637_629 NB635_637 NB637_635;clear hb hbox hg;have hnb44:=NB637_627.out;have hnc44:=NB627_637.out;have hnb45:=NB637_628.out;have hnc45:=NB628_637.out;have hnb46:=NB637_629.out;have hnc46:=NB629_637.out;have hnb47:=NB637_635.out;have hnc47:=NB635_637.out;have ⟨hcz48_0,hcz48_1,hcz48_2,hcz48_3,hfz48_0,hfz48_1,hfz48_2,hfz48_3⟩:=cz4_ BK637.out))
         (try simp only [Act.put,sa_,s0_,ss_])
         go_cut [44] (fun v44 wc=>∃ (kq:Nat) (x44_41:Bool),v44 = .bool x44_41∧Aside0 (impl_SetSync.j2 kq l0_1 (l0_1.length:Int) x28_2 x44_41 l0_0 l0_1 l1_0 l1_1 t632 x636001_2 ((rd_T91 l0_1 x28_2).f0.f0) ((rd_T91 l0_1 x28_2).f0.f1) ((rd_T91 l0_1 x28_2).f1) ((rd_T91 l0_1 x28_2).f2)=some (r1,r2,r3,r4,r5))∧Aside0 (kq≤k2)∧Aside0 (Kd.R k56 56 wc w.heap.size (fun _=>True) (.slice Ao32 t632.length co32) t632)∧Aside0 (Kd.R k91 91 wc w.heap.size (fun k_=>k_≠gb637) u636001 x636001_2)∧Aside0 (wc.heap[gb627]? = some (.cells #[(.slice A0_0 l0_0.length c0_0),(.slice (some ad636) l0_1.length c0_1)] 40 (0,0)))∧Aside0 (wc.heap[gb628]? = some (.cells #[(.slice A1_0 l1_0.length c1_0),(.slice A1_1 l1_1.length c1_1)] 40 (0,0)))∧Aside0 (wc.heap[gb629]? = some (.cells #[(.slice none 0 0),(.slice none 0 0),.int .i64 0,.int .i64 0,.int .i64 0] 58 (0,0)))∧Aside0 (wc.heap[gb635]? = some (.cells #[(.slice Ao32 t632.length co32),u636001] 40 (0,0)))∧Aside0 (wc.heap[gb637]? = some (.cells #[.int .i64 ((rd_T91 l0_1 x28_2).f0.f0),.int .i64 ((rd_T91 l0_1 x28_2).f0.f1),.bool ((rd_T91 l0_1 x28_2).f1),.string ((rd_T91 l0_1 x28_2).f2)] 91 (0,0)))∧Aside0 (Below w.heap.size w wc))
         case first =>
          have H:=HC42.out
          clear HC42
          replace H:=Option.bind_eq_some_iff.mp H
          obtain ⟨t638,A490,H⟩:=H
          replace H:(if t638≥0 then (impl_SetSync.j2 k2 l0_1 (l0_1.length:Int) x28_2 true l0_0 l0_1 l1_0 l1_1 t632 x636001_2 ((rd_T91 l0_1 x28_2).f0.f0) ((rd_T91 l0_1 x28_2).f0.f1) ((rd_T91 l0_1 x28_2).f1) ((rd_T91 l0_1 x28_2).f2)) else ((impl_seenHas.f k2 l1_0 ((rd_T91 l0_1 x28_2).f0.f0) ((rd_T91 l0_1 x28_2).f0.f1)).bind fun t639=>(impl_SetSync.j2 k2 l0_1 (l0_1.length:Int) x28_2 (!t639) l0_0 l0_1 l1_0 l1_1 t632 x636001_2 ((rd_T91 l0_1 x28_2).f0.f0) ((rd_T91 l0_1 x28_2).f0.f1) ((rd_T91 l0_1 x28_2).f1) ((rd_T91 l0_1 x28_2).f2))))=some (r1,r2,r3,r4,r5):=H
          have A49:=Aside0.mk A490
          clear A490
          by_cases c50:t638≥0
          ·rw [if_pos c50] at H
           have c50b0:decide (0≤t638)=true:=decide_eq_true c50
           clear c50
           (first | rw [c50b0] | (simp only [i64_w,i32_w];rw [c50b0]) | skip)
           have H':=Aside0.mk H
           clear H
           have hnb51:=NB628_627.out
           have hnc51:=NB627_628.out
           have hnb52:=NB628_629.out
           have hnc52:=NB629_628.out
           have hnb53:=NB628_635.out
           have hnc53:=NB635_628.out
           have hnb54:=NB628_637.out
           have hnc54:=NB637_628.out
           have ⟨hcz55_0,hcz55_1,hfz55_0,hfz55_1⟩:=cz2_ BK628.out
           have hnb56:=NB637_627.out
           have hnc56:=NB627_637.out
           have hnb57:=NB637_629.out
           have hnc57:=NB629_637.out
           have hnb58:=NB637_635.out
           have hnc58:=NB635_637.out
           have ⟨hcz59_0,hcz59_1,hcz59_2,hcz59_3,hfz59_0,hfz59_1,hfz59_2,hfz59_3⟩:=cz4_ BK637.out
           go_wp2_with (first | ((with_reducible refine gc_ 63 ?_);refine gl_ (some 35) Try.func63 #[.agg #[.slice A1_0 l1_0.length c1_0,.slice A1_1 l1_1.length c1_1],.agg #[.int .i64 ((rd_T91 l0_1 x28_2).f0.f0),.int .i64 ((rd_T91 l0_1 x28_2).f0.f1)]] ?_;(with_reducible refine (impl_Set_sib.calls k2 _ _ l1_0 _ _ l1_1 ((rd_T91 l0_1 x28_2).f0.f0) ((rd_T91 l0_1 x28_2).f0.f1) t638 _ ?s1 ?s2 ?s3 ?s4 A49.out).mono ?_);(case s1=>exact Kd.C_below HR1_0.out (z17_ HB.out GE627.out GE628.out GE629.out GE635.out GE637.out));(case s2=>exact HC1_0.out);(case s3=>exact Kd.C_below HR1_1.out (z17_ HB.out GE627.out GE628.out GE629.out GE635.out GE637.out));(case s4=>exact HC1_1.out);rintro e w60 ⟨rfl,hb⟩;refine ⟨_,rfl,?_⟩;refine as8_ (Kd.R_below (z43_ HO_636000.out BK637.out) hb) (Kd.R_below (by (with_reducible repeat (first | apply Kd.R_alloc | apply Kd.R_drewN | apply Kd.R_drew));exact (Kd.R_mono (rf4_ (Kd.R_mono HO_636001.out (fun k_ hk=>(⟨hk,hk.2⟩:_∧k_≠gb637))) (fun _ hk=>hk.2)) (fun _ h_=>h_.1))) hb) (blk_below (g:=gb627) (o:=.cells #[.slice A0_0 l0_0.length c0_0,.slice (some ad636) l0_1.length c0_1] 40 (0,0)) (z16_ NB627_637.out BK627.out) hb) (blk_below (g:=gb628) (o:=.cells #[.slice A1_0 l1_0.length c1_0,.slice A1_1 l1_1.length c1_1] 40 (0,0)) (z16_ NB628_637.out BK628.out) hb) (blk_below (g:=gb629) (o:=.cells #[.slice none 0 0,.slice none 0 0,.int .i64 0,.int .i64 0,.int .i64 0] 58 (0,0)) (z16_ NB629_637.out BK629.out) hb) (blk_below (g:=gb635) (o:=.cells #[.slice Ao32 t632.length co32,u636001] 40 (0,0)) (z16_ NB635_637.out BK635.out) hb) (blk_below (g:=gb637) (o:=.cells #[.int .i64 ((rd_T91 l0_1 x28_2).f0.f0),.int .i64 ((rd_T91 l0_1 x28_2).f0.f1),.bool ((rd_T91 l0_1 x28_2).f1),.string ((rd_T91 l0_1 x28_2).f2)] 91 (0,0)) (z24_ BK637.out) hb) (below_step (z17_ HB.out GE627.out GE628.out GE629.out GE635.out GE637.out) hb) ?_;clear HO_636000 HO_636001 BK627 BK628 BK629 BK635 BK637 HB;intro HO_636000 HO_636001 BK627 BK628 BK629 BK635 BK637 HB;(try clear hb);(try clear hb2);(try clear hk);(try clear hi)))
           go_meet
           case rel=>exact ⟨_,(true),(z3_),H',⟨z30_ HJ2.out HK2.out⟩,⟨z0_ HO_636000.out⟩,⟨z41_ HO_636001.out⟩,⟨z1_ BK627.out⟩,⟨z1_ BK628.out⟩,⟨z1_ BK629.out⟩,⟨z1_ BK635.out⟩,⟨z1_ BK637.out⟩,⟨z17_ HB.out GE627.out GE628.out GE629.out GE635.out GE637.out⟩⟩
          ·rw [if_neg c50] at H
           have c50b0:decide (0≤t638)=false:=decide_eq_false c50
           clear c50
           (first | rw [c50b0] | (simp only [i64_w,i32_w];rw [c50b0]) | skip)
           replace H:=Option.bind_eq_some_iff.mp H
           obtain ⟨t639,A610,H⟩:=H
           replace H:(impl_SetSync.j2 k2 l0_1 (l0_1.length:Int) x28_2 (!t639) l0_0 l0_1 l1_0 l1_1 t632 x636001_2 ((rd_T91 l0_1 x28_2).f0.f0) ((rd_T91 l0_1 x28_2).f0.f1) ((rd_T91 l0_1 x28_2).f1) ((rd_T91 l0_1 x28_2).f2))=some (r1,r2,r3,r4,r5):=H
           have A61:=Aside0.mk A610
           clear A610
           have H':=Aside0.mk H
           clear H
           have hnb62:=NB628_627.out
           have hnc62:=NB627_628.out
           have hnb63:=NB628_629.out
           have hnc63:=NB629_628.out
           have hnb64:=NB628_635.out
           have hnc64:=NB635_628.out
           have hnb65:=NB628_637.out
           have hnc65:=NB637_628.out
           have ⟨hcz66_0,hcz66_1,hfz66_0,hfz66_1⟩:=cz2_ BK628.out
           have hnb67:=NB637_627.out
           have hnc67:=NB627_637.out
           have hnb68:=NB637_629.out
           have hnc68:=NB629_637.out
           have hnb69:=NB637_635.out
           have hnc69:=NB635_637.out
           have ⟨hcz70_0,hcz70_1,hcz70_2,hcz70_3,hfz70_0,hfz70_1,hfz70_2,hfz70_3⟩:=cz4_ BK637.out
           go_wp2_with (first | ((with_reducible refine gc_ 63 ?_);refine gl_ (some 35) Try.func63 #[.agg #[.slice A1_0 l1_0.length c1_0,.slice A1_1 l1_1.length c1_1],.agg #[.int .i64 ((rd_T91 l0_1 x28_2).f0.f0),.int .i64 ((rd_T91 l0_1 x28_2).f0.f1)]] ?_;(with_reducible refine (impl_Set_sib.calls k2 _ _ l1_0 _ _ l1_1 ((rd_T91 l0_1 x28_2).f0.f0) ((rd_T91 l0_1 x28_2).f0.f1) t638 _ ?s1 ?s2 ?s3 ?s4 A49.out).mono ?_);(case s1=>exact Kd.C_below HR1_0.out (z17_ HB.out GE627.out GE628.out GE629.out GE635.out GE637.out));(case s2=>exact HC1_0.out);(case s3=>exact Kd.C_below HR1_1.out (z17_ HB.out GE627.out GE628.out GE629.out GE635.out GE637.out));(case s4=>exact HC1_1.out);rintro e w71 ⟨rfl,hb⟩;refine ⟨_,rfl,?_⟩;refine as8_ (Kd.R_below (z43_ HO_636000.out BK637.out) hb) (Kd.R_below (by (with_reducible repeat (first | apply Kd.R_alloc | apply Kd.R_drewN | apply Kd.R_drew));exact (Kd.R_mono (rf4_ (Kd.R_mono HO_636001.out (fun k_ hk=>(⟨hk,hk.2⟩:_∧k_≠gb637))) (fun _ hk=>hk.2)) (fun _ h_=>h_.1))) hb) (blk_below (g:=gb627) (o:=.cells #[.slice A0_0 l0_0.length c0_0,.slice (some ad636) l0_1.length c0_1] 40 (0,0)) (z16_ NB627_637.out BK627.out) hb) (blk_below (g:=gb628) (o:=.cells #[.slice A1_0 l1_0.length c1_0,.slice A1_1 l1_1.length c1_1] 40 (0,0)) (z16_ NB628_637.out BK628.out) hb) (blk_below (g:=gb629) (o:=.cells #[.slice none 0 0,.slice none 0 0,.int .i64 0,.int .i64 0,.int .i64 0] 58 (0,0)) (z16_ NB629_637.out BK629.out) hb) (blk_below (g:=gb635) (o:=.cells #[.slice Ao32 t632.length co32,u636001] 40 (0,0)) (z16_ NB635_637.out BK635.out) hb) (blk_below (g:=gb637) (o:=.cells #[.int .i64 ((rd_T91 l0_1 x28_2).f0.f0),.int .i64 ((rd_T91 l0_1 x28_2).f0.f1),.bool ((rd_T91 l0_1 x28_2).f1),.string ((rd_T91 l0_1 x28_2).f2)] 91 (0,0)) (z24_ BK637.out) hb) (below_step (z17_ HB.out GE627.out GE628.out GE629.out GE635.out GE637.out) hb) ?_;clear HO_636000 HO_636001 BK627 BK628 BK629 BK635 BK637 HB;intro HO_636000 HO_636001 BK627 BK628 BK629 BK635 BK637 HB;(try clear hb);(try clear hb2);(try clear hk);(try clear hi);have ⟨hcz72_0,hcz72_1,hfz72_0,hfz72_1⟩:=cz2_ BK628.out;have ⟨hcz73_0,hcz73_1,hcz73_2,hcz73_3,hfz73_0,hfz73_1,hfz73_2,hfz73_3⟩:=cz4_ BK637.out) | (go_at_call 64;(with_reducible refine (impl_seenHas.calls k2 _ _ l1_0 ((rd_T91 l0_1 x28_2).f0.f0) ((rd_T91 l0_1 x28_2).f0.f1) t639 _ ?s1 ?s2 A61.out).mono ?_);(case s1=>repeat (first | exact (Kd.C_below HR1_0.out HB.out) | (with_reducible refine Kd.C_alloc ?_ _) | (with_reducible refine Kd.C_drewN ?_ _) | (with_reducible refine Kd.C_drew ?_)));(case s2=>exact HC1_0.out);rintro e w74 ⟨rfl,hb⟩;refine as8_ (Kd.R_below (z0_ HO_636000.out) hb) (Kd.R_below (z0_ HO_636001.out) hb) (blkB_ BK627.out hb) (blkB_ BK628.out hb) (blkB_ BK629.out hb) (blkB_ BK635.out hb) (blkB_ BK637.out hb) (below_step (z17_ HB.out GE627.out GE628.out GE629.out GE635.out GE637.out) hb) ?_;clear HO_636000 HO_636001 BK627 BK628 BK629 BK635 BK637 HB;intro HO_636000 HO_636001 BK627 BK628 BK629 BK635 BK637 HB;(try clear hb)))
           go_meet
           case rel=>exact ⟨_,(!t639),(z3_),H',⟨z30_ HJ2.out HK2.out⟩,⟨z0_ HO_636000.out⟩,⟨z41_ HO_636001.out⟩,⟨z1_ BK627.out⟩,⟨z1_ BK628.out⟩,⟨z1_ BK629.out⟩,⟨z1_ BK635.out⟩,⟨z1_ BK637.out⟩,⟨z17_ HB.out GE627.out GE628.out GE629.out GE635.out GE637.out⟩⟩
         case rest =>
          clear HC42
          try clear c1
          try clear c2
          try clear p2
          try clear c3
          try clear c4
          try clear c5
          try clear c6
          try clear p6
          try clear q6
          try clear hx6
          try clear c8
          try clear c10
          try clear c11
          try clear c14
          try clear c17
          try clear c18
          try clear c21
          try clear c22
          try clear c23
          try clear c25
          try clear c26
          try clear c27
          try clear c29
          try clear c34
          try clear c35
          try clear c36
          try clear c39
          try clear c39b0
          try clear c40
          try clear c40b0
          try clear c41
          try clear c41b0
          try clear c44
          try clear c45
          try clear c46
          try clear c47
          try clear c50
          try clear c50b0
          try clear c51
          try clear c52
          try clear c53
          try clear c54
          try clear c56
          try clear c57
          try clear c58
          try clear c62
          try clear c63
          try clear p63
          try clear q63
          try clear hx63
          try clear c64
          try clear c65
          try clear c67
          try clear c68
          try clear c69
          try clear hcz12_0
          try clear hcz12_1
          try clear hcz15_0
          try clear hcz15_1
          try clear hcz19_0
          try clear hcz19_1
          try clear hcz24_0
          try clear hcz24_1
          try clear hcz24_2
          try clear hcz24_3
          try clear hcz24_4
          try clear hcz28_0
          try clear hcz28_1
          try clear hcz30_0
          try clear hcz30_1
          try clear hcz37_0
          try clear hcz37_1
          try clear hcz38_0
          try clear hcz38_1
          try clear hcz48_0
          try clear hcz48_1
          try clear hcz48_2
          try clear hcz48_3
          try clear hcz55_0
          try clear hcz55_1
          try clear hcz59_0
          try clear hcz59_1
          try clear hcz59_2
          try clear hcz59_3
          try clear hcz66_0
          try clear hcz66_1
          try clear hcz70_0
          try clear hcz70_1
          try clear hcz70_2
          try clear hcz70_3
          try clear hcz72_0
          try clear hcz72_1
          try clear hcz73_0
          try clear hcz73_1
          try clear hcz73_2
          try clear hcz73_3
          try clear hfz12_0
          try clear hfz12_1
          try clear hfz15_0
          try clear hfz15_1
          try clear hfz19_0
          try clear hfz19_1
          try clear hfz24_0
          try clear hfz24_1
          try clear hfz24_2
          try clear hfz24_3
          try clear hfz24_4
          try clear hfz28_0
          try clear hfz28_1
          try clear hfz30_0
          try clear hfz30_1
          try clear hfz37_0
          try clear hfz37_1
          try clear hfz38_0
          try clear hfz38_1
          try clear hfz48_0
          try clear hfz48_1
          try clear hfz48_2
          try clear hfz48_3
          try clear hfz55_0
          try clear hfz55_1
          try clear hfz59_0
          try clear hfz59_1
          try clear hfz59_2
          try clear hfz59_3
          try clear hfz66_0
          try clear hfz66_1
          try clear hfz70_0
          try clear hfz70_1
          try clear hfz70_2
          try clear hfz70_3
          try clear hfz72_0
          try clear hfz72_1
          try clear hfz73_0
          try clear hfz73_1
          try clear hfz73_2
          try clear hfz73_3
          try clear hx636_0
          try clear hx636_1
          try clear hx636_2
          try clear hx636_3
          try clear p2
          try clear p636
          try clear q636
          obtain ⟨kq,x44_41,rfl,HA,HJ41,HO_636000,HO_636001,BK627,BK628,BK629,BK635,BK637,HB⟩:=hcut
          cases kq with
          | zero=>exact absurd HA.out (by simp [impl_SetSync.j2])
          | succ kj41 =>
           have H:=HA.out
           clear HA
           simp only [impl_SetSync.j2] at H
           by_cases c75:x44_41=true
           ·subst c75
            have H1:(if x636001_2.length<3518437208883 then (impl_SetSync.l0 kj41 l0_1 (l0_1.length:Int) (wrap64 (x28_2+1)) l0_0 l0_1 l1_0 l1_1 t632 (x636001_2 ++ [(⟨(⟨((rd_T91 l0_1 x28_2).f0.f0),((rd_T91 l0_1 x28_2).f0.f1)⟩:S56),((rd_T91 l0_1 x28_2).f1),((rd_T91 l0_1 x28_2).f2)⟩:S91)])) else (none))=some (r1,r2,r3,r4,r5):=by rw [if_pos rfl] at H;exact H
            clear H
            have H:=H1
            clear H1
            by_cases c76:x636001_2.length<3518437208883
            ·rw [if_pos c76] at H
             have LMc76:=Aside0.mk c76
             clear c76
             obtain ⟨y640,hy640⟩:∃ y_:List (S91),y_=(x636001_2 ++ [(⟨(⟨((rd_T91 l0_1 x28_2).f0.f0),((rd_T91 l0_1 x28_2).f0.f1)⟩:S56),((rd_T91 l0_1 x28_2).f1),((rd_T91 l0_1 x28_2).f2)⟩:S91)]):=⟨_,rfl⟩
             replace H:(impl_SetSync.l0 kj41 l0_1 (l0_1.length:Int) (wrap64 (x28_2+1)) l0_0 l0_1 l1_0 l1_1 t632 y640)=some (r1,r2,r3,r4,r5):=by first | (rw [hy640];with_reducible exact H) | (have H2_:=(Option.bind_some _ _).symm.trans H;rw [hy640];with_reducible exact H2_) | (have H2_:=(Option.bind_some _ _).symm.trans H;with_reducible exact H2_) | with_reducible exact H | (rw [hy640];exact H) | exact H
             have Ny640:=Aside0.mk hy640
             clear hy640
             have H':=Aside0.mk H
             clear H
             have hnb77:=NB635_627.out
             have hnc77:=NB627_635.out
             have hnb78:=NB635_628.out
             have hnc78:=NB628_635.out
             have hnb79:=NB635_629.out
             have hnc79:=NB629_635.out
             have hnb80:=NB635_637.out
             have hnc80:=NB637_635.out
             have ⟨hcz81_0,hcz81_1,hfz81_0,hfz81_1⟩:=cz2_ BK635.out
             have hnb82:=NB637_627.out
             have hnc82:=NB627_637.out
             have hnb83:=NB637_628.out
             have hnc83:=NB628_637.out
             have hnb84:=NB637_629.out
             have hnc84:=NB629_637.out
             have ⟨hcz85_0,hcz85_1,hcz85_2,hcz85_3,hfz85_0,hfz85_1,hfz85_2,hfz85_3⟩:=cz4_ BK637.out
             go_wp2_with (first | ((with_reducible refine gate_builtin (b:=.append) (xs:=#[.tmp 46,.tmp 48]) rfl ?_);at_builtin;refine Kd.R_append k91 (w0:=w) w.heap.size rfl (.tmp 46) (.tmp 48) 38 91 (.agg #[(.int .i64 0),(.int .i64 0),(.bool false),(.string ⟨#[]⟩)]) 40 rfl Try.underlying38 info91 rfl (by decide) (by omega) u636001 x636001_2 (⟨(⟨((rd_T91 l0_1 x28_2).f0.f0),((rd_T91 l0_1 x28_2).f0.f1)⟩:S56),((rd_T91 l0_1 x28_2).f1),((rd_T91 l0_1 x28_2).f2)⟩:S91) [.int .i64 ((rd_T91 l0_1 x28_2).f0.f0),.int .i64 ((rd_T91 l0_1 x28_2).f0.f1),.bool ((rd_T91 l0_1 x28_2).f1),.string ((rd_T91 l0_1 x28_2).f2)] (fun k_=>k_≠gb637) (fun _=>False) rfl rfl ?aP (fun _ hk=>hk.elim) ?aF ?aO ?aB ?aS ?aL ?_;(case aP=>exact k91_mkM _ _ _ (⟨(⟨((rd_T91 l0_1 x28_2).f0.f0),((rd_T91 l0_1 x28_2).f0.f1)⟩:S56),((rd_T91 l0_1 x28_2).f1),((rd_T91 l0_1 x28_2).f2)⟩:S91));(case aB=>exact (z17_ HB.out GE627.out GE628.out GE629.out GE635.out GE637.out));(case aF=>exact (fun k_ hk=>Kd.freshB (g:=gb637) (o:=.cells #[.int .i64 ((rd_T91 l0_1 x28_2).f0.f0),.int .i64 ((rd_T91 l0_1 x28_2).f0.f1),.bool ((rd_T91 l0_1 x28_2).f1),.string ((rd_T91 l0_1 x28_2).f2)] 91 (0,0)) (z1_ BK637.out) k_ hk));(case aO=>exact (z0_ HO_636001.out));(case aS=>exact (below_size (z17_ HB.out GE627.out GE628.out GE629.out GE635.out GE637.out)));(case aL=>have:=LMc76.out;omega);intro v641 w86 ho hb hg hat;rw [← Ny640.out] at ho;refine as8_ (Kd.R_over' (z0_ HO_636000.out) (Kd.R_typed (z0_ HO_636001.out)) (by decide) hg) (blk_grown (g:=gb627) (o:=.cells #[.slice A0_0 l0_0.length c0_0,.slice (some ad636) l0_1.length c0_1] 40 (0,0)) (z1_ BK627.out) hg (Kd.R_ne HO_636001.out BK627.out (by decide))) (blk_grown (g:=gb628) (o:=.cells #[.slice A1_0 l1_0.length c1_0,.slice A1_1 l1_1.length c1_1] 40 (0,0)) (z1_ BK628.out) hg (Kd.R_ne HO_636001.out BK628.out (by decide))) (blk_grown (g:=gb629) (o:=.cells #[.slice none 0 0,.slice none 0 0,.int .i64 0,.int .i64 0,.int .i64 0] 58 (0,0)) (z1_ BK629.out) hg (Kd.R_ne HO_636001.out BK629.out (by decide))) (blk_grown (g:=gb635) (o:=.cells #[.slice Ao32 t632.length co32,u636001] 40 (0,0)) (z1_ BK635.out) hg (Kd.R_ne HO_636001.out BK635.out (by decide))) (blk_grown (g:=gb637) (o:=.cells #[.int .i64 ((rd_T91 l0_1 x28_2).f0.f0),.int .i64 ((rd_T91 l0_1 x28_2).f0.f1),.bool ((rd_T91 l0_1 x28_2).f1),.string ((rd_T91 l0_1 x28_2).f2)] 91 (0,0)) (z1_ BK637.out) hg (Kd.R_away HO_636001.out (fun _ hk=>hk))) (hb) (ho) ?_;clear HO_636000 BK627 BK628 BK629 BK635 BK637 HB HO_636001;intro HO_636000 BK627 BK628 BK629 BK635 BK637 HB HO642;clear ho hb hg hat;obtain ⟨Ao87,co87,eo87⟩:=Kd.R_slice HO642.out;subst eo87;have ⟨hcz88_0,hcz88_1,hfz88_0,hfz88_1⟩:=cz2_ BK635.out))
             go_roundg kj41
             case measure=>have:=HJ2.out;have:=HK2.out;have:=HJ41.out;omega
             case rel=>exact ⟨(wrap64 (x28_2+1)),(y640),(.slice Ao87 y640.length co87),(z3_),H',⟨by have:=HJ2.out;have:=HK2.out;have:=HJ41.out;omega⟩,⟨by (with_reducible repeat (first | apply Kd.R_alloc | apply Kd.R_drewN | apply Kd.R_drew));exact Kd.R_mono (Kd.R_far (p:=⟨gb635,1,none⟩) (Kd.R_types HO_636000.out BK635.out (by decide)) (fun _ hk=>hk.2) (.slice Ao87 y640.length co87)) (fun _ hk=>trivial)⟩,⟨by (with_reducible repeat (first | apply Kd.R_alloc | apply Kd.R_drewN | apply Kd.R_drew));exact Kd.R_mono (Kd.R_far (p:=⟨gb635,1,none⟩) (Kd.R_types HO642.out BK635.out (by decide)) (fun _ hk=>hk.2) (.slice Ao87 y640.length co87)) (fun _ hk=>trivial)⟩,⟨z26_ NB627_635.out BK627.out⟩,⟨z26_ NB628_635.out BK628.out⟩,⟨z26_ NB629_635.out BK629.out⟩,⟨by (with_reducible repeat (first | refine blk_drewN ?_ _ | refine blk_drew ?_ | refine blk_alloc ?_ _));refine blk_put (cs:=#[.slice Ao32 t632.length co32,u636001]) ?_ 1 _ rfl;(with_reducible repeat (first | refine blk_drewN ?_ _ | refine blk_drew ?_ | refine blk_alloc ?_ _));exact BK635.out⟩,⟨z17_ HB.out GE627.out GE628.out GE629.out GE635.out GE637.out⟩⟩
            ·rw [if_neg c76] at H
             exact absurd H (by simp)
           ·replace c75:=Bool.eq_false_iff.mpr c75
            subst c75
            have H1:(impl_SetSync.l0 kj41 l0_1 (l0_1.length:Int) (wrap64 (x28_2+1)) l0_0 l0_1 l1_0 l1_1 t632 x636001_2)=some (r1,r2,r3,r4,r5):=by rw [if_neg (show ¬ (false=true) by decide)] at H;exact H
            clear H
            have H:=H1
            clear H1
            have H':=Aside0.mk H
            clear H
            go_wp2
            go_roundg kj41
            case measure=>have:=HJ2.out;have:=HK2.out;have:=HJ41.out;omega
            case rel=>exact ⟨(wrap64 (x28_2+1)),(x636001_2),(u636001),(z3_),H',⟨by have:=HJ2.out;have:=HK2.out;have:=HJ41.out;omega⟩,⟨z0_ HO_636000.out⟩,⟨z44_ HO_636001.out⟩,⟨z1_ BK627.out⟩,⟨z1_ BK628.out⟩,⟨z1_ BK629.out⟩,⟨z1_ BK635.out⟩,⟨z17_ HB.out GE627.out GE628.out GE629.out GE635.out GE637.out⟩⟩
        ·rw [if_neg c41] at H
         exact absurd H (by simp)
       ·rw [if_neg c40] at H
        exact absurd H (by simp)
      ·rw [if_neg c39] at H
       have c39b0:decide (x28_2<(l0_1.length:Int))=false:=decide_eq_false c39
       clear c39
       have H':=Aside0.mk H
       clear H
       have hnb89:=NB628_627.out
       have hnc89:=NB627_628.out
       have hnb90:=NB628_629.out
       have hnc90:=NB629_628.out
       have hnb91:=NB628_635.out
       have hnc91:=NB635_628.out
       have ⟨hcz92_0,hcz92_1,hfz92_0,hfz92_1⟩:=cz2_ BK628.out
       go_wp2
       go_loopg [55] k2 (fun kq v55 w'=>∃ (x55_3:Int) (x636001_3:List (S91)) (u636001:Value),v55 = .int .i64 x55_3∧Aside0 (impl_SetSync.l1 kq l1_1 (l1_1.length:Int) x55_3 l0_0 l0_1 t632 x636001_3=some (r1,r2,r3,r4,r5))∧Aside0 (kq≤k2)∧Aside0 (Kd.R k56 56 w' w.heap.size (fun _=>True) (.slice Ao32 t632.length co32) t632)∧Aside0 (Kd.R k91 91 w' w.heap.size (fun _=>True) u636001 x636001_3)∧Aside0 (w'.heap[gb627]? = some (.cells #[(.slice A0_0 l0_0.length c0_0),(.slice A0_1 l0_1.length c0_1)] 40 (0,0)))∧Aside0 (w'.heap[gb628]? = some (.cells #[(.slice A1_0 l1_0.length c1_0),(.slice A1_1 l1_1.length c1_1)] 40 (0,0)))∧Aside0 (w'.heap[gb629]? = some (.cells #[(.slice none 0 0),(.slice none 0 0),.int .i64 0,.int .i64 0,.int .i64 0] 58 (0,0)))∧Aside0 (w'.heap[gb635]? = some (.cells #[(.slice Ao32 t632.length co32),u636001] 40 (0,0)))∧Aside0 (Below w.heap.size w w'))
       case atStart=>exact ⟨(0),(x636001_2),(u636001),(z3_),H',⟨Nat.le_refl _⟩,⟨z0_ HO_636000.out⟩,⟨z0_ HO_636001.out⟩,⟨z1_ BK627.out⟩,⟨z1_ BK628.out⟩,⟨z1_ BK629.out⟩,⟨z1_ BK635.out⟩,⟨z14_ HB.out GE627.out GE628.out GE629.out GE635.out⟩⟩
       case round =>
        clear H'
        try clear c1
        try clear c2
        try clear p2
        try clear c3
        try clear c4
        try clear c5
        try clear c6
        try clear p6
        try clear q6
        try clear hx6
        try clear c7
        try clear c8
        try clear c9
        try clear c10
        try clear c11
        try clear c14
        try clear c17
        try clear c18
        try clear c21
        try clear c22
        try clear c23
        try clear c25
        try clear c26
        try clear c27
        try clear c29
        try clear c34
        try clear c35
        try clear c36
        try clear c39
        try clear c39b0
        try clear c40
        try clear c40b0
        try clear c41
        try clear c41b0
        try clear c44
        try clear c45
        try clear c46
        try clear c47
        try clear c50
        try clear c50b0
        try clear c51
        try clear c52
        try clear c53
        try clear c54
        try clear c56
        try clear c57
        try clear c58
        try clear c62
        try clear c63
        try clear p63
        try clear q63
        try clear hx63
        try clear c64
        try clear p64
        try clear c65
        try clear c67
        try clear c68
        try clear c69
        try clear c75
        try clear c76
        try clear c77
        try clear c78
        try clear c79
        try clear c80
        try clear c82
        try clear c83
        try clear c84
        try clear c89
        try clear c90
        try clear c91
        try clear hcz12_0
        try clear hcz12_1
        try clear hcz15_0
        try clear hcz15_1
        try clear hcz19_0
        try clear hcz19_1
        try clear hcz24_0
        try clear hcz24_1
        try clear hcz24_2
        try clear hcz24_3
        try clear hcz24_4
        try clear hcz28_0
        try clear hcz28_1
        try clear hcz30_0
        try clear hcz30_1
        try clear hcz37_0
        try clear hcz37_1
        try clear hcz38_0
        try clear hcz38_1
        try clear hcz48_0
        try clear hcz48_1
        try clear hcz48_2
        try clear hcz48_3
        try clear hcz55_0
        try clear hcz55_1
        try clear hcz59_0
        try clear hcz59_1
        try clear hcz59_2
        try clear hcz59_3
        try clear hcz66_0
        try clear hcz66_1
        try clear hcz70_0
        try clear hcz70_1
        try clear hcz70_2
        try clear hcz70_3
        try clear hcz72_0
        try clear hcz72_1
        try clear hcz73_0
        try clear hcz73_1
        try clear hcz73_2
        try clear hcz73_3
        try clear hcz81_0
        try clear hcz81_1
        try clear hcz85_0
        try clear hcz85_1
        try clear hcz85_2
        try clear hcz85_3
        try clear hcz88_0
        try clear hcz88_1
        try clear hcz92_0
        try clear hcz92_1
        try clear hfz12_0
        try clear hfz12_1
        try clear hfz15_0
        try clear hfz15_1
        try clear hfz19_0
        try clear hfz19_1
        try clear hfz24_0
        try clear hfz24_1
        try clear hfz24_2
        try clear hfz24_3
        try clear hfz24_4
        try clear hfz28_0
        try clear hfz28_1
        try clear hfz30_0
        try clear hfz30_1
        try clear hfz37_0
        try clear hfz37_1
        try clear hfz38_0
        try clear hfz38_1
        try clear hfz48_0
        try clear hfz48_1
        try clear hfz48_2
        try clear hfz48_3
        try clear hfz55_0
        try clear hfz55_1
        try clear hfz59_0
        try clear hfz59_1
        try clear hfz59_2
        try clear hfz59_3
        try clear hfz66_0
        try clear hfz66_1
        try clear hfz70_0
        try clear hfz70_1
        try clear hfz70_2
        try clear hfz70_3
        try clear hfz72_0
        try clear hfz72_1
        try clear hfz73_0
        try clear hfz73_1
        try clear hfz73_2
        try clear hfz73_3
        try clear hfz81_0
        try clear hfz81_1
        try clear hfz85_0
        try clear hfz85_1
        try clear hfz85_2
        try clear hfz85_3
        try clear hfz88_0
        try clear hfz88_1
        try clear hfz92_0
        try clear hfz92_1
        try clear hx636_0
        try clear hx636_1
        try clear hx636_2
        try clear hx636_3
        try clear p2
        try clear p6
        try clear p63
        try clear p636
        try clear q6
        try clear q63
        try clear q636
        obtain ⟨x55_3,x636001_3,u636001,rfl,HA,HK3,HO_636000,HO_636001,BK627,BK628,BK629,BK635,HB⟩:=hrel
        cases gk with
        | zero=>exact absurd HA.out (by simp [impl_SetSync.l1])
        | succ k3 =>
         have H:=HA.out
         clear HA
         simp only [impl_SetSync.l1] at H
         by_cases c93:x55_3<(l1_1.length:Int)
         ·rw [if_pos c93] at H
          have c93b0:decide (x55_3<(l1_1.length:Int))=true:=decide_eq_true c93
          clear c93
          by_cases c94:0≤x55_3
          ·rw [if_pos c94] at H
           have c94b0:decide (0≤x55_3)=true:=decide_eq_true c94
           clear c94
           by_cases c95:x55_3<(l1_1.length:Int)
           ·rw [if_pos c95] at H
            have c95b0:decide (x55_3<(l1_1.length:Int))=true:=decide_eq_true c95
            clear c95
            have HC96:=Aside0.mk H
            clear H
            have p643:0≤(x55_3:Int):=of_decide_eq_true (z2_)
            have q643:x55_3<(l1_1.length:Int):=of_decide_eq_true (z2_)
            obtain ⟨ad643,e643,hx643_0,hx643_1,hx643_2,hx643_3⟩:=at_T91 HR1_1.out x55_3 p643 q643
            cases e643
            replace hx643_0:=(HB.out.cell (World.block_lt_of_cell? w _ hx643_0)).trans hx643_0
            replace hx643_1:=(HB.out.cell (World.block_lt_of_cell? w _ hx643_1)).trans hx643_1
            replace hx643_2:=(HB.out.cell (World.block_lt_of_cell? w _ hx643_2)).trans hx643_2
            replace hx643_3:=(HB.out.cell (World.block_lt_of_cell? w _ hx643_3)).trans hx643_3
            replace p643:=eq_true p643
            replace q643:=eq_true q643
            go_upto_region 13 with (first | ((with_reducible refine gd_ 9 ?_);refine be_ 9 #[.int .i64 0,.int .i64 0,.bool false,.string (⟨#[]⟩:ByteArray)] 91 ?_;intro gb644 hg w97 hbox hb;refine as18_ (Kd.R_below (z0_ HO_636000.out) hb) (Kd.R_below (Kd.R_elderB (z0_ HO_636001.out) gb644 (Nat.le_of_eq hg.symm)) hb) (blkB_ BK627.out hb) (blkB_ BK628.out hb) (blkB_ BK629.out hb) (blkB_ BK635.out hb) (below_step (z14_ HB.out GE627.out GE628.out GE629.out GE635.out) hb) (hbox) ((z39_ HB.out GE627.out GE628.out GE629.out GE635.out:w.heap.size≤gb644)) ((z39_ HB.out GE627.out GE628.out GE629.out GE635.out:w.heap.size≤gb644)) (neL_ BK627.out hg) (neG_ BK627.out hg) (neL_ BK628.out hg) (neG_ BK628.out hg) (neL_ BK629.out hg) (neG_ BK629.out hg) (neL_ BK635.out hg) (neG_ BK635.out hg) ?_;clear HO_636000 HO_636001 BK627 BK628 BK629 BK635 HB;intro HO_636000 HO_636001 BK627 BK628 BK629 BK635 HB BK644 GW644 GE644 NB627_644 NB644_627 NB628_644 NB644_628 NB629_644 NB644_629 NB635_644 NB644_635;clear hb hbox hg;have hnb98:=NB644_627.out;have hnc98:=NB627_644.out;have hnb99:=NB644_628.out;have hnc99:=NB628_644.out;have hnb100:=NB644_629.out;have hnc100:=NB629_644.out;have hnb101:=NB644_635.out;have hnc101:=NB635_644.out;have ⟨hcz102_0,hcz102_1,hcz102_2,hcz102_3,hfz102_0,hfz102_1,hfz102_2,hfz102_3⟩:=cz4_ BK644.out))
            (try simp only [Act.put,sa_,s0_,ss_])
            go_cut [71] (fun v71 wc=>∃ (kq:Nat) (x71_95:Bool),v71 = .bool x71_95∧Aside0 (impl_SetSync.j4 kq l1_1 (l1_1.length:Int) x55_3 x71_95 l0_0 l0_1 t632 x636001_3 ((rd_T91 l1_1 x55_3).f0.f0) ((rd_T91 l1_1 x55_3).f0.f1) ((rd_T91 l1_1 x55_3).f1) ((rd_T91 l1_1 x55_3).f2)=some (r1,r2,r3,r4,r5))∧Aside0 (kq≤k3)∧Aside0 (Kd.R k56 56 wc w.heap.size (fun _=>True) (.slice Ao32 t632.length co32) t632)∧Aside0 (Kd.R k91 91 wc w.heap.size (fun k_=>k_≠gb644) u636001 x636001_3)∧Aside0 (wc.heap[gb627]? = some (.cells #[(.slice A0_0 l0_0.length c0_0),(.slice A0_1 l0_1.length c0_1)] 40 (0,0)))∧Aside0 (wc.heap[gb628]? = some (.cells #[(.slice A1_0 l1_0.length c1_0),(.slice (some ad643) l1_1.length c1_1)] 40 (0,0)))∧Aside0 (wc.heap[gb629]? = some (.cells #[(.slice none 0 0),(.slice none 0 0),.int .i64 0,.int .i64 0,.int .i64 0] 58 (0,0)))∧Aside0 (wc.heap[gb635]? = some (.cells #[(.slice Ao32 t632.length co32),u636001] 40 (0,0)))∧Aside0 (wc.heap[gb644]? = some (.cells #[.int .i64 ((rd_T91 l1_1 x55_3).f0.f0),.int .i64 ((rd_T91 l1_1 x55_3).f0.f1),.bool ((rd_T91 l1_1 x55_3).f1),.string ((rd_T91 l1_1 x55_3).f2)] 91 (0,0)))∧Aside0 (Below w.heap.size w wc))
            case first =>
             have H:=HC96.out
             clear HC96
             replace H:=Option.bind_eq_some_iff.mp H
             obtain ⟨t645,A1030,H⟩:=H
             replace H:(if t645<0 then ((impl_seenHas.f k3 l0_0 ((rd_T91 l1_1 x55_3).f0.f0) ((rd_T91 l1_1 x55_3).f0.f1)).bind fun t646=>(impl_SetSync.j4 k3 l1_1 (l1_1.length:Int) x55_3 (!t646) l0_0 l0_1 t632 x636001_3 ((rd_T91 l1_1 x55_3).f0.f0) ((rd_T91 l1_1 x55_3).f0.f1) ((rd_T91 l1_1 x55_3).f1) ((rd_T91 l1_1 x55_3).f2))) else (impl_SetSync.j4 k3 l1_1 (l1_1.length:Int) x55_3 false l0_0 l0_1 t632 x636001_3 ((rd_T91 l1_1 x55_3).f0.f0) ((rd_T91 l1_1 x55_3).f0.f1) ((rd_T91 l1_1 x55_3).f1) ((rd_T91 l1_1 x55_3).f2)))=some (r1,r2,r3,r4,r5):=H
             have A103:=Aside0.mk A1030
             clear A1030
             by_cases c104:t645<0
             ·rw [if_pos c104] at H
              have c104b0:decide (t645<0)=true:=decide_eq_true c104
              clear c104
              (first | rw [c104b0] | (simp only [i64_w,i32_w];rw [c104b0]) | skip)
              replace H:=Option.bind_eq_some_iff.mp H
              obtain ⟨t646,A1050,H⟩:=H
              replace H:(impl_SetSync.j4 k3 l1_1 (l1_1.length:Int) x55_3 (!t646) l0_0 l0_1 t632 x636001_3 ((rd_T91 l1_1 x55_3).f0.f0) ((rd_T91 l1_1 x55_3).f0.f1) ((rd_T91 l1_1 x55_3).f1) ((rd_T91 l1_1 x55_3).f2))=some (r1,r2,r3,r4,r5):=H
              have A105:=Aside0.mk A1050
              clear A1050
              have H':=Aside0.mk H
              clear H
              have hnb106:=NB627_628.out
              have hnc106:=NB628_627.out
              have hnb107:=NB627_629.out
              have hnc107:=NB629_627.out
              have hnb108:=NB627_635.out
              have hnc108:=NB635_627.out
              have hnb109:=NB627_644.out
              have hnc109:=NB644_627.out
              have ⟨hcz110_0,hcz110_1,hfz110_0,hfz110_1⟩:=cz2_ BK627.out
              have hnb111:=NB644_628.out
              have hnc111:=NB628_644.out
              have hnb112:=NB644_629.out
              have hnc112:=NB629_644.out
              have hnb113:=NB644_635.out
              have hnc113:=NB635_644.out
              have ⟨hcz114_0,hcz114_1,hcz114_2,hcz114_3,hfz114_0,hfz114_1,hfz114_2,hfz114_3⟩:=cz4_ BK644.out
              go_wp2_with (first | ((with_reducible refine gc_ 63 ?_);refine gl_ (some 62) Try.func63 #[.agg #[.slice A0_0 l0_0.length c0_0,.slice A0_1 l0_1.length c0_1],.agg #[.int .i64 ((rd_T91 l1_1 x55_3).f0.f0),.int .i64 ((rd_T91 l1_1 x55_3).f0.f1)]] ?_;(with_reducible refine (impl_Set_sib.calls k3 _ _ l0_0 _ _ l0_1 ((rd_T91 l1_1 x55_3).f0.f0) ((rd_T91 l1_1 x55_3).f0.f1) t645 _ ?s1 ?s2 ?s3 ?s4 A103.out).mono ?_);(case s1=>exact Kd.C_below HR0_0.out (z17_ HB.out GE627.out GE628.out GE629.out GE635.out GE644.out));(case s2=>exact HC0_0.out);(case s3=>exact Kd.C_below HR0_1.out (z17_ HB.out GE627.out GE628.out GE629.out GE635.out GE644.out));(case s4=>exact HC0_1.out);rintro e w115 ⟨rfl,hb⟩;refine ⟨_,rfl,?_⟩;refine as8_ (Kd.R_below (z43_ HO_636000.out BK644.out) hb) (Kd.R_below (by (with_reducible repeat (first | apply Kd.R_alloc | apply Kd.R_drewN | apply Kd.R_drew));exact (Kd.R_mono (rf4_ (Kd.R_mono HO_636001.out (fun k_ hk=>(⟨hk,hk.2⟩:_∧k_≠gb644))) (fun _ hk=>hk.2)) (fun _ h_=>h_.1))) hb) (blk_below (g:=gb627) (o:=.cells #[.slice A0_0 l0_0.length c0_0,.slice A0_1 l0_1.length c0_1] 40 (0,0)) (z16_ NB627_644.out BK627.out) hb) (blk_below (g:=gb628) (o:=.cells #[.slice A1_0 l1_0.length c1_0,.slice (some ad643) l1_1.length c1_1] 40 (0,0)) (z16_ NB628_644.out BK628.out) hb) (blk_below (g:=gb629) (o:=.cells #[.slice none 0 0,.slice none 0 0,.int .i64 0,.int .i64 0,.int .i64 0] 58 (0,0)) (z16_ NB629_644.out BK629.out) hb) (blk_below (g:=gb635) (o:=.cells #[.slice Ao32 t632.length co32,u636001] 40 (0,0)) (z16_ NB635_644.out BK635.out) hb) (blk_below (g:=gb644) (o:=.cells #[.int .i64 ((rd_T91 l1_1 x55_3).f0.f0),.int .i64 ((rd_T91 l1_1 x55_3).f0.f1),.bool ((rd_T91 l1_1 x55_3).f1),.string ((rd_T91 l1_1 x55_3).f2)] 91 (0,0)) (z24_ BK644.out) hb) (below_step (z17_ HB.out GE627.out GE628.out GE629.out GE635.out GE644.out) hb) ?_;clear HO_636000 HO_636001 BK627 BK628 BK629 BK635 BK644 HB;intro HO_636000 HO_636001 BK627 BK628 BK629 BK635 BK644 HB;(try clear hb);(try clear hb2);(try clear hk);(try clear hi);have ⟨hcz116_0,hcz116_1,hfz116_0,hfz116_1⟩:=cz2_ BK627.out;have ⟨hcz117_0,hcz117_1,hcz117_2,hcz117_3,hfz117_0,hfz117_1,hfz117_2,hfz117_3⟩:=cz4_ BK644.out) | (go_at_call 64;(with_reducible refine (impl_seenHas.calls k3 _ _ l0_0 ((rd_T91 l1_1 x55_3).f0.f0) ((rd_T91 l1_1 x55_3).f0.f1) t646 _ ?s1 ?s2 A105.out).mono ?_);(case s1=>repeat (first | exact (Kd.C_below HR0_0.out HB.out) | (with_reducible refine Kd.C_alloc ?_ _) | (with_reducible refine Kd.C_drewN ?_ _) | (with_reducible refine Kd.C_drew ?_)));(case s2=>exact HC0_0.out);rintro e w118 ⟨rfl,hb⟩;refine as8_ (Kd.R_below (z0_ HO_636000.out) hb) (Kd.R_below (z0_ HO_636001.out) hb) (blkB_ BK627.out hb) (blkB_ BK628.out hb) (blkB_ BK629.out hb) (blkB_ BK635.out hb) (blkB_ BK644.out hb) (below_step (z17_ HB.out GE627.out GE628.out GE629.out GE635.out GE644.out) hb) ?_;clear HO_636000 HO_636001 BK627 BK628 BK629 BK635 BK644 HB;intro HO_636000 HO_636001 BK627 BK628 BK629 BK635 BK644 HB;(try clear hb)))
              go_meet
              case rel=>exact ⟨_,(!t646),(z3_),H',⟨by have:=HJ2.out;have:=HK2.out;have:=HK3.out;first | omega | exact Nat.le_refl _⟩,⟨z0_ HO_636000.out⟩,⟨z41_ HO_636001.out⟩,⟨z1_ BK627.out⟩,⟨z1_ BK628.out⟩,⟨z1_ BK629.out⟩,⟨z1_ BK635.out⟩,⟨z1_ BK644.out⟩,⟨z17_ HB.out GE627.out GE628.out GE629.out GE635.out GE644.out⟩⟩
             ·rw [if_neg c104] at H
              have c104b0:decide (t645<0)=false:=decide_eq_false c104
              clear c104
              (first | rw [c104b0] | (simp only [i64_w,i32_w];rw [c104b0]) | skip)
              have H':=Aside0.mk H
              clear H
              have hnb119:=NB627_628.out
              have hnc119:=NB628_627.out
              have hnb120:=NB627_629.out
              have hnc120:=NB629_627.out
              have hnb121:=NB627_635.out
              have hnc121:=NB635_627.out
              have hnb122:=NB627_644.out
              have hnc122:=NB644_627.out
              have ⟨hcz123_0,hcz123_1,hfz123_0,hfz123_1⟩:=cz2_ BK627.out
              have hnb124:=NB644_628.out
              have hnc124:=NB628_644.out
              have hnb125:=NB644_629.out
              have hnc125:=NB629_644.out
              have hnb126:=NB644_635.out
              have hnc126:=NB635_644.out
              have ⟨hcz127_0,hcz127_1,hcz127_2,hcz127_3,hfz127_0,hfz127_1,hfz127_2,hfz127_3⟩:=cz4_ BK644.out
              go_wp2_with (first | ((with_reducible refine gc_ 63 ?_);refine gl_ (some 62) Try.func63 #[.agg #[.slice A0_0 l0_0.length c0_0,.slice A0_1 l0_1.length c0_1],.agg #[.int .i64 ((rd_T91 l1_1 x55_3).f0.f0),.int .i64 ((rd_T91 l1_1 x55_3).f0.f1)]] ?_;(with_reducible refine (impl_Set_sib.calls k3 _ _ l0_0 _ _ l0_1 ((rd_T91 l1_1 x55_3).f0.f0) ((rd_T91 l1_1 x55_3).f0.f1) t645 _ ?s1 ?s2 ?s3 ?s4 A103.out).mono ?_);(case s1=>exact Kd.C_below HR0_0.out (z17_ HB.out GE627.out GE628.out GE629.out GE635.out GE644.out));(case s2=>exact HC0_0.out);(case s3=>exact Kd.C_below HR0_1.out (z17_ HB.out GE627.out GE628.out GE629.out GE635.out GE644.out));(case s4=>exact HC0_1.out);rintro e w128 ⟨rfl,hb⟩;refine ⟨_,rfl,?_⟩;refine as8_ (Kd.R_below (z43_ HO_636000.out BK644.out) hb) (Kd.R_below (by (with_reducible repeat (first | apply Kd.R_alloc | apply Kd.R_drewN | apply Kd.R_drew));exact (Kd.R_mono (rf4_ (Kd.R_mono HO_636001.out (fun k_ hk=>(⟨hk,hk.2⟩:_∧k_≠gb644))) (fun _ hk=>hk.2)) (fun _ h_=>h_.1))) hb) (blk_below (g:=gb627) (o:=.cells #[.slice A0_0 l0_0.length c0_0,.slice A0_1 l0_1.length c0_1] 40 (0,0)) (z16_ NB627_644.out BK627.out) hb) (blk_below (g:=gb628) (o:=.cells #[.slice A1_0 l1_0.length c1_0,.slice (some ad643) l1_1.length c1_1] 40 (0,0)) (z16_ NB628_644.out BK628.out) hb) (blk_below (g:=gb629) (o:=.cells #[.slice none 0 0,.slice none 0 0,.int .i64 0,.int .i64 0,.int .i64 0] 58 (0,0)) (z16_ NB629_644.out BK629.out) hb) (blk_below (g:=gb635) (o:=.cells #[.slice Ao32 t632.length co32,u636001] 40 (0,0)) (z16_ NB635_644.out BK635.out) hb) (blk_below (g:=gb644) (o:=.cells #[.int .i64 ((rd_T91 l1_1 x55_3).f0.f0),.int .i64 ((rd_T91 l1_1 x55_3).f0.f1),.bool ((rd_T91 l1_1 x55_3).f1),.string ((rd_T91 l1_1 x55_3).f2)] 91 (0,0)) (z24_ BK644.out) hb) (below_step (z17_ HB.out GE627.out GE628.out GE629.out GE635.out GE644.out) hb) ?_;clear HO_636000 HO_636001 BK627 BK628 BK629 BK635 BK644 HB;intro HO_636000 HO_636001 BK627 BK628 BK629 BK635 BK644 HB;(try clear hb);(try clear hb2);(try clear hk);(try clear hi)))
              go_meet
              case rel=>exact ⟨_,(false),(z3_),H',⟨by have:=HJ2.out;have:=HK2.out;have:=HK3.out;first | omega | exact Nat.le_refl _⟩,⟨z0_ HO_636000.out⟩,⟨z41_ HO_636001.out⟩,⟨z1_ BK627.out⟩,⟨z1_ BK628.out⟩,⟨z1_ BK629.out⟩,⟨z1_ BK635.out⟩,⟨z1_ BK644.out⟩,⟨z17_ HB.out GE627.out GE628.out GE629.out GE635.out GE644.out⟩⟩
            case rest =>
             clear HC96
             try clear c1
             try clear c2
             try clear p2
             try clear c3
             try clear c4
             try clear c5
             try clear c6
             try clear p6
             try clear q6
             try clear hx6
             try clear c7
             try clear c8
             try clear c9
             try clear c10
             try clear c11
             try clear c12
             try clear c14
             try clear c17
             try clear c18
             try clear c21
             try clear c22
             try clear c23
             try clear c25
             try clear c26
             try clear c27
             try clear c29
             try clear c34
             try clear c35
             try clear c36
             try clear c39
             try clear c39b0
             try clear c40
             try clear c40b0
             try clear c41
             try clear c41b0
             try clear c44
             try clear c45
             try clear c46
             try clear c47
             try clear c50
             try clear c50b0
             try clear c51
             try clear c52
             try clear c53
             try clear c54
             try clear c56
             try clear c57
             try clear c58
             try clear c62
             try clear c63
             try clear p63
             try clear q63
             try clear hx63
             try clear c64
             try clear p64
             try clear q64
             try clear hx64
             try clear c65
             try clear c67
             try clear c68
             try clear c69
             try clear c75
             try clear c76
             try clear c77
             try clear c78
             try clear c79
             try clear c80
             try clear c82
             try clear c83
             try clear c84
             try clear c89
             try clear c90
             try clear c91
             try clear c93
             try clear c93b0
             try clear c94
             try clear c94b0
             try clear c95
             try clear c95b0
             try clear c98
             try clear c99
             try clear c100
             try clear c101
             try clear c104
             try clear c104b0
             try clear c106
             try clear c107
             try clear c108
             try clear c109
             try clear c111
             try clear c112
             try clear c113
             try clear c119
             try clear c120
             try clear c121
             try clear c122
             try clear c124
             try clear c125
             try clear c126
             try clear hcz102_0
             try clear hcz102_1
             try clear hcz102_2
             try clear hcz102_3
             try clear hcz110_0
             try clear hcz110_1
             try clear hcz114_0
             try clear hcz114_1
             try clear hcz114_2
             try clear hcz114_3
             try clear hcz116_0
             try clear hcz116_1
             try clear hcz117_0
             try clear hcz117_1
             try clear hcz117_2
             try clear hcz117_3
             try clear hcz123_0
             try clear hcz123_1
             try clear hcz127_0
             try clear hcz127_1
             try clear hcz127_2
             try clear hcz127_3
             try clear hcz12_0
             try clear hcz12_1
             try clear hcz15_0
             try clear hcz15_1
             try clear hcz19_0
             try clear hcz19_1
             try clear hcz24_0
             try clear hcz24_1
             try clear hcz24_2
             try clear hcz24_3
             try clear hcz24_4
             try clear hcz28_0
             try clear hcz28_1
             try clear hcz30_0
             try clear hcz30_1
             try clear hcz37_0
             try clear hcz37_1
             try clear hcz38_0
             try clear hcz38_1
             try clear hcz48_0
             try clear hcz48_1
             try clear hcz48_2
             try clear hcz48_3
             try clear hcz55_0
             try clear hcz55_1
             try clear hcz59_0
             try clear hcz59_1
             try clear hcz59_2
             try clear hcz59_3
             try clear hcz66_0
             try clear hcz66_1
             try clear hcz70_0
             try clear hcz70_1
             try clear hcz70_2
             try clear hcz70_3
             try clear hcz72_0
             try clear hcz72_1
             try clear hcz73_0
             try clear hcz73_1
             try clear hcz73_2
             try clear hcz73_3
             try clear hcz81_0
             try clear hcz81_1
             try clear hcz85_0
             try clear hcz85_1
             try clear hcz85_2
             try clear hcz85_3
             try clear hcz88_0
             try clear hcz88_1
             try clear hcz92_0
             try clear hcz92_1
             try clear hfz102_0
             try clear hfz102_1
             try clear hfz102_2
             try clear hfz102_3
             try clear hfz110_0
             try clear hfz110_1
             try clear hfz114_0
             try clear hfz114_1
             try clear hfz114_2
             try clear hfz114_3
             try clear hfz116_0
             try clear hfz116_1
             try clear hfz117_0
             try clear hfz117_1
             try clear hfz117_2
             try clear hfz117_3
             try clear hfz123_0
             try clear hfz123_1
             try clear hfz127_0
             try clear hfz127_1
             try clear hfz127_2
             try clear hfz127_3
             try clear hfz12_0
             try clear hfz12_1
             try clear hfz15_0
             try clear hfz15_1
             try clear hfz19_0
             try clear hfz19_1
             try clear hfz24_0
             try clear hfz24_1
             try clear hfz24_2
             try clear hfz24_3
             try clear hfz24_4
             try clear hfz28_0
             try clear hfz28_1
             try clear hfz30_0
             try clear hfz30_1
             try clear hfz37_0
             try clear hfz37_1
             try clear hfz38_0
             try clear hfz38_1
             try clear hfz48_0
             try clear hfz48_1
             try clear hfz48_2
             try clear hfz48_3
             try clear hfz55_0
             try clear hfz55_1
             try clear hfz59_0
             try clear hfz59_1
             try clear hfz59_2
             try clear hfz59_3
             try clear hfz66_0
             try clear hfz66_1
             try clear hfz70_0
             try clear hfz70_1
             try clear hfz70_2
             try clear hfz70_3
             try clear hfz72_0
             try clear hfz72_1
             try clear hfz73_0
             try clear hfz73_1
             try clear hfz73_2
             try clear hfz73_3
             try clear hfz81_0
             try clear hfz81_1
             try clear hfz85_0
             try clear hfz85_1
             try clear hfz85_2
             try clear hfz85_3
             try clear hfz88_0
             try clear hfz88_1
             try clear hfz92_0
             try clear hfz92_1
             try clear hx636_0
             try clear hx636_1
             try clear hx636_2
             try clear hx636_3
             try clear hx643_0
             try clear hx643_1
             try clear hx643_2
             try clear hx643_3
             try clear p2
             try clear p6
             try clear p63
             try clear p636
             try clear p64
             try clear p643
             try clear q6
             try clear q63
             try clear q636
             try clear q643
             obtain ⟨kq,x71_95,rfl,HA,HJ95,HO_636000,HO_636001,BK627,BK628,BK629,BK635,BK644,HB⟩:=hcut
             cases kq with
             | zero=>exact absurd HA.out (by simp [impl_SetSync.j4])
             | succ kj95 =>
              have H:=HA.out
              clear HA
              simp only [impl_SetSync.j4] at H
              by_cases c129:x71_95=true
              ·subst c129
               have H1:(if x636001_3.length<3518437208883 then (impl_SetSync.l1 kj95 l1_1 (l1_1.length:Int) (wrap64 (x55_3+1)) l0_0 l0_1 t632 (x636001_3 ++ [(⟨(⟨((rd_T91 l1_1 x55_3).f0.f0),((rd_T91 l1_1 x55_3).f0.f1)⟩:S56),((rd_T91 l1_1 x55_3).f1),((rd_T91 l1_1 x55_3).f2)⟩:S91)])) else (none))=some (r1,r2,r3,r4,r5):=by rw [if_pos rfl] at H;exact H
               clear H
               have H:=H1
               clear H1
               by_cases c130:x636001_3.length<3518437208883
               ·rw [if_pos c130] at H
                have LMc130:=Aside0.mk c130
                clear c130
                obtain ⟨y647,hy647⟩:∃ y_:List (S91),y_=(x636001_3 ++ [(⟨(⟨((rd_T91 l1_1 x55_3).f0.f0),((rd_T91 l1_1 x55_3).f0.f1)⟩:S56),((rd_T91 l1_1 x55_3).f1),((rd_T91 l1_1 x55_3).f2)⟩:S91)]):=⟨_,rfl⟩
                replace H:(impl_SetSync.l1 kj95 l1_1 (l1_1.length:Int) (wrap64 (x55_3+1)) l0_0 l0_1 t632 y647)=some (r1,r2,r3,r4,r5):=by first | (rw [hy647];with_reducible exact H) | (have H2_:=(Option.bind_some _ _).symm.trans H;rw [hy647];with_reducible exact H2_) | (have H2_:=(Option.bind_some _ _).symm.trans H;with_reducible exact H2_) | with_reducible exact H | (rw [hy647];exact H) | exact H
                have Ny647:=Aside0.mk hy647
                clear hy647
                have H':=Aside0.mk H
                clear H
                have hnb131:=NB635_627.out
                have hnc131:=NB627_635.out
                have hnb132:=NB635_628.out
                have hnc132:=NB628_635.out
                have hnb133:=NB635_629.out
                have hnc133:=NB629_635.out
                have hnb134:=NB635_644.out
                have hnc134:=NB644_635.out
                have ⟨hcz135_0,hcz135_1,hfz135_0,hfz135_1⟩:=cz2_ BK635.out
                have hnb136:=NB644_627.out
                have hnc136:=NB627_644.out
                have hnb137:=NB644_628.out
                have hnc137:=NB628_644.out
                have hnb138:=NB644_629.out
                have hnc138:=NB629_644.out
                have ⟨hcz139_0,hcz139_1,hcz139_2,hcz139_3,hfz139_0,hfz139_1,hfz139_2,hfz139_3⟩:=cz4_ BK644.out
                go_wp2_with (first | ((with_reducible refine gate_builtin (b:=.append) (xs:=#[.tmp 73,.tmp 75]) rfl ?_);at_builtin;refine Kd.R_append k91 (w0:=w) w.heap.size rfl (.tmp 73) (.tmp 75) 38 91 (.agg #[(.int .i64 0),(.int .i64 0),(.bool false),(.string ⟨#[]⟩)]) 40 rfl Try.underlying38 info91 rfl (by decide) (by omega) u636001 x636001_3 (⟨(⟨((rd_T91 l1_1 x55_3).f0.f0),((rd_T91 l1_1 x55_3).f0.f1)⟩:S56),((rd_T91 l1_1 x55_3).f1),((rd_T91 l1_1 x55_3).f2)⟩:S91) [.int .i64 ((rd_T91 l1_1 x55_3).f0.f0),.int .i64 ((rd_T91 l1_1 x55_3).f0.f1),.bool ((rd_T91 l1_1 x55_3).f1),.string ((rd_T91 l1_1 x55_3).f2)] (fun k_=>k_≠gb644) (fun _=>False) rfl rfl ?aP (fun _ hk=>hk.elim) ?aF ?aO ?aB ?aS ?aL ?_;(case aP=>exact k91_mkM _ _ _ (⟨(⟨((rd_T91 l1_1 x55_3).f0.f0),((rd_T91 l1_1 x55_3).f0.f1)⟩:S56),((rd_T91 l1_1 x55_3).f1),((rd_T91 l1_1 x55_3).f2)⟩:S91));(case aB=>exact (z17_ HB.out GE627.out GE628.out GE629.out GE635.out GE644.out));(case aF=>exact (fun k_ hk=>Kd.freshB (g:=gb644) (o:=.cells #[.int .i64 ((rd_T91 l1_1 x55_3).f0.f0),.int .i64 ((rd_T91 l1_1 x55_3).f0.f1),.bool ((rd_T91 l1_1 x55_3).f1),.string ((rd_T91 l1_1 x55_3).f2)] 91 (0,0)) (z1_ BK644.out) k_ hk));(case aO=>exact (z0_ HO_636001.out));(case aS=>exact (below_size (z17_ HB.out GE627.out GE628.out GE629.out GE635.out GE644.out)));(case aL=>have:=LMc130.out;omega);intro v648 w140 ho hb hg hat;rw [← Ny647.out] at ho;refine as8_ (Kd.R_over' (z0_ HO_636000.out) (Kd.R_typed (z0_ HO_636001.out)) (by decide) hg) (blk_grown (g:=gb627) (o:=.cells #[.slice A0_0 l0_0.length c0_0,.slice A0_1 l0_1.length c0_1] 40 (0,0)) (z1_ BK627.out) hg (Kd.R_ne HO_636001.out BK627.out (by decide))) (blk_grown (g:=gb628) (o:=.cells #[.slice A1_0 l1_0.length c1_0,.slice (some ad643) l1_1.length c1_1] 40 (0,0)) (z1_ BK628.out) hg (Kd.R_ne HO_636001.out BK628.out (by decide))) (blk_grown (g:=gb629) (o:=.cells #[.slice none 0 0,.slice none 0 0,.int .i64 0,.int .i64 0,.int .i64 0] 58 (0,0)) (z1_ BK629.out) hg (Kd.R_ne HO_636001.out BK629.out (by decide))) (blk_grown (g:=gb635) (o:=.cells #[.slice Ao32 t632.length co32,u636001] 40 (0,0)) (z1_ BK635.out) hg (Kd.R_ne HO_636001.out BK635.out (by decide))) (blk_grown (g:=gb644) (o:=.cells #[.int .i64 ((rd_T91 l1_1 x55_3).f0.f0),.int .i64 ((rd_T91 l1_1 x55_3).f0.f1),.bool ((rd_T91 l1_1 x55_3).f1),.string ((rd_T91 l1_1 x55_3).f2)] 91 (0,0)) (z1_ BK644.out) hg (Kd.R_away HO_636001.out (fun _ hk=>hk))) (hb) (ho) ?_;clear HO_636000 BK627 BK628 BK629 BK635 BK644 HB HO_636001;intro HO_636000 BK627 BK628 BK629 BK635 BK644 HB HO649;clear ho hb hg hat;obtain ⟨Ao141,co141,eo141⟩:=Kd.R_slice HO649.out;subst eo141;have ⟨hcz142_0,hcz142_1,hfz142_0,hfz142_1⟩:=cz2_ BK635.out))
                go_roundg kj95
                case measure=>have:=HJ2.out;have:=HK2.out;have:=HK3.out;have:=HJ95.out;omega
                case rel=>exact ⟨(wrap64 (x55_3+1)),(y647),(.slice Ao141 y647.length co141),(z3_),H',⟨by have:=HJ2.out;have:=HK2.out;have:=HK3.out;have:=HJ95.out;omega⟩,⟨by (with_reducible repeat (first | apply Kd.R_alloc | apply Kd.R_drewN | apply Kd.R_drew));exact Kd.R_mono (Kd.R_far (p:=⟨gb635,1,none⟩) (Kd.R_types HO_636000.out BK635.out (by decide)) (fun _ hk=>hk.2) (.slice Ao141 y647.length co141)) (fun _ hk=>trivial)⟩,⟨by (with_reducible repeat (first | apply Kd.R_alloc | apply Kd.R_drewN | apply Kd.R_drew));exact Kd.R_mono (Kd.R_far (p:=⟨gb635,1,none⟩) (Kd.R_types HO649.out BK635.out (by decide)) (fun _ hk=>hk.2) (.slice Ao141 y647.length co141)) (fun _ hk=>trivial)⟩,⟨z26_ NB627_635.out BK627.out⟩,⟨z26_ NB628_635.out BK628.out⟩,⟨z26_ NB629_635.out BK629.out⟩,⟨by (with_reducible repeat (first | refine blk_drewN ?_ _ | refine blk_drew ?_ | refine blk_alloc ?_ _));refine blk_put (cs:=#[.slice Ao32 t632.length co32,u636001]) ?_ 1 _ rfl;(with_reducible repeat (first | refine blk_drewN ?_ _ | refine blk_drew ?_ | refine blk_alloc ?_ _));exact BK635.out⟩,⟨z17_ HB.out GE627.out GE628.out GE629.out GE635.out GE644.out⟩⟩
               ·rw [if_neg c130] at H
                exact absurd H (by simp)
              ·replace c129:=Bool.eq_false_iff.mpr c129
               subst c129
               have H1:(impl_SetSync.l1 kj95 l1_1 (l1_1.length:Int) (wrap64 (x55_3+1)) l0_0 l0_1 t632 x636001_3)=some (r1,r2,r3,r4,r5):=by rw [if_neg (show ¬ (false=true) by decide)] at H;exact H
               clear H
               have H:=H1
               clear H1
               have H':=Aside0.mk H
               clear H
               go_wp2
               go_roundg kj95
               case measure=>have:=HJ2.out;have:=HK2.out;have:=HK3.out;have:=HJ95.out;omega
               case rel=>exact ⟨(wrap64 (x55_3+1)),(x636001_3),(u636001),(z3_),H',⟨by have:=HJ2.out;have:=HK2.out;have:=HK3.out;have:=HJ95.out;omega⟩,⟨z0_ HO_636000.out⟩,⟨z44_ HO_636001.out⟩,⟨z1_ BK627.out⟩,⟨z1_ BK628.out⟩,⟨z1_ BK629.out⟩,⟨z1_ BK635.out⟩,⟨z17_ HB.out GE627.out GE628.out GE629.out GE635.out GE644.out⟩⟩
           ·rw [if_neg c95] at H
            exact absurd H (by simp)
          ·rw [if_neg c94] at H
           exact absurd H (by simp)
         ·rw [if_neg c93] at H
          have c93b0:decide (x55_3<(l1_1.length:Int))=false:=decide_eq_false c93
          clear c93
          by_cases c143:(x636001_3.length:Int)>8
          ·rw [if_pos c143] at H
           have c143b0:decide (8<(x636001_3.length:Int))=true:=decide_eq_true c143
           have c143b1:decide (8<x636001_3.length)=true:=decide_eq_true (by omega)
           clear c143
           simp only [Option.some.injEq,Prod.mk.injEq] at H
           obtain ⟨rfl,rfl,rfl,rfl,rfl⟩:=H
           have hnb144:=NB635_627.out
           have hnc144:=NB627_635.out
           have hnb145:=NB635_628.out
           have hnc145:=NB628_635.out
           have hnb146:=NB635_629.out
           have hnc146:=NB629_635.out
           have ⟨hcz147_0,hcz147_1,hfz147_0,hfz147_1⟩:=cz2_ BK635.out
           obtain ⟨Ao148,co148,eo148⟩:=Kd.R_slice HO_636001.out
           subst eo148
           have hnb149:=NB629_627.out
           have hnc149:=NB627_629.out
           have hnb150:=NB629_628.out
           have hnc150:=NB628_629.out
           have ⟨hcz151_0,hcz151_1,hcz151_2,hcz151_3,hcz151_4,hfz151_0,hfz151_1,hfz151_2,hfz151_3,hfz151_4⟩:=cz5_ BK629.out
           go_wp2
           refine bodyPost_ret (results_cell_row rfl _ _ gb629 58 #[.slice none 0 0,.slice none 0 0,.int .i64 0,.int .i64 0,.int .i64 9] (0,0) _ rfl (z31_ BK629.out) Try.underlying58 rfl (by kernel_rfl)) rfl ?_
           exact ⟨_,_,z8_,z32_,z32_,z14_ HB.out GE627.out GE628.out GE629.out GE635.out⟩
          ·rw [if_neg c143] at H
           have c143b0:decide (8<(x636001_3.length:Int))=false:=decide_eq_false c143
           have c143b1:decide (8<x636001_3.length)=false:=decide_eq_false (by omega)
           clear c143
           replace H:=Option.bind_eq_some_iff.mp H
           obtain ⟨t650,A1520,H⟩:=H
           replace H:(some (t632,t650,0,0,0))=some (r1,r2,r3,r4,r5):=H
           have A152:=Aside0.mk A1520
           clear A1520
           simp only [Option.some.injEq,Prod.mk.injEq] at H
           obtain ⟨rfl,rfl,rfl,rfl,rfl⟩:=H
           have hnb153:=NB635_627.out
           have hnc153:=NB627_635.out
           have hnb154:=NB635_628.out
           have hnc154:=NB628_635.out
           have hnb155:=NB635_629.out
           have hnc155:=NB629_635.out
           have ⟨hcz156_0,hcz156_1,hfz156_0,hfz156_1⟩:=cz2_ BK635.out
           obtain ⟨Ao157,co157,eo157⟩:=Kd.R_slice HO_636001.out
           subst eo157
           go_wp2_with (first | ((with_reducible refine gc_ 65 ?_);refine gl_ (some 86) Try.func65 #[.slice Ao157 x636001_3.length co157] ?_;(with_reducible refine (impl_sorted.calls k3 (fun k_=>some k_=(.slice Ao157 x636001_3.length co157:Value).ownBlock) (.slice Ao157 x636001_3.length co157) x636001_3 t650 w _ ?s1 ?s2 A152.out).mono ?_);(case s1=>repeat (first | (with_reducible first | exact HB.out | apply below_alloc | apply pw_below_drewN | apply below_drew1 | refine below_set ?_ GE627.out | refine below_set ?_ GE628.out | refine below_set ?_ GE629.out | refine below_set ?_ GE635.out) | exact HB.out));(case s2=>exact Kd.R_tight rfl HO_636001.out);rintro e w158 ⟨v651,rfl,ho0,hb,hkp⟩;refine ⟨_,rfl,?_⟩;refine as7_ (Kd.R_mono (ok':=fun k_=>True) (Kd.R_keptB ((Kd.R_apart' HO_636000.out (Kd.R_typed HO_636001.out) (by decide))) hkp (fun k_ hk_ hs_=>(hk_.2) hs_)) (fun k_ hk_=>trivial)) (blk_kept (z1_ BK627.out) hkp (fun hs_=>(fun e_=>(Kd.R_ne HO_636001.out BK627.out (by decide)) e_) hs_)) (blk_kept (z1_ BK628.out) hkp (fun hs_=>(fun e_=>(Kd.R_ne HO_636001.out BK628.out (by decide)) e_) hs_)) (blk_kept (z1_ BK629.out) hkp (fun hs_=>(fun e_=>(Kd.R_ne HO_636001.out BK629.out (by decide)) e_) hs_)) (blk_kept (z1_ BK635.out) hkp (fun hs_=>(fun e_=>(Kd.R_ne HO_636001.out BK635.out (by decide)) e_) hs_)) (Kd.R_mono (ok':=fun k_=>True) ho0 (fun k_ hk_=>trivial)) (hb) ?_;clear HO_636000 BK627 BK628 BK629 BK635 HB HO_636001;intro HO_636000 BK627 BK628 BK629 BK635 HO652 HB;(try clear hb);(try clear hkp);(try clear ho0);obtain ⟨Ao159,co159,eo159⟩:=Kd.R_slice HO652.out;subst eo159;have ⟨hcz160_0,hcz160_1,hfz160_0,hfz160_1⟩:=cz2_ BK635.out;have hnb161:=NB629_627.out;have hnc161:=NB627_629.out;have hnb162:=NB629_628.out;have hnc162:=NB628_629.out;have ⟨hcz163_0,hcz163_1,hcz163_2,hcz163_3,hcz163_4,hfz163_0,hfz163_1,hfz163_2,hfz163_3,hfz163_4⟩:=cz5_ BK629.out))
           refine bodyPost_ret (results_cell_row rfl _ _ gb629 58 #[.slice Ao32 t632.length co32,.slice Ao159 t650.length co159,.int .i64 0,.int .i64 0,.int .i64 0] (0,0) _ rfl (by (with_reducible repeat (first | refine blk_drewN ?_ _ | refine blk_drew ?_ | refine blk_alloc ?_ _));apply put5_;(with_reducible repeat (first | refine blk_drewN ?_ _ | refine blk_drew ?_ | refine blk_alloc ?_ _));refine blk_far ?_ NB629_635.out _;(with_reducible repeat (first | refine blk_drewN ?_ _ | refine blk_drew ?_ | refine blk_alloc ?_ _));exact BK629.out) Try.underlying58 rfl (by kernel_rfl)) rfl ?_
           exact ⟨_,_,z8_,by (with_reducible repeat (first | apply Kd.R_alloc | apply Kd.R_drewN | apply Kd.R_drew));exact Kd.R_mono (rf5_ (Kd.R_far (p:=⟨gb635,1,none⟩) (Kd.R_types (Kd.R_types HO_636000.out BK635.out (by decide)) BK629.out (by decide)) (fun _ hk=>hk.1.2) (.slice Ao159 t650.length co159)) (fun _ hk=>hk.2)) (fun _ hk=>trivial),by (with_reducible repeat (first | apply Kd.R_alloc | apply Kd.R_drewN | apply Kd.R_drew));exact Kd.R_mono (rf5_ (Kd.R_far (p:=⟨gb635,1,none⟩) (Kd.R_types (Kd.R_types HO652.out BK635.out (by decide)) BK629.out (by decide)) (fun _ hk=>hk.1.2) (.slice Ao159 t650.length co159)) (fun _ hk=>hk.2)) (fun _ hk=>trivial),z14_ HB.out GE627.out GE628.out GE629.out GE635.out⟩


/-! ### laws_eqSetOut: function 26 -/
def laws_eqSetOut.f (k:Nat) (l0_0:List (S56)) (l0_1:List (S91)) (a0_2:Int) (a0_3:Int) (a0_4:Int) (l1_0:List (S56)) (l1_1:List (S91)) (a1_2:Int) (a1_3:Int) (a1_4:Int):Option (Bool):=(laws_eqSet.f k l0_0 l0_1 l1_0 l1_1).bind fun t655=>(if t655=true then ((laws_eqMark.f a0_2 a0_3 a1_2 a1_3).bind fun t656=>(if t656=true then (if a0_4=a1_4 then (some true) else (none)) else (none))) else (none))
theorem laws_eqSetOut.mono:∀ a0 a1 a2 a3 a4 a5 a6 a7 a8 a9 k,LeO (laws_eqSetOut.f k a0 a1 a2 a3 a4 a5 a6 a7 a8 a9) (laws_eqSetOut.f (k+1) a0 a1 a2 a3 a4 a5 a6 a7 a8 a9):=by
 intro a0 a1 a2 a3 a4 a5 a6 a7 a8 a9 k
 unfold laws_eqSetOut.f
 repeat' first
   | (with_reducible exact laws_eqSet.mono _ _ _ _ _)
   | (with_reducible exact LeO.refl _)
   | (with_reducible exact LeO.none _)
   | (with_reducible refine LeO.ite ?_ ?_)
   | (with_reducible refine LeO.bind ?_ (fun _=>?_))
   | exact laws_eqSet.mono _ _ _ _ _
   | exact LeO.none _
   | refine LeO.ite ?_ ?_
   | refine LeO.bind ?_ (fun _=>?_)
set_option maxHeartbeats 8000000 in
set_option maxRecDepth 100000 in
theorem laws_eqSetOut.calls (k:Nat) (A0_0:Option Addr) (c0_0:Nat) (l0_0:List (S56)) (A0_1:Option Addr) (c0_1:Nat) (l0_1:List (S91)) (a0_2:Int) (a0_3:Int) (a0_4:Int) (A1_0:Option Addr) (c1_0:Nat) (l1_0:List (S56)) (A1_1:Option Addr) (c1_1:Nat) (l1_1:List (S91)) (a1_2:Int) (a1_3:Int) (a1_4:Int) (r:Bool) (w:World) (hr0_0:Kd.C k56 w A0_0 l0_0.length l0_0) (hc0_0:l0_0.length≤c0_0) (hr0_1:Kd.C k91 w A0_1 l0_1.length l0_1) (hc0_1:l0_1.length≤c0_1) (hr1_0:Kd.C k56 w A1_0 l1_0.length l1_0) (hc1_0:l1_0.length≤c1_0) (hr1_1:Kd.C k91 w A1_1 l1_1.length l1_1) (hc1_1:l1_1.length≤c1_1) (h:laws_eqSetOut.f k l0_0 l0_1 a0_2 a0_3 a0_4 l1_0 l1_1 a1_2 a1_3 a1_4=some r) :
  Calls Try.prog 26 #[.agg #[.slice A0_0 l0_0.length c0_0,.slice A0_1 l0_1.length c0_1,.int .i64 a0_2,.int .i64 a0_3,.int .i64 a0_4],.agg #[.slice A1_0 l1_0.length c1_0,.slice A1_1 l1_1.length c1_1,.int .i64 a1_2,.int .i64 a1_3,.int .i64 a1_4]] w fun e w'=>e = .returned (.bool r)∧Below w.heap.size w w':=by
 have hu58:=Try.underlying58
 have hu40:=Try.underlying40
 have hu56:=Try.underlying56
 have HR0_0:=Aside0.mk hr0_0
 have HC0_0:=Aside0.mk hc0_0
 clear hr0_0 hc0_0
 have HR0_1:=Aside0.mk hr0_1
 have HC0_1:=Aside0.mk hc0_1
 clear hr0_1 hc0_1
 have HR1_0:=Aside0.mk hr1_0
 have HC1_0:=Aside0.mk hc1_0
 clear hr1_0 hc1_0
 have HR1_1:=Aside0.mk hr1_1
 have HC1_1:=Aside0.mk hc1_1
 clear hr1_1 hc1_1
 have HB:=Aside0.mk (Below.refl w.heap.size w)
 have H:((laws_eqSet.f k l0_0 l0_1 l1_0 l1_1).bind fun t655=>(if t655=true then ((laws_eqMark.f a0_2 a0_3 a1_2 a1_3).bind fun t656=>(if t656=true then (if a0_4=a1_4 then (some true) else (none)) else (none))) else (none)))=some r:=h
 clear h
 replace H:=Option.bind_eq_some_iff.mp H
 obtain ⟨t655,A30,H⟩:=H
 replace H:(if t655=true then ((laws_eqMark.f a0_2 a0_3 a1_2 a1_3).bind fun t656=>(if t656=true then (if a0_4=a1_4 then (some true) else (none)) else (none))) else (none))=some r:=H
 have A3:=Aside0.mk A30
 clear A30
 by_cases c4:t655=true
 ·subst c4
  have H1:((laws_eqMark.f a0_2 a0_3 a1_2 a1_3).bind fun t656=>(if t656=true then (if a0_4=a1_4 then (some true) else (none)) else (none)))=some r:=by rw [if_pos rfl] at H;exact H
  clear H
  have H:=H1
  clear H1
  replace H:=Option.bind_eq_some_iff.mp H
  obtain ⟨t656,A50,H⟩:=H
  replace H:(if t656=true then (if a0_4=a1_4 then (some true) else (none)) else (none))=some r:=H
  have A5:=Aside0.mk A50
  clear A50
  by_cases c6:t656=true
  ·subst c6
   have H1:(if a0_4=a1_4 then (some true) else (none))=some r:=by rw [if_pos rfl] at H;exact H
   clear H
   have H:=H1
   clear H1
   by_cases c7:a0_4=a1_4
   ·rw [if_pos c7] at H
    have c7b0:(a0_4 == a1_4)=true:=beq_iff_eq.mpr c7
    have c7b1:(a0_4 != a1_4)=false:=bne_eq_false_iff_eq.mpr c7
    clear c7
    obtain rfl:=Option.some.inj H
    go_enter Try.func26,Try.ntmps26
    go_wp2_with (first | ((with_reducible refine gd_ 2 ?_);refine be_ 2 #[.slice A0_0 l0_0.length c0_0,.slice A0_1 l0_1.length c0_1,.int .i64 a0_2,.int .i64 a0_3,.int .i64 a0_4] 58 ?_;intro gb653 hg w8 hbox hb;refine as4_ (below_step (z4_ HB.out) hb) (hbox) ((z7_ HB.out:w.heap.size≤gb653)) ((z7_ HB.out:w.heap.size≤gb653)) ?_;clear HB;intro HB BK653 GW653 GE653;clear hb hbox hg) | ((with_reducible refine gd_ 3 ?_);refine be_ 3 #[.slice A1_0 l1_0.length c1_0,.slice A1_1 l1_1.length c1_1,.int .i64 a1_2,.int .i64 a1_3,.int .i64 a1_4] 58 ?_;intro gb654 hg w9 hbox hb;refine as7_ (blkB_ BK653.out hb) (below_step (z5_ HB.out GE653.out) hb) (hbox) ((z10_ HB.out GE653.out:w.heap.size≤gb654)) ((z10_ HB.out GE653.out:w.heap.size≤gb654)) (neL_ BK653.out hg) (neG_ BK653.out hg) ?_;clear BK653 HB;intro BK653 HB BK654 GW654 GE654 NB653_654 NB654_653;clear hb hbox hg;have hnb10:=NB653_654.out;have hnc10:=NB654_653.out;have ⟨hcz11_0,hcz11_1,hcz11_2,hcz11_3,hcz11_4,hfz11_0,hfz11_1,hfz11_2,hfz11_3,hfz11_4⟩:=cz5_ BK653.out;have ⟨hcz12_0,hcz12_1,hcz12_2,hcz12_3,hcz12_4,hfz12_0,hfz12_1,hfz12_2,hfz12_3,hfz12_4⟩:=cz5_ BK654.out) | ((with_reducible refine gc_ 19 ?_);refine gl_ (some 9) Try.func19 #[.agg #[.slice A0_0 l0_0.length c0_0,.slice A0_1 l0_1.length c0_1],.agg #[.slice A1_0 l1_0.length c1_0,.slice A1_1 l1_1.length c1_1]] ?_;(with_reducible refine (laws_eqSet.calls k _ _ l0_0 _ _ l0_1 _ _ l1_0 _ _ l1_1 true _ ?s1 ?s2 ?s3 ?s4 ?s5 ?s6 ?s7 ?s8 A3.out).mono ?_);(case s1=>repeat (first | exact (Kd.C_below HR0_0.out HB.out) | (with_reducible refine Kd.C_alloc ?_ _) | (with_reducible refine Kd.C_drewN ?_ _) | (with_reducible refine Kd.C_drew ?_)));(case s2=>exact HC0_0.out);(case s3=>repeat (first | exact (Kd.C_below HR0_1.out HB.out) | (with_reducible refine Kd.C_alloc ?_ _) | (with_reducible refine Kd.C_drewN ?_ _) | (with_reducible refine Kd.C_drew ?_)));(case s4=>exact HC0_1.out);(case s5=>repeat (first | exact (Kd.C_below HR1_0.out HB.out) | (with_reducible refine Kd.C_alloc ?_ _) | (with_reducible refine Kd.C_drewN ?_ _) | (with_reducible refine Kd.C_drew ?_)));(case s6=>exact HC1_0.out);(case s7=>repeat (first | exact (Kd.C_below HR1_1.out HB.out) | (with_reducible refine Kd.C_alloc ?_ _) | (with_reducible refine Kd.C_drewN ?_ _) | (with_reducible refine Kd.C_drew ?_)));(case s8=>exact HC1_1.out);rintro e w13 ⟨rfl,hb⟩;refine ⟨_,rfl,?_⟩;refine as3_ (blkB_ BK653.out hb) (blkB_ BK654.out hb) (below_step (z6_ HB.out GE653.out GE654.out) hb) ?_;clear BK653 BK654 HB;intro BK653 BK654 HB;(try clear hb);have ⟨hcz14_0,hcz14_1,hcz14_2,hcz14_3,hcz14_4,hfz14_0,hfz14_1,hfz14_2,hfz14_3,hfz14_4⟩:=cz5_ BK653.out;have ⟨hcz15_0,hcz15_1,hcz15_2,hcz15_3,hcz15_4,hfz15_0,hfz15_1,hfz15_2,hfz15_3,hfz15_4⟩:=cz5_ BK654.out) | ((with_reducible refine gc_ 66 ?_);refine gl_ (some 15) Try.func66 #[.agg #[.int .i64 a0_2,.int .i64 a0_3],.agg #[.int .i64 a1_2,.int .i64 a1_3]] ?_;(with_reducible refine (laws_eqMark.calls a0_2 a0_3 a1_2 a1_3 true _ A5.out).mono ?_);rintro e w16 ⟨rfl,hb⟩;refine ⟨_,rfl,?_⟩;refine as3_ (blkB_ BK653.out hb) (blkB_ BK654.out hb) (below_step (z6_ HB.out GE653.out GE654.out) hb) ?_;clear BK653 BK654 HB;intro BK653 BK654 HB;(try clear hb);have ⟨hcz17_0,hcz17_1,hcz17_2,hcz17_3,hcz17_4,hfz17_0,hfz17_1,hfz17_2,hfz17_3,hfz17_4⟩:=cz5_ BK653.out;have ⟨hcz18_0,hcz18_1,hcz18_2,hcz18_3,hcz18_4,hfz18_0,hfz18_1,hfz18_2,hfz18_3,hfz18_4⟩:=cz5_ BK654.out))
    go_ret
    exact ⟨z8_,z6_ HB.out GE653.out GE654.out⟩
   ·rw [if_neg c7] at H
    exact absurd H (by simp)
  ·replace c6:=Bool.eq_false_iff.mpr c6
   subst c6
   have H1:(none)=some r:=by rw [if_neg (show ¬ (false=true) by decide)] at H;exact H
   clear H
   have H:=H1
   clear H1
   exact absurd H (by simp)
 ·replace c4:=Bool.eq_false_iff.mpr c4
  subst c4
  have H1:(none)=some r:=by rw [if_neg (show ¬ (false=true) by decide)] at H;exact H
  clear H
  have H:=H1
  clear H1
  exact absurd H (by simp)


/-! ### laws_markSetOut: function 27 -/
def laws_markSetOut.f (k:Nat) (l0_0:List (S56)) (l0_1:List (S91)) (a0_2:Int) (a0_3:Int) (a0_4:Int) (a1:Int):Option (Int × (List (S56)) × (List (S91))):=(laws_markSet.f k l0_0 l0_1 a1).bind fun bt658=>(some (bt658.1,bt658.2.1,bt658.2.2))
theorem laws_markSetOut.mono:∀ a0 a1 a2 a3 a4 a5 k,LeO (laws_markSetOut.f k a0 a1 a2 a3 a4 a5) (laws_markSetOut.f (k+1) a0 a1 a2 a3 a4 a5):=by
 intro a0 a1 a2 a3 a4 a5 k
 unfold laws_markSetOut.f
 repeat' first
   | (with_reducible exact laws_markSet.mono _ _ _ _)
   | (with_reducible exact LeO.refl _)
   | (with_reducible exact LeO.none _)
   | (with_reducible refine LeO.ite ?_ ?_)
   | (with_reducible refine LeO.bind ?_ (fun _=>?_))
   | exact laws_markSet.mono _ _ _ _
   | exact LeO.none _
   | refine LeO.ite ?_ ?_
   | refine LeO.bind ?_ (fun _=>?_)
set_option maxHeartbeats 8000000 in
set_option maxRecDepth 100000 in
theorem laws_markSetOut.calls (k:Nat) (P0_0_:Nat→Prop) (u9000_:Value) (l0_0:List (S56)) (P0_1_:Nat→Prop) (u9001_:Value) (l0_1:List (S91)) (a0_2:Int) (a0_3:Int) (a0_4:Int) (a1:Int) (r1:Int) (r2:List (S56)) (r3:List (S91)) (w0 w:World) (hB:Below w0.heap.size w0 w) (ho0_0:Kd.R k56 56 w w0.heap.size P0_0_ u9000_ l0_0) (ho0_1:Kd.R k91 91 w w0.heap.size P0_1_ u9001_ l0_1) (h:laws_markSetOut.f k l0_0 l0_1 a0_2 a0_3 a0_4 a1=some (r1,r2,r3)) :
  Calls Try.prog 27 #[.agg #[u9000_,u9001_,.int .i64 a0_2,.int .i64 a0_3,.int .i64 a0_4],.int .i64 a1] w fun e w'=>e = .returned (.int .i64 r1)∧Kd.R k56 56 w' w0.heap.size (fun k_=>((P0_0_ k_∨P0_1_ k_)∨w.heap.size≤k_)) u9000_ r2∧Kd.R k91 91 w' w0.heap.size (fun k_=>((P0_0_ k_∨P0_1_ k_)∨w.heap.size≤k_)) u9001_ r3∧Below w0.heap.size w0 w'∧Kept w w' (fun k_=>P0_0_ k_∨P0_1_ k_):=by
 have hu58:=Try.underlying58
 have hu40:=Try.underlying40
 have HO0_0:=Aside0.mk (show Kd.R k56 56 w w0.heap.size (fun k_=>((P0_0_ k_∨P0_1_ k_)∨w.heap.size≤k_)) u9000_ l0_0 from Kd.R_mono ho0_0 (fun k_ hk=>(.inl (.inl hk))))
 have HO0_1:=Aside0.mk (show Kd.R k91 91 w w0.heap.size (fun k_=>((P0_0_ k_∨P0_1_ k_)∨w.heap.size≤k_)) u9001_ l0_1 from Kd.R_mono ho0_1 (fun k_ hk=>(.inl (.inr hk))))
 have HK:=Aside0.mk (Kept.refl w (fun k_=>P0_0_ k_∨P0_1_ k_))
 have HW0:=Aside0.mk hB.size
 have HB:=Aside0.mk hB
 clear hB
 have H:((laws_markSet.f k l0_0 l0_1 a1).bind fun bt658=>(some (bt658.1,bt658.2.1,bt658.2.2)))=some (r1,r2,r3):=h
 clear h
 replace H:=Option.bind_eq_some_iff.mp H
 obtain ⟨⟨t658,t659,t660⟩,A30,H⟩:=H
 replace H:(some (t658,t659,t660))=some (r1,r2,r3):=H
 have A3:=Aside0.mk A30
 clear A30
 simp only [Option.some.injEq,Prod.mk.injEq] at H
 obtain ⟨rfl,rfl,rfl⟩:=H
 obtain ⟨Ao4,co4,eo4⟩:=Kd.R_slice HO0_0.out
 subst eo4
 obtain ⟨Ao5,co5,eo5⟩:=Kd.R_slice HO0_1.out
 subst eo5
 go_enter Try.func27,Try.ntmps27
 go_wp2_with (first | ((with_reducible refine gd_ 2 ?_);refine be_ 2 #[.slice Ao4 l0_0.length co4,.slice Ao5 l0_1.length co5,.int .i64 a0_2,.int .i64 a0_3,.int .i64 a0_4] 58 ?_;intro gb657 hg w6 hbox hb;refine as7_ (Kd.R_below (z0_ HO0_0.out) hb) (Kd.R_below (z0_ HO0_1.out) hb) (Kept.below (S:=(fun k_=>P0_0_ k_∨P0_1_ k_)) (z18_ HK.out) hb) (below_step (z4_ HB.out) hb) (hbox) ((by rw [hg];exact (by first | exact HK.out.1 | exact (show Kept w _ (fun k_=>P0_0_ k_∨P0_1_ k_) from by repeat (first | (with_reducible first | exact HK.out | apply Kept.alloc | apply Kept.drewN | apply Kept.drew) | exact HK.out)).1):w.heap.size≤gb657)) ((z7_ HB.out:w0.heap.size≤gb657)) ?_;clear HO0_0 HO0_1 HK HB;intro HO0_0 HO0_1 HK HB BK657 GW657 GE657;clear hb hbox hg;have ⟨hcz7_0,hcz7_1,hcz7_2,hcz7_3,hcz7_4,hfz7_0,hfz7_1,hfz7_2,hfz7_3,hfz7_4⟩:=cz5_ BK657.out) | ((with_reducible refine gc_ 21 ?_);refine gl_ (some 8) Try.func21 #[.agg #[.slice Ao4 l0_0.length co4,.slice Ao5 l0_1.length co5],.int .i64 a1] ?_;(with_reducible refine (laws_markSet.calls k (fun k_=>some k_=(.slice Ao4 l0_0.length co4:Value).ownBlock) (.slice Ao4 l0_0.length co4) l0_0 (fun k_=>some k_=(.slice Ao5 l0_1.length co5:Value).ownBlock) (.slice Ao5 l0_1.length co5) l0_1 a1 t658 t659 t660 w0 _ ?s1 ?s2 ?s3 A3.out).mono ?_);(case s1=>repeat (first | (with_reducible first | exact HB.out | apply below_alloc | apply pw_below_drewN | apply below_drew1 | refine below_set ?_ GE657.out) | exact HB.out));(case s2=>exact Kd.R_tight rfl HO0_0.out);(case s3=>exact Kd.R_tight rfl HO0_1.out);rintro e w8 ⟨rfl,hy0,hy1,hb,hkp⟩;refine ⟨_,rfl,?_⟩;refine as5_ (Kd.R_reok rfl hy0 (fun k_ e_=>HO0_0.out.1 k_ e_)) (Kd.R_reok rfl hy1 (fun k_ e_=>HO0_1.out.1 k_ e_)) (blk_kept (z1_ BK657.out) hkp (fun hs_=>Or.elim hs_ (fun e_=>(fun e_=>(Kd.R_ne HO0_0.out BK657.out (by decide)) e_) e_) (fun e_=>(fun e_=>(Kd.R_ne HO0_1.out BK657.out (by decide)) e_) e_))) (Kept.then_ (S:=(fun k_=>P0_0_ k_∨P0_1_ k_)) (z40_ HK.out GW657.out) hkp (fun k_ hs_=>Or.elim hs_ (fun e_=>(fun e_=>(HO0_0.out.1 k_ e_.symm)) e_) (fun e_=>(fun e_=>(HO0_1.out.1 k_ e_.symm)) e_))) (hb) ?_;clear HO0_0 HO0_1 BK657 HK HB;intro HO0_0 HO0_1 BK657 HK HB;(try clear hb);(try clear hkp);(try clear hy0);(try clear hy1)))
 go_ret
 exact ⟨z8_,z0_ HO0_0.out,z0_ HO0_1.out,z5_ HB.out GE657.out,z40_ HK.out GW657.out⟩


/-! ### laws_heldMarkS: function 99 -/
def laws_heldMarkS.l0:Nat→List (S56)→Int→Int→Option (Int)
 | 0,_,_,_=>none
 | k+1,x0,x1,x5=>if x5<(x0.length:Int) then (if 0≤x5 then (if ((rd_T56 x0 x5).f0)=x1 then (if ((rd_T56 x0 x5).f1)=(wrap64 (x1+1)) then (laws_heldMarkS.l0 k x0 (wrap64 ((wrap64 (x1+1))+1)) (wrap64 (x5+1))) else (none)) else (none)) else (none)) else (some x1)
def laws_heldMarkS.f (k:Nat) (l0:List (S56)) (a1:Int):Option (Int):=laws_heldMarkS.l0 k l0 a1 0
theorem laws_heldMarkS.mono_l:∀ k,(∀ y0 y1 y2,LeO (laws_heldMarkS.l0 k y0 y1 y2) (laws_heldMarkS.l0 (k+1) y0 y1 y2))
 | 0=>fun _ _ _ r h=>by simp [laws_heldMarkS.l0] at h
 | k+1=>by
  have ih0:=laws_heldMarkS.mono_l k
  ·intro y0 y1 y2
   unfold laws_heldMarkS.l0
   repeat' first
   | (with_reducible exact ih0 _ _ _)
   | (with_reducible exact LeO.refl _)
   | (with_reducible exact LeO.none _)
   | (with_reducible refine LeO.ite ?_ ?_)
   | (with_reducible refine LeO.bind ?_ (fun _=>?_))
   | exact ih0 _ _ _
   | exact LeO.none _
   | refine LeO.ite ?_ ?_
   | refine LeO.bind ?_ (fun _=>?_)
theorem laws_heldMarkS.mono:∀ a0 a1 k,LeO (laws_heldMarkS.f k a0 a1) (laws_heldMarkS.f (k+1) a0 a1):=by
 intro a0 a1 k
 have ih0:=laws_heldMarkS.mono_l k
 unfold laws_heldMarkS.f
 repeat' first
   | (with_reducible exact ih0 _ _ _)
   | (with_reducible exact LeO.refl _)
   | (with_reducible exact LeO.none _)
   | (with_reducible refine LeO.ite ?_ ?_)
   | (with_reducible refine LeO.bind ?_ (fun _=>?_))
   | exact ih0 _ _ _
   | exact LeO.none _
   | refine LeO.ite ?_ ?_
   | refine LeO.bind ?_ (fun _=>?_)
set_option maxHeartbeats 8000000 in
set_option maxRecDepth 100000 in
theorem laws_heldMarkS.calls (k:Nat) (A0:Option Addr) (c0:Nat) (l0:List (S56)) (a1:Int) (r:Int) (w:World) (hr0:Kd.C k56 w A0 l0.length l0) (hc0:l0.length≤c0) (h:laws_heldMarkS.f k l0 a1=some r) :
  Calls Try.prog 99 #[.slice A0 l0.length c0,.int .i64 a1] w fun e w'=>e = .returned (.int .i64 r)∧Drawn0 w w':=by
 have HR0:=Aside0.mk hr0
 have HC0:=Aside0.mk hc0
 clear hr0 hc0
 have H:(laws_heldMarkS.l0 k l0 a1 0)=some r:=h
 clear h
 have H':=Aside0.mk H
 clear H
 go_enter Try.func99,Try.ntmps99
 go_wp2
 go_loopg [1,5] k (fun kq v1 v5 w'=>∃ (x1_1:Int) (x5_1:Int),v1 = .int .i64 x1_1∧v5 = .int .i64 x5_1∧Aside0 (laws_heldMarkS.l0 kq l0 x1_1 x5_1=some r)∧Aside0 (kq≤k)∧Drawn0 w w')
 case atStart=>exact ⟨(a1),(0),(z3_),(z3_),H',⟨Nat.le_refl _⟩,z13_⟩
 case round =>
  clear H'
  try clear p2
  obtain ⟨x1_1,x5_1,rfl,rfl,HA,HK1,⟨m1,rfl⟩⟩:=hrel
  cases gk with
  | zero=>exact absurd HA.out (by simp [laws_heldMarkS.l0])
  | succ k1 =>
   have H:=HA.out
   clear HA
   simp only [laws_heldMarkS.l0] at H
   by_cases c3:x5_1<(l0.length:Int)
   ·rw [if_pos c3] at H
    have c3b0:decide (x5_1<(l0.length:Int))=true:=decide_eq_true c3
    clear c3
    by_cases c4:0≤x5_1
    ·rw [if_pos c4] at H
     have c4b0:decide (0≤x5_1)=true:=decide_eq_true c4
     clear c4
     by_cases c5:((rd_T56 l0 x5_1).f0)=x1_1
     ·rw [if_pos c5] at H
      have c5b0:(((rd_T56 l0 x5_1).f0) == x1_1)=true:=beq_iff_eq.mpr c5
      have c5b1:(((rd_T56 l0 x5_1).f0) != x1_1)=false:=bne_eq_false_iff_eq.mpr c5
      clear c5
      by_cases c6:((rd_T56 l0 x5_1).f1)=(wrap64 (x1_1+1))
      ·rw [if_pos c6] at H
       have c6b0:(((rd_T56 l0 x5_1).f1) == (wrap64 (x1_1+1)))=true:=beq_iff_eq.mpr c6
       have c6b1:(((rd_T56 l0 x5_1).f1) != (wrap64 (x1_1+1)))=false:=bne_eq_false_iff_eq.mpr c6
       clear c6
       have H':=Aside0.mk H
       clear H
       have p361:0≤(x5_1:Int):=of_decide_eq_true (z2_)
       have q361:x5_1<(l0.length:Int):=of_decide_eq_true (z2_)
       obtain ⟨ad361,e361,hx361_0,hx361_1⟩:=at_T56 HR0.out x5_1 p361 q361
       cases e361
       replace p361:=eq_true p361
       replace q361:=eq_true q361
       have p362:0≤(x5_1:Int):=of_decide_eq_true (z2_)
       have q362:x5_1<(l0.length:Int):=of_decide_eq_true (z2_)
       obtain ⟨ad362,e362,hx362_0,hx362_1⟩:=at_T56 HR0.out x5_1 p362 q362
       obtain rfl:ad361=ad362:=(by injection e362)
       replace p362:=eq_true p362
       replace q362:=eq_true q362
       go_wp2
       go_roundg k1
       case measure=>have:=HK1.out;omega
       case rel=>exact ⟨(wrap64 ((wrap64 (x1_1+1))+1)),(wrap64 (x5_1+1)),(z3_),(z3_),H',⟨by have:=HK1.out;omega⟩,z13_⟩
      ·rw [if_neg c6] at H
       exact absurd H (by simp)
     ·rw [if_neg c5] at H
      exact absurd H (by simp)
    ·rw [if_neg c4] at H
     exact absurd H (by simp)
   ·rw [if_neg c3] at H
    have c3b0:decide (x5_1<(l0.length:Int))=false:=decide_eq_false c3
    clear c3
    obtain rfl:=Option.some.inj H
    go_wp2
    go_ret
    exact ⟨z3_,z13_⟩


/-! ### laws_heldSibS: function 100 -/
def laws_heldSibS.l0:Nat→List (S91)→Int→Int→Option (Int)
 | 0,_,_,_=>none
 | k+1,x0,x1,x5=>if x5<(x0.length:Int) then (if 0≤x5 then (if ((rd_T91 x0 x5).f0.f0)=x1 then (if ((rd_T91 x0 x5).f0.f1)=(wrap64 (x1+1)) then (if (((rd_T91 x0 x5).f1) != ((Int.tmod (wrap64 ((wrap64 (x1+1))+1)) 3) == 0))=true then (none) else ((laws_markText.f k (wrap64 ((wrap64 ((wrap64 (x1+1))+1))+1))).bind fun t367=>(if ((rd_T91 x0 x5).f2).toList=t367.toList then (laws_heldSibS.l0 k x0 (wrap64 ((wrap64 ((wrap64 ((wrap64 (x1+1))+1))+1))+1)) (wrap64 (x5+1))) else (none)))) else (none)) else (none)) else (none)) else (some x1)
def laws_heldSibS.f (k:Nat) (l0:List (S91)) (a1:Int):Option (Int):=laws_heldSibS.l0 k l0 a1 0
theorem laws_heldSibS.mono_l:∀ k,(∀ y0 y1 y2,LeO (laws_heldSibS.l0 k y0 y1 y2) (laws_heldSibS.l0 (k+1) y0 y1 y2))
 | 0=>fun _ _ _ r h=>by simp [laws_heldSibS.l0] at h
 | k+1=>by
  have ih0:=laws_heldSibS.mono_l k
  ·intro y0 y1 y2
   unfold laws_heldSibS.l0
   repeat' first
   | (with_reducible exact ih0 _ _ _)
   | (with_reducible exact laws_markText.mono _ _)
   | (with_reducible exact LeO.refl _)
   | (with_reducible exact LeO.none _)
   | (with_reducible refine LeO.ite ?_ ?_)
   | (with_reducible refine LeO.bind ?_ (fun _=>?_))
   | exact ih0 _ _ _
   | exact laws_markText.mono _ _
   | exact LeO.none _
   | refine LeO.ite ?_ ?_
   | refine LeO.bind ?_ (fun _=>?_)
theorem laws_heldSibS.mono:∀ a0 a1 k,LeO (laws_heldSibS.f k a0 a1) (laws_heldSibS.f (k+1) a0 a1):=by
 intro a0 a1 k
 have ih0:=laws_heldSibS.mono_l k
 unfold laws_heldSibS.f
 repeat' first
   | (with_reducible exact ih0 _ _ _)
   | (with_reducible exact laws_markText.mono _ _)
   | (with_reducible exact LeO.refl _)
   | (with_reducible exact LeO.none _)
   | (with_reducible refine LeO.ite ?_ ?_)
   | (with_reducible refine LeO.bind ?_ (fun _=>?_))
   | exact ih0 _ _ _
   | exact laws_markText.mono _ _
   | exact LeO.none _
   | refine LeO.ite ?_ ?_
   | refine LeO.bind ?_ (fun _=>?_)
def laws_heldSibS.T13:Bool × List (List Nat × List Nat):=(true,[([],[]),([],[]),([0,1],[0,1]),([2],[2]),([3],[3]),([],[]),([5],[5]),([4,6],[4,6])])
def laws_heldSibS.B13:List Nat:=[0,0,3,7,15,0,32,127]
theorem laws_heldSibS.tab13:rtab .any (opsOf Try.f100 13)=laws_heldSibS.T13:=by kernel_rfl
theorem laws_heldSibS.bits13:waitsOk laws_heldSibS.T13.2 laws_heldSibS.B13=true:=by kernel_rfl
set_option maxHeartbeats 8000000 in
set_option maxRecDepth 100000 in
theorem laws_heldSibS.calls (k:Nat) (A0:Option Addr) (c0:Nat) (l0:List (S91)) (a1:Int) (r:Int) (w:World) (hr0:Kd.C k91 w A0 l0.length l0) (hc0:l0.length≤c0) (h:laws_heldSibS.f k l0 a1=some r) :
  Calls Try.prog 100 #[.slice A0 l0.length c0,.int .i64 a1] w fun e w'=>e = .returned (.int .i64 r)∧Below w.heap.size w w':=by
 have HR0:=Aside0.mk hr0
 have HC0:=Aside0.mk hc0
 clear hr0 hc0
 have HB:=Aside0.mk (Below.refl w.heap.size w)
 have H:(laws_heldSibS.l0 k l0 a1 0)=some r:=h
 clear h
 have H':=Aside0.mk H
 clear H
 go_enter Try.func100,Try.ntmps100
 go_wp2
 go_loopg [1,5] k (fun kq v1 v5 w'=>∃ (x1_1:Int) (x5_1:Int),v1 = .int .i64 x1_1∧v5 = .int .i64 x5_1∧Aside0 (laws_heldSibS.l0 kq l0 x1_1 x5_1=some r)∧Aside0 (kq≤k)∧Aside0 (Below w.heap.size w w'))
 case atStart=>exact ⟨(a1),(0),(z3_),(z3_),H',⟨Nat.le_refl _⟩,⟨z4_ HB.out⟩⟩
 case round =>
  clear H'
  try clear c1
  try clear p2
  obtain ⟨x1_1,x5_1,rfl,rfl,HA,HK1,HB⟩:=hrel
  cases gk with
  | zero=>exact absurd HA.out (by simp [laws_heldSibS.l0])
  | succ k1 =>
   have H:=HA.out
   clear HA
   simp only [laws_heldSibS.l0] at H
   by_cases c3:x5_1<(l0.length:Int)
   ·rw [if_pos c3] at H
    have c3b0:decide (x5_1<(l0.length:Int))=true:=decide_eq_true c3
    clear c3
    by_cases c4:0≤x5_1
    ·rw [if_pos c4] at H
     have c4b0:decide (0≤x5_1)=true:=decide_eq_true c4
     clear c4
     by_cases c5:((rd_T91 l0 x5_1).f0.f0)=x1_1
     ·rw [if_pos c5] at H
      have c5b0:(((rd_T91 l0 x5_1).f0.f0) == x1_1)=true:=beq_iff_eq.mpr c5
      have c5b1:(((rd_T91 l0 x5_1).f0.f0) != x1_1)=false:=bne_eq_false_iff_eq.mpr c5
      clear c5
      by_cases c6:((rd_T91 l0 x5_1).f0.f1)=(wrap64 (x1_1+1))
      ·rw [if_pos c6] at H
       have c6b0:(((rd_T91 l0 x5_1).f0.f1) == (wrap64 (x1_1+1)))=true:=beq_iff_eq.mpr c6
       have c6b1:(((rd_T91 l0 x5_1).f0.f1) != (wrap64 (x1_1+1)))=false:=bne_eq_false_iff_eq.mpr c6
       clear c6
       by_cases c7:(((rd_T91 l0 x5_1).f1) != ((Int.tmod (wrap64 ((wrap64 (x1_1+1))+1)) 3) == 0))=true
       ·rw [if_pos c7] at H
        exact absurd H (by simp)
       ·rw [if_neg c7] at H
        have c7b0:(((rd_T91 l0 x5_1).f1) != ((Int.tmod (wrap64 ((wrap64 (x1_1+1))+1)) 3) == 0))=false:=by simpa using c7
        (try (have c7b1:decide (((rd_T91 l0 x5_1).f1)=((Int.tmod (wrap64 ((wrap64 (x1_1+1))+1)) 3) == 0))=true:=by simpa using c7))
        (try (have c7b2:(((rd_T91 l0 x5_1).f1) == ((Int.tmod (wrap64 ((wrap64 (x1_1+1))+1)) 3) == 0))=true:=by simpa using c7))
        clear c7
        replace H:=Option.bind_eq_some_iff.mp H
        obtain ⟨t367,A80,H⟩:=H
        replace H:(if ((rd_T91 l0 x5_1).f2).toList=t367.toList then (laws_heldSibS.l0 k1 l0 (wrap64 ((wrap64 ((wrap64 ((wrap64 (x1_1+1))+1))+1))+1)) (wrap64 (x5_1+1))) else (none))=some r:=H
        have A8:=Aside0.mk A80
        clear A80
        by_cases c9:((rd_T91 l0 x5_1).f2).toList=t367.toList
        ·rw [if_pos c9] at H
         have c9b0:(((rd_T91 l0 x5_1).f2).toList == t367.toList)=true:=beq_iff_eq.mpr c9
         have c9b1:(((rd_T91 l0 x5_1).f2).toList != t367.toList)=false:=bne_eq_false_iff_eq.mpr c9
         clear c9
         have H':=Aside0.mk H
         clear H
         have p363:0≤(x5_1:Int):=of_decide_eq_true (z2_)
         have q363:x5_1<(l0.length:Int):=of_decide_eq_true (z2_)
         obtain ⟨ad363,e363,hx363_0,hx363_1,hx363_2,hx363_3⟩:=at_T91 HR0.out x5_1 p363 q363
         cases e363
         replace hx363_0:=(HB.out.cell (World.block_lt_of_cell? w _ hx363_0)).trans hx363_0
         replace hx363_1:=(HB.out.cell (World.block_lt_of_cell? w _ hx363_1)).trans hx363_1
         replace hx363_2:=(HB.out.cell (World.block_lt_of_cell? w _ hx363_2)).trans hx363_2
         replace hx363_3:=(HB.out.cell (World.block_lt_of_cell? w _ hx363_3)).trans hx363_3
         replace p363:=eq_true p363
         replace q363:=eq_true q363
         have p364:0≤(x5_1:Int):=of_decide_eq_true (z2_)
         have q364:x5_1<(l0.length:Int):=of_decide_eq_true (z2_)
         obtain ⟨ad364,e364,hx364_0,hx364_1,hx364_2,hx364_3⟩:=at_T91 HR0.out x5_1 p364 q364
         obtain rfl:ad363=ad364:=(by injection e364)
         replace hx364_0:=(HB.out.cell (World.block_lt_of_cell? w _ hx364_0)).trans hx364_0
         replace hx364_1:=(HB.out.cell (World.block_lt_of_cell? w _ hx364_1)).trans hx364_1
         replace hx364_2:=(HB.out.cell (World.block_lt_of_cell? w _ hx364_2)).trans hx364_2
         replace hx364_3:=(HB.out.cell (World.block_lt_of_cell? w _ hx364_3)).trans hx364_3
         replace p364:=eq_true p364
         replace q364:=eq_true q364
         have p365:0≤(x5_1:Int):=of_decide_eq_true (z2_)
         have q365:x5_1<(l0.length:Int):=of_decide_eq_true (z2_)
         obtain ⟨ad365,e365,hx365_0,hx365_1,hx365_2,hx365_3⟩:=at_T91 HR0.out x5_1 p365 q365
         obtain rfl:ad363=ad365:=(by injection e365)
         replace hx365_0:=(HB.out.cell (World.block_lt_of_cell? w _ hx365_0)).trans hx365_0
         replace hx365_1:=(HB.out.cell (World.block_lt_of_cell? w _ hx365_1)).trans hx365_1
         replace hx365_2:=(HB.out.cell (World.block_lt_of_cell? w _ hx365_2)).trans hx365_2
         replace hx365_3:=(HB.out.cell (World.block_lt_of_cell? w _ hx365_3)).trans hx365_3
         replace p365:=eq_true p365
         replace q365:=eq_true q365
         try go_wp2
         have n0_:=Aside0.mk (below_drew1 HB.out)
         clear HB
         have HB:=n0_
         clear n0_
         have p366:0≤(x5_1:Int):=of_decide_eq_true (z2_)
         have q366:x5_1<(l0.length:Int):=of_decide_eq_true (z2_)
         obtain ⟨ad366,e366,hx366_0,hx366_1,hx366_2,hx366_3⟩:=at_T91 HR0.out x5_1 p366 q366
         have hw366_3:=hx366_3
         have hw366_2:=hx366_2
         have hw366_1:=hx366_1
         have hw366_0:=hx366_0
         obtain rfl:ad363=ad366:=(by injection e366)
         replace hx366_0:=(HB.out.cell (World.block_lt_of_cell? w _ hx366_0)).trans hx366_0
         replace hx366_1:=(HB.out.cell (World.block_lt_of_cell? w _ hx366_1)).trans hx366_1
         replace hx366_2:=(HB.out.cell (World.block_lt_of_cell? w _ hx366_2)).trans hx366_2
         replace hx366_3:=(HB.out.cell (World.block_lt_of_cell? w _ hx366_3)).trans hx366_3
         replace p366:=eq_true p366
         replace q366:=eq_true q366
         refine start_ (n:=8) (S:=fun w'=>w'.cell? (ad363.add ((x5_1).toNat*4))=some (.int .i64 ((rd_T91 l0 x5_1).f0.f0))∧w'.cell? ⟨(ad363.add ((x5_1).toNat*4)).block,(ad363.add ((x5_1).toNat*4)).off+1,none⟩=some (.int .i64 ((rd_T91 l0 x5_1).f0.f1))∧w'.cell? ⟨(ad363.add ((x5_1).toNat*4)).block,(ad363.add ((x5_1).toNat*4)).off+2,none⟩=some (.bool ((rd_T91 l0 x5_1).f1))∧w'.cell? ⟨(ad363.add ((x5_1).toNat*4)).block,(ad363.add ((x5_1).toNat*4)).off+3,none⟩=some (.string ((rd_T91 l0 x5_1).f2))) (ds:=[]) #[O,O,O,O,O,O,O,O] (by kernel_rfl) rfl rfl ⟨((HB.out.cell (World.block_lt_of_cell? w _ hw366_0)).trans hw366_0),((HB.out.cell (World.block_lt_of_cell? w _ hw366_1)).trans hw366_1),((HB.out.cell (World.block_lt_of_cell? w _ hw366_2)).trans hw366_2),((HB.out.cell (World.block_lt_of_cell? w _ hw366_3)).trans hw366_3)⟩ (fun hHeld=>?_);refine with_tabW laws_heldSibS.tab13 laws_heldSibS.bits13 (fun HT_ HW_=>?_)
         generalize wr.drew=w10 at HB hx366_0 hx366_1 hx366_2 hx366_3 hHeld ⊢
         refine pu_ 0 43 #[I,O,O,O,O,O,O,O] HT_.out ?_
         refine pu_ 1 44 #[I,I,O,O,O,O,O,O] HT_.out ?_
         refine pu_ 2 45 #[I,I,I,O,O,O,O,O] HT_.out ?_
         refine pu_ 3 46 #[I,I,I,I,O,O,O,O] HT_.out ?_
         refine pu_ 5 48 #[I,I,I,I,O,I,O,O] HT_.out ?_
         refine tk4_ 4 47 #[I,I,I,I,I,I,O,O] HT_.out HW_.out hHeld ?_
         refine o1_ 6 49 #[I,I,I,I,I,I,I,O] HT_.out (fun K hK=>?_)
         refine gs_ Try.func92 #[.int .i64 (wrap64 ((wrap64 ((wrap64 (x1_1+1))+1))+1))] ?_
         with_reducible refine (laws_markText.calls k1 (wrap64 ((wrap64 ((wrap64 (x1_1+1))+1))+1)) t367 _ A8.out).mono ?_
         rintro e w11 ⟨rfl,hb⟩
         refine ⟨_,rfl,?_⟩
         have n0_:=Aside0.mk (below_step (z4_ HB.out) hb)
         clear HB
         have HB:=n0_
         clear n0_
         (try clear hb)
         refine hK.out _ _ ⟨((HB.out.cell (World.block_lt_of_cell? w _ hw366_0)).trans hw366_0),((HB.out.cell (World.block_lt_of_cell? w _ hw366_1)).trans hw366_1),((HB.out.cell (World.block_lt_of_cell? w _ hw366_2)).trans hw366_2),((HB.out.cell (World.block_lt_of_cell? w _ hw366_3)).trans hw366_3)⟩ (fun hHeld=>?_)
         clear hK K
         refine nm_ 49 ?_
         refine pu_ 7 50 #[I,I,I,I,I,I,I,I] HT_.out ?_
         refine done_ (done_of HT_.out (by kernel_rfl)) ?_
         try go_wp2
         go_roundg k1
         case measure=>have:=HK1.out;omega
         case rel=>exact ⟨(wrap64 ((wrap64 ((wrap64 ((wrap64 (x1_1+1))+1))+1))+1)),(wrap64 (x5_1+1)),(z3_),(z3_),H',⟨by have:=HK1.out;omega⟩,⟨z4_ HB.out⟩⟩
        ·rw [if_neg c9] at H
         exact absurd H (by simp)
      ·rw [if_neg c6] at H
       exact absurd H (by simp)
     ·rw [if_neg c5] at H
      exact absurd H (by simp)
    ·rw [if_neg c4] at H
     exact absurd H (by simp)
   ·rw [if_neg c3] at H
    have c3b0:decide (x5_1<(l0.length:Int))=false:=decide_eq_false c3
    clear c3
    obtain rfl:=Option.some.inj H
    go_wp2
    go_ret
    exact ⟨z8_,z4_ HB.out⟩


/-! ### laws_heldSet: function 67 -/
def laws_heldSet.f (k:Nat) (l0_0:List (S56)) (l0_1:List (S91)) (a1:Int):Option (Int):=(laws_heldMarkS.f k l0_0 a1).bind fun t369=>(if t369<0 then (none) else ((laws_heldSibS.f k l0_1 t369).bind fun t370=>(if t370<0 then (none) else (some t370))))
theorem laws_heldSet.mono:∀ a0 a1 a2 k,LeO (laws_heldSet.f k a0 a1 a2) (laws_heldSet.f (k+1) a0 a1 a2):=by
 intro a0 a1 a2 k
 unfold laws_heldSet.f
 repeat' first
   | (with_reducible exact laws_heldMarkS.mono _ _ _)
   | (with_reducible exact laws_heldSibS.mono _ _ _)
   | (with_reducible exact LeO.refl _)
   | (with_reducible exact LeO.none _)
   | (with_reducible refine LeO.ite ?_ ?_)
   | (with_reducible refine LeO.bind ?_ (fun _=>?_))
   | exact laws_heldMarkS.mono _ _ _
   | exact laws_heldSibS.mono _ _ _
   | exact LeO.none _
   | refine LeO.ite ?_ ?_
   | refine LeO.bind ?_ (fun _=>?_)
set_option maxHeartbeats 8000000 in
set_option maxRecDepth 100000 in
theorem laws_heldSet.calls (k:Nat) (A0_0:Option Addr) (c0_0:Nat) (l0_0:List (S56)) (A0_1:Option Addr) (c0_1:Nat) (l0_1:List (S91)) (a1:Int) (r:Int) (w:World) (hr0_0:Kd.C k56 w A0_0 l0_0.length l0_0) (hc0_0:l0_0.length≤c0_0) (hr0_1:Kd.C k91 w A0_1 l0_1.length l0_1) (hc0_1:l0_1.length≤c0_1) (h:laws_heldSet.f k l0_0 l0_1 a1=some r) :
  Calls Try.prog 67 #[.agg #[.slice A0_0 l0_0.length c0_0,.slice A0_1 l0_1.length c0_1],.int .i64 a1] w fun e w'=>e = .returned (.int .i64 r)∧Below w.heap.size w w':=by
 have hu40:=Try.underlying40
 have HR0_0:=Aside0.mk hr0_0
 have HC0_0:=Aside0.mk hc0_0
 clear hr0_0 hc0_0
 have HR0_1:=Aside0.mk hr0_1
 have HC0_1:=Aside0.mk hc0_1
 clear hr0_1 hc0_1
 have HB:=Aside0.mk (Below.refl w.heap.size w)
 have H:((laws_heldMarkS.f k l0_0 a1).bind fun t369=>(if t369<0 then (none) else ((laws_heldSibS.f k l0_1 t369).bind fun t370=>(if t370<0 then (none) else (some t370)))))=some r:=h
 clear h
 replace H:=Option.bind_eq_some_iff.mp H
 obtain ⟨t369,A30,H⟩:=H
 replace H:(if t369<0 then (none) else ((laws_heldSibS.f k l0_1 t369).bind fun t370=>(if t370<0 then (none) else (some t370))))=some r:=H
 have A3:=Aside0.mk A30
 clear A30
 by_cases c4:t369<0
 ·rw [if_pos c4] at H
  exact absurd H (by simp)
 ·rw [if_neg c4] at H
  have c4b0:decide (t369<0)=false:=decide_eq_false c4
  clear c4
  replace H:=Option.bind_eq_some_iff.mp H
  obtain ⟨t370,A50,H⟩:=H
  replace H:(if t370<0 then (none) else (some t370))=some r:=H
  have A5:=Aside0.mk A50
  clear A50
  by_cases c6:t370<0
  ·rw [if_pos c6] at H
   exact absurd H (by simp)
  ·rw [if_neg c6] at H
   have c6b0:decide (t370<0)=false:=decide_eq_false c6
   clear c6
   obtain rfl:=Option.some.inj H
   go_enter Try.func67,Try.ntmps67
   go_wp2_with (first | ((with_reducible refine gd_ 2 ?_);refine be_ 2 #[.slice A0_0 l0_0.length c0_0,.slice A0_1 l0_1.length c0_1] 40 ?_;intro gb368 hg w7 hbox hb;refine as4_ (below_step (z4_ HB.out) hb) (hbox) ((z7_ HB.out:w.heap.size≤gb368)) ((z7_ HB.out:w.heap.size≤gb368)) ?_;clear HB;intro HB BK368 GW368 GE368;clear hb hbox hg;have ⟨hcz8_0,hcz8_1,hfz8_0,hfz8_1⟩:=cz2_ BK368.out) | ((with_reducible refine gc_ 99 ?_);refine gl_ (some 8) Try.func99 #[.slice A0_0 l0_0.length c0_0,.int .i64 a1] ?_;(with_reducible refine (laws_heldMarkS.calls k _ _ l0_0 a1 t369 _ ?s1 ?s2 A3.out).mono ?_);(case s1=>repeat (first | exact (Kd.C_below HR0_0.out HB.out) | (with_reducible refine Kd.C_alloc ?_ _) | (with_reducible refine Kd.C_drewN ?_ _) | (with_reducible refine Kd.C_drew ?_)));(case s2=>exact HC0_0.out);rintro e w' ⟨rfl,⟨nd,rfl⟩⟩;refine ⟨_,rfl,?_⟩) | ((with_reducible refine gc_ 100 ?_);refine gl_ (some 14) Try.func100 #[.slice A0_1 l0_1.length c0_1,.int .i64 t369] ?_;(with_reducible refine (laws_heldSibS.calls k _ _ l0_1 t369 t370 _ ?s1 ?s2 A5.out).mono ?_);(case s1=>repeat (first | exact (Kd.C_below HR0_1.out (z5_ HB.out GE368.out)) | (with_reducible refine Kd.C_alloc ?_ _) | (with_reducible refine Kd.C_drewN ?_ _) | (with_reducible refine Kd.C_drew ?_)));(case s2=>exact HC0_1.out);rintro e w9 ⟨rfl,hb⟩;refine ⟨_,rfl,?_⟩;refine as2_ (blkB_ BK368.out hb) (below_step (z5_ HB.out GE368.out) hb) ?_;clear BK368 HB;intro BK368 HB;(try clear hb)))
   go_ret
   exact ⟨z8_,z5_ HB.out GE368.out⟩


/-! ### laws_heldSetOut: function 28 -/
def laws_heldSetOut.f (k:Nat) (l0_0:List (S56)) (l0_1:List (S91)) (a0_2:Int) (a0_3:Int) (a0_4:Int) (a1:Int):Option (Int):=(laws_heldSet.f k l0_0 l0_1 a1).bind fun t662=>(if t662<0 then (none) else (some t662))
theorem laws_heldSetOut.mono:∀ a0 a1 a2 a3 a4 a5 k,LeO (laws_heldSetOut.f k a0 a1 a2 a3 a4 a5) (laws_heldSetOut.f (k+1) a0 a1 a2 a3 a4 a5):=by
 intro a0 a1 a2 a3 a4 a5 k
 unfold laws_heldSetOut.f
 repeat' first
   | (with_reducible exact laws_heldSet.mono _ _ _ _)
   | (with_reducible exact LeO.refl _)
   | (with_reducible exact LeO.none _)
   | (with_reducible refine LeO.ite ?_ ?_)
   | (with_reducible refine LeO.bind ?_ (fun _=>?_))
   | exact laws_heldSet.mono _ _ _ _
   | exact LeO.none _
   | refine LeO.ite ?_ ?_
   | refine LeO.bind ?_ (fun _=>?_)
set_option maxHeartbeats 8000000 in
set_option maxRecDepth 100000 in
theorem laws_heldSetOut.calls (k:Nat) (A0_0:Option Addr) (c0_0:Nat) (l0_0:List (S56)) (A0_1:Option Addr) (c0_1:Nat) (l0_1:List (S91)) (a0_2:Int) (a0_3:Int) (a0_4:Int) (a1:Int) (r:Int) (w:World) (hr0_0:Kd.C k56 w A0_0 l0_0.length l0_0) (hc0_0:l0_0.length≤c0_0) (hr0_1:Kd.C k91 w A0_1 l0_1.length l0_1) (hc0_1:l0_1.length≤c0_1) (h:laws_heldSetOut.f k l0_0 l0_1 a0_2 a0_3 a0_4 a1=some r) :
  Calls Try.prog 28 #[.agg #[.slice A0_0 l0_0.length c0_0,.slice A0_1 l0_1.length c0_1,.int .i64 a0_2,.int .i64 a0_3,.int .i64 a0_4],.int .i64 a1] w fun e w'=>e = .returned (.int .i64 r)∧Below w.heap.size w w':=by
 have hu58:=Try.underlying58
 have hu40:=Try.underlying40
 have HR0_0:=Aside0.mk hr0_0
 have HC0_0:=Aside0.mk hc0_0
 clear hr0_0 hc0_0
 have HR0_1:=Aside0.mk hr0_1
 have HC0_1:=Aside0.mk hc0_1
 clear hr0_1 hc0_1
 have HB:=Aside0.mk (Below.refl w.heap.size w)
 have H:((laws_heldSet.f k l0_0 l0_1 a1).bind fun t662=>(if t662<0 then (none) else (some t662)))=some r:=h
 clear h
 replace H:=Option.bind_eq_some_iff.mp H
 obtain ⟨t662,A30,H⟩:=H
 replace H:(if t662<0 then (none) else (some t662))=some r:=H
 have A3:=Aside0.mk A30
 clear A30
 by_cases c4:t662<0
 ·rw [if_pos c4] at H
  exact absurd H (by simp)
 ·rw [if_neg c4] at H
  have c4b0:decide (t662<0)=false:=decide_eq_false c4
  clear c4
  obtain rfl:=Option.some.inj H
  go_enter Try.func28,Try.ntmps28
  go_wp2_with (first | ((with_reducible refine gd_ 2 ?_);refine be_ 2 #[.slice A0_0 l0_0.length c0_0,.slice A0_1 l0_1.length c0_1,.int .i64 a0_2,.int .i64 a0_3,.int .i64 a0_4] 58 ?_;intro gb661 hg w5 hbox hb;refine as4_ (below_step (z4_ HB.out) hb) (hbox) ((z7_ HB.out:w.heap.size≤gb661)) ((z7_ HB.out:w.heap.size≤gb661)) ?_;clear HB;intro HB BK661 GW661 GE661;clear hb hbox hg;have ⟨hcz6_0,hcz6_1,hcz6_2,hcz6_3,hcz6_4,hfz6_0,hfz6_1,hfz6_2,hfz6_3,hfz6_4⟩:=cz5_ BK661.out) | ((with_reducible refine gc_ 67 ?_);refine gl_ (some 8) Try.func67 #[.agg #[.slice A0_0 l0_0.length c0_0,.slice A0_1 l0_1.length c0_1],.int .i64 a1] ?_;(with_reducible refine (laws_heldSet.calls k _ _ l0_0 _ _ l0_1 a1 t662 _ ?s1 ?s2 ?s3 ?s4 A3.out).mono ?_);(case s1=>repeat (first | exact (Kd.C_below HR0_0.out HB.out) | (with_reducible refine Kd.C_alloc ?_ _) | (with_reducible refine Kd.C_drewN ?_ _) | (with_reducible refine Kd.C_drew ?_)));(case s2=>exact HC0_0.out);(case s3=>repeat (first | exact (Kd.C_below HR0_1.out HB.out) | (with_reducible refine Kd.C_alloc ?_ _) | (with_reducible refine Kd.C_drewN ?_ _) | (with_reducible refine Kd.C_drew ?_)));(case s4=>exact HC0_1.out);rintro e w7 ⟨rfl,hb⟩;refine ⟨_,rfl,?_⟩;refine as2_ (blkB_ BK661.out hb) (below_step (z5_ HB.out GE661.out) hb) ?_;clear BK661 HB;intro BK661 HB;(try clear hb)))
  go_ret
  exact ⟨z8_,z5_ HB.out GE661.out⟩

end Go.Proofs.Ytphbgcfpcadabaa.P
