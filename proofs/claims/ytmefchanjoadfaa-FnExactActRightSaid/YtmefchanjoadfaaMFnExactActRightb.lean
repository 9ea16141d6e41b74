/- For every act the program's ActRight and the reference's return the same answer. No condition. (Part 2 of 2: written by programs of this workplace and by hand, merged.) -/
import Derived.Test.YtmefchanjoadfaaMFnExactActRighta
import Derived.Test.YtmefchanjoadfaaRows
import Derived.WalkKit
import Derived.ProofKit
import Derived.OpenShut
import Derived.ShutString
import Derived.ChangeOld
import Derived.Below
import Derived.SizedLaws
set_option linter.unusedVariables false
set_option linter.unusedSimpArgs false
set_option maxHeartbeats 8000000
set_option maxRecDepth 100000

namespace Go.Proofs.Ytmefchanjoadfaa.P
open Go.RowKit Go.Proofs.YtmefchanjoadfaaW.PrintWords Go.Proofs.YtmefchanjoadfaaW.PrintLast Go.Proofs.YtmefchanjoadfaaW.PrintMore
attribute [local go_sem] max2_int min2_int max_two min_two max_three min_three max_four min_four   -- for this text's walks alone
set_option linter.unusedVariables false
set_option linter.unusedSimpArgs false

/-! ### Y15: function 119 -/
mutual
def Y15.l0:Nat→ByteArray→Int→Int→Int→Option (Int × Int × Int)
 | 0,_,_,_,_=>none
 | k+1,x0,x1,x5,x6=>if x6<10 then (if x1≥(wrap64 ((x0.size:Int)-x6)) then (some (0,0,4)) else (if 0≤(wrap64 (x1+x6)) then (if (wrap64 (x1+x6))<(x0.size:Int) then (if x6=9 then (Y15.j1 k x0 x1 x5 x6 (IntKind.u64.wrap (bt x0 (wrap64 (x1+x6)))) (decide ((IntKind.u64.wrap (bt x0 (wrap64 (x1+x6))))>1))) else (Y15.j1 k x0 x1 x5 x6 (IntKind.u64.wrap (bt x0 (wrap64 (x1+x6)))) false)) else (none)) else (none))) else (some (0,0,3))
def Y15.j1:Nat→ByteArray→Int→Int→Int→Int→Bool→Option (Int × Int × Int)
 | 0,_,_,_,_,_,_=>none
 | k+1,x0,x1,x5,x6,x7,x38=>if x38=true then (some (0,0,3)) else (if 0≤(IntKind.u64.wrap (wrap64 (7*x6))) then (if x7<128 then (if x7=0 then (Y15.j2 k x1 (IntKind.u64.wrap (x5+(shl .u64 (Int.tmod x7 128) (IntKind.u64.wrap (wrap64 (7*x6)))))) x6 (decide (x6>0))) else (Y15.j2 k x1 (IntKind.u64.wrap (x5+(shl .u64 (Int.tmod x7 128) (IntKind.u64.wrap (wrap64 (7*x6)))))) x6 false)) else (Y15.l0 k x0 x1 (IntKind.u64.wrap (x5+(shl .u64 (Int.tmod x7 128) (IntKind.u64.wrap (wrap64 (7*x6)))))) (wrap64 (x6+1)))) else (none))
def Y15.j2:Nat→Int→Int→Int→Bool→Option (Int × Int × Int)
 | 0,_,_,_,_=>none
 | k+1,x1,x5,x6,x55=>if x55=true then (some (0,0,3)) else (if (Int.tmod x5 2)=1 then (some (wrap64 ((wrap64 (-(wrap64 (IntKind.u64.wrap (Int.tdiv x5 2)))))-1),wrap64 ((wrap64 (x1+x6))+1),0)) else (some (wrap64 (IntKind.u64.wrap (Int.tdiv x5 2)),wrap64 ((wrap64 (x1+x6))+1),0)))
end
def Y15.f (k:Nat) (a0:ByteArray) (a1:Int):Option (Int × Int × Int):=if (a0.size:Int)>8000 then (some (0,0,2)) else (if a1<0 then (some (0,0,1)) else (Y15.l0 k a0 a1 0 0))
theorem Y15.mono_l:∀ k,(∀ y0 y1 y2 y3,LeO (Y15.l0 k y0 y1 y2 y3) (Y15.l0 (k+1) y0 y1 y2 y3))∧(∀ y0 y1 y2 y3 y4 y5,LeO (Y15.j1 k y0 y1 y2 y3 y4 y5) (Y15.j1 (k+1) y0 y1 y2 y3 y4 y5))∧(∀ y0 y1 y2 y3,LeO (Y15.j2 k y0 y1 y2 y3) (Y15.j2 (k+1) y0 y1 y2 y3))
 | 0=>by refine ⟨?_,?_,?_⟩ <;> intros <;> exact LeO.none _
 | k+1=>by
  obtain ⟨ih0,ih1,ih2⟩:=Y15.mono_l k
  refine ⟨?_,?_,?_⟩
  ·intros
   unfold Y15.l0
   exact mO
  ·intros
   unfold Y15.j1
   exact mO
  ·intros
   unfold Y15.j2
   exact mO
theorem Y15.mono:∀ a0 a1 k,LeO (Y15.f k a0 a1) (Y15.f (k+1) a0 a1):=by
 intro a0 a1 k
 obtain ⟨ih0,ih1,ih2⟩:=Y15.mono_l k
 unfold Y15.f
 exact mO

/-! ### Y16: function 116 -/
mutual
def Y16.l0:Nat→ByteArray→Int→Int→Int→Option (Int × Int × Int)
 | 0,_,_,_,_=>none
 | k+1,x0,x1,x5,x15=>if x15<10 then ((Y37.f x0).bind fun t590=>(if x1≥t590 then (Y16.j1 k x0 x1 x5 x15 x15 true) else ((Y37.f x0).bind fun t591=>(Y16.j1 k x0 x1 x5 x15 x15 (decide (x15≥(wrap64 (t591-x1)))))))) else (some (0,0,3))
def Y16.j1:Nat→ByteArray→Int→Int→Int→Int→Bool→Option (Int × Int × Int)
 | 0,_,_,_,_,_,_=>none
 | k+1,x0,x1,x5,x6,x15,x29=>if x29=true then (some (0,0,4)) else (if 0≤(wrap64 (x1+x6)) then (if (wrap64 (x1+x6))<(x0.size:Int) then (if x6=9 then (Y16.j2 k x0 x1 x5 x6 (bt x0 (wrap64 (x1+x6))) x15 (decide ((bt x0 (wrap64 (x1+x6)))>1))) else (Y16.j2 k x0 x1 x5 x6 (bt x0 (wrap64 (x1+x6))) x15 false)) else (none)) else (none))
def Y16.j2:Nat→ByteArray→Int→Int→Int→Int→Int→Bool→Option (Int × Int × Int)
 | 0,_,_,_,_,_,_,_=>none
 | k+1,x0,x1,x5,x6,x7,x15,x41=>if x41=true then (some (0,0,3)) else (if 0≤(IntKind.u64.wrap (7*(IntKind.u64.wrap (x6)))) then (if x7<128 then (if x7=0 then (if x6>0 then (some (0,0,3)) else (some (Go.bits .xor .i64 (wrap64 ((Go.bits .or .u64 x5 (shl .u64 (IntKind.u64.wrap (Go.bits .and .u8 x7 127)) (IntKind.u64.wrap (7*(IntKind.u64.wrap (x6)))))) / 2)) (wrap64 (-(wrap64 (Go.bits .and .u64 (Go.bits .or .u64 x5 (shl .u64 (IntKind.u64.wrap (Go.bits .and .u8 x7 127)) (IntKind.u64.wrap (7*(IntKind.u64.wrap (x6)))))) 1)))),wrap64 ((wrap64 (x1+x6))+1),0))) else (some (Go.bits .xor .i64 (wrap64 ((Go.bits .or .u64 x5 (shl .u64 (IntKind.u64.wrap (Go.bits .and .u8 x7 127)) (IntKind.u64.wrap (7*(IntKind.u64.wrap (x6)))))) / 2)) (wrap64 (-(wrap64 (Go.bits .and .u64 (Go.bits .or .u64 x5 (shl .u64 (IntKind.u64.wrap (Go.bits .and .u8 x7 127)) (IntKind.u64.wrap (7*(IntKind.u64.wrap (x6)))))) 1)))),wrap64 ((wrap64 (x1+x6))+1),0))) else (Y16.l0 k x0 x1 (Go.bits .or .u64 x5 (shl .u64 (IntKind.u64.wrap (Go.bits .and .u8 x7 127)) (IntKind.u64.wrap (7*(IntKind.u64.wrap (x6)))))) (wrap64 (x15+1)))) else (none))
end
def Y16.f (k:Nat) (a0:ByteArray) (a1:Int):Option (Int × Int × Int):=(Y38.f k (([a0]:List ByteArray))).bind fun t589=>(if t589=true then (some (0,0,2)) else (if a1<0 then (some (0,0,1)) else (Y16.l0 k a0 a1 0 0)))
theorem Y16.mono_l:∀ k,(∀ y0 y1 y2 y3,LeO (Y16.l0 k y0 y1 y2 y3) (Y16.l0 (k+1) y0 y1 y2 y3))∧(∀ y0 y1 y2 y3 y4 y5,LeO (Y16.j1 k y0 y1 y2 y3 y4 y5) (Y16.j1 (k+1) y0 y1 y2 y3 y4 y5))∧(∀ y0 y1 y2 y3 y4 y5 y6,LeO (Y16.j2 k y0 y1 y2 y3 y4 y5 y6) (Y16.j2 (k+1) y0 y1 y2 y3 y4 y5 y6))
 | 0=>by refine ⟨?_,?_,?_⟩ <;> intros <;> exact LeO.none _
 | k+1=>by
  obtain ⟨ih0,ih1,ih2⟩:=Y16.mono_l k
  have m0:=@Y38.mono
  refine ⟨?_,?_,?_⟩
  ·intros
   unfold Y16.l0
   exact mO
  ·intros
   unfold Y16.j1
   exact mO
  ·intros
   unfold Y16.j2
   exact mO
theorem Y16.mono:∀ a0 a1 k,LeO (Y16.f k a0 a1) (Y16.f (k+1) a0 a1):=by
 intro a0 a1 k
 have m0:=@Y38.mono
 obtain ⟨ih0,ih1,ih2⟩:=Y16.mono_l k
 unfold Y16.f
 exact mO

/-! ### Y6: function 42 -/
mutual
def Y6.l0:Nat→List (S49)→Int→Option (Bool)
 | 0,_,_=>none
 | k+1,x0,x3=>if x3<(x0.length:Int) then (Y6.j1 k x0 x3 (decide (x3≤5))) else (Y6.j1 k x0 x3 false)
def Y6.j1:Nat→List (S49)→Int→Bool→Option (Bool)
 | 0,_,_,_=>none
 | k+1,x0,x3,x11=>if x11=true then (if 0≤x3 then (if x3<(x0.length:Int) then ((Y49.f ((rd_T49 x0 x3).f0) ((rd_T49 x0 x3).f1)).bind fun t194=>(if t194=true then (if x3>0 then (if 0≤(wrap64 (x3-1)) then (if (wrap64 (x3-1))<(x0.length:Int) then (if ((rd_T49 x0 (wrap64 (x3-1))).f0)≥((rd_T49 x0 x3).f0) then (some false) else (Y6.l0 k x0 (wrap64 (x3+1)))) else (none)) else (none)) else (Y6.l0 k x0 (wrap64 (x3+1)))) else (some false))) else (none)) else (none)) else (some (decide ((x0.length:Int)≤5)))
end
def Y6.f (k:Nat) (l0:List (S49)):Option (Bool):=Y6.l0 k l0 0
theorem Y6.mono_l:∀ k,(∀ y0 y1,LeO (Y6.l0 k y0 y1) (Y6.l0 (k+1) y0 y1))∧(∀ y0 y1 y2,LeO (Y6.j1 k y0 y1 y2) (Y6.j1 (k+1) y0 y1 y2))
 | 0=>by refine ⟨?_,?_⟩ <;> intros <;> exact LeO.none _
 | k+1=>by
  obtain ⟨ih0,ih1⟩:=Y6.mono_l k
  refine ⟨?_,?_⟩
  ·intros
   unfold Y6.l0
   exact mO
  ·intros
   unfold Y6.j1
   exact mO
theorem Y6.mono:∀ a0 k,LeO (Y6.f k a0) (Y6.f (k+1) a0):=by
 intro a0 k
 obtain ⟨ih0,ih1⟩:=Y6.mono_l k
 unfold Y6.f
 exact mO
abbrev Y6.q0:Array Bool:=#[O,O,O,O,O,O,O,O,O,O,O,O,O,O,O,O,O,O,O,O,O,O,O,O]
abbrev Y6.q1:Array Bool:=#[I,O,O,O,O,O,O,O,O,O,O,O,O,O,O,O,O,O,O,O,O,O,O,O]
abbrev Y6.q7:Array Bool:=#[I,I,I,I,I,I,I,O,O,O,O,O,O,O,O,O,O,O,O,O,O,O,O,O]
abbrev Y6.q8:Array Bool:=#[I,I,I,I,I,I,I,I,O,O,O,O,O,O,O,O,O,O,O,O,O,O,O,O]
abbrev Y6.q9:Array Bool:=#[I,I,I,I,I,I,I,I,I,O,O,O,O,O,O,O,O,O,O,O,O,O,O,O]
abbrev Y6.q14:Array Bool:=#[I,I,I,I,I,I,I,I,I,I,I,I,I,I,O,O,O,O,O,O,O,O,O,O]

/-! ### Y13: function 72 -/
def Y13.l0:Nat→List (S49)→List (S49)→Int→Int→Option (Bool)
 | 0,_,_,_,_=>none
 | k+1,x0,x5,x6,x7=>if x7<x6 then (if 0≤x7 then (if x7<(x5.length:Int) then ((Y50.f ((rd_T49 x5 x7).f0) ((rd_T49 x5 x7).f1)).bind fun t264=>(if t264=true then (if x7>0 then (if 0≤(wrap64 (x7-1)) then (if (wrap64 (x7-1))<(x0.length:Int) then (if ((rd_T49 x0 (wrap64 (x7-1))).f0)≥((rd_T49 x5 x7).f0) then (some false) else (Y13.l0 k x0 x5 x6 (wrap64 (x7+1)))) else (none)) else (none)) else (Y13.l0 k x0 x5 x6 (wrap64 (x7+1)))) else (some false))) else (none)) else (none)) else (some true)
def Y13.f (k:Nat) (l0:List (S49)):Option (Bool):=Y13.l0 k l0 l0 (l0.length:Int) 0
theorem Y13.mono_l:∀ k,(∀ y0 y1 y2 y3,LeO (Y13.l0 k y0 y1 y2 y3) (Y13.l0 (k+1) y0 y1 y2 y3))
 | 0=>by intros <;> exact LeO.none _
 | k+1=>by
  have ih0:=Y13.mono_l k
  ·intros
   unfold Y13.l0
   exact mO
theorem Y13.mono:∀ a0 k,LeO (Y13.f k a0) (Y13.f (k+1) a0):=by
 intro a0 k
 have ih0:=Y13.mono_l k
 unfold Y13.f
 exact mO
abbrev Y13.q0:Array Bool:=#[O,O,O,O,O,O,O,O,O,O,O,O,O,O,O,O,O,O]
abbrev Y13.q1:Array Bool:=#[I,O,O,O,O,O,O,O,O,O,O,O,O,O,O,O,O,O]
abbrev Y13.q7:Array Bool:=#[I,I,I,I,I,I,I,O,O,O,O,O,O,O,O,O,O,O]
abbrev Y13.q8:Array Bool:=#[I,I,I,I,I,I,I,I,O,O,O,O,O,O,O,O,O,O]
abbrev Y13.q9:Array Bool:=#[I,I,I,I,I,I,I,I,I,O,O,O,O,O,O,O,O,O]
abbrev Y13.q14:Array Bool:=#[I,I,I,I,I,I,I,I,I,I,I,I,I,I,O,O,O,O]

/-! ### Y48: function 71 -/
def Y48.f (l0:List (S49)):Option (Bool):=some (decide ((l0.length:Int)>400))

/-! ### Y27: function 41 -/
def Y27.f (k:Nat) (l0:List (S49)):Option (Bool):=(Y48.f l0).bind fun t432=>(if t432=true then (some false) else ((Y13.f k l0).bind fun t433=>(some t433)))
theorem Y27.mono:∀ a0 k,LeO (Y27.f k a0) (Y27.f (k+1) a0):=by
 intro a0 k
 have m0:=@Y13.mono
 unfold Y27.f
 exact mO

/-! ### Y22: function 82 -/
def Y22.l0:Nat→List (S49)→Int→Int→Option (Int)
 | 0,_,_,_=>none
 | k+1,x0,x1,x5=>if x5<(x0.length:Int) then (if 0≤x5 then (if ((rd_T49 x0 x5).f0)=x1 then (some ((rd_T49 x0 x5).f1)) else (Y22.l0 k x0 x1 (wrap64 (x5+1)))) else (none)) else (some 0)
def Y22.f (k:Nat) (l0:List (S49)) (a1:Int):Option (Int):=Y22.l0 k l0 a1 0
theorem Y22.mono_l:∀ k,(∀ y0 y1 y2,LeO (Y22.l0 k y0 y1 y2) (Y22.l0 (k+1) y0 y1 y2))
 | 0=>by intros <;> exact LeO.none _
 | k+1=>by
  have ih0:=Y22.mono_l k
  ·intros
   unfold Y22.l0
   exact mO
theorem Y22.mono:∀ a0 a1 k,LeO (Y22.f k a0 a1) (Y22.f (k+1) a0 a1):=by
 intro a0 a1 k
 have ih0:=Y22.mono_l k
 unfold Y22.f
 exact mO

/-! ### Y18: function 84 -/
def Y18.l0:Nat→Int→List (S49)→Int→Int→Option (Int)
 | 0,_,_,_,_=>none
 | k+1,x1,x7,x8,x9=>if x9<x8 then (if 0≤x9 then (if x9<(x7.length:Int) then (if ((rd_T49 x7 x9).f0)=x1 then (some ((rd_T49 x7 x9).f1)) else (Y18.l0 k x1 x7 x8 (wrap64 (x9+1)))) else (none)) else (none)) else (some 0)
def Y18.f (k:Nat) (l0:List (S49)) (a1:Int):Option (Int):=Y18.l0 k a1 l0 (l0.length:Int) 0
theorem Y18.mono_l:∀ k,(∀ y0 y1 y2 y3,LeO (Y18.l0 k y0 y1 y2 y3) (Y18.l0 (k+1) y0 y1 y2 y3))
 | 0=>by intros <;> exact LeO.none _
 | k+1=>by
  have ih0:=Y18.mono_l k
  ·intros
   unfold Y18.l0
   exact mO
theorem Y18.mono:∀ a0 a1 k,LeO (Y18.f k a0 a1) (Y18.f (k+1) a0 a1):=by
 intro a0 a1 k
 have ih0:=Y18.mono_l k
 unfold Y18.f
 exact mO

/-! ### Y46: function 36 -/
def Y46.f (k:Nat) (l0:List (S49)) (a1:Int):Option (Int):=(Y6.f k l0).bind fun t666=>(if t666=true then ((Y22.f k l0 a1).bind fun t667=>(some t667)) else (some 0))
theorem Y46.mono:∀ a0 a1 k,LeO (Y46.f k a0 a1) (Y46.f (k+1) a0 a1):=by
 intro a0 a1 k
 have m0:=@Y6.mono
 have m1:=@Y22.mono
 unfold Y46.f
 exact mO

/-! ### Y47: function 35 -/
def Y47.f (k:Nat) (l0:List (S49)) (a1:Int):Option (Int):=(Y27.f k l0).bind fun t664=>(if t664=true then ((Y18.f k l0 a1).bind fun t665=>(some t665)) else (some 0))
theorem Y47.mono:∀ a0 a1 k,LeO (Y47.f k a0 a1) (Y47.f (k+1) a0 a1):=by
 intro a0 a1 k
 have m0:=@Y27.mono
 have m1:=@Y18.mono
 unfold Y47.f
 exact mO

/-! ### Y39: function 85 -/
def Y39.f (k:Nat) (l0:List (S49)) (a1_0:Int) (a1_1:Int):Option (Bool):=(Y18.f k l0 a1_0).bind fun t648=>(some (decide (a1_1≤t648)))
theorem Y39.mono:∀ a0 a1 a2 k,LeO (Y39.f k a0 a1 a2) (Y39.f (k+1) a0 a1 a2):=by
 intro a0 a1 a2 k
 have m0:=@Y18.mono
 unfold Y39.f
 exact mO

/-! ### Y33: function 38 -/
def Y33.f (k:Nat) (l0:List (S49)) (a1_0:Int) (a1_1:Int):Option (Bool):=(Y6.f k l0).bind fun t673=>(if t673=true then ((Y49.f a1_0 a1_1).bind fun t674=>(if t674=true then ((Y22.f k l0 a1_0).bind fun t675=>(some (decide (a1_1≤t675)))) else (some false))) else (some false))
theorem Y33.mono:∀ a0 a1 a2 k,LeO (Y33.f k a0 a1 a2) (Y33.f (k+1) a0 a1 a2):=by
 intro a0 a1 a2 k
 have m0:=@Y6.mono
 have m1:=@Y22.mono
 unfold Y33.f
 exact mO
abbrev Y33.q0:Array Bool:=#[O,O,O,O,O,O,O,O,O,O,O,O,O,O,O,O]
abbrev Y33.q1:Array Bool:=#[I,O,O,O,O,O,O,O,O,O,O,O,O,O,O,O]
abbrev Y33.q7:Array Bool:=#[I,I,I,I,I,I,I,O,O,O,O,O,O,O,O,O]
abbrev Y33.q8:Array Bool:=#[I,I,I,I,I,I,I,I,O,O,O,O,O,O,O,O]
abbrev Y33.q9:Array Bool:=#[I,I,I,I,I,I,I,I,I,I,I,O,O,O,O,O]
abbrev Y33.q14:Array Bool:=#[I,I,I,I,I,I,I,I,I,I,I,I,I,I,I,I]

/-! ### Y45: function 37 -/
def Y45.f (k:Nat) (l0:List (S49)) (a1_0:Int) (a1_1:Int):Option (Bool):=(Y27.f k l0).bind fun t669=>(if t669=true then ((Y50.f a1_0 a1_1).bind fun t670=>(if t670=true then ((Y39.f k l0 a1_0 a1_1).bind fun t671=>(some t671)) else (some false))) else (some false))
theorem Y45.mono:∀ a0 a1 a2 k,LeO (Y45.f k a0 a1 a2) (Y45.f (k+1) a0 a1 a2):=by
 intro a0 a1 a2 k
 have m0:=@Y27.mono
 have m1:=@Y39.mono
 unfold Y45.f
 exact mO

/-! ### Y55: function 102 -/
def Y55.f (a0:Int) (a1:Int):Option (Int):=if a0>a1 then (some a0) else (some a1)

/-! ### Y26: function 80 -/
def Y26.l0:Nat→List (S49)→List (S49)→List (S49)→Int→Option ((List (S49)))
 | 0,_,_,_,_=>none
 | k+1,x0,x1,x5,x6=>if x6≤5 then ((Y22.f k x0 x6).bind fun t336=>((Y22.f k x1 x6).bind fun t337=>((Y55.f t336 t337).bind fun t338=>(if t338>0 then (if x5.length<8796093022208 then (Y26.l0 k x0 x1 (x5 ++ [(⟨x6,t338⟩:S49)]) (wrap64 (x6+1))) else (none)) else (Y26.l0 k x0 x1 x5 (wrap64 (x6+1))))))) else (some x5)
def Y26.f (k:Nat) (l0:List (S49)) (l1:List (S49)):Option ((List (S49))):=Y26.l0 k l0 l1 (([]:List (S49))) 1
theorem Y26.mono_l:∀ k,(∀ y0 y1 y2 y3,LeO (Y26.l0 k y0 y1 y2 y3) (Y26.l0 (k+1) y0 y1 y2 y3))
 | 0=>by intros <;> exact LeO.none _
 | k+1=>by
  have ih0:=Y26.mono_l k
  have m0:=@Y22.mono
  ·intros
   unfold Y26.l0
   exact mO
theorem Y26.mono:∀ a0 a1 k,LeO (Y26.f k a0 a1) (Y26.f (k+1) a0 a1):=by
 intro a0 a1 k
 have m0:=@Y22.mono
 have ih0:=Y26.mono_l k
 unfold Y26.f
 exact mO

/-! ### Y21: function 70 -/
def Y21.l0:Nat→List (S49)→List (S49)→List (S49)→Int→Option ((List (S49)))
 | 0,_,_,_,_=>none
 | k+1,x0,x1,x5,x6=>if x6≤5 then ((Y18.f k x0 x6).bind fun t436=>((Y18.f k x1 x6).bind fun t437=>(if (mx t436 t437)>0 then (if x5.length<8796093022208 then (Y21.l0 k x0 x1 (x5 ++ [(⟨x6,mx t436 t437⟩:S49)]) (wrap64 (x6+1))) else (none)) else (Y21.l0 k x0 x1 x5 (wrap64 (x6+1)))))) else (some x5)
def Y21.f (k:Nat) (l0:List (S49)) (l1:List (S49)):Option ((List (S49))):=Y21.l0 k l0 l1 ([]:List (S49)) 1
theorem Y21.mono_l:∀ k,(∀ y0 y1 y2 y3,LeO (Y21.l0 k y0 y1 y2 y3) (Y21.l0 (k+1) y0 y1 y2 y3))
 | 0=>by intros <;> exact LeO.none _
 | k+1=>by
  have ih0:=Y21.mono_l k
  have m0:=@Y18.mono
  ·intros
   unfold Y21.l0
   exact mO
theorem Y21.mono:∀ a0 a1 k,LeO (Y21.f k a0 a1) (Y21.f (k+1) a0 a1):=by
 intro a0 a1 k
 have m0:=@Y18.mono
 have ih0:=Y21.mono_l k
 unfold Y21.f
 exact mO

/-! ### Y43: function 31 -/
def Y43.f (k:Nat) (l0:List (S49)) (l1:List (S49)):Option ((List (S49))):=(Y6.f k l0).bind fun t636=>(if t636=true then ((Y6.f k l1).bind fun t637=>(if t637=true then ((Y26.f k l0 l1).bind fun t638=>(some t638)) else (some (([]:List (S49)))))) else (some (([]:List (S49)))))
theorem Y43.mono:∀ a0 a1 k,LeO (Y43.f k a0 a1) (Y43.f (k+1) a0 a1):=by
 intro a0 a1 k
 have m0:=@Y6.mono
 have m1:=@Y26.mono
 unfold Y43.f
 exact mO

/-! ### Y44: function 20 -/
def Y44.f (k:Nat) (l0:List (S49)) (l1:List (S49)):Option ((List (S49))):=(Y27.f k l0).bind fun t441=>(if t441=true then ((Y27.f k l1).bind fun t442=>(if t442=true then ((Y21.f k l0 l1).bind fun t443=>(some t443)) else (some ([]:List (S49))))) else (some ([]:List (S49))))
theorem Y44.mono:∀ a0 a1 k,LeO (Y44.f k a0 a1) (Y44.f (k+1) a0 a1):=by
 intro a0 a1 k
 have m0:=@Y27.mono
 have m1:=@Y21.mono
 unfold Y44.f
 exact mO

/-! ### Y23: function 86 -/
def Y23.l0:Nat→List (S49)→ByteArray→Int→Option (ByteArray)
 | 0,_,_,_=>none
 | k+1,x0,x3,x4=>if x4<(x0.length:Int) then (if 0≤x4 then ((Y24.f k ((rd_T49 x0 x4).f0)).bind fun t537=>(if x3.size+t537.size≤9223372036854775807 then ((Y24.f k ((rd_T49 x0 x4).f1)).bind fun t539=>(if (x3.size+t537.size)+t539.size≤9223372036854775807 then (Y23.l0 k x0 ((x3 ++ t537) ++ t539) (wrap64 (x4+1))) else (none))) else (none))) else (none)) else (some x3)
def Y23.f (k:Nat) (l0:List (S49)):Option (ByteArray):=(Y24.f k (l0.length:Int)).bind fun t535=>(Y23.l0 k l0 t535 0)
theorem Y23.mono_l:∀ k,(∀ y0 y1 y2,LeO (Y23.l0 k y0 y1 y2) (Y23.l0 (k+1) y0 y1 y2))
 | 0=>by intros <;> exact LeO.none _
 | k+1=>by
  have ih0:=Y23.mono_l k
  have m0:=@Y24.mono
  ·intros
   unfold Y23.l0
   exact mO
theorem Y23.mono:∀ a0 k,LeO (Y23.f k a0) (Y23.f (k+1) a0):=by
 intro a0 k
 have m0:=@Y24.mono
 have ih0:=Y23.mono_l k
 unfold Y23.f
 exact mO

/-! ### Y20: function 76 -/
def Y20.l0:Nat→ByteArray→List (S49)→Int→Int→Option (ByteArray)
 | 0,_,_,_,_=>none
 | k+1,x3,x9,x10,x11=>if x11<x10 then (if 0≤x11 then (if x11<(x9.length:Int) then ((Y25.f k ((rd_T49 x9 x11).f0)).bind fun t521=>((Y25.f k ((rd_T49 x9 x11).f1)).bind fun t522=>(if t521.size+t522.size≤9223372036854775807 then (if x3.size+(t521.size+t522.size)≤9223372036854775807 then (Y20.l0 k (x3 ++ (t521 ++ t522)) x9 x10 (wrap64 (x11+1))) else (none)) else (none)))) else (none)) else (none)) else (some x3)
def Y20.f (k:Nat) (l0:List (S49)):Option (ByteArray):=(Y25.f k (l0.length:Int)).bind fun t518=>(Y20.l0 k t518 l0 (l0.length:Int) 0)
theorem Y20.mono_l:∀ k,(∀ y0 y1 y2 y3,LeO (Y20.l0 k y0 y1 y2 y3) (Y20.l0 (k+1) y0 y1 y2 y3))
 | 0=>by intros <;> exact LeO.none _
 | k+1=>by
  have ih0:=Y20.mono_l k
  have m0:=@Y25.mono
  ·intros
   unfold Y20.l0
   exact mO
theorem Y20.mono:∀ a0 k,LeO (Y20.f k a0) (Y20.f (k+1) a0):=by
 intro a0 k
 have m0:=@Y25.mono
 have ih0:=Y20.mono_l k
 unfold Y20.f
 exact mO

/-! ### Y41: function 39 -/
def Y41.f (k:Nat) (l0:List (S49)):Option (ByteArray):=(Y6.f k l0).bind fun t540=>(if t540=true then ((Y23.f k l0).bind fun t541=>(some t541)) else (some (⟨#[]⟩:ByteArray)))
theorem Y41.mono:∀ a0 k,LeO (Y41.f k a0) (Y41.f (k+1) a0):=by
 intro a0 k
 have m0:=@Y6.mono
 have m1:=@Y23.mono
 unfold Y41.f
 exact mO

/-! ### Y42: function 27 -/
def Y42.f (k:Nat) (l0:List (S49)):Option (ByteArray):=(Y27.f k l0).bind fun t523=>(if t523=true then ((Y20.f k l0).bind fun t524=>(some t524)) else (some (⟨#[]⟩:ByteArray)))
theorem Y42.mono:∀ a0 k,LeO (Y42.f k a0) (Y42.f (k+1) a0):=by
 intro a0 k
 have m0:=@Y27.mono
 have m1:=@Y20.mono
 unfold Y42.f
 exact mO
end Go.Proofs.Ytmefchanjoadfaa.P

namespace Go.Proofs.Ytmefchanjoadfaa.Q
open Go.RowKit Go.Proofs.Ytmefchanjoadfaa.P Go.Proofs.YtmefchanjoadfaaW.PrintWords Go.Proofs.YtmefchanjoadfaaW.PrintMore

theorem toList_loop (b:ByteArray):∀ (n i:Nat) (r:List UInt8),b.size-i=n→ByteArray.toList.loop b i r=r.reverse ++ b.data.toList.drop i:=by
  intro n
  induction n with
  | zero =>
    intro i r h
    unfold ByteArray.toList.loop
    have hs:b.data.toList.length=b.size:=by rw [Array.length_toList];rfl
    rw [if_neg (by omega),List.drop_of_length_le (by omega),List.append_nil]
  | succ n ih =>
    intro i r h
    unfold ByteArray.toList.loop
    have hs:b.data.toList.length=b.size:=by rw [Array.length_toList];rfl
    rw [if_pos (by omega),ih (i+1) _ (by omega),List.drop_eq_getElem_cons (i:=i) (by omega)]
    have:b.get! i=b.data.toList[i]'(by omega):=by
      have hi:i<b.data.size:=by rw [← Array.length_toList];omega
      show b.data[i]! = _
      rw [getElem!_pos b.data i hi]
      simp
    simp [this]
theorem toList_data (b:ByteArray):b.toList=b.data.toList:=by
  unfold ByteArray.toList
  rw [toList_loop b _ 0 [] rfl]
  simp
theorem toList_inj {a b:ByteArray} (h:a.toList=b.toList):a=b:=by
  rw [toList_data,toList_data] at h
  obtain ⟨a⟩:=a
  obtain ⟨b⟩:=b
  simp only [ByteArray.mk.injEq]
  exact Array.toList_inj.1 h
theorem toList_nil {s:ByteArray} (h:s.toList=[]):s.size=0:=by
  have h5:s.data.toList.length=s.size:=data_length s
  rw [← toList_data,h] at h5
  simpa using h5.symm
/-- From p to q the text s has the bytes bs. -/
def Span (s:ByteArray) (p:Int) (bs:List Int) (q:Int):Prop:=0≤p∧q=p+(bs.length:Int)∧q≤(s.size:Int)∧(bytesOf s).drop p.toNat=bs ++ (bytesOf s).drop q.toNat
theorem Span.trans {s:ByteArray} {p q r:Int} {b c:List Int} (h:Span s p b q) (h2:Span s q c r):Span s p (b ++ c) r:=by
  obtain ⟨a0,a1,a2,a3⟩:=h
  obtain ⟨b0,b1,b2,b3⟩:=h2
  exact ⟨a0,by rw [List.length_append];omega,b2,by rw [a3,b3,List.append_assoc]⟩
theorem Span.nil {s:ByteArray} {p:Int} (h0:0≤p) (h1:p≤(s.size:Int)):Span s p [] p:=⟨h0,by simp,h1,by simp⟩
end Go.Proofs.Ytmefchanjoadfaa.Q

namespace Go.Proofs.Ytmefchanjoadfaa.Q
open Go.RowKit Go.Proofs.Ytmefchanjoadfaa.P Go.Proofs.YtmefchanjoadfaaW.PrintWords Go.Proofs.YtmefchanjoadfaaW.PrintMore

def hasA (n:Int):Bool:=!(n == 8 || (n == 15 || n == 16))
def hasB (n:Int):Bool:=n == 2 || (n == 3 || n == 17)
def hasK (n:Int):Bool:=n == 1 || (n == 2 || (n == 3 || (n == 4 || n == 16)))
def hasD (n:Int):Bool:=n == 1 || n == 2
def isKind (n:Int):Bool:=isWithin n 1 17
def hasPower (n:Int):Bool:=n == 1 || (n == 2 || (n == 3 || (n == 5 || n == 14)))
def smallOk (x:Int) (t:Bool):Bool:=x == 0 || (t && isWithin x 0 999999)
def keyOk (k:Bool) (key:ByteArray):Bool:=if k=true then nameOk key else key.toList == []
def datOk (d:Bool) (data:ByteArray):Bool:=if d=true then nameOk data && decide (data.size≤16) else data.toList == []
def powOk (n pw:Int):Bool:=pw == -1 || (hasPower n && isWithin pw (-1) 10000)
def actOk (n a b:Int) (key data:ByteArray) (pw:Int):Bool :=
  isKind n && (powOk n pw && (smallOk a (hasA n) && (smallOk b (hasB n) && (keyOk (hasK n) key && datOk (hasD n) data))))
theorem kinds (n:Int) (h:isKind n=true):n=1∨n=2∨n=3∨n=4∨n=5∨n=6∨n=7∨n=8∨n=9∨n=10∨n=11∨n=12∨n=13∨n=14∨n=15∨n=16∨n=17:=by
  simp only [isKind,isWithin,Bool.and_eq_true,decide_eq_true_eq] at h
  omega
theorem l15Has_ev (n:Int):Ev (fun k=>Y11.f k n) (hasA n,hasB n,hasK n,hasD n):=by
  unfold Y11.f
  by_cases h1:n=1
  · subst h1;exact evPos rfl (Ev.now _)
  refine evNeg h1 ?_
  by_cases h2:n=2
  · subst h2;exact evPos rfl (Ev.now _)
  refine evNeg h2 ?_
  by_cases h3:n=3
  · subst h3;exact evPos rfl (Ev.now _)
  refine evNeg h3 ?_
  by_cases h4:n=4
  · subst h4;exact evPos rfl (Ev.now _)
  refine evNeg h4 ?_
  by_cases h8:n=8
  · subst h8;exact evPos rfl (Ev.step (f:=fun _=>some (false,false,false,false)) (fun k=>by simp [Y11.j0]) (Ev.now _))
  refine evNeg h8 ?_
  by_cases h15:n=15
  · subst h15;exact Ev.step (f:=fun _=>some (false,false,false,false)) (fun k=>by simp [Y11.j0]) (Ev.now _)
  by_cases h16:n=16
  · subst h16;exact Ev.step (f:=fun _=>some (false,false,true,false)) (fun k=>by simp [Y11.j0]) (Ev.now _)
  by_cases h17:n=17
  · subst h17;exact Ev.step (f:=fun _=>some (true,true,false,false)) (fun k=>by simp [Y11.j0]) (Ev.now _)
  refine Ev.step (f:=fun _=>some (true,false,false,false)) (fun k=>by simp [Y11.j0,h15,h16,h17]) ?_
  simp only [hasA,hasB,hasK,hasD,beq_eq_false_iff_ne.2 h1,beq_eq_false_iff_ne.2 h2,beq_eq_false_iff_ne.2 h3,beq_eq_false_iff_ne.2 h4,beq_eq_false_iff_ne.2 h8,beq_eq_false_iff_ne.2 h15,beq_eq_false_iff_ne.2 h16,beq_eq_false_iff_ne.2 h17,Bool.or_false,Bool.not_false]
  exact Ev.now _
theorem l15Word_ev (n:Int):∃ w,Ev (fun k=>Y9.f k n) w∧(w.toList=[] ↔ isKind n=false):=by
  have j0T:∀ y,Ev (fun k=>Y9.j0 k n y true) ⟨#[]⟩:=fun y=>Ev.step (f:=fun _=>some ⟨#[]⟩) (fun k=>by simp [Y9.j0]) (Ev.now _)
  have e0:(⟨#[]⟩:ByteArray).toList=[]:=by rw [toList_data]
  have jT:∀ y:List ByteArray,n≥(y.length:Int)→Ev (fun k=>Y9.j0 k n y (decide (n≥(y.length:Int)))) ⟨#[]⟩:=fun y h=>by rw [decide_eq_true h];exact j0T y
  have jF:∀ y:List ByteArray,¬ n≥(y.length:Int)→¬ n<1→Ev (fun k=>Y9.j0 k n y (decide (n≥(y.length:Int)))) (rdOf ByteArray.empty y n):=fun y h h0=>by
    rw [decide_eq_false h]
    refine Ev.step (f:=fun _=>some (rdOf ByteArray.empty y n)) (fun k=>?_) (Ev.now _)
    simp only [Y9.j0]
    rw [if_neg (by simp),if_pos (by omega),if_pos (by omega)]
  unfold Y9.f
  by_cases h0:n<1
  · exact ⟨_,evBind1 rfl (evPos h0 (j0T _)),by simp only [e0,isKind,isWithin,true_iff,Bool.and_eq_false_iff,decide_eq_false_iff_not];omega⟩
  · by_cases h1:n≥18
    · exact ⟨⟨#[]⟩,evBind1 rfl (evNeg h0 (jT _ (by simpa using h1))),by simp only [e0,isKind,isWithin,true_iff,Bool.and_eq_false_iff,decide_eq_false_iff_not];omega⟩
    · have hk:isKind n=true:=by simp only [isKind,isWithin,Bool.and_eq_true,decide_eq_true_eq];omega
      refine ⟨_,evBind1 rfl (evNeg h0 (jF _ (by simpa using h1) h0)),?_⟩
      · rw [hk,toList_data]
        obtain rfl | rfl | rfl | rfl | rfl | rfl | rfl | rfl | rfl | rfl | rfl | rfl | rfl | rfl | rfl | rfl | rfl:=kinds n hk
        all_goals decide
theorem l15Powered_is (n:Int):Y32.f n=some (hasPower n):=by
  unfold Y32.f hasPower
  by_cases h1:n≥1
  · rw [if_pos h1]
    by_cases h3:n≤3
    · rw [if_pos h3]
      obtain rfl | rfl | rfl:n=1∨n=2∨n=3:=by omega
      all_goals rfl
    · rw [if_neg h3,beq_eq_false_iff_ne.2 (show n≠1 by omega),beq_eq_false_iff_ne.2 (show n≠2 by omega),beq_eq_false_iff_ne.2 (show n≠3 by omega)]
      by_cases h5:n=5
      · subst h5;rfl
      · rw [if_neg h5,beq_eq_false_iff_ne.2 h5];rfl
  · rw [if_neg h1,if_neg (by omega),beq_eq_false_iff_ne.2 (show n≠1 by omega),beq_eq_false_iff_ne.2 (show n≠2 by omega),beq_eq_false_iff_ne.2 (show n≠3 by omega),beq_eq_false_iff_ne.2 (show n≠5 by omega)];rfl
theorem powered_ev (n:Int):Ev (fun k=>Y8.f k n) (hasPower n):=by
  have j:∀ b:Bool,Ev (fun k=>Y8.j0 k b) b:=fun b=>by
    cases b with
    | true=>exact Ev.step (f:=fun _=>some true) (fun k=>by simp [Y8.j0]) (Ev.now _)
    | false=>exact Ev.step (f:=fun _=>some false) (fun k=>by simp [Y8.j0]) (Ev.now _)
  unfold Y8.f
  by_cases h1:n=1
  · subst h1;exact evPos rfl (j true)
  refine evNeg h1 ?_
  by_cases h2:n=2
  · subst h2;exact evPos rfl (j true)
  refine evNeg h2 ?_
  by_cases h3:n=3
  · subst h3;exact evPos rfl (j true)
  refine evNeg h3 ?_
  by_cases h5:n=5
  · subst h5;exact evPos rfl (j true)
  refine evNeg h5 ?_
  have:hasPower n=(n == 14):=by
    simp only [hasPower,beq_eq_false_iff_ne.2 h1,beq_eq_false_iff_ne.2 h2,beq_eq_false_iff_ne.2 h3,beq_eq_false_iff_ne.2 h5,Bool.false_or]
  rw [this]
  exact j _
theorem indexByte_mem (c:UInt8):∀ l:List UInt8,decide (Lib.indexByte l c≥0)=l.contains c
  | []=>by simp [Lib.indexByte]
  | b :: l=>by
    have ih:=indexByte_mem c l
    have hge:=Lib.indexByte_ge l c
    have hrec:Lib.indexByte (b :: l) c=if (b == c)=true then 0 else if (Lib.indexByte l c == -1)=true then -1 else Lib.indexByte l c+1:=by simp only [Lib.indexByte]
    rw [hrec]
    by_cases hb:(b == c)=true
    · rw [if_pos hb]
      have:b=c:=by simpa using hb
      subst this
      simp
    · rw [if_neg hb]
      have hb':(b == c)=false:=by simpa using hb
      have:(c == b)=false:=by rw [beq_eq_false_iff_ne] at hb' ⊢;exact fun e=>hb' e.symm
      rw [List.contains_cons,this,Bool.false_or,← ih]
      by_cases hm:Lib.indexByte l c = -1
      · rw [hm]
        rfl
      · rw [if_neg (by simpa using hm),decide_eq_true (show Lib.indexByte l c+1≥0 by omega),decide_eq_true (show Lib.indexByte l c≥0 by omega)]
theorem cap_ev (c:UInt8) (s:ByteArray):Ev (fun k=>Y0.f k (⟨#[c]⟩:ByteArray) s) (s.data.toList.contains c):=by
  have hc1:((⟨#[c]⟩:ByteArray).size:Int)=1:=rfl
  have hbt:(bt (⟨#[c]⟩:ByteArray) 0).toNat.toUInt8=c:=by
    have:bt (⟨#[c]⟩:ByteArray) 0=(c.toNat:Int):=rfl
    rw [this,Int.toNat_natCast]
    simp
  unfold Y0.f Y28.f Y29.f Y7.f
  by_cases he:(⟨#[c]⟩:ByteArray).toList=s.toList
  · have hs:s=⟨#[c]⟩:=(toList_inj he).symm
    subst hs
    refine Ev.bind (a:=decide ((0:Int)≥0)) (Ev.bind (a:=(0:Int)) (Ev.bind (a:=(0:Int)) (evNeg (by rw [hc1];omega) ?_) (Ev.now _)) (Ev.now _)) ?_
    · rw [beq_self_eq_true]
      exact Ev.step (f:=fun _=>some 0) (fun k=>by simp [Y7.j0]) (Ev.now _)
    · have:((⟨#[c]⟩:ByteArray).data.toList.contains c)=true:=by simp
      rw [this]
      exact (Ev.now true)
  · have hb:((⟨#[c]⟩:ByteArray).toList == s.toList)=false:=beq_eq_false_iff_ne.2 he
    rw [← indexByte_mem c s.data.toList,hb,hc1]
    refine Ev.bind (Ev.bind (Ev.bind (evNeg (by omega) (Ev.step (f:=fun _=>some (Lib.indexByte s.data.toList c)) (fun k=>?_) (Ev.now _))) (Ev.now _)) (Ev.now _)) (Ev.now _)
    simp only [Y7.j0,Y30.f,hbt]
    rw [if_neg (by simp),if_pos trivial,if_pos (by rw [hc1];omega)]
    rfl
theorem small_is (x:Int) (t:Bool):Y12.f x t=some (smallOk x t):=by
  unfold Y12.f smallOk
  by_cases h:x=0
  · simp [h]
  · rw [if_neg h,within_is,beq_eq_false_iff_ne.2 h]
    cases t <;> simp
theorem isPower_is (x:Int):Y31.f x=some (isWithin x (-1) 10000):=by simp [Y31.f,within_is]
/-- The letters of a kind's form. -/
def formOf (n:Int):ByteArray:=match Y36.f with
  | some l=>(rd_T72 l (n-1)).f1
  | none=>⟨#[]⟩
theorem forms_is:∃ l,Y36.f=some l∧l.length=17∧∀ n,formOf n=(rd_T72 l (n-1)).f1:=⟨_,rfl,rfl,fun _=>rfl⟩
theorem form_has (n:Int) (h:isKind n=true):(formOf n).data.toList.contains 65=hasA n∧(formOf n).data.toList.contains 66=hasB n∧(formOf n).data.toList.contains 75=hasK n∧(formOf n).data.toList.contains 68=hasD n:=by
  obtain rfl | rfl | rfl | rfl | rfl | rfl | rfl | rfl | rfl | rfl | rfl | rfl | rfl | rfl | rfl | rfl | rfl:=kinds n h
  all_goals decide
theorem dpart (f data:ByteArray) (hd:data.size≤1048576) (d:Bool) (hD:Ev (fun k=>Y0.f k (⟨#[68]⟩:ByteArray) f) d) :
    Ev (fun k=>(Y0.f k (⟨#[68]⟩:ByteArray) f).bind fun t150=>(if t150=true then ((Y3.f k data).bind fun t151=>(if t151=true then (if (data.size:Int)≤16 then (some true) else ((Y0.f k (⟨#[68]⟩:ByteArray) f).bind fun t152=>(if t152=true then (some false) else (some (data.toList == ([]:List UInt8)))))) else ((Y0.f k (⟨#[68]⟩:ByteArray) f).bind fun t153=>(if t153=true then (some false) else (some (data.toList == ([]:List UInt8))))))) else ((Y0.f k (⟨#[68]⟩:ByteArray) f).bind fun t154=>(if t154=true then (some false) else (some (data.toList == ([]:List UInt8))))))) (datOk d data):=by
  refine Ev.bind hD ?_
  cases d with
  | true =>
    refine evPos rfl (Ev.bind (impl_NameRight_ev data (by omega)) ?_)
    unfold datOk
    cases nameOk data with
    | true =>
      refine evPos rfl ?_
      by_cases h:data.size≤16
      · simpa [h] using evPos (g:=fun k=>(Y0.f k (⟨#[68]⟩:ByteArray) f).bind fun t152=>(if t152=true then (some false) else (some (data.toList == ([]:List UInt8))))) (show (data.size:Int)≤16 by omega) (Ev.now true)
      · refine evNeg (by omega) (Ev.bind hD (evPos rfl ?_))
        simpa [h] using Ev.now false
    | false=>exact evNeg (by simp) (Ev.bind hD (evPos rfl (by simpa using Ev.now false)))
  | false=>exact evNeg (by simp) (Ev.bind hD (evNeg (by simp) (Ev.now _)))
theorem act_j1 (n a b:Int) (key data:ByteArray) (pw:Int) (f:ByteArray) (hk:key.size≤1048576) (hd:data.size≤1048576) (k d:Bool) (hK:Ev (fun q=>Y0.f q (⟨#[75]⟩:ByteArray) f) k) (hD:Ev (fun q=>Y0.f q (⟨#[68]⟩:ByteArray) f) d) (c:Bool) :
    Ev (fun q=>Y1.j1 q (!c) n a b key data pw f) (c && (keyOk k key && datOk d data)):=by
  have hdp:=dpart f data hd d hD
  cases c with
  | false=>exact Ev.step (f:=fun _=>some false) (fun k=>by simp [Y1.j1]) (Ev.now _)
  | true =>
    refine Ev.step (fun k=>by simp only [Y1.j1];rw [if_neg (by simp)]) (Ev.bind hK ?_)
    cases k with
    | true =>
      refine evPos rfl (Ev.bind (impl_NameRight_ev key (by omega)) ?_)
      unfold keyOk
      cases nameOk key with
      | true=>exact evPos rfl (by simpa using hdp)
      | false=>exact evNeg (by simp) (Ev.bind hK (evPos rfl (by simpa using Ev.now false)))
    | false =>
      refine evNeg (by simp) (Ev.bind hK (evNeg (by simp) ?_))
      unfold keyOk
      by_cases h:key.toList=[]
      · exact evPos h (by simpa [h] using hdp)
      · have hf:(key.toList == ([]:List UInt8))=false:=beq_eq_false_iff_ne.2 h
        exact evNeg h (by simp only [hf,Bool.true_and,Bool.false_and,Bool.and_false,Bool.false_or,Bool.or_false,Bool.not_false,Bool.false_eq_true,↓reduceIte];exact Ev.now false)
theorem act_j0 (n a b:Int) (key data:ByteArray) (pw:Int) (hn:isKind n=true) (hk:key.size≤1048576) (hd:data.size≤1048576) (c:Bool) :
    Ev (fun q=>Y1.j0 q (!c) n a b key data pw) (c && (smallOk a (hasA n) && (smallOk b (hasB n) && (keyOk (hasK n) key && datOk (hasD n) data)))):=by
  cases c with
  | false=>exact Ev.step (f:=fun _=>some false) (fun k=>by simp [Y1.j0]) (Ev.now _)
  | true =>
    obtain ⟨l,e,hl,hf⟩:=forms_is
    obtain ⟨g1,g2,g3,g4⟩:=form_has n hn
    have hn':1≤n∧n≤17:=by simpa [isKind,isWithin] using hn
    have hw:wrap64 (n-1)=n-1:=w64 (by omega) (by omega)
    have cA:=cap_ev 65 (formOf n)
    have cB:=cap_ev 66 (formOf n)
    have cK:=cap_ev 75 (formOf n)
    have cD:=cap_ev 68 (formOf n)
    rw [g1] at cA
    rw [g2] at cB
    rw [g3] at cK
    rw [g4] at cD
    have j1:=act_j1 n a b key data pw (formOf n) hk hd (hasK n) (hasD n) cK cD
    rw [hf n] at cA cB j1
    refine Ev.step (f:=fun k=>(Y0.f k (⟨#[65]⟩:ByteArray) ((rd_T72 l (n-1)).f1)).bind fun t144=>((Y12.f a t144).bind fun t145=>(if t145=true then ((Y0.f k (⟨#[66]⟩:ByteArray) ((rd_T72 l (n-1)).f1)).bind fun t146=>((Y12.f b t146).bind fun t147=>(Y1.j1 k (!t147) n a b key data pw ((rd_T72 l (n-1)).f1)))) else (Y1.j1 k true n a b key data pw ((rd_T72 l (n-1)).f1))))) (fun k=>?_) (Ev.bind cA (evBind1 (small_is _ _) ?_))
    · simp only [Y1.j0,e,Option.bind_some,hw]
      rw [if_neg (by simp),if_pos (by omega),if_pos (by rw [hl];omega)]
    · cases smallOk a (hasA n) with
      | false=>exact evNeg (by simp) (by simpa using j1 false)
      | true=>exact evPos rfl (Ev.bind cB (evBind1 (small_is _ _) (by simpa using j1 (smallOk b (hasB n)))))
theorem impl_ActRight_ev (n a b:Int) (key data:ByteArray) (pw:Int) (hk:key.size≤1048576) (hd:data.size≤1048576):Ev (fun k=>Y1.f k n a b key data pw) (actOk n a b key data pw):=by
  unfold Y1.f actOk
  refine evBind1 (within_is n 1 17) ?_
  by_cases hn:isKind n=true
  · have j0:=act_j0 n a b key data pw hn hk hd
    refine evPos hn ?_
    rw [hn,Bool.true_and]
    unfold powOk
    by_cases hp:pw = -1
    · subst hp
      exact evPos rfl (by simpa using j0 true)
    · refine evNeg hp (Ev.bind (powered_ev n) ?_)
      rw [beq_eq_false_iff_ne.2 hp,Bool.false_or]
      cases hasPower n with
      | false=>exact evNeg (by simp) (by simpa using j0 false)
      | true=>exact evPos rfl (evBind1 (isPower_is pw) (by simpa using j0 (isWithin pw (-1) 10000)))
  · have hn':isKind n=false:=by simpa using hn
    refine evNeg hn ?_
    rw [hn',Bool.false_and]
    exact Ev.step (f:=fun _=>some false) (fun k=>by simp [Y1.j0]) (Ev.now _)
theorem nameOk_nil {t:ByteArray} (h:t.toList=[]):nameOk t=false:=by
  have e:t=⟨#[]⟩:=toList_inj (by rw [h,toList_data])
  subst e
  decide
theorem l10Power_is (x:Int):Y34.f x=some (isWithin x (-1) 10000):=by simp [Y34.f,l02Is_is]
theorem spec_j3 (n a b:Int) (key data:ByteArray) (pw:Int) (c:Bool):Ev (fun k=>Y2.j3 k (!c) n a b key data pw) (c && powOk n pw):=by
  cases c with
  | false=>exact Ev.step (f:=fun _=>some false) (fun k=>by simp [Y2.j3]) (Ev.now _)
  | true =>
    refine Ev.step (f:=fun _=>some (powOk n pw)) (fun k=>?_) (by simpa using Ev.now (powOk n pw))
    simp only [Y2.j3,l15Powered_is,l10Power_is,Option.bind_some,powOk]
    rw [if_neg (by simp)]
    by_cases hp:pw = -1
    · simp [hp]
    · rw [if_neg hp,beq_eq_false_iff_ne.2 hp]
      cases hasPower n <;> simp
theorem spec_j2 (n a b:Int) (key data:ByteArray) (pw:Int) (hd:data.size≤1048576) (d:Bool) (c:Bool):Ev (fun k=>Y2.j2 k d (!c) n a b key data pw) (c && (datOk d data && powOk n pw)):=by
  cases c with
  | false=>exact Ev.step (f:=fun _=>some false) (fun k=>by simp [Y2.j2]) (Ev.now _)
  | true =>
    have j3:=spec_j3 n a b key data pw
    have hs:(decide ((data.size:Int)>16))=!decide (data.size≤16):=by
      by_cases h:data.size≤16
      · simp [h];omega
      · simp [h];omega
    refine Ev.step (fun k=>by simp only [Y2.j2];rw [if_neg (by simp)]) (Ev.bind (spec_NameRight_ev data hd) ?_)
    unfold datOk
    cases d with
    | true =>
      cases nameOk data with
      | true=>exact evNeg (by simp) (evPos rfl (by rw [hs];simpa using j3 (decide (data.size≤16))))
      | false=>exact evPos (by simp) (by simpa using j3 false)
    | false =>
      by_cases he:data.toList=[]
      · have h0:=toList_nil he
        rw [nameOk_nil he]
        refine evNeg (by simp) (evNeg (by simp) (evPos he ?_))
        rw [hs]
        simpa [he,h0] using j3 true
      · have hf:(data.toList == ([]:List UInt8))=false:=beq_eq_false_iff_ne.2 he
        cases nameOk data with
        | true=>exact evPos (by simp) (by simp only [hf,Bool.true_and,Bool.false_and,Bool.and_false,Bool.false_or,Bool.or_false,Bool.not_false,Bool.false_eq_true,↓reduceIte];exact j3 false)
        | false=>exact evNeg (by simp) (evNeg (by simp) (evNeg he (by simp only [hf,Bool.true_and,Bool.false_and,Bool.and_false,Bool.false_or,Bool.or_false,Bool.not_false,Bool.false_eq_true,↓reduceIte];exact j3 false)))
theorem spec_j1 (n a b:Int) (key data:ByteArray) (pw:Int) (hk:key.size≤1048576) (hd:data.size≤1048576) (q d:Bool) (c:Bool):Ev (fun k=>Y2.j1 k q d (!c) n a b key data pw) (c && (keyOk q key && (datOk d data && powOk n pw))):=by
  cases c with
  | false=>exact Ev.step (f:=fun _=>some false) (fun k=>by simp [Y2.j1]) (Ev.now _)
  | true =>
    have j2:=spec_j2 n a b key data pw hd d
    refine Ev.step (fun k=>by simp only [Y2.j1];rw [if_neg (by simp)]) (Ev.bind (spec_NameRight_ev key hk) ?_)
    unfold keyOk
    cases q with
    | true =>
      cases nameOk key with
      | true=>exact evNeg (by simp) (evPos rfl (by simpa using j2 true))
      | false=>exact evPos (by simp) (by simpa using j2 false)
    | false =>
      by_cases he:key.toList=[]
      · rw [nameOk_nil he]
        refine evNeg (by simp) (evNeg (by simp) ?_)
        simpa [he] using j2 true
      · have hf:(key.toList == ([]:List UInt8))=false:=beq_eq_false_iff_ne.2 he
        cases nameOk key with
        | true=>exact evPos (by simp) (by simp only [hf,Bool.true_and,Bool.false_and,Bool.and_false,Bool.false_or,Bool.or_false,Bool.not_false,Bool.false_eq_true,↓reduceIte];exact j2 false)
        | false =>
          refine evNeg (by simp) (evNeg (by simp) ?_)
          have:(key.toList != ([]:List UInt8))=!(key.toList == []):=rfl
          rw [this]
          simp only [hf,Bool.true_and,Bool.false_and,Bool.and_false,Bool.false_or,Bool.or_false,Bool.not_false,Bool.false_eq_true,↓reduceIte];exact j2 false
theorem small_split (x:Int) (t:Bool) (h:isWithin x 0 999999=true):smallOk x t=(t || x == 0):=by
  unfold smallOk
  rw [h]
  cases t <;> simp
theorem small_no {x:Int} (t:Bool) (h:isWithin x 0 999999=false):smallOk x t=false:=by
  unfold smallOk
  have:x≠0:=by
    rintro rfl
    simp [isWithin] at h
  rw [h,beq_eq_false_iff_ne.2 this]
  simp
theorem spec_ActRight_ev (n a b:Int) (key data:ByteArray) (pw:Int) (hk:key.size≤1048576) (hd:data.size≤1048576):Ev (fun k=>Y2.f k n a b key data pw) (actOk n a b key data pw):=by
  obtain ⟨w,ew,hw⟩:=l15Word_ev n
  have j1:=spec_j1 n a b key data pw hk hd (hasK n) (hasD n)
  have j0T:Ev (fun k=>Y2.j0 k (hasA n) (hasB n) (hasK n) (hasD n) true n a b key data pw) false:=Ev.step (f:=fun _=>some false) (fun k=>by simp [Y2.j0]) (Ev.now _)
  unfold Y2.f actOk
  refine Ev.bind (l15Has_ev n) (Ev.bind ew ?_)
  cases hn:isKind n with
  | false=>exact evPos (hw.2 hn) (by simpa using j0T)
  | true =>
    refine evNeg (fun e=>by rw [hw.1 e] at hn;simp at hn) (evBind1 (l02Is_is _ _ _) ?_)
    cases ha:isWithin a 0 999999 with
    | false=>exact evNeg (by simp) (by rw [small_no _ ha];simpa using j0T)
    | true =>
      refine evPos rfl (evBind1 (l02Is_is _ _ _) ?_)
      cases hb:isWithin b 0 999999 with
      | false=>rw [small_no (hasB n) hb];simpa using j0T
      | true =>
        rw [small_split a _ ha,small_split b _ hb]
        have key':∀ (p q:Bool),Ev (fun k=>Y2.j0 k p q (hasK n) (hasD n) false n a b key data pw) ((p || a == 0) && ((q || b == 0) && (keyOk (hasK n) key && (datOk (hasD n) data && powOk n pw)))):=by
          intro p q
          refine Ev.step (fun k=>by simp only [Y2.j0];rw [if_neg (by simp)]) ?_
          cases p with
          | true =>
            refine evPos rfl ?_
            cases q with
            | true=>exact evPos rfl (by simpa using j1 true)
            | false =>
              refine evNeg (by simp) ?_
              have:(b != 0)=!(b == 0):=rfl
              rw [this]
              simpa using j1 (b == 0)
          | false =>
            refine evNeg (by simp) ?_
            by_cases h0:a=0
            · refine evPos h0 ?_
              cases q with
              | true=>exact evPos rfl (by simpa [h0] using j1 true)
              | false =>
                refine evNeg (by simp) ?_
                have:(b != 0)=!(b == 0):=rfl
                rw [this]
                simpa [h0] using j1 (b == 0)
            · have hf:(a == 0)=false:=beq_eq_false_iff_ne.2 h0
              exact evNeg h0 (by simp only [hf,Bool.true_and,Bool.false_and,Bool.and_false,Bool.false_or,Bool.or_false,Bool.not_false,Bool.false_eq_true,↓reduceIte];exact j1 false)
        have:=key' (hasA n) (hasB n)
        have e:(true && (powOk n pw && ((hasA n || a == 0) && ((hasB n || b == 0) && (keyOk (hasK n) key && datOk (hasD n) data)))))=((hasA n || a == 0) && ((hasB n || b == 0) && (keyOk (hasK n) key && (datOk (hasD n) data && powOk n pw)))):=by
          cases powOk n pw <;> cases (hasA n || a == 0) <;> cases (hasB n || b == 0) <;> cases keyOk (hasK n) key <;> cases datOk (hasD n) data <;> rfl
        rw [e]
        exact this
end Go.Proofs.Ytmefchanjoadfaa.Q

namespace Go.Proofs.Ytmefchanjoadfaa.Pure
open Go.RowKit Go.Proofs.Ytmefchanjoadfaa.P Go.Proofs.Ytmefchanjoadfaa.Q Go.Proofs.YtmefchanjoadfaaW.PrintWords Go.Proofs.YtmefchanjoadfaaW.PrintMore
theorem FnExactActRight:Y17.Pure:=by
  intro x hx
  have hk:x.f3.size≤9223372036854775807:=hx.2.2.2.1
  have hd:x.f4.size≤9223372036854775807:=hx.2.2.2.2.1
  refine Ev.rounds ?_
  unfold Y17.f Y40.f
  rw [w64 (x:=1048576-(x.f3.size:Int)) (by omega) (by omega)]
  by_cases h1:1048576-(x.f3.size:Int)<0
  · rw [if_pos h1]
    exact evBind1 rfl (evPos (by omega) (Ev.now _))
  · rw [if_neg h1,w64 (x:=1048576-(x.f3.size:Int)-(x.f4.size:Int)) (by omega) (by omega)]
    by_cases h2:1048576-(x.f3.size:Int)-(x.f4.size:Int)<0
    · rw [if_pos h2]
      exact evBind1 rfl (evPos (by omega) (Ev.now _))
    · rw [if_neg h2]
      refine evBind1 rfl (evNeg h2 (evBind1 rfl (Ev.bind (spec_ActRight_ev _ _ _ _ _ _ (by show _≤_;dsimp only;omega) (by show _≤_;dsimp only;omega)) (evBind1 rfl (Ev.bind (impl_ActRight_ev _ _ _ _ _ _ (by show _≤_;dsimp only;omega) (by show _≤_;dsimp only;omega)) (evNeg (by simp) (Ev.now _)))))))
end Go.Proofs.Ytmefchanjoadfaa.Pure

namespace Go.Proofs.Ytmefchanjoadfaa.fnExactActRight
open Go.ChangeShapes Go.WideShapes Go.ChangeAt Go.RowKit Go.Proofs.Ytmefchanjoadfaa.P Go.Proofs.Ytmefchanjoadfaa.RO Go.Proofs.Ytmefchanjoadfaa.Open Go.Proofs.YtmefchanjoadfaaW.PrintWords
open Go.ChangeMaps (open_string shut_string)
set_option linter.unusedVariables false
theorem own:ownKnob Try.prog.godebug=none:=by kernel_rfl
theorem laidOut:laidOutB Try.prog=true:=by kernel_rfl
set_option maxRecDepth 100000 in
theorem lifted (os:Os) (started:os.Started) (H:Type) (enc:TypeId × Value→H) :
    ReturnsInHanded {} Try.checked os 3 .any (Rows.fnExactActRightSpec.pre6 enc Try.prog Try.f3 Rows.fnExactActRightRow.domain false) (Rows.fnExactActRightSpec.post enc Try.prog Try.f3 false true false false):=by
  refine returnsInHanded_of_change_sized (C:=Try.checked) own started (by kernel_rfl) Try.func3
    (ChangeSpec.witness6 (enc:=enc) (C:=Try.checked) false ⟨#[],#[.agg #[.int .i64 0,.int .i64 0,.int .i64 0,.string ByteArray.empty,.string ByteArray.empty,.int .i64 0]],[]⟩ 8 (by kernel_rfl) (by kernel_rfl) (by kernel_rfl) (by kernel_rfl)) ?_
  intro W base args ds gs before hval0 hW hcnd hsz0 _
  have hsz:(DataW.weightsEach Try.prog (Try.f3.params.toList ++ Rows.fnExactActRightSpec.plain.varTypes Try.prog) (ds ++ gs)).all (· ≤ reachBytes)=true:=hsz0
  have hval:∀ (j:Nat) t v,Try.f3.params[j]? = some t→args[j]? = some v→Value.okWide Try.prog W .any base t v:=hval0
  have hW':=hW
  obtain ⟨p,q,hA0,hV,rfl,hfz,hnd⟩:=hW
  have hA:DataW.TrodAll enc Try.prog W 0 (fun _=>true) true Try.f3.params.toList args.toList ds p:=hA0
  rw [Try.params3] at hA hval hsz
  obtain ⟨v0,vs0,d0,ds0,p0,q0,hargs,rfl,rfl,h0,r0⟩:=trodAll_cons hA
  obtain ⟨rfl,rfl,rfl⟩:=trodAll_nil r0
  obtain rfl:args=#[v0]:=by cases args;simp_all
  obtain ⟨rfl,rfl⟩:=trodVars_none hV
  have k0:=h0
  have lt0:∀ x ∈ p0,x.block<W.heap.size:=by obtain ⟨m,hm⟩:=k0;exact DataW.trod_lt m _ _ _ hm
  obtain ⟨cs0,rfl,_⟩:=okWide_struct Try.underlying23 (hval 0 23 v0 rfl rfl)
  obtain ⟨fuel0,hf0⟩:=h0
  obtain ⟨x0,hk0,w0⟩:=op_T23 hf0
  have hcs0:=k23_open hk0
  obtain rfl:cs0=#[.int .i64 x0.f0,.int .i64 x0.f1,.int .i64 x0.f2,.string x0.f3,.string x0.f4,.int .i64 x0.f5]:=Array.toList_inj.1 hcs0
  clear hA0 hval0 hsz0 hsz
  obtain ⟨k,hp⟩:=Pure.FnExactActRight x0 w0
  refine (P.Y17.calls k x0.f0 x0.f1 x0.f2 x0.f3 x0.f4 x0.f5 true W  hp).mono fun e W' ⟨he,bel0⟩=>?_
  have bel:Below W.heap.size W W':=bel0
  subst he
  exact ⟨_,rfl,_,_,_,[],_,[],hW',trodAll_mk1 (shut_bool Try.underlying4 _),(trodAll_cons_mk (Below.trod laidOut (by kernel_rfl) (of_decide_eq_true (by kernel_rfl)) k0 bel lt0) trodAll_mk0),rfl,bel.frame _,fun h=>by cases h⟩
theorem over:Rows.fnExactActRightRow.holds Try.pinned (OpenSpec.ofChange Rows.fnExactActRightSpec) :=
  OpenClaim.holds_of_wide 3 Try.f3 rfl rfl rfl rfl rfl rfl rfl ⟨rfl,rfl,rfl,rfl,rfl⟩ rfl rfl rfl rfl rfl (by kernel_rfl) Try.func3 (by kernel_rfl)
    (of_decide_eq_true (by kernel_rfl)) (by unfold Func.isWrapper;first | (rw [if_pos (by decide +kernel)];kernel_rfl) | (rw [if_neg (by decide +kernel)];exact ⟨rfl,rfl⟩))
    (fun os started H enc _=>lifted os started H enc)
theorem proved:Rows.FnExactActRightSaid:=over
#print axioms proved
end Go.Proofs.Ytmefchanjoadfaa.fnExactActRight
namespace Go.Proofs.Ytmefchanjoadfaa
/-- The row, under a short name, for the claim. -/
theorem fnExactActRight_holds:Rows.FnExactActRightSaid:=fnExactActRight.proved
end Go.Proofs.Ytmefchanjoadfaa
