/- Every text: the program's ActRead and the reference's read the same. No condition. (Part 2 of 5: written by programs of this workplace and by hand, merged.) -/
import Derived.Test.YtkaojnmgflaldaaDoorMFnExactActReada
import Derived.Shelf.Strconv.Itoa4
import Derived.Shelf.Unicode.PredsPay
import Derived.Lib.OthersKept
import Derived.Shelf.Strings.Split
import Derived.Shelf.Strconv.ParseIntPublic10
import Derived.Lib.ParseIntBTie
import Derived.Lib.AtoiErrMem
set_option linter.unusedVariables false
set_option linter.unusedSimpArgs false

namespace Go.Proofs.YtkaojnmgflaldaaDoor.P
open Go.RowKit Go.Proofs.YtkaojnmgflaldaaDoorW.PrintWords Go.Proofs.YtkaojnmgflaldaaDoorW.PrintLast Go.Proofs.YtkaojnmgflaldaaDoorW.PrintMore
attribute [local go_sem] max2_int min2_int max_two min_two max_three min_three max_four min_four   -- for this text's walks alone
set_option linter.unusedVariables false
set_option linter.unusedSimpArgs false

/-! ### Y1: function 4 -/
mutual
def Y1.j0:Nat→ByteArray→List ByteArray→Int→Bool→Int→Int→Int→ByteArray→ByteArray→Int→Option (Int × Int × Int × ByteArray × ByteArray × Int × Int)
 | 0,_,_,_,_,_,_,_,_,_,_=>none
 | k+1,x0,x3,x5,x34,x148000,x148001,x148002,x148003,x148004,x148005=>if x34=true then (if 0<(x3.length:Int) then (if 1≤((rdOf ByteArray.empty x3 0).size:Int) then ((Y10.f k ((rdOf ByteArray.empty x3 0).extract 1 (rdOf ByteArray.empty x3 0).size)).bind fun t151=>(Y1.j1 k x0 x3 1 x148000 x148001 x148002 x148003 x148004 t151)) else (none)) else (none)) else (Y1.j1 k x0 x3 x5 x148000 x148001 x148002 x148003 x148004 x148005)
def Y1.j1:Nat→ByteArray→List ByteArray→Int→Int→Int→Int→ByteArray→ByteArray→Int→Option (Int × Int × Int × ByteArray × ByteArray × Int × Int)
 | 0,_,_,_,_,_,_,_,_,_=>none
 | k+1,x0,x3,x5,x148000,x148001,x148002,x148003,x148004,x148005=>Y1.l0 k x0 x3 x5 1 x148000 x148001 x148002 x148003 x148004 x148005
def Y1.l0:Nat→ByteArray→List ByteArray→Int→Int→Int→Int→Int→ByteArray→ByteArray→Int→Option (Int × Int × Int × ByteArray × ByteArray × Int × Int)
 | 0,_,_,_,_,_,_,_,_,_,_=>none
 | k+1,x0,x3,x5,x6,x148000,x148001,x148002,x148003,x148004,x148005=>if x6≤17 then (if 0≤x5 then (if x5<(x3.length:Int) then ((Y9.f k x6).bind fun t153=>(if (rdOf ByteArray.empty x3 x5).toList=t153.toList then (Y1.l0 k x0 x3 x5 (wrap64 (x6+1)) x6 x148001 x148002 x148003 x148004 x148005) else (Y1.l0 k x0 x3 x5 (wrap64 (x6+1)) x148000 x148001 x148002 x148003 x148004 x148005))) else (none)) else (none)) else ((Y12.f k x148000).bind fun bt154=>(if bt154.1=true then (Y1.j3 k x0 x3 (wrap64 (x5+1)) bt154.2.1 bt154.2.2.1 bt154.2.2.2 (decide ((wrap64 (x5+1))<(x3.length:Int))) x148000 x148001 x148002 x148003 x148004 x148005) else (Y1.j3 k x0 x3 (wrap64 (x5+1)) bt154.2.1 bt154.2.2.1 bt154.2.2.2 false x148000 x148001 x148002 x148003 x148004 x148005)))
def Y1.j3:Nat→ByteArray→List ByteArray→Int→Bool→Bool→Bool→Bool→Int→Int→Int→ByteArray→ByteArray→Int→Option (Int × Int × Int × ByteArray × ByteArray × Int × Int)
 | 0,_,_,_,_,_,_,_,_,_,_,_,_,_=>none
 | k+1,x0,x3,x5,x8,x9,x10,x70,x148000,x148001,x148002,x148003,x148004,x148005=>if x70=true then (if 0≤x5 then (if x5<(x3.length:Int) then ((Y10.f k (rdOf ByteArray.empty x3 x5)).bind fun t159=>(Y1.j4 k x0 x3 (wrap64 (x5+1)) x8 x9 x10 x148000 t159 x148002 x148003 x148004 x148005)) else (none)) else (none)) else (Y1.j4 k x0 x3 x5 x8 x9 x10 x148000 x148001 x148002 x148003 x148004 x148005)
def Y1.j4:Nat→ByteArray→List ByteArray→Int→Bool→Bool→Bool→Int→Int→Int→ByteArray→ByteArray→Int→Option (Int × Int × Int × ByteArray × ByteArray × Int × Int)
 | 0,_,_,_,_,_,_,_,_,_,_,_,_=>none
 | k+1,x0,x3,x5,x8,x9,x10,x148000,x148001,x148002,x148003,x148004,x148005=>if x8=true then (Y1.j5 k x0 x3 x5 x9 x10 (decide (x5<(x3.length:Int))) x148000 x148001 x148002 x148003 x148004 x148005) else (Y1.j5 k x0 x3 x5 x9 x10 false x148000 x148001 x148002 x148003 x148004 x148005)
def Y1.j5:Nat→ByteArray→List ByteArray→Int→Bool→Bool→Bool→Int→Int→Int→ByteArray→ByteArray→Int→Option (Int × Int × Int × ByteArray × ByteArray × Int × Int)
 | 0,_,_,_,_,_,_,_,_,_,_,_,_=>none
 | k+1,x0,x3,x5,x9,x10,x85,x148000,x148001,x148002,x148003,x148004,x148005=>if x85=true then (if 0≤x5 then (if x5<(x3.length:Int) then ((Y10.f k (rdOf ByteArray.empty x3 x5)).bind fun t161=>(Y1.j6 k x0 x3 (wrap64 (x5+1)) x9 x10 x148000 x148001 t161 x148003 x148004 x148005)) else (none)) else (none)) else (Y1.j6 k x0 x3 x5 x9 x10 x148000 x148001 x148002 x148003 x148004 x148005)
def Y1.j6:Nat→ByteArray→List ByteArray→Int→Bool→Bool→Int→Int→Int→ByteArray→ByteArray→Int→Option (Int × Int × Int × ByteArray × ByteArray × Int × Int)
 | 0,_,_,_,_,_,_,_,_,_,_,_=>none
 | k+1,x0,x3,x5,x9,x10,x148000,x148001,x148002,x148003,x148004,x148005=>if x9=true then (Y1.j7 k x0 x3 x5 x10 (decide (x5<(x3.length:Int))) x148000 x148001 x148002 x148003 x148004 x148005) else (Y1.j7 k x0 x3 x5 x10 false x148000 x148001 x148002 x148003 x148004 x148005)
def Y1.j7:Nat→ByteArray→List ByteArray→Int→Bool→Bool→Int→Int→Int→ByteArray→ByteArray→Int→Option (Int × Int × Int × ByteArray × ByteArray × Int × Int)
 | 0,_,_,_,_,_,_,_,_,_,_,_=>none
 | k+1,x0,x3,x5,x10,x100,x148000,x148001,x148002,x148003,x148004,x148005=>if x100=true then (if 0≤x5 then (if x5<(x3.length:Int) then (Y1.j8 k x0 x3 (wrap64 (x5+1)) x10 x148000 x148001 x148002 (rdOf ByteArray.empty x3 x5) x148004 x148005) else (none)) else (none)) else (Y1.j8 k x0 x3 x5 x10 x148000 x148001 x148002 x148003 x148004 x148005)
def Y1.j8:Nat→ByteArray→List ByteArray→Int→Bool→Int→Int→Int→ByteArray→ByteArray→Int→Option (Int × Int × Int × ByteArray × ByteArray × Int × Int)
 | 0,_,_,_,_,_,_,_,_,_,_=>none
 | k+1,x0,x3,x5,x10,x148000,x148001,x148002,x148003,x148004,x148005=>if x10=true then (Y1.j9 k x0 x3 x5 (decide (x5<(x3.length:Int))) x148000 x148001 x148002 x148003 x148004 x148005) else (Y1.j9 k x0 x3 x5 false x148000 x148001 x148002 x148003 x148004 x148005)
def Y1.j9:Nat→ByteArray→List ByteArray→Int→Bool→Int→Int→Int→ByteArray→ByteArray→Int→Option (Int × Int × Int × ByteArray × ByteArray × Int × Int)
 | 0,_,_,_,_,_,_,_,_,_,_=>none
 | k+1,x0,x3,x5,x114,x148000,x148001,x148002,x148003,x148004,x148005=>if x114=true then (if 0≤x5 then (if x5<(x3.length:Int) then (Y1.j10 k x0 x148000 x148001 x148002 x148003 (rdOf ByteArray.empty x3 x5) x148005) else (none)) else (none)) else (Y1.j10 k x0 x148000 x148001 x148002 x148003 x148004 x148005)
def Y1.j10:Nat→ByteArray→Int→Int→Int→ByteArray→ByteArray→Int→Option (Int × Int × Int × ByteArray × ByteArray × Int × Int)
 | 0,_,_,_,_,_,_,_=>none
 | k+1,x0,x148000,x148001,x148002,x148003,x148004,x148005=>if x0.toList=([]:List UInt8) then (Y1.j11 k true x148000 x148001 x148002 x148003 x148004 x148005) else ((Y8.f k x148000 x148001 x148002 x148003 x148004 x148005).bind fun t164=>(Y1.j11 k (t164.toList != x0.toList) x148000 x148001 x148002 x148003 x148004 x148005))
def Y1.j11:Nat→Bool→Int→Int→Int→ByteArray→ByteArray→Int→Option (Int × Int × Int × ByteArray × ByteArray × Int × Int)
 | 0,_,_,_,_,_,_,_=>none
 | k+1,x127,x148000,x148001,x148002,x148003,x148004,x148005=>if x127=true then (some (0,0,0,(⟨#[]⟩:ByteArray),(⟨#[]⟩:ByteArray),0,3)) else (some (x148000,x148001,x148002,x148003,x148004,x148005,0))
end
def Y1.f (k:Nat) (a0:ByteArray):Option (Int × Int × Int × ByteArray × ByteArray × Int × Int):=if (a0.size:Int)>8000 then (some (0,0,0,(⟨#[]⟩:ByteArray),(⟨#[]⟩:ByteArray),0,2)) else ((Y13.f k a0 32).bind fun t144=>(if 0<(t144.length:Int) then (if ((rdOf ByteArray.empty t144 0).size:Int)>1 then (if 0<((rdOf ByteArray.empty t144 0).size:Int) then (if (bt (rdOf ByteArray.empty t144 0) 0)=33 then (Y1.j0 k a0 t144 0 (decide ((t144.length:Int)>1)) 0 0 0 (⟨#[]⟩:ByteArray) (⟨#[]⟩:ByteArray) (-1)) else (Y1.j0 k a0 t144 0 false 0 0 0 (⟨#[]⟩:ByteArray) (⟨#[]⟩:ByteArray) (-1))) else (none)) else (Y1.j0 k a0 t144 0 false 0 0 0 (⟨#[]⟩:ByteArray) (⟨#[]⟩:ByteArray) (-1))) else (none)))
theorem Y1.mono_l:∀ k,(∀ y0 y1 y2 y3 y4 y5 y6 y7 y8 y9,LeO (Y1.j0 k y0 y1 y2 y3 y4 y5 y6 y7 y8 y9) (Y1.j0 (k+1) y0 y1 y2 y3 y4 y5 y6 y7 y8 y9))∧(∀ y0 y1 y2 y3 y4 y5 y6 y7 y8,LeO (Y1.j1 k y0 y1 y2 y3 y4 y5 y6 y7 y8) (Y1.j1 (k+1) y0 y1 y2 y3 y4 y5 y6 y7 y8))∧(∀ y0 y1 y2 y3 y4 y5 y6 y7 y8 y9,LeO (Y1.l0 k y0 y1 y2 y3 y4 y5 y6 y7 y8 y9) (Y1.l0 (k+1) y0 y1 y2 y3 y4 y5 y6 y7 y8 y9))∧(∀ y0 y1 y2 y3 y4 y5 y6 y7 y8 y9 y10 y11 y12,LeO (Y1.j3 k y0 y1 y2 y3 y4 y5 y6 y7 y8 y9 y10 y11 y12) (Y1.j3 (k+1) y0 y1 y2 y3 y4 y5 y6 y7 y8 y9 y10 y11 y12))∧(∀ y0 y1 y2 y3 y4 y5 y6 y7 y8 y9 y10 y11,LeO (Y1.j4 k y0 y1 y2 y3 y4 y5 y6 y7 y8 y9 y10 y11) (Y1.j4 (k+1) y0 y1 y2 y3 y4 y5 y6 y7 y8 y9 y10 y11))∧(∀ y0 y1 y2 y3 y4 y5 y6 y7 y8 y9 y10 y11,LeO (Y1.j5 k y0 y1 y2 y3 y4 y5 y6 y7 y8 y9 y10 y11) (Y1.j5 (k+1) y0 y1 y2 y3 y4 y5 y6 y7 y8 y9 y10 y11))∧(∀ y0 y1 y2 y3 y4 y5 y6 y7 y8 y9 y10,LeO (Y1.j6 k y0 y1 y2 y3 y4 y5 y6 y7 y8 y9 y10) (Y1.j6 (k+1) y0 y1 y2 y3 y4 y5 y6 y7 y8 y9 y10))∧(∀ y0 y1 y2 y3 y4 y5 y6 y7 y8 y9 y10,LeO (Y1.j7 k y0 y1 y2 y3 y4 y5 y6 y7 y8 y9 y10) (Y1.j7 (k+1) y0 y1 y2 y3 y4 y5 y6 y7 y8 y9 y10))∧(∀ y0 y1 y2 y3 y4 y5 y6 y7 y8 y9,LeO (Y1.j8 k y0 y1 y2 y3 y4 y5 y6 y7 y8 y9) (Y1.j8 (k+1) y0 y1 y2 y3 y4 y5 y6 y7 y8 y9))∧(∀ y0 y1 y2 y3 y4 y5 y6 y7 y8 y9,LeO (Y1.j9 k y0 y1 y2 y3 y4 y5 y6 y7 y8 y9) (Y1.j9 (k+1) y0 y1 y2 y3 y4 y5 y6 y7 y8 y9))∧(∀ y0 y1 y2 y3 y4 y5 y6,LeO (Y1.j10 k y0 y1 y2 y3 y4 y5 y6) (Y1.j10 (k+1) y0 y1 y2 y3 y4 y5 y6))∧(∀ y0 y1 y2 y3 y4 y5 y6,LeO (Y1.j11 k y0 y1 y2 y3 y4 y5 y6) (Y1.j11 (k+1) y0 y1 y2 y3 y4 y5 y6))
 | 0=>⟨fun _ _ _ _ _ _ _ _ _ _ r h=>by simp [Y1.j0] at h,fun _ _ _ _ _ _ _ _ _ r h=>by simp [Y1.j1] at h,fun _ _ _ _ _ _ _ _ _ _ r h=>by simp [Y1.l0] at h,fun _ _ _ _ _ _ _ _ _ _ _ _ _ r h=>by simp [Y1.j3] at h,fun _ _ _ _ _ _ _ _ _ _ _ _ r h=>by simp [Y1.j4] at h,fun _ _ _ _ _ _ _ _ _ _ _ _ r h=>by simp [Y1.j5] at h,fun _ _ _ _ _ _ _ _ _ _ _ r h=>by simp [Y1.j6] at h,fun _ _ _ _ _ _ _ _ _ _ _ r h=>by simp [Y1.j7] at h,fun _ _ _ _ _ _ _ _ _ _ r h=>by simp [Y1.j8] at h,fun _ _ _ _ _ _ _ _ _ _ r h=>by simp [Y1.j9] at h,fun _ _ _ _ _ _ _ r h=>by simp [Y1.j10] at h,fun _ _ _ _ _ _ _ r h=>by simp [Y1.j11] at h⟩
 | k+1=>by
  obtain ⟨ih0,ih1,ih2,ih3,ih4,ih5,ih6,ih7,ih8,ih9,ih10,ih11⟩:=Y1.mono_l k
  refine ⟨?_,?_,?_,?_,?_,?_,?_,?_,?_,?_,?_,?_⟩
  ·intro y0 y1 y2 y3 y4 y5 y6 y7 y8 y9
   unfold Y1.j0
   repeat' first
   | (with_reducible exact ih0 _ _ _ _ _ _ _ _ _ _)
   | (with_reducible exact ih1 _ _ _ _ _ _ _ _ _)
   | (with_reducible exact ih2 _ _ _ _ _ _ _ _ _ _)
   | (with_reducible exact ih3 _ _ _ _ _ _ _ _ _ _ _ _ _)
   | (with_reducible exact ih4 _ _ _ _ _ _ _ _ _ _ _ _)
   | (with_reducible exact ih5 _ _ _ _ _ _ _ _ _ _ _ _)
   | (with_reducible exact ih6 _ _ _ _ _ _ _ _ _ _ _)
   | (with_reducible exact ih7 _ _ _ _ _ _ _ _ _ _ _)
   | (with_reducible exact ih8 _ _ _ _ _ _ _ _ _ _)
   | (with_reducible exact ih9 _ _ _ _ _ _ _ _ _ _)
   | (with_reducible exact ih10 _ _ _ _ _ _ _)
   | (with_reducible exact ih11 _ _ _ _ _ _ _)
   | (with_reducible exact Y8.mono _ _ _ _ _ _ _)
   | (with_reducible exact Y13.mono _ _ _)
   | (with_reducible exact Y10.mono _ _)
   | (with_reducible exact Y12.mono _ _)
   | (with_reducible exact Y9.mono _ _)
   | (with_reducible exact LeO.refl _)
   | (with_reducible exact LeO.none _)
   | (with_reducible refine LeO.ite ?_ ?_)
   | (with_reducible refine LeO.bind ?_ (fun _=>?_))
   | exact ih0 _ _ _ _ _ _ _ _ _ _
   | exact ih1 _ _ _ _ _ _ _ _ _
   | exact ih2 _ _ _ _ _ _ _ _ _ _
   | exact ih3 _ _ _ _ _ _ _ _ _ _ _ _ _
   | exact ih4 _ _ _ _ _ _ _ _ _ _ _ _
   | exact ih5 _ _ _ _ _ _ _ _ _ _ _ _
   | exact ih6 _ _ _ _ _ _ _ _ _ _ _
   | exact ih7 _ _ _ _ _ _ _ _ _ _ _
   | exact ih8 _ _ _ _ _ _ _ _ _ _
   | exact ih9 _ _ _ _ _ _ _ _ _ _
   | exact ih10 _ _ _ _ _ _ _
   | exact ih11 _ _ _ _ _ _ _
   | exact Y8.mono _ _ _ _ _ _ _
   | exact Y13.mono _ _ _
   | exact Y10.mono _ _
   | exact Y12.mono _ _
   | exact Y9.mono _ _
   | exact LeO.none _
   | refine LeO.ite ?_ ?_
   | refine LeO.bind ?_ (fun _=>?_)
  ·intro y0 y1 y2 y3 y4 y5 y6 y7 y8
   unfold Y1.j1
   repeat' first
   | (with_reducible exact ih0 _ _ _ _ _ _ _ _ _ _)
   | (with_reducible exact ih1 _ _ _ _ _ _ _ _ _)
   | (with_reducible exact ih2 _ _ _ _ _ _ _ _ _ _)
   | (with_reducible exact ih3 _ _ _ _ _ _ _ _ _ _ _ _ _)
   | (with_reducible exact ih4 _ _ _ _ _ _ _ _ _ _ _ _)
   | (with_reducible exact ih5 _ _ _ _ _ _ _ _ _ _ _ _)
   | (with_reducible exact ih6 _ _ _ _ _ _ _ _ _ _ _)
   | (with_reducible exact ih7 _ _ _ _ _ _ _ _ _ _ _)
   | (with_reducible exact ih8 _ _ _ _ _ _ _ _ _ _)
   | (with_reducible exact ih9 _ _ _ _ _ _ _ _ _ _)
   | (with_reducible exact ih10 _ _ _ _ _ _ _)
   | (with_reducible exact ih11 _ _ _ _ _ _ _)
   | (with_reducible exact Y8.mono _ _ _ _ _ _ _)
   | (with_reducible exact Y13.mono _ _ _)
   | (with_reducible exact Y10.mono _ _)
   | (with_reducible exact Y12.mono _ _)
   | (with_reducible exact Y9.mono _ _)
   | (with_reducible exact LeO.refl _)
   | (with_reducible exact LeO.none _)
   | (with_reducible refine LeO.ite ?_ ?_)
   | (with_reducible refine LeO.bind ?_ (fun _=>?_))
   | exact ih0 _ _ _ _ _ _ _ _ _ _
   | exact ih1 _ _ _ _ _ _ _ _ _
   | exact ih2 _ _ _ _ _ _ _ _ _ _
   | exact ih3 _ _ _ _ _ _ _ _ _ _ _ _ _
   | exact ih4 _ _ _ _ _ _ _ _ _ _ _ _
   | exact ih5 _ _ _ _ _ _ _ _ _ _ _ _
   | exact ih6 _ _ _ _ _ _ _ _ _ _ _
   | exact ih7 _ _ _ _ _ _ _ _ _ _ _
   | exact ih8 _ _ _ _ _ _ _ _ _ _
   | exact ih9 _ _ _ _ _ _ _ _ _ _
   | exact ih10 _ _ _ _ _ _ _
   | exact ih11 _ _ _ _ _ _ _
   | exact Y8.mono _ _ _ _ _ _ _
   | exact Y13.mono _ _ _
   | exact Y10.mono _ _
   | exact Y12.mono _ _
   | exact Y9.mono _ _
   | exact LeO.none _
   | refine LeO.ite ?_ ?_
   | refine LeO.bind ?_ (fun _=>?_)
  ·intro y0 y1 y2 y3 y4 y5 y6 y7 y8 y9
   unfold Y1.l0
   repeat' first
   | (with_reducible exact ih0 _ _ _ _ _ _ _ _ _ _)
   | (with_reducible exact ih1 _ _ _ _ _ _ _ _ _)
   | (with_reducible exact ih2 _ _ _ _ _ _ _ _ _ _)
   | (with_reducible exact ih3 _ _ _ _ _ _ _ _ _ _ _ _ _)
   | (with_reducible exact ih4 _ _ _ _ _ _ _ _ _ _ _ _)
   | (with_reducible exact ih5 _ _ _ _ _ _ _ _ _ _ _ _)
   | (with_reducible exact ih6 _ _ _ _ _ _ _ _ _ _ _)
   | (with_reducible exact ih7 _ _ _ _ _ _ _ _ _ _ _)
   | (with_reducible exact ih8 _ _ _ _ _ _ _ _ _ _)
   | (with_reducible exact ih9 _ _ _ _ _ _ _ _ _ _)
   | (with_reducible exact ih10 _ _ _ _ _ _ _)
   | (with_reducible exact ih11 _ _ _ _ _ _ _)
   | (with_reducible exact Y8.mono _ _ _ _ _ _ _)
   | (with_reducible exact Y13.mono _ _ _)
   | (with_reducible exact Y10.mono _ _)
   | (with_reducible exact Y12.mono _ _)
   | (with_reducible exact Y9.mono _ _)
   | (with_reducible exact LeO.refl _)
   | (with_reducible exact LeO.none _)
   | (with_reducible refine LeO.ite ?_ ?_)
   | (with_reducible refine LeO.bind ?_ (fun _=>?_))
   | exact ih0 _ _ _ _ _ _ _ _ _ _
   | exact ih1 _ _ _ _ _ _ _ _ _
   | exact ih2 _ _ _ _ _ _ _ _ _ _
   | exact ih3 _ _ _ _ _ _ _ _ _ _ _ _ _
   | exact ih4 _ _ _ _ _ _ _ _ _ _ _ _
   | exact ih5 _ _ _ _ _ _ _ _ _ _ _ _
   | exact ih6 _ _ _ _ _ _ _ _ _ _ _
   | exact ih7 _ _ _ _ _ _ _ _ _ _ _
   | exact ih8 _ _ _ _ _ _ _ _ _ _
   | exact ih9 _ _ _ _ _ _ _ _ _ _
   | exact ih10 _ _ _ _ _ _ _
   | exact ih11 _ _ _ _ _ _ _
   | exact Y8.mono _ _ _ _ _ _ _
   | exact Y13.mono _ _ _
   | exact Y10.mono _ _
   | exact Y12.mono _ _
   | exact Y9.mono _ _
   | exact LeO.none _
   | refine LeO.ite ?_ ?_
   | refine LeO.bind ?_ (fun _=>?_)
  ·intro y0 y1 y2 y3 y4 y5 y6 y7 y8 y9 y10 y11 y12
   unfold Y1.j3
   repeat' first
   | (with_reducible exact ih0 _ _ _ _ _ _ _ _ _ _)
   | (with_reducible exact ih1 _ _ _ _ _ _ _ _ _)
   | (with_reducible exact ih2 _ _ _ _ _ _ _ _ _ _)
   | (with_reducible exact ih3 _ _ _ _ _ _ _ _ _ _ _ _ _)
   | (with_reducible exact ih4 _ _ _ _ _ _ _ _ _ _ _ _)
   | (with_reducible exact ih5 _ _ _ _ _ _ _ _ _ _ _ _)
   | (with_reducible exact ih6 _ _ _ _ _ _ _ _ _ _ _)
   | (with_reducible exact ih7 _ _ _ _ _ _ _ _ _ _ _)
   | (with_reducible exact ih8 _ _ _ _ _ _ _ _ _ _)
   | (with_reducible exact ih9 _ _ _ _ _ _ _ _ _ _)
   | (with_reducible exact ih10 _ _ _ _ _ _ _)
   | (with_reducible exact ih11 _ _ _ _ _ _ _)
   | (with_reducible exact Y8.mono _ _ _ _ _ _ _)
   | (with_reducible exact Y13.mono _ _ _)
   | (with_reducible exact Y10.mono _ _)
   | (with_reducible exact Y12.mono _ _)
   | (with_reducible exact Y9.mono _ _)
   | (with_reducible exact LeO.refl _)
   | (with_reducible exact LeO.none _)
   | (with_reducible refine LeO.ite ?_ ?_)
   | (with_reducible refine LeO.bind ?_ (fun _=>?_))
   | exact ih0 _ _ _ _ _ _ _ _ _ _
   | exact ih1 _ _ _ _ _ _ _ _ _
   | exact ih2 _ _ _ _ _ _ _ _ _ _
   | exact ih3 _ _ _ _ _ _ _ _ _ _ _ _ _
   | exact ih4 _ _ _ _ _ _ _ _ _ _ _ _
   | exact ih5 _ _ _ _ _ _ _ _ _ _ _ _
   | exact ih6 _ _ _ _ _ _ _ _ _ _ _
   | exact ih7 _ _ _ _ _ _ _ _ _ _ _
   | exact ih8 _ _ _ _ _ _ _ _ _ _
   | exact ih9 _ _ _ _ _ _ _ _ _ _
   | exact ih10 _ _ _ _ _ _ _
   | exact ih11 _ _ _ _ _ _ _
   | exact Y8.mono _ _ _ _ _ _ _
   | exact Y13.mono _ _ _
   | exact Y10.mono _ _
   | exact Y12.mono _ _
   | exact Y9.mono _ _
   | exact LeO.none _
   | refine LeO.ite ?_ ?_
   | refine LeO.bind ?_ (fun _=>?_)
  ·intro y0 y1 y2 y3 y4 y5 y6 y7 y8 y9 y10 y11
   unfold Y1.j4
   repeat' first
   | (with_reducible exact ih0 _ _ _ _ _ _ _ _ _ _)
   | (with_reducible exact ih1 _ _ _ _ _ _ _ _ _)
   | (with_reducible exact ih2 _ _ _ _ _ _ _ _ _ _)
   | (with_reducible exact ih3 _ _ _ _ _ _ _ _ _ _ _ _ _)
   | (with_reducible exact ih4 _ _ _ _ _ _ _ _ _ _ _ _)
   | (with_reducible exact ih5 _ _ _ _ _ _ _ _ _ _ _ _)
   | (with_reducible exact ih6 _ _ _ _ _ _ _ _ _ _ _)
   | (with_reducible exact ih7 _ _ _ _ _ _ _ _ _ _ _)
   | (with_reducible exact ih8 _ _ _ _ _ _ _ _ _ _)
   | (with_reducible exact ih9 _ _ _ _ _ _ _ _ _ _)
   | (with_reducible exact ih10 _ _ _ _ _ _ _)
   | (with_reducible exact ih11 _ _ _ _ _ _ _)
   | (with_reducible exact Y8.mono _ _ _ _ _ _ _)
   | (with_reducible exact Y13.mono _ _ _)
   | (with_reducible exact Y10.mono _ _)
   | (with_reducible exact Y12.mono _ _)
   | (with_reducible exact Y9.mono _ _)
   | (with_reducible exact LeO.refl _)
   | (with_reducible exact LeO.none _)
   | (with_reducible refine LeO.ite ?_ ?_)
   | (with_reducible refine LeO.bind ?_ (fun _=>?_))
   | exact ih0 _ _ _ _ _ _ _ _ _ _
   | exact ih1 _ _ _ _ _ _ _ _ _
   | exact ih2 _ _ _ _ _ _ _ _ _ _
   | exact ih3 _ _ _ _ _ _ _ _ _ _ _ _ _
   | exact ih4 _ _ _ _ _ _ _ _ _ _ _ _
   | exact ih5 _ _ _ _ _ _ _ _ _ _ _ _
   | exact ih6 _ _ _ _ _ _ _ _ _ _ _
   | exact ih7 _ _ _ _ _ _ _ _ _ _ _
   | exact ih8 _ _ _ _ _ _ _ _ _ _
   | exact ih9 _ _ _ _ _ _ _ _ _ _
   | exact ih10 _ _ _ _ _ _ _
   | exact ih11 _ _ _ _ _ _ _
   | exact Y8.mono _ _ _ _ _ _ _
   | exact Y13.mono _ _ _
   | exact Y10.mono _ _
   | exact Y12.mono _ _
   | exact Y9.mono _ _
   | exact LeO.none _
   | refine LeO.ite ?_ ?_
   | refine LeO.bind ?_ (fun _=>?_)
  ·intro y0 y1 y2 y3 y4 y5 y6 y7 y8 y9 y10 y11
   unfold Y1.j5
   repeat' first
   | (with_reducible exact ih0 _ _ _ _ _ _ _ _ _ _)
   | (with_reducible exact ih1 _ _ _ _ _ _ _ _ _)
   | (with_reducible exact ih2 _ _ _ _ _ _ _ _ _ _)
   | (with_reducible exact ih3 _ _ _ _ _ _ _ _ _ _ _ _ _)
   | (with_reducible exact ih4 _ _ _ _ _ _ _ _ _ _ _ _)
   | (with_reducible exact ih5 _ _ _ _ _ _ _ _ _ _ _ _)
   | (with_reducible exact ih6 _ _ _ _ _ _ _ _ _ _ _)
   | (with_reducible exact ih7 _ _ _ _ _ _ _ _ _ _ _)
   | (with_reducible exact ih8 _ _ _ _ _ _ _ _ _ _)
   | (with_reducible exact ih9 _ _ _ _ _ _ _ _ _ _)
   | (with_reducible exact ih10 _ _ _ _ _ _ _)
   | (with_reducible exact ih11 _ _ _ _ _ _ _)
   | (with_reducible exact Y8.mono _ _ _ _ _ _ _)
   | (with_reducible exact Y13.mono _ _ _)
   | (with_reducible exact Y10.mono _ _)
   | (with_reducible exact Y12.mono _ _)
   | (with_reducible exact Y9.mono _ _)
   | (with_reducible exact LeO.refl _)
   | (with_reducible exact LeO.none _)
   | (with_reducible refine LeO.ite ?_ ?_)
   | (with_reducible refine LeO.bind ?_ (fun _=>?_))
   | exact ih0 _ _ _ _ _ _ _ _ _ _
   | exact ih1 _ _ _ _ _ _ _ _ _
   | exact ih2 _ _ _ _ _ _ _ _ _ _
   | exact ih3 _ _ _ _ _ _ _ _ _ _ _ _ _
   | exact ih4 _ _ _ _ _ _ _ _ _ _ _ _
   | exact ih5 _ _ _ _ _ _ _ _ _ _ _ _
   | exact ih6 _ _ _ _ _ _ _ _ _ _ _
   | exact ih7 _ _ _ _ _ _ _ _ _ _ _
   | exact ih8 _ _ _ _ _ _ _ _ _ _
   | exact ih9 _ _ _ _ _ _ _ _ _ _
   | exact ih10 _ _ _ _ _ _ _
   | exact ih11 _ _ _ _ _ _ _
   | exact Y8.mono _ _ _ _ _ _ _
   | exact Y13.mono _ _ _
   | exact Y10.mono _ _
   | exact Y12.mono _ _
   | exact Y9.mono _ _
   | exact LeO.none _
   | refine LeO.ite ?_ ?_
   | refine LeO.bind ?_ (fun _=>?_)
  ·intro y0 y1 y2 y3 y4 y5 y6 y7 y8 y9 y10
   unfold Y1.j6
   repeat' first
   | (with_reducible exact ih0 _ _ _ _ _ _ _ _ _ _)
   | (with_reducible exact ih1 _ _ _ _ _ _ _ _ _)
   | (with_reducible exact ih2 _ _ _ _ _ _ _ _ _ _)
   | (with_reducible exact ih3 _ _ _ _ _ _ _ _ _ _ _ _ _)
   | (with_reducible exact ih4 _ _ _ _ _ _ _ _ _ _ _ _)
   | (with_reducible exact ih5 _ _ _ _ _ _ _ _ _ _ _ _)
   | (with_reducible exact ih6 _ _ _ _ _ _ _ _ _ _ _)
   | (with_reducible exact ih7 _ _ _ _ _ _ _ _ _ _ _)
   | (with_reducible exact ih8 _ _ _ _ _ _ _ _ _ _)
   | (with_reducible exact ih9 _ _ _ _ _ _ _ _ _ _)
   | (with_reducible exact ih10 _ _ _ _ _ _ _)
   | (with_reducible exact ih11 _ _ _ _ _ _ _)
   | (with_reducible exact Y8.mono _ _ _ _ _ _ _)
   | (with_reducible exact Y13.mono _ _ _)
   | (with_reducible exact Y10.mono _ _)
   | (with_reducible exact Y12.mono _ _)
   | (with_reducible exact Y9.mono _ _)
   | (with_reducible exact LeO.refl _)
   | (with_reducible exact LeO.none _)
   | (with_reducible refine LeO.ite ?_ ?_)
   | (with_reducible refine LeO.bind ?_ (fun _=>?_))
   | exact ih0 _ _ _ _ _ _ _ _ _ _
   | exact ih1 _ _ _ _ _ _ _ _ _
   | exact ih2 _ _ _ _ _ _ _ _ _ _
   | exact ih3 _ _ _ _ _ _ _ _ _ _ _ _ _
   | exact ih4 _ _ _ _ _ _ _ _ _ _ _ _
   | exact ih5 _ _ _ _ _ _ _ _ _ _ _ _
   | exact ih6 _ _ _ _ _ _ _ _ _ _ _
   | exact ih7 _ _ _ _ _ _ _ _ _ _ _
   | exact ih8 _ _ _ _ _ _ _ _ _ _
   | exact ih9 _ _ _ _ _ _ _ _ _ _
   | exact ih10 _ _ _ _ _ _ _
   | exact ih11 _ _ _ _ _ _ _
   | exact Y8.mono _ _ _ _ _ _ _
   | exact Y13.mono _ _ _
   | exact Y10.mono _ _
   | exact Y12.mono _ _
   | exact Y9.mono _ _
   | exact LeO.none _
   | refine LeO.ite ?_ ?_
   | refine LeO.bind ?_ (fun _=>?_)
  ·intro y0 y1 y2 y3 y4 y5 y6 y7 y8 y9 y10
   unfold Y1.j7
   repeat' first
   | (with_reducible exact ih0 _ _ _ _ _ _ _ _ _ _)
   | (with_reducible exact ih1 _ _ _ _ _ _ _ _ _)
   | (with_reducible exact ih2 _ _ _ _ _ _ _ _ _ _)
   | (with_reducible exact ih3 _ _ _ _ _ _ _ _ _ _ _ _ _)
   | (with_reducible exact ih4 _ _ _ _ _ _ _ _ _ _ _ _)
   | (with_reducible exact ih5 _ _ _ _ _ _ _ _ _ _ _ _)
   | (with_reducible exact ih6 _ _ _ _ _ _ _ _ _ _ _)
   | (with_reducible exact ih7 _ _ _ _ _ _ _ _ _ _ _)
   | (with_reducible exact ih8 _ _ _ _ _ _ _ _ _ _)
   | (with_reducible exact ih9 _ _ _ _ _ _ _ _ _ _)
   | (with_reducible exact ih10 _ _ _ _ _ _ _)
   | (with_reducible exact ih11 _ _ _ _ _ _ _)
   | (with_reducible exact Y8.mono _ _ _ _ _ _ _)
   | (with_reducible exact Y13.mono _ _ _)
   | (with_reducible exact Y10.mono _ _)
   | (with_reducible exact Y12.mono _ _)
   | (with_reducible exact Y9.mono _ _)
   | (with_reducible exact LeO.refl _)
   | (with_reducible exact LeO.none _)
   | (with_reducible refine LeO.ite ?_ ?_)
   | (with_reducible refine LeO.bind ?_ (fun _=>?_))
   | exact ih0 _ _ _ _ _ _ _ _ _ _
   | exact ih1 _ _ _ _ _ _ _ _ _
   | exact ih2 _ _ _ _ _ _ _ _ _ _
   | exact ih3 _ _ _ _ _ _ _ _ _ _ _ _ _
   | exact ih4 _ _ _ _ _ _ _ _ _ _ _ _
   | exact ih5 _ _ _ _ _ _ _ _ _ _ _ _
   | exact ih6 _ _ _ _ _ _ _ _ _ _ _
   | exact ih7 _ _ _ _ _ _ _ _ _ _ _
   | exact ih8 _ _ _ _ _ _ _ _ _ _
   | exact ih9 _ _ _ _ _ _ _ _ _ _
   | exact ih10 _ _ _ _ _ _ _
   | exact ih11 _ _ _ _ _ _ _
   | exact Y8.mono _ _ _ _ _ _ _
   | exact Y13.mono _ _ _
   | exact Y10.mono _ _
   | exact Y12.mono _ _
   | exact Y9.mono _ _
   | exact LeO.none _
   | refine LeO.ite ?_ ?_
   | refine LeO.bind ?_ (fun _=>?_)
  ·intro y0 y1 y2 y3 y4 y5 y6 y7 y8 y9
   unfold Y1.j8
   repeat' first
   | (with_reducible exact ih0 _ _ _ _ _ _ _ _ _ _)
   | (with_reducible exact ih1 _ _ _ _ _ _ _ _ _)
   | (with_reducible exact ih2 _ _ _ _ _ _ _ _ _ _)
   | (with_reducible exact ih3 _ _ _ _ _ _ _ _ _ _ _ _ _)
   | (with_reducible exact ih4 _ _ _ _ _ _ _ _ _ _ _ _)
   | (with_reducible exact ih5 _ _ _ _ _ _ _ _ _ _ _ _)
   | (with_reducible exact ih6 _ _ _ _ _ _ _ _ _ _ _)
   | (with_reducible exact ih7 _ _ _ _ _ _ _ _ _ _ _)
   | (with_reducible exact ih8 _ _ _ _ _ _ _ _ _ _)
   | (with_reducible exact ih9 _ _ _ _ _ _ _ _ _ _)
   | (with_reducible exact ih10 _ _ _ _ _ _ _)
   | (with_reducible exact ih11 _ _ _ _ _ _ _)
   | (with_reducible exact Y8.mono _ _ _ _ _ _ _)
   | (with_reducible exact Y13.mono _ _ _)
   | (with_reducible exact Y10.mono _ _)
   | (with_reducible exact Y12.mono _ _)
   | (with_reducible exact Y9.mono _ _)
   | (with_reducible exact LeO.refl _)
   | (with_reducible exact LeO.none _)
   | (with_reducible refine LeO.ite ?_ ?_)
   | (with_reducible refine LeO.bind ?_ (fun _=>?_))
   | exact ih0 _ _ _ _ _ _ _ _ _ _
   | exact ih1 _ _ _ _ _ _ _ _ _
   | exact ih2 _ _ _ _ _ _ _ _ _ _
   | exact ih3 _ _ _ _ _ _ _ _ _ _ _ _ _
   | exact ih4 _ _ _ _ _ _ _ _ _ _ _ _
   | exact ih5 _ _ _ _ _ _ _ _ _ _ _ _
   | exact ih6 _ _ _ _ _ _ _ _ _ _ _
   | exact ih7 _ _ _ _ _ _ _ _ _ _ _
   | exact ih8 _ _ _ _ _ _ _ _ _ _
   | exact ih9 _ _ _ _ _ _ _ _ _ _
   | exact ih10 _ _ _ _ _ _ _
   | exact ih11 _ _ _ _ _ _ _
   | exact Y8.mono _ _ _ _ _ _ _
   | exact Y13.mono _ _ _
   | exact Y10.mono _ _
   | exact Y12.mono _ _
   | exact Y9.mono _ _
   | exact LeO.none _
   | refine LeO.ite ?_ ?_
   | refine LeO.bind ?_ (fun _=>?_)
  ·intro y0 y1 y2 y3 y4 y5 y6 y7 y8 y9
   unfold Y1.j9
   repeat' first
   | (with_reducible exact ih0 _ _ _ _ _ _ _ _ _ _)
   | (with_reducible exact ih1 _ _ _ _ _ _ _ _ _)
   | (with_reducible exact ih2 _ _ _ _ _ _ _ _ _ _)
   | (with_reducible exact ih3 _ _ _ _ _ _ _ _ _ _ _ _ _)
   | (with_reducible exact ih4 _ _ _ _ _ _ _ _ _ _ _ _)
   | (with_reducible exact ih5 _ _ _ _ _ _ _ _ _ _ _ _)
   | (with_reducible exact ih6 _ _ _ _ _ _ _ _ _ _ _)
   | (with_reducible exact ih7 _ _ _ _ _ _ _ _ _ _ _)
   | (with_reducible exact ih8 _ _ _ _ _ _ _ _ _ _)
   | (with_reducible exact ih9 _ _ _ _ _ _ _ _ _ _)
   | (with_reducible exact ih10 _ _ _ _ _ _ _)
   | (with_reducible exact ih11 _ _ _ _ _ _ _)
   | (with_reducible exact Y8.mono _ _ _ _ _ _ _)
   | (with_reducible exact Y13.mono _ _ _)
   | (with_reducible exact Y10.mono _ _)
   | (with_reducible exact Y12.mono _ _)
   | (with_reducible exact Y9.mono _ _)
   | (with_reducible exact LeO.refl _)
   | (with_reducible exact LeO.none _)
   | (with_reducible refine LeO.ite ?_ ?_)
   | (with_reducible refine LeO.bind ?_ (fun _=>?_))
   | exact ih0 _ _ _ _ _ _ _ _ _ _
   | exact ih1 _ _ _ _ _ _ _ _ _
   | exact ih2 _ _ _ _ _ _ _ _ _ _
   | exact ih3 _ _ _ _ _ _ _ _ _ _ _ _ _
   | exact ih4 _ _ _ _ _ _ _ _ _ _ _ _
   | exact ih5 _ _ _ _ _ _ _ _ _ _ _ _
   | exact ih6 _ _ _ _ _ _ _ _ _ _ _
   | exact ih7 _ _ _ _ _ _ _ _ _ _ _
   | exact ih8 _ _ _ _ _ _ _ _ _ _
   | exact ih9 _ _ _ _ _ _ _ _ _ _
   | exact ih10 _ _ _ _ _ _ _
   | exact ih11 _ _ _ _ _ _ _
   | exact Y8.mono _ _ _ _ _ _ _
   | exact Y13.mono _ _ _
   | exact Y10.mono _ _
   | exact Y12.mono _ _
   | exact Y9.mono _ _
   | exact LeO.none _
   | refine LeO.ite ?_ ?_
   | refine LeO.bind ?_ (fun _=>?_)
  ·intro y0 y1 y2 y3 y4 y5 y6
   unfold Y1.j10
   repeat' first
   | (with_reducible exact ih0 _ _ _ _ _ _ _ _ _ _)
   | (with_reducible exact ih1 _ _ _ _ _ _ _ _ _)
   | (with_reducible exact ih2 _ _ _ _ _ _ _ _ _ _)
   | (with_reducible exact ih3 _ _ _ _ _ _ _ _ _ _ _ _ _)
   | (with_reducible exact ih4 _ _ _ _ _ _ _ _ _ _ _ _)
   | (with_reducible exact ih5 _ _ _ _ _ _ _ _ _ _ _ _)
   | (with_reducible exact ih6 _ _ _ _ _ _ _ _ _ _ _)
   | (with_reducible exact ih7 _ _ _ _ _ _ _ _ _ _ _)
   | (with_reducible exact ih8 _ _ _ _ _ _ _ _ _ _)
   | (with_reducible exact ih9 _ _ _ _ _ _ _ _ _ _)
   | (with_reducible exact ih10 _ _ _ _ _ _ _)
   | (with_reducible exact ih11 _ _ _ _ _ _ _)
   | (with_reducible exact Y8.mono _ _ _ _ _ _ _)
   | (with_reducible exact Y13.mono _ _ _)
   | (with_reducible exact Y10.mono _ _)
   | (with_reducible exact Y12.mono _ _)
   | (with_reducible exact Y9.mono _ _)
   | (with_reducible exact LeO.refl _)
   | (with_reducible exact LeO.none _)
   | (with_reducible refine LeO.ite ?_ ?_)
   | (with_reducible refine LeO.bind ?_ (fun _=>?_))
   | exact ih0 _ _ _ _ _ _ _ _ _ _
   | exact ih1 _ _ _ _ _ _ _ _ _
   | exact ih2 _ _ _ _ _ _ _ _ _ _
   | exact ih3 _ _ _ _ _ _ _ _ _ _ _ _ _
   | exact ih4 _ _ _ _ _ _ _ _ _ _ _ _
   | exact ih5 _ _ _ _ _ _ _ _ _ _ _ _
   | exact ih6 _ _ _ _ _ _ _ _ _ _ _
   | exact ih7 _ _ _ _ _ _ _ _ _ _ _
   | exact ih8 _ _ _ _ _ _ _ _ _ _
   | exact ih9 _ _ _ _ _ _ _ _ _ _
   | exact ih10 _ _ _ _ _ _ _
   | exact ih11 _ _ _ _ _ _ _
   | exact Y8.mono _ _ _ _ _ _ _
   | exact Y13.mono _ _ _
   | exact Y10.mono _ _
   | exact Y12.mono _ _
   | exact Y9.mono _ _
   | exact LeO.none _
   | refine LeO.ite ?_ ?_
   | refine LeO.bind ?_ (fun _=>?_)
  ·intro y0 y1 y2 y3 y4 y5 y6
   unfold Y1.j11
   repeat' first
   | (with_reducible exact ih0 _ _ _ _ _ _ _ _ _ _)
   | (with_reducible exact ih1 _ _ _ _ _ _ _ _ _)
   | (with_reducible exact ih2 _ _ _ _ _ _ _ _ _ _)
   | (with_reducible exact ih3 _ _ _ _ _ _ _ _ _ _ _ _ _)
   | (with_reducible exact ih4 _ _ _ _ _ _ _ _ _ _ _ _)
   | (with_reducible exact ih5 _ _ _ _ _ _ _ _ _ _ _ _)
   | (with_reducible exact ih6 _ _ _ _ _ _ _ _ _ _ _)
   | (with_reducible exact ih7 _ _ _ _ _ _ _ _ _ _ _)
   | (with_reducible exact ih8 _ _ _ _ _ _ _ _ _ _)
   | (with_reducible exact ih9 _ _ _ _ _ _ _ _ _ _)
   | (with_reducible exact ih10 _ _ _ _ _ _ _)
   | (with_reducible exact ih11 _ _ _ _ _ _ _)
   | (with_reducible exact Y8.mono _ _ _ _ _ _ _)
   | (with_reducible exact Y13.mono _ _ _)
   | (with_reducible exact Y10.mono _ _)
   | (with_reducible exact Y12.mono _ _)
   | (with_reducible exact Y9.mono _ _)
   | (with_reducible exact LeO.refl _)
   | (with_reducible exact LeO.none _)
   | (with_reducible refine LeO.ite ?_ ?_)
   | (with_reducible refine LeO.bind ?_ (fun _=>?_))
   | exact ih0 _ _ _ _ _ _ _ _ _ _
   | exact ih1 _ _ _ _ _ _ _ _ _
   | exact ih2 _ _ _ _ _ _ _ _ _ _
   | exact ih3 _ _ _ _ _ _ _ _ _ _ _ _ _
   | exact ih4 _ _ _ _ _ _ _ _ _ _ _ _
   | exact ih5 _ _ _ _ _ _ _ _ _ _ _ _
   | exact ih6 _ _ _ _ _ _ _ _ _ _ _
   | exact ih7 _ _ _ _ _ _ _ _ _ _ _
   | exact ih8 _ _ _ _ _ _ _ _ _ _
   | exact ih9 _ _ _ _ _ _ _ _ _ _
   | exact ih10 _ _ _ _ _ _ _
   | exact ih11 _ _ _ _ _ _ _
   | exact Y8.mono _ _ _ _ _ _ _
   | exact Y13.mono _ _ _
   | exact Y10.mono _ _
   | exact Y12.mono _ _
   | exact Y9.mono _ _
   | exact LeO.none _
   | refine LeO.ite ?_ ?_
   | refine LeO.bind ?_ (fun _=>?_)
theorem Y1.mono:∀ a0 k,LeO (Y1.f k a0) (Y1.f (k+1) a0):=by
 intro a0 k
 obtain ⟨ih0,ih1,ih2,ih3,ih4,ih5,ih6,ih7,ih8,ih9,ih10,ih11⟩:=Y1.mono_l k
 unfold Y1.f
 repeat' first
   | (with_reducible exact ih0 _ _ _ _ _ _ _ _ _ _)
   | (with_reducible exact ih1 _ _ _ _ _ _ _ _ _)
   | (with_reducible exact ih2 _ _ _ _ _ _ _ _ _ _)
   | (with_reducible exact ih3 _ _ _ _ _ _ _ _ _ _ _ _ _)
   | (with_reducible exact ih4 _ _ _ _ _ _ _ _ _ _ _ _)
   | (with_reducible exact ih5 _ _ _ _ _ _ _ _ _ _ _ _)
   | (with_reducible exact ih6 _ _ _ _ _ _ _ _ _ _ _)
   | (with_reducible exact ih7 _ _ _ _ _ _ _ _ _ _ _)
   | (with_reducible exact ih8 _ _ _ _ _ _ _ _ _ _)
   | (with_reducible exact ih9 _ _ _ _ _ _ _ _ _ _)
   | (with_reducible exact ih10 _ _ _ _ _ _ _)
   | (with_reducible exact ih11 _ _ _ _ _ _ _)
   | (with_reducible exact Y8.mono _ _ _ _ _ _ _)
   | (with_reducible exact Y13.mono _ _ _)
   | (with_reducible exact Y10.mono _ _)
   | (with_reducible exact Y12.mono _ _)
   | (with_reducible exact Y9.mono _ _)
   | (with_reducible exact LeO.refl _)
   | (with_reducible exact LeO.none _)
   | (with_reducible refine LeO.ite ?_ ?_)
   | (with_reducible refine LeO.bind ?_ (fun _=>?_))
   | exact ih0 _ _ _ _ _ _ _ _ _ _
   | exact ih1 _ _ _ _ _ _ _ _ _
   | exact ih2 _ _ _ _ _ _ _ _ _ _
   | exact ih3 _ _ _ _ _ _ _ _ _ _ _ _ _
   | exact ih4 _ _ _ _ _ _ _ _ _ _ _ _
   | exact ih5 _ _ _ _ _ _ _ _ _ _ _ _
   | exact ih6 _ _ _ _ _ _ _ _ _ _ _
   | exact ih7 _ _ _ _ _ _ _ _ _ _ _
   | exact ih8 _ _ _ _ _ _ _ _ _ _
   | exact ih9 _ _ _ _ _ _ _ _ _ _
   | exact ih10 _ _ _ _ _ _ _
   | exact ih11 _ _ _ _ _ _ _
   | exact Y8.mono _ _ _ _ _ _ _
   | exact Y13.mono _ _ _
   | exact Y10.mono _ _
   | exact Y12.mono _ _
   | exact Y9.mono _ _
   | exact LeO.none _
   | refine LeO.ite ?_ ?_
   | refine LeO.bind ?_ (fun _=>?_)
set_option maxHeartbeats 8000000 in
set_option maxRecDepth 100000 in
theorem Y1.calls (k:Nat) (a0:ByteArray) (r1:Int) (r2:Int) (r3:Int) (r4:ByteArray) (r5:ByteArray) (r6:Int) (r7:Int) (w:World) (h:Y1.f k a0=some (r1,r2,r3,r4,r5,r6,r7)) :
  Calls Tryd.prog 4 #[.string a0] w fun e w'=>e = .returned (.agg #[.int .i64 r1,.int .i64 r2,.int .i64 r3,.string r4,.string r5,.int .i64 r6,.int .i64 r7])∧Below w.heap.size w w':=by
 have hu25:=Tryd.underlying25
 have hu23:=Tryd.underlying23
 have HB:=Aside0.mk (Below.refl w.heap.size w)
 have H:(if (a0.size:Int)>8000 then (some (0,0,0,(⟨#[]⟩:ByteArray),(⟨#[]⟩:ByteArray),0,2)) else ((Y13.f k a0 32).bind fun t144=>(if 0<(t144.length:Int) then (if ((rdOf ByteArray.empty t144 0).size:Int)>1 then (if 0<((rdOf ByteArray.empty t144 0).size:Int) then (if (bt (rdOf ByteArray.empty t144 0) 0)=33 then (Y1.j0 k a0 t144 0 (decide ((t144.length:Int)>1)) 0 0 0 (⟨#[]⟩:ByteArray) (⟨#[]⟩:ByteArray) (-1)) else (Y1.j0 k a0 t144 0 false 0 0 0 (⟨#[]⟩:ByteArray) (⟨#[]⟩:ByteArray) (-1))) else (none)) else (Y1.j0 k a0 t144 0 false 0 0 0 (⟨#[]⟩:ByteArray) (⟨#[]⟩:ByteArray) (-1))) else (none))))=some (r1,r2,r3,r4,r5,r6,r7):=h
 clear h
 by_cases c2:(a0.size:Int)>8000
 ·rw [if_pos c2] at H
  have c2b0:decide (8000<(a0.size:Int))=true:=decide_eq_true c2
  have c2b1:decide (8000<a0.size)=true:=decide_eq_true (by omega)
  clear c2
  simp only [Option.some.injEq,Prod.mk.injEq] at H
  obtain ⟨rfl,rfl,rfl,rfl,rfl,rfl,rfl⟩:=H
  go_enter Tryd.func4,Tryd.ntmps4
  go_wp2_with (first | ((with_reducible refine gate_dst (N:=2) rfl ?_);(try (refine gate_guard (by rfl) ?_;dsimp only));refine box_event ?hg (N:=2) ?hd (cs:=#[.int .i64 0,.int .i64 0,.int .i64 0,.string (⟨#[]⟩:ByteArray),.string (⟨#[]⟩:ByteArray),.int .i64 0,.int .i64 0]) (t:=25) ?hr ?_;(case hd=>rfl);(case hg=>rfl);(case hr=>first | (go_simp;done) | (go_simp;rfl));intro gb143 hg w3 hbox hb;have n0_:=Aside0.mk (below_step (by repeat (first | (with_reducible first | exact HB.out | apply below_alloc | apply pw_below_drewN | apply below_drew1) | exact HB.out)) hb);have n1_:=Aside0.mk (hbox);have n2_:=Aside0.mk ((by rw [hg];exact (below_size (by repeat (first | (with_reducible first | exact HB.out | apply below_alloc | apply pw_below_drewN | apply below_drew1) | exact HB.out))):w.heap.size≤gb143));have n3_:=Aside0.mk ((by rw [hg];exact (below_size (by repeat (first | (with_reducible first | exact HB.out | apply below_alloc | apply pw_below_drewN | apply below_drew1) | exact HB.out))):w.heap.size≤gb143));clear HB;have HB:=n0_;have BK143:=n1_;have GW143:=n2_;have GE143:=n3_;clear n0_ n1_ n2_ n3_;clear hb hbox hg;have hcz4_0:w3.cell? ⟨gb143,0,none⟩=some (.int .i64 0):=(blk_cell BK143.out 0).trans rfl;have hcz4_1:w3.cell? ⟨gb143,1,none⟩=some (.int .i64 0):=(blk_cell BK143.out 1).trans rfl;have hcz4_2:w3.cell? ⟨gb143,2,none⟩=some (.int .i64 0):=(blk_cell BK143.out 2).trans rfl;have hcz4_3:w3.cell? ⟨gb143,3,none⟩=some (.string (⟨#[]⟩:ByteArray)):=(blk_cell BK143.out 3).trans rfl;have hcz4_4:w3.cell? ⟨gb143,4,none⟩=some (.string (⟨#[]⟩:ByteArray)):=(blk_cell BK143.out 4).trans rfl;have hcz4_5:w3.cell? ⟨gb143,5,none⟩=some (.int .i64 0):=(blk_cell BK143.out 5).trans rfl;have hcz4_6:w3.cell? ⟨gb143,6,none⟩=some (.int .i64 0):=(blk_cell BK143.out 6).trans rfl;have hfz4_0:=blk_frozen BK143.out 0;have hfz4_1:=blk_frozen BK143.out 1;have hfz4_2:=blk_frozen BK143.out 2;have hfz4_3:=blk_frozen BK143.out 3;have hfz4_4:=blk_frozen BK143.out 4;have hfz4_5:=blk_frozen BK143.out 5;have hfz4_6:=blk_frozen BK143.out 6))
  refine bodyPost_ret (results_cell_row rfl _ _ gb143 25 #[.int .i64 0,.int .i64 0,.int .i64 0,.string (⟨#[]⟩:ByteArray),.string (⟨#[]⟩:ByteArray),.int .i64 0,.int .i64 2] (0,0) _ rfl (by (with_reducible repeat (first | refine blk_drewN ?_ _ | refine blk_drew ?_ | refine blk_alloc ?_ _));refine blk_put (cs:=#[.int .i64 0,.int .i64 0,.int .i64 0,.string (⟨#[]⟩:ByteArray),.string (⟨#[]⟩:ByteArray),.int .i64 0,.int .i64 0]) ?_ 6 _ rfl;(with_reducible repeat (first | refine blk_drewN ?_ _ | refine blk_drew ?_ | refine blk_alloc ?_ _));refine blk_put (cs:=#[.int .i64 0,.int .i64 0,.int .i64 0,.string (⟨#[]⟩:ByteArray),.string (⟨#[]⟩:ByteArray),.int .i64 0,.int .i64 0]) ?_ 5 _ rfl;(with_reducible repeat (first | refine blk_drewN ?_ _ | refine blk_drew ?_ | refine blk_alloc ?_ _));refine blk_put (cs:=#[.int .i64 0,.int .i64 0,.int .i64 0,.string (⟨#[]⟩:ByteArray),.string (⟨#[]⟩:ByteArray),.int .i64 0,.int .i64 0]) ?_ 4 _ rfl;(with_reducible repeat (first | refine blk_drewN ?_ _ | refine blk_drew ?_ | refine blk_alloc ?_ _));refine blk_put (cs:=#[.int .i64 0,.int .i64 0,.int .i64 0,.string (⟨#[]⟩:ByteArray),.string (⟨#[]⟩:ByteArray),.int .i64 0,.int .i64 0]) ?_ 3 _ rfl;(with_reducible repeat (first | refine blk_drewN ?_ _ | refine blk_drew ?_ | refine blk_alloc ?_ _));refine blk_put (cs:=#[.int .i64 0,.int .i64 0,.int .i64 0,.string (⟨#[]⟩:ByteArray),.string (⟨#[]⟩:ByteArray),.int .i64 0,.int .i64 0]) ?_ 2 _ rfl;(with_reducible repeat (first | refine blk_drewN ?_ _ | refine blk_drew ?_ | refine blk_alloc ?_ _));refine blk_put (cs:=#[.int .i64 0,.int .i64 0,.int .i64 0,.string (⟨#[]⟩:ByteArray),.string (⟨#[]⟩:ByteArray),.int .i64 0,.int .i64 0]) ?_ 1 _ rfl;(with_reducible repeat (first | refine blk_drewN ?_ _ | refine blk_drew ?_ | refine blk_alloc ?_ _));refine blk_put (cs:=#[.int .i64 0,.int .i64 0,.int .i64 0,.string (⟨#[]⟩:ByteArray),.string (⟨#[]⟩:ByteArray),.int .i64 0,.int .i64 0]) ?_ 0 _ rfl;(with_reducible repeat (first | refine blk_drewN ?_ _ | refine blk_drew ?_ | refine blk_alloc ?_ _));exact BK143.out) Tryd.underlying25 rfl (by kernel_rfl)) rfl ?_
  exact ⟨by first | rfl | (simp [errW_none,errW_some] <;> rfl) | (simp [*,errW_none,errW_some] <;> rfl),by repeat (first | (with_reducible first | exact HB.out | apply below_alloc | apply pw_below_drewN | apply below_drew1 | refine below_set ?_ GE143.out) | exact HB.out)⟩
 ·rw [if_neg c2] at H
  have c2b0:decide (8000<(a0.size:Int))=false:=decide_eq_false c2
  have c2b1:decide (8000<a0.size)=false:=decide_eq_false (by omega)
  clear c2
  replace H:=Option.bind_eq_some_iff.mp H
  obtain ⟨t144,A50,H⟩:=H
  replace H:(if 0<(t144.length:Int) then (if ((rdOf ByteArray.empty t144 0).size:Int)>1 then (if 0<((rdOf ByteArray.empty t144 0).size:Int) then (if (bt (rdOf ByteArray.empty t144 0) 0)=33 then (Y1.j0 k a0 t144 0 (decide ((t144.length:Int)>1)) 0 0 0 (⟨#[]⟩:ByteArray) (⟨#[]⟩:ByteArray) (-1)) else (Y1.j0 k a0 t144 0 false 0 0 0 (⟨#[]⟩:ByteArray) (⟨#[]⟩:ByteArray) (-1))) else (none)) else (Y1.j0 k a0 t144 0 false 0 0 0 (⟨#[]⟩:ByteArray) (⟨#[]⟩:ByteArray) (-1))) else (none))=some (r1,r2,r3,r4,r5,r6,r7):=H
  have A5:=Aside0.mk A50
  clear A50
  have HC6:=Aside0.mk H
  clear H
  go_enter Tryd.func4,Tryd.ntmps4
  go_upto_region 6 with (first | ((with_reducible refine gate_dst (N:=2) rfl ?_);(try (refine gate_guard (by rfl) ?_;dsimp only));refine box_event ?hg (N:=2) ?hd (cs:=#[.int .i64 0,.int .i64 0,.int .i64 0,.string (⟨#[]⟩:ByteArray),.string (⟨#[]⟩:ByteArray),.int .i64 0,.int .i64 0]) (t:=25) ?hr ?_;(case hd=>rfl);(case hg=>rfl);(case hr=>first | (go_simp;done) | (go_simp;rfl));intro gb143 hg w7 hbox hb;have n0_:=Aside0.mk (below_step (by repeat (first | (with_reducible first | exact HB.out | apply below_alloc | apply pw_below_drewN | apply below_drew1) | exact HB.out)) hb);have n1_:=Aside0.mk (hbox);have n2_:=Aside0.mk ((by rw [hg];exact (below_size (by repeat (first | (with_reducible first | exact HB.out | apply below_alloc | apply pw_below_drewN | apply below_drew1) | exact HB.out))):w.heap.size≤gb143));have n3_:=Aside0.mk ((by rw [hg];exact (below_size (by repeat (first | (with_reducible first | exact HB.out | apply below_alloc | apply pw_below_drewN | apply below_drew1) | exact HB.out))):w.heap.size≤gb143));clear HB;have HB:=n0_;have BK143:=n1_;have GW143:=n2_;have GE143:=n3_;clear n0_ n1_ n2_ n3_;clear hb hbox hg) | ((with_reducible refine gate_callee (f:=7) rfl ?_);refine goesL_ (some 16) rfl rfl Tryd.func7 (by kernel_rfl) rfl #[.string a0,.int .u8 32] rfl (by (try simp only [List.map_toArray,List.map_cons,List.map_nil]);first | done | rfl | (simp only [List.length_drop,List.length_take];rfl)) ?_;(with_reducible refine (Y13.calls k a0 32 t144 _ A5.out).mono ?_);rintro e w8 ⟨v145,rfl,ho0,hb⟩;refine ⟨_,rfl,?_⟩;have n0_:=Aside0.mk (Kd.R_lower ho0 (below_size (by repeat (first | (with_reducible first | exact HB.out | apply below_alloc | apply pw_below_drewN | apply below_drew1 | refine below_set ?_ GE143.out) | exact HB.out))));have n1_:=Aside0.mk (blk_below (g:=gb143) (o:=.cells #[.int .i64 0,.int .i64 0,.int .i64 0,.string (⟨#[]⟩:ByteArray),.string (⟨#[]⟩:ByteArray),.int .i64 0,.int .i64 0] 25 (0,0)) (by (with_reducible repeat (first | refine blk_drewN ?_ _ | refine blk_drew ?_ | refine blk_alloc ?_ _));exact BK143.out) hb);have n2_:=Aside0.mk (below_step (by repeat (first | (with_reducible first | exact HB.out | apply below_alloc | apply pw_below_drewN | apply below_drew1 | refine below_set ?_ GE143.out) | exact HB.out)) hb);clear BK143;clear HB;have HO146:=n0_;have BK143:=n1_;have HB:=n2_;clear n0_ n1_ n2_;(try clear hb);(try clear hb2);(try clear hk);(try clear hi);(try clear ho0)) | ((with_reducible refine gate_dst (N:=4) rfl ?_);(try (refine gate_guard (by rfl) ?_;dsimp only));refine box_event ?hg (N:=4) ?hd (cs:=#[.int .i64 0,.int .i64 0,.int .i64 0,.string (⟨#[]⟩:ByteArray),.string (⟨#[]⟩:ByteArray),.int .i64 0]) (t:=23) ?hr ?_;(case hd=>rfl);(case hg=>rfl);(case hr=>first | (go_simp;done) | (go_simp;rfl));intro gb147 hg w9 hbox hb;have n0_:=Aside0.mk (Kd.R_below (by (with_reducible repeat (first | apply Kd.R_alloc | apply Kd.R_drewN | apply Kd.R_drew));exact HO146.out) hb);have n1_:=Aside0.mk (blk_below (g:=gb143) (o:=.cells #[.int .i64 0,.int .i64 0,.int .i64 0,.string (⟨#[]⟩:ByteArray),.string (⟨#[]⟩:ByteArray),.int .i64 0,.int .i64 0] 25 (0,0)) (by (with_reducible repeat (first | refine blk_drewN ?_ _ | refine blk_drew ?_ | refine blk_alloc ?_ _));exact BK143.out) hb);have n2_:=Aside0.mk (below_step (by repeat (first | (with_reducible first | exact HB.out | apply below_alloc | apply pw_below_drewN | apply below_drew1 | refine below_set ?_ GE143.out) | exact HB.out)) hb);have n3_:=Aside0.mk (hbox);have n4_:=Aside0.mk ((by rw [hg];exact (below_size (by repeat (first | (with_reducible first | exact HB.out | apply below_alloc | apply pw_below_drewN | apply below_drew1 | refine below_set ?_ GE143.out) | exact HB.out))):w.heap.size≤gb147));have n5_:=Aside0.mk ((by rw [hg];exact (below_size (by repeat (first | (with_reducible first | exact HB.out | apply below_alloc | apply pw_below_drewN | apply below_drew1 | refine below_set ?_ GE143.out) | exact HB.out))):w.heap.size≤gb147));have n6_:=Aside0.mk ((by rw [hg];exact Nat.ne_of_lt (blk_lt (g:=gb143) (o:=.cells #[.int .i64 0,.int .i64 0,.int .i64 0,.string (⟨#[]⟩:ByteArray),.string (⟨#[]⟩:ByteArray),.int .i64 0,.int .i64 0] 25 (0,0)) (by (with_reducible repeat (first | refine blk_drewN ?_ _ | refine blk_drew ?_ | refine blk_alloc ?_ _));exact BK143.out)):gb143≠gb147));have n7_:=Aside0.mk ((by rw [hg];exact Nat.ne_of_gt (blk_lt (g:=gb143) (o:=.cells #[.int .i64 0,.int .i64 0,.int .i64 0,.string (⟨#[]⟩:ByteArray),.string (⟨#[]⟩:ByteArray),.int .i64 0,.int .i64 0] 25 (0,0)) (by (with_reducible repeat (first | refine blk_drewN ?_ _ | refine blk_drew ?_ | refine blk_alloc ?_ _));exact BK143.out)):gb147≠gb143));clear HO146;clear BK143;clear HB;have HO146:=n0_;have BK143:=n1_;have HB:=n2_;have BK147:=n3_;have GW147:=n4_;have GE147:=n5_;have NB143_147:=n6_;have NB147_143:=n7_;clear n0_ n1_ n2_ n3_ n4_ n5_ n6_ n7_;clear hb hbox hg;have hnb10:=NB147_143.out;have hnc10:=NB143_147.out;have hcz11_0:w9.cell? ⟨gb147,0,none⟩=some (.int .i64 0):=(blk_cell BK147.out 0).trans rfl;have hcz11_1:w9.cell? ⟨gb147,1,none⟩=some (.int .i64 0):=(blk_cell BK147.out 1).trans rfl;have hcz11_2:w9.cell? ⟨gb147,2,none⟩=some (.int .i64 0):=(blk_cell BK147.out 2).trans rfl;have hcz11_3:w9.cell? ⟨gb147,3,none⟩=some (.string (⟨#[]⟩:ByteArray)):=(blk_cell BK147.out 3).trans rfl;have hcz11_4:w9.cell? ⟨gb147,4,none⟩=some (.string (⟨#[]⟩:ByteArray)):=(blk_cell BK147.out 4).trans rfl;have hcz11_5:w9.cell? ⟨gb147,5,none⟩=some (.int .i64 0):=(blk_cell BK147.out 5).trans rfl;have hfz11_0:=blk_frozen BK147.out 0;have hfz11_1:=blk_frozen BK147.out 1;have hfz11_2:=blk_frozen BK147.out 2;have hfz11_3:=blk_frozen BK147.out 3;have hfz11_4:=blk_frozen BK147.out 4;have hfz11_5:=blk_frozen BK147.out 5))
  (try simp only [Act.put,sa_,s0_,ss_])
  go_cut [34] (fun v34 wc=>∃ (kq:Nat) (x34_5:Bool),v34 = .bool x34_5∧Aside0 (Y1.j0 kq a0 t144 0 x34_5 0 0 0 (⟨#[]⟩:ByteArray) (⟨#[]⟩:ByteArray) (-1)=some (r1,r2,r3,r4,r5,r6,r7))∧Aside0 (kq≤k)∧Aside0 (Kd.R Kd.string 9 wc w.heap.size (fun _=>True) v145 t144)∧Aside0 (wc.heap[gb143]? = some (.cells #[.int .i64 0,.int .i64 0,.int .i64 0,.string (⟨#[]⟩:ByteArray),.string (⟨#[]⟩:ByteArray),.int .i64 0,.int .i64 0] 25 (0,0)))∧Aside0 (wc.heap[gb147]? = some (.cells #[.int .i64 0,.int .i64 0,.int .i64 0,.string (⟨#[]⟩:ByteArray),.string (⟨#[]⟩:ByteArray),.int .i64 (-1)] 23 (0,0)))∧Aside0 (Below w.heap.size w wc))
  case first =>
   have H:=HC6.out
   clear HC6
   by_cases c12:0<(t144.length:Int)
   ·rw [if_pos c12] at H
    have c12b0:decide (0<(t144.length:Int))=true:=decide_eq_true c12
    have c12b1:decide (0<t144.length)=true:=decide_eq_true (by omega)
    clear c12
    (first | rw [c12b0] | (simp only [i64_w,i32_w];rw [c12b0]) | skip)
    by_cases c13:((rdOf ByteArray.empty t144 0).size:Int)>1
    ·rw [if_pos c13] at H
     have c13b0:decide (1<((rdOf ByteArray.empty t144 0).size:Int))=true:=decide_eq_true c13
     have c13b1:decide (1<(rdOf ByteArray.empty t144 0).size)=true:=decide_eq_true (by omega)
     clear c13
     by_cases c14:0<((rdOf ByteArray.empty t144 0).size:Int)
     ·rw [if_pos c14] at H
      have c14b0:decide (0<((rdOf ByteArray.empty t144 0).size:Int))=true:=decide_eq_true c14
      have c14b1:decide (0<(rdOf ByteArray.empty t144 0).size)=true:=decide_eq_true (by omega)
      clear c14
      by_cases c16:(bt (rdOf ByteArray.empty t144 0) 0)=33
      ·rw [if_pos c16] at H
       have c16b0:((bt (rdOf ByteArray.empty t144 0) 0) == 33)=true:=beq_iff_eq.mpr c16
       have c16b1:((bt (rdOf ByteArray.empty t144 0) 0) != 33)=false:=bne_eq_false_iff_eq.mpr c16
       clear c16
       have H':=Aside0.mk H
       clear H
       obtain ⟨Ao17,co17,eo17⟩:=Kd.R_slice HO146.out
       subst eo17
       have p148:0≤(0:Int):=(by omega)
       have q148:0<(t144.length:Int):=of_decide_eq_true (by first | (with_reducible assumption) | assumption)
       obtain ⟨ad148,e148,hx148_0⟩:=Kd.at_string (Kd.R_reads' HO146.out).2.2 0 p148 q148
       cases e148
       have qi148:(0<t144.length)=True:=eq_true (by omega)
       (try rw [show ((0:Int)).toNat=0 from rfl] at hx148_0)
       (try rw [Addr.add_zero'] at hx148_0)
       have hn148_0:ad148.block≠gb147:=Kd.own_blk (Kd.R_ne HO146.out BK147.out (by decide))
       have hn148_1:ad148.block≠gb147:=Kd.own_blk (Kd.R_ne HO146.out BK147.out (by decide))
       have hn148_2:ad148.block≠gb147:=Kd.own_blk (Kd.R_ne HO146.out BK147.out (by decide))
       have hn148_3:ad148.block≠gb147:=Kd.own_blk (Kd.R_ne HO146.out BK147.out (by decide))
       have hn148_4:ad148.block≠gb147:=Kd.own_blk (Kd.R_ne HO146.out BK147.out (by decide))
       have hn148_5:ad148.block≠gb147:=Kd.own_blk (Kd.R_ne HO146.out BK147.out (by decide))
       replace hx148_0:=(cell_far (p:=⟨gb147,0,none⟩) (by first | (rw [add_block];exact hn148_0) | (show (Addr.add _ _).block≠_;rw [add_block];exact hn148_0) | exact hn148_0) (.int .i64 0)).trans hx148_0
       replace hx148_0:=(cell_far (p:=⟨gb147,1,none⟩) (by first | (rw [add_block];exact hn148_1) | (show (Addr.add _ _).block≠_;rw [add_block];exact hn148_1) | exact hn148_1) (.int .i64 0)).trans hx148_0
       replace hx148_0:=(cell_far (p:=⟨gb147,2,none⟩) (by first | (rw [add_block];exact hn148_2) | (show (Addr.add _ _).block≠_;rw [add_block];exact hn148_2) | exact hn148_2) (.int .i64 0)).trans hx148_0
       replace hx148_0:=(cell_far (p:=⟨gb147,3,none⟩) (by first | (rw [add_block];exact hn148_3) | (show (Addr.add _ _).block≠_;rw [add_block];exact hn148_3) | exact hn148_3) (.string (⟨#[]⟩:ByteArray))).trans hx148_0
       replace hx148_0:=(cell_far (p:=⟨gb147,4,none⟩) (by first | (rw [add_block];exact hn148_4) | (show (Addr.add _ _).block≠_;rw [add_block];exact hn148_4) | exact hn148_4) (.string (⟨#[]⟩:ByteArray))).trans hx148_0
       replace hx148_0:=(cell_far (p:=⟨gb147,5,none⟩) (by first | (rw [add_block];exact hn148_5) | (show (Addr.add _ _).block≠_;rw [add_block];exact hn148_5) | exact hn148_5) (.int .i64 (-1))).trans hx148_0
       clear hn148_0
       clear hn148_1
       clear hn148_2
       clear hn148_3
       clear hn148_4
       clear hn148_5
       replace p148:=eq_true p148
       replace q148:=eq_true q148
       have p149:0≤(0:Int):=(by omega)
       have q149:0<(t144.length:Int):=of_decide_eq_true (by first | (with_reducible assumption) | assumption)
       obtain ⟨ad149,e149,hx149_0⟩:=Kd.at_string (Kd.R_reads' HO146.out).2.2 0 p149 q149
       obtain rfl:ad148=ad149:=(by injection e149)
       have qi149:(0<t144.length)=True:=eq_true (by omega)
       (try rw [show ((0:Int)).toNat=0 from rfl] at hx149_0)
       (try rw [Addr.add_zero'] at hx149_0)
       have hn149_0:ad148.block≠gb147:=Kd.own_blk (Kd.R_ne HO146.out BK147.out (by decide))
       have hn149_1:ad148.block≠gb147:=Kd.own_blk (Kd.R_ne HO146.out BK147.out (by decide))
       have hn149_2:ad148.block≠gb147:=Kd.own_blk (Kd.R_ne HO146.out BK147.out (by decide))
       have hn149_3:ad148.block≠gb147:=Kd.own_blk (Kd.R_ne HO146.out BK147.out (by decide))
       have hn149_4:ad148.block≠gb147:=Kd.own_blk (Kd.R_ne HO146.out BK147.out (by decide))
       have hn149_5:ad148.block≠gb147:=Kd.own_blk (Kd.R_ne HO146.out BK147.out (by decide))
       replace hx149_0:=(cell_far (p:=⟨gb147,0,none⟩) (by first | (rw [add_block];exact hn149_0) | (show (Addr.add _ _).block≠_;rw [add_block];exact hn149_0) | exact hn149_0) (.int .i64 0)).trans hx149_0
       replace hx149_0:=(cell_far (p:=⟨gb147,1,none⟩) (by first | (rw [add_block];exact hn149_1) | (show (Addr.add _ _).block≠_;rw [add_block];exact hn149_1) | exact hn149_1) (.int .i64 0)).trans hx149_0
       replace hx149_0:=(cell_far (p:=⟨gb147,2,none⟩) (by first | (rw [add_block];exact hn149_2) | (show (Addr.add _ _).block≠_;rw [add_block];exact hn149_2) | exact hn149_2) (.int .i64 0)).trans hx149_0
       replace hx149_0:=(cell_far (p:=⟨gb147,3,none⟩) (by first | (rw [add_block];exact hn149_3) | (show (Addr.add _ _).block≠_;rw [add_block];exact hn149_3) | exact hn149_3) (.string (⟨#[]⟩:ByteArray))).trans hx149_0
       replace hx149_0:=(cell_far (p:=⟨gb147,4,none⟩) (by first | (rw [add_block];exact hn149_4) | (show (Addr.add _ _).block≠_;rw [add_block];exact hn149_4) | exact hn149_4) (.string (⟨#[]⟩:ByteArray))).trans hx149_0
       replace hx149_0:=(cell_far (p:=⟨gb147,5,none⟩) (by first | (rw [add_block];exact hn149_5) | (show (Addr.add _ _).block≠_;rw [add_block];exact hn149_5) | exact hn149_5) (.int .i64 (-1))).trans hx149_0
       clear hn149_0
       clear hn149_1
       clear hn149_2
       clear hn149_3
       clear hn149_4
       clear hn149_5
       replace p149:=eq_true p149
       replace q149:=eq_true q149
       have p15:0≤(0:Int):=(by omega)
       have q15:0<(rdOf ByteArray.empty t144 0).size:=(by have:(0:Int)<((rdOf ByteArray.empty t144 0).size:Int):=of_decide_eq_true (by first | (with_reducible assumption) | assumption);omega)
       have hx15:∀ h:0<(rdOf ByteArray.empty t144 0).size,(((rdOf ByteArray.empty t144 0)[0]'h).toNat:Int)=bt (rdOf ByteArray.empty t144 0) 0:=bt_at (rdOf ByteArray.empty t144 0) 0
       clear p15
       have qi15:(0<((rdOf ByteArray.empty t144 0).size:Int))=True:=eq_true (of_decide_eq_true (by first | (with_reducible assumption) | assumption))
       replace q15:=eq_true q15
       go_wp2
       go_meet
       case rel=>exact ⟨_,(decide ((t144.length:Int)>1)),(by first | rfl | (simp;done) | (simp [*];done) | (simp [bne];done)),H',⟨by first | omega | exact Nat.le_refl _⟩,⟨by (with_reducible repeat (first | apply Kd.R_alloc | apply Kd.R_drewN | apply Kd.R_drew));exact Kd.R_mono (Kd.R_far (p:=⟨gb147,5,none⟩) (Kd.R_far (p:=⟨gb147,4,none⟩) (Kd.R_far (p:=⟨gb147,3,none⟩) (Kd.R_far (p:=⟨gb147,2,none⟩) (Kd.R_far (p:=⟨gb147,1,none⟩) (Kd.R_far (p:=⟨gb147,0,none⟩) (Kd.R_types HO146.out BK147.out (by decide)) (fun _ hk=>hk.2) (.int .i64 0)) (fun _ hk=>hk.2) (.int .i64 0)) (fun _ hk=>hk.2) (.int .i64 0)) (fun _ hk=>hk.2) (.string (⟨#[]⟩:ByteArray))) (fun _ hk=>hk.2) (.string (⟨#[]⟩:ByteArray))) (fun _ hk=>hk.2) (.int .i64 (-1))) (fun _ hk=>trivial)⟩,⟨by (with_reducible repeat (first | refine blk_drewN ?_ _ | refine blk_drew ?_ | refine blk_alloc ?_ _));refine blk_far ?_ NB143_147.out _;(with_reducible repeat (first | refine blk_drewN ?_ _ | refine blk_drew ?_ | refine blk_alloc ?_ _));refine blk_far ?_ NB143_147.out _;(with_reducible repeat (first | refine blk_drewN ?_ _ | refine blk_drew ?_ | refine blk_alloc ?_ _));refine blk_far ?_ NB143_147.out _;(with_reducible repeat (first | refine blk_drewN ?_ _ | refine blk_drew ?_ | refine blk_alloc ?_ _));refine blk_far ?_ NB143_147.out _;(with_reducible repeat (first | refine blk_drewN ?_ _ | refine blk_drew ?_ | refine blk_alloc ?_ _));refine blk_far ?_ NB143_147.out _;(with_reducible repeat (first | refine blk_drewN ?_ _ | refine blk_drew ?_ | refine blk_alloc ?_ _));refine blk_far ?_ NB143_147.out _;(with_reducible repeat (first | refine blk_drewN ?_ _ | refine blk_drew ?_ | refine blk_alloc ?_ _));exact BK143.out⟩,⟨by (with_reducible repeat (first | refine blk_drewN ?_ _ | refine blk_drew ?_ | refine blk_alloc ?_ _));refine blk_put (cs:=#[.int .i64 0,.int .i64 0,.int .i64 0,.string (⟨#[]⟩:ByteArray),.string (⟨#[]⟩:ByteArray),.int .i64 0]) ?_ 5 _ rfl;(with_reducible repeat (first | refine blk_drewN ?_ _ | refine blk_drew ?_ | refine blk_alloc ?_ _));refine blk_put (cs:=#[.int .i64 0,.int .i64 0,.int .i64 0,.string (⟨#[]⟩:ByteArray),.string (⟨#[]⟩:ByteArray),.int .i64 0]) ?_ 4 _ rfl;(with_reducible repeat (first | refine blk_drewN ?_ _ | refine blk_drew ?_ | refine blk_alloc ?_ _));refine blk_put (cs:=#[.int .i64 0,.int .i64 0,.int .i64 0,.string (⟨#[]⟩:ByteArray),.string (⟨#[]⟩:ByteArray),.int .i64 0]) ?_ 3 _ rfl;(with_reducible repeat (first | refine blk_drewN ?_ _ | refine blk_drew ?_ | refine blk_alloc ?_ _));refine blk_put (cs:=#[.int .i64 0,.int .i64 0,.int .i64 0,.string (⟨#[]⟩:ByteArray),.string (⟨#[]⟩:ByteArray),.int .i64 0]) ?_ 2 _ rfl;(with_reducible repeat (first | refine blk_drewN ?_ _ | refine blk_drew ?_ | refine blk_alloc ?_ _));refine blk_put (cs:=#[.int .i64 0,.int .i64 0,.int .i64 0,.string (⟨#[]⟩:ByteArray),.string (⟨#[]⟩:ByteArray),.int .i64 0]) ?_ 1 _ rfl;(with_reducible repeat (first | refine blk_drewN ?_ _ | refine blk_drew ?_ | refine blk_alloc ?_ _));refine blk_put (cs:=#[.int .i64 0,.int .i64 0,.int .i64 0,.string (⟨#[]⟩:ByteArray),.string (⟨#[]⟩:ByteArray),.int .i64 0]) ?_ 0 _ rfl;(with_reducible repeat (first | refine blk_drewN ?_ _ | refine blk_drew ?_ | refine blk_alloc ?_ _));exact BK147.out⟩,⟨by repeat (first | (with_reducible first | exact HB.out | apply below_alloc | apply pw_below_drewN | apply below_drew1 | refine below_set ?_ GE143.out | refine below_set ?_ GE147.out) | exact HB.out)⟩⟩
      ·rw [if_neg c16] at H
       have c16b0:((bt (rdOf ByteArray.empty t144 0) 0) == 33)=false:=beq_eq_false_iff_ne.mpr c16
       have c16b1:((bt (rdOf ByteArray.empty t144 0) 0) != 33)=true:=bne_iff_ne.mpr c16
       have H':=Aside0.mk H
       clear H
       obtain ⟨Ao18,co18,eo18⟩:=Kd.R_slice HO146.out
       subst eo18
       have p148:0≤(0:Int):=(by omega)
       have q148:0<(t144.length:Int):=of_decide_eq_true (by first | (with_reducible assumption) | assumption)
       obtain ⟨ad148,e148,hx148_0⟩:=Kd.at_string (Kd.R_reads' HO146.out).2.2 0 p148 q148
       cases e148
       have qi148:(0<t144.length)=True:=eq_true (by omega)
       (try rw [show ((0:Int)).toNat=0 from rfl] at hx148_0)
       (try rw [Addr.add_zero'] at hx148_0)
       have hn148_0:ad148.block≠gb147:=Kd.own_blk (Kd.R_ne HO146.out BK147.out (by decide))
       have hn148_1:ad148.block≠gb147:=Kd.own_blk (Kd.R_ne HO146.out BK147.out (by decide))
       have hn148_2:ad148.block≠gb147:=Kd.own_blk (Kd.R_ne HO146.out BK147.out (by decide))
       have hn148_3:ad148.block≠gb147:=Kd.own_blk (Kd.R_ne HO146.out BK147.out (by decide))
       have hn148_4:ad148.block≠gb147:=Kd.own_blk (Kd.R_ne HO146.out BK147.out (by decide))
       have hn148_5:ad148.block≠gb147:=Kd.own_blk (Kd.R_ne HO146.out BK147.out (by decide))
       replace hx148_0:=(cell_far (p:=⟨gb147,0,none⟩) (by first | (rw [add_block];exact hn148_0) | (show (Addr.add _ _).block≠_;rw [add_block];exact hn148_0) | exact hn148_0) (.int .i64 0)).trans hx148_0
       replace hx148_0:=(cell_far (p:=⟨gb147,1,none⟩) (by first | (rw [add_block];exact hn148_1) | (show (Addr.add _ _).block≠_;rw [add_block];exact hn148_1) | exact hn148_1) (.int .i64 0)).trans hx148_0
       replace hx148_0:=(cell_far (p:=⟨gb147,2,none⟩) (by first | (rw [add_block];exact hn148_2) | (show (Addr.add _ _).block≠_;rw [add_block];exact hn148_2) | exact hn148_2) (.int .i64 0)).trans hx148_0
       replace hx148_0:=(cell_far (p:=⟨gb147,3,none⟩) (by first | (rw [add_block];exact hn148_3) | (show (Addr.add _ _).block≠_;rw [add_block];exact hn148_3) | exact hn148_3) (.string (⟨#[]⟩:ByteArray))).trans hx148_0
       replace hx148_0:=(cell_far (p:=⟨gb147,4,none⟩) (by first | (rw [add_block];exact hn148_4) | (show (Addr.add _ _).block≠_;rw [add_block];exact hn148_4) | exact hn148_4) (.string (⟨#[]⟩:ByteArray))).trans hx148_0
       replace hx148_0:=(cell_far (p:=⟨gb147,5,none⟩) (by first | (rw [add_block];exact hn148_5) | (show (Addr.add _ _).block≠_;rw [add_block];exact hn148_5) | exact hn148_5) (.int .i64 (-1))).trans hx148_0
       clear hn148_0
       clear hn148_1
       clear hn148_2
       clear hn148_3
       clear hn148_4
       clear hn148_5
       replace p148:=eq_true p148
       replace q148:=eq_true q148
       have p149:0≤(0:Int):=(by omega)
       have q149:0<(t144.length:Int):=of_decide_eq_true (by first | (with_reducible assumption) | assumption)
       obtain ⟨ad149,e149,hx149_0⟩:=Kd.at_string (Kd.R_reads' HO146.out).2.2 0 p149 q149
       obtain rfl:ad148=ad149:=(by injection e149)
       have qi149:(0<t144.length)=True:=eq_true (by omega)
       (try rw [show ((0:Int)).toNat=0 from rfl] at hx149_0)
       (try rw [Addr.add_zero'] at hx149_0)
       have hn149_0:ad148.block≠gb147:=Kd.own_blk (Kd.R_ne HO146.out BK147.out (by decide))
       have hn149_1:ad148.block≠gb147:=Kd.own_blk (Kd.R_ne HO146.out BK147.out (by decide))
       have hn149_2:ad148.block≠gb147:=Kd.own_blk (Kd.R_ne HO146.out BK147.out (by decide))
       have hn149_3:ad148.block≠gb147:=Kd.own_blk (Kd.R_ne HO146.out BK147.out (by decide))
       have hn149_4:ad148.block≠gb147:=Kd.own_blk (Kd.R_ne HO146.out BK147.out (by decide))
       have hn149_5:ad148.block≠gb147:=Kd.own_blk (Kd.R_ne HO146.out BK147.out (by decide))
       replace hx149_0:=(cell_far (p:=⟨gb147,0,none⟩) (by first | (rw [add_block];exact hn149_0) | (show (Addr.add _ _).block≠_;rw [add_block];exact hn149_0) | exact hn149_0) (.int .i64 0)).trans hx149_0
       replace hx149_0:=(cell_far (p:=⟨gb147,1,none⟩) (by first | (rw [add_block];exact hn149_1) | (show (Addr.add _ _).block≠_;rw [add_block];exact hn149_1) | exact hn149_1) (.int .i64 0)).trans hx149_0
       replace hx149_0:=(cell_far (p:=⟨gb147,2,none⟩) (by first | (rw [add_block];exact hn149_2) | (show (Addr.add _ _).block≠_;rw [add_block];exact hn149_2) | exact hn149_2) (.int .i64 0)).trans hx149_0
       replace hx149_0:=(cell_far (p:=⟨gb147,3,none⟩) (by first | (rw [add_block];exact hn149_3) | (show (Addr.add _ _).block≠_;rw [add_block];exact hn149_3) | exact hn149_3) (.string (⟨#[]⟩:ByteArray))).trans hx149_0
       replace hx149_0:=(cell_far (p:=⟨gb147,4,none⟩) (by first | (rw [add_block];exact hn149_4) | (show (Addr.add _ _).block≠_;rw [add_block];exact hn149_4) | exact hn149_4) (.string (⟨#[]⟩:ByteArray))).trans hx149_0
       replace hx149_0:=(cell_far (p:=⟨gb147,5,none⟩) (by first | (rw [add_block];exact hn149_5) | (show (Addr.add _ _).block≠_;rw [add_block];exact hn149_5) | exact hn149_5) (.int .i64 (-1))).trans hx149_0
       clear hn149_0
       clear hn149_1
       clear hn149_2
       clear hn149_3
       clear hn149_4
       clear hn149_5
       replace p149:=eq_true p149
       replace q149:=eq_true q149
       have p15:0≤(0:Int):=(by omega)
       have q15:0<(rdOf ByteArray.empty t144 0).size:=(by have:(0:Int)<((rdOf ByteArray.empty t144 0).size:Int):=of_decide_eq_true (by first | (with_reducible assumption) | assumption);omega)
       have hx15:∀ h:0<(rdOf ByteArray.empty t144 0).size,(((rdOf ByteArray.empty t144 0)[0]'h).toNat:Int)=bt (rdOf ByteArray.empty t144 0) 0:=bt_at (rdOf ByteArray.empty t144 0) 0
       clear p15
       have qi15:(0<((rdOf ByteArray.empty t144 0).size:Int))=True:=eq_true (of_decide_eq_true (by first | (with_reducible assumption) | assumption))
       replace q15:=eq_true q15
       go_wp2
       go_meet
       case rel=>exact ⟨_,(false),(by first | rfl | (simp;done) | (simp [*];done) | (simp [bne];done)),H',⟨by first | omega | exact Nat.le_refl _⟩,⟨by (with_reducible repeat (first | apply Kd.R_alloc | apply Kd.R_drewN | apply Kd.R_drew));exact Kd.R_mono (Kd.R_far (p:=⟨gb147,5,none⟩) (Kd.R_far (p:=⟨gb147,4,none⟩) (Kd.R_far (p:=⟨gb147,3,none⟩) (Kd.R_far (p:=⟨gb147,2,none⟩) (Kd.R_far (p:=⟨gb147,1,none⟩) (Kd.R_far (p:=⟨gb147,0,none⟩) (Kd.R_types HO146.out BK147.out (by decide)) (fun _ hk=>hk.2) (.int .i64 0)) (fun _ hk=>hk.2) (.int .i64 0)) (fun _ hk=>hk.2) (.int .i64 0)) (fun _ hk=>hk.2) (.string (⟨#[]⟩:ByteArray))) (fun _ hk=>hk.2) (.string (⟨#[]⟩:ByteArray))) (fun _ hk=>hk.2) (.int .i64 (-1))) (fun _ hk=>trivial)⟩,⟨by (with_reducible repeat (first | refine blk_drewN ?_ _ | refine blk_drew ?_ | refine blk_alloc ?_ _));refine blk_far ?_ NB143_147.out _;(with_reducible repeat (first | refine blk_drewN ?_ _ | refine blk_drew ?_ | refine blk_alloc ?_ _));refine blk_far ?_ NB143_147.out _;(with_reducible repeat (first | refine blk_drewN ?_ _ | refine blk_drew ?_ | refine blk_alloc ?_ _));refine blk_far ?_ NB143_147.out _;(with_reducible repeat (first | refine blk_drewN ?_ _ | refine blk_drew ?_ | refine blk_alloc ?_ _));refine blk_far ?_ NB143_147.out _;(with_reducible repeat (first | refine blk_drewN ?_ _ | refine blk_drew ?_ | refine blk_alloc ?_ _));refine blk_far ?_ NB143_147.out _;(with_reducible repeat (first | refine blk_drewN ?_ _ | refine blk_drew ?_ | refine blk_alloc ?_ _));refine blk_far ?_ NB143_147.out _;(with_reducible repeat (first | refine blk_drewN ?_ _ | refine blk_drew ?_ | refine blk_alloc ?_ _));exact BK143.out⟩,⟨by (with_reducible repeat (first | refine blk_drewN ?_ _ | refine blk_drew ?_ | refine blk_alloc ?_ _));refine blk_put (cs:=#[.int .i64 0,.int .i64 0,.int .i64 0,.string (⟨#[]⟩:ByteArray),.string (⟨#[]⟩:ByteArray),.int .i64 0]) ?_ 5 _ rfl;(with_reducible repeat (first | refine blk_drewN ?_ _ | refine blk_drew ?_ | refine blk_alloc ?_ _));refine blk_put (cs:=#[.int .i64 0,.int .i64 0,.int .i64 0,.string (⟨#[]⟩:ByteArray),.string (⟨#[]⟩:ByteArray),.int .i64 0]) ?_ 4 _ rfl;(with_reducible repeat (first | refine blk_drewN ?_ _ | refine blk_drew ?_ | refine blk_alloc ?_ _));refine blk_put (cs:=#[.int .i64 0,.int .i64 0,.int .i64 0,.string (⟨#[]⟩:ByteArray),.string (⟨#[]⟩:ByteArray),.int .i64 0]) ?_ 3 _ rfl;(with_reducible repeat (first | refine blk_drewN ?_ _ | refine blk_drew ?_ | refine blk_alloc ?_ _));refine blk_put (cs:=#[.int .i64 0,.int .i64 0,.int .i64 0,.string (⟨#[]⟩:ByteArray),.string (⟨#[]⟩:ByteArray),.int .i64 0]) ?_ 2 _ rfl;(with_reducible repeat (first | refine blk_drewN ?_ _ | refine blk_drew ?_ | refine blk_alloc ?_ _));refine blk_put (cs:=#[.int .i64 0,.int .i64 0,.int .i64 0,.string (⟨#[]⟩:ByteArray),.string (⟨#[]⟩:ByteArray),.int .i64 0]) ?_ 1 _ rfl;(with_reducible repeat (first | refine blk_drewN ?_ _ | refine blk_drew ?_ | refine blk_alloc ?_ _));refine blk_put (cs:=#[.int .i64 0,.int .i64 0,.int .i64 0,.string (⟨#[]⟩:ByteArray),.string (⟨#[]⟩:ByteArray),.int .i64 0]) ?_ 0 _ rfl;(with_reducible repeat (first | refine blk_drewN ?_ _ | refine blk_drew ?_ | refine blk_alloc ?_ _));exact BK147.out⟩,⟨by repeat (first | (with_reducible first | exact HB.out | apply below_alloc | apply pw_below_drewN | apply below_drew1 | refine below_set ?_ GE143.out | refine below_set ?_ GE147.out) | exact HB.out)⟩⟩
     ·rw [if_neg c14] at H
      exact absurd H (by simp)
    ·rw [if_neg c13] at H
     have c13b0:decide (1<((rdOf ByteArray.empty t144 0).size:Int))=false:=decide_eq_false c13
     have c13b1:decide (1<(rdOf ByteArray.empty t144 0).size)=false:=decide_eq_false (by omega)
     clear c13
     have H':=Aside0.mk H
     clear H
     obtain ⟨Ao19,co19,eo19⟩:=Kd.R_slice HO146.out
     subst eo19
     have p148:0≤(0:Int):=(by omega)
     have q148:0<(t144.length:Int):=of_decide_eq_true (by first | (with_reducible assumption) | assumption)
     obtain ⟨ad148,e148,hx148_0⟩:=Kd.at_string (Kd.R_reads' HO146.out).2.2 0 p148 q148
     cases e148
     have qi148:(0<t144.length)=True:=eq_true (by omega)
     (try rw [show ((0:Int)).toNat=0 from rfl] at hx148_0)
     (try rw [Addr.add_zero'] at hx148_0)
     have hn148_0:ad148.block≠gb147:=Kd.own_blk (Kd.R_ne HO146.out BK147.out (by decide))
     have hn148_1:ad148.block≠gb147:=Kd.own_blk (Kd.R_ne HO146.out BK147.out (by decide))
     have hn148_2:ad148.block≠gb147:=Kd.own_blk (Kd.R_ne HO146.out BK147.out (by decide))
     have hn148_3:ad148.block≠gb147:=Kd.own_blk (Kd.R_ne HO146.out BK147.out (by decide))
     have hn148_4:ad148.block≠gb147:=Kd.own_blk (Kd.R_ne HO146.out BK147.out (by decide))
     have hn148_5:ad148.block≠gb147:=Kd.own_blk (Kd.R_ne HO146.out BK147.out (by decide))
     replace hx148_0:=(cell_far (p:=⟨gb147,0,none⟩) (by first | (rw [add_block];exact hn148_0) | (show (Addr.add _ _).block≠_;rw [add_block];exact hn148_0) | exact hn148_0) (.int .i64 0)).trans hx148_0
     replace hx148_0:=(cell_far (p:=⟨gb147,1,none⟩) (by first | (rw [add_block];exact hn148_1) | (show (Addr.add _ _).block≠_;rw [add_block];exact hn148_1) | exact hn148_1) (.int .i64 0)).trans hx148_0
     replace hx148_0:=(cell_far (p:=⟨gb147,2,none⟩) (by first | (rw [add_block];exact hn148_2) | (show (Addr.add _ _).block≠_;rw [add_block];exact hn148_2) | exact hn148_2) (.int .i64 0)).trans hx148_0
     replace hx148_0:=(cell_far (p:=⟨gb147,3,none⟩) (by first | (rw [add_block];exact hn148_3) | (show (Addr.add _ _).block≠_;rw [add_block];exact hn148_3) | exact hn148_3) (.string (⟨#[]⟩:ByteArray))).trans hx148_0
     replace hx148_0:=(cell_far (p:=⟨gb147,4,none⟩) (by first | (rw [add_block];exact hn148_4) | (show (Addr.add _ _).block≠_;rw [add_block];exact hn148_4) | exact hn148_4) (.string (⟨#[]⟩:ByteArray))).trans hx148_0
     replace hx148_0:=(cell_far (p:=⟨gb147,5,none⟩) (by first | (rw [add_block];exact hn148_5) | (show (Addr.add _ _).block≠_;rw [add_block];exact hn148_5) | exact hn148_5) (.int .i64 (-1))).trans hx148_0
     clear hn148_0
     clear hn148_1
     clear hn148_2
     clear hn148_3
     clear hn148_4
     clear hn148_5
     replace p148:=eq_true p148
     replace q148:=eq_true q148
     go_wp2
     go_meet
     case rel=>exact ⟨_,(false),(by first | rfl | (simp;done) | (simp [*];done) | (simp [bne];done)),H',⟨by first | omega | exact Nat.le_refl _⟩,⟨by (with_reducible repeat (first | apply Kd.R_alloc | apply Kd.R_drewN | apply Kd.R_drew));exact Kd.R_mono (Kd.R_far (p:=⟨gb147,5,none⟩) (Kd.R_far (p:=⟨gb147,4,none⟩) (Kd.R_far (p:=⟨gb147,3,none⟩) (Kd.R_far (p:=⟨gb147,2,none⟩) (Kd.R_far (p:=⟨gb147,1,none⟩) (Kd.R_far (p:=⟨gb147,0,none⟩) (Kd.R_types HO146.out BK147.out (by decide)) (fun _ hk=>hk.2) (.int .i64 0)) (fun _ hk=>hk.2) (.int .i64 0)) (fun _ hk=>hk.2) (.int .i64 0)) (fun _ hk=>hk.2) (.string (⟨#[]⟩:ByteArray))) (fun _ hk=>hk.2) (.string (⟨#[]⟩:ByteArray))) (fun _ hk=>hk.2) (.int .i64 (-1))) (fun _ hk=>trivial)⟩,⟨by (with_reducible repeat (first | refine blk_drewN ?_ _ | refine blk_drew ?_ | refine blk_alloc ?_ _));refine blk_far ?_ NB143_147.out _;(with_reducible repeat (first | refine blk_drewN ?_ _ | refine blk_drew ?_ | refine blk_alloc ?_ _));refine blk_far ?_ NB143_147.out _;(with_reducible repeat (first | refine blk_drewN ?_ _ | refine blk_drew ?_ | refine blk_alloc ?_ _));refine blk_far ?_ NB143_147.out _;(with_reducible repeat (first | refine blk_drewN ?_ _ | refine blk_drew ?_ | refine blk_alloc ?_ _));refine blk_far ?_ NB143_147.out _;(with_reducible repeat (first | refine blk_drewN ?_ _ | refine blk_drew ?_ | refine blk_alloc ?_ _));refine blk_far ?_ NB143_147.out _;(with_reducible repeat (first | refine blk_drewN ?_ _ | refine blk_drew ?_ | refine blk_alloc ?_ _));refine blk_far ?_ NB143_147.out _;(with_reducible repeat (first | refine blk_drewN ?_ _ | refine blk_drew ?_ | refine blk_alloc ?_ _));exact BK143.out⟩,⟨by (with_reducible repeat (first | refine blk_drewN ?_ _ | refine blk_drew ?_ | refine blk_alloc ?_ _));refine blk_put (cs:=#[.int .i64 0,.int .i64 0,.int .i64 0,.string (⟨#[]⟩:ByteArray),.string (⟨#[]⟩:ByteArray),.int .i64 0]) ?_ 5 _ rfl;(with_reducible repeat (first | refine blk_drewN ?_ _ | refine blk_drew ?_ | refine blk_alloc ?_ _));refine blk_put (cs:=#[.int .i64 0,.int .i64 0,.int .i64 0,.string (⟨#[]⟩:ByteArray),.string (⟨#[]⟩:ByteArray),.int .i64 0]) ?_ 4 _ rfl;(with_reducible repeat (first | refine blk_drewN ?_ _ | refine blk_drew ?_ | refine blk_alloc ?_ _));refine blk_put (cs:=#[.int .i64 0,.int .i64 0,.int .i64 0,.string (⟨#[]⟩:ByteArray),.string (⟨#[]⟩:ByteArray),.int .i64 0]) ?_ 3 _ rfl;(with_reducible repeat (first | refine blk_drewN ?_ _ | refine blk_drew ?_ | refine blk_alloc ?_ _));refine blk_put (cs:=#[.int .i64 0,.int .i64 0,.int .i64 0,.string (⟨#[]⟩:ByteArray),.string (⟨#[]⟩:ByteArray),.int .i64 0]) ?_ 2 _ rfl;(with_reducible repeat (first | refine blk_drewN ?_ _ | refine blk_drew ?_ | refine blk_alloc ?_ _));refine blk_put (cs:=#[.int .i64 0,.int .i64 0,.int .i64 0,.string (⟨#[]⟩:ByteArray),.string (⟨#[]⟩:ByteArray),.int .i64 0]) ?_ 1 _ rfl;(with_reducible repeat (first | refine blk_drewN ?_ _ | refine blk_drew ?_ | refine blk_alloc ?_ _));refine blk_put (cs:=#[.int .i64 0,.int .i64 0,.int .i64 0,.string (⟨#[]⟩:ByteArray),.string (⟨#[]⟩:ByteArray),.int .i64 0]) ?_ 0 _ rfl;(with_reducible repeat (first | refine blk_drewN ?_ _ | refine blk_drew ?_ | refine blk_alloc ?_ _));exact BK147.out⟩,⟨by repeat (first | (with_reducible first | exact HB.out | apply below_alloc | apply pw_below_drewN | apply below_drew1 | refine below_set ?_ GE143.out | refine below_set ?_ GE147.out) | exact HB.out)⟩⟩
   ·rw [if_neg c12] at H
    exact absurd H (by simp)
  case rest =>
   clear HC6
   try clear c1
   try clear p1
   try clear q1
   try clear hx1
   try clear qi1
   try clear c2
   try clear c2b0
   try clear c2b1
   try clear p2
   try clear c4
   try clear c7
   try clear c10
   try clear c12
   try clear c12b0
   try clear c12b1
   try clear c13
   try clear c13b0
   try clear c13b1
   try clear c14
   try clear c14b0
   try clear c14b1
   try clear p14
   try clear q14
   try clear hx14
   try clear qi14
   try clear p15
   try clear q15
   try clear hx15
   try clear qi15
   try clear c16
   try clear c16b0
   try clear c16b1
   try clear hcz11_0
   try clear hcz11_1
   try clear hcz11_2
   try clear hcz11_3
   try clear hcz11_4
   try clear hcz11_5
   try clear hcz4_0
   try clear hcz4_1
   try clear hcz4_2
   try clear hcz4_3
   try clear hcz4_4
   try clear hcz4_5
   try clear hcz4_6
   try clear hfz11_0
   try clear hfz11_1
   try clear hfz11_2
   try clear hfz11_3
   try clear hfz11_4
   try clear hfz11_5
   try clear hfz4_0
   try clear hfz4_1
   try clear hfz4_2
   try clear hfz4_3
   try clear hfz4_4
   try clear hfz4_5
   try clear hfz4_6
   try clear hx148_0
   try clear hx149_0
   try clear p148
   try clear p149
   try clear p15
   try clear q148
   try clear q149
   try clear q15
   obtain ⟨kq,x34_5,rfl,HA,HJ5,HO_3,BK143,BK147,HB⟩:=hcut
   cases kq with
   | zero=>exact absurd HA.out (by simp [Y1.j0])
   | succ kj5 =>
    have H:=HA.out
    clear HA
    simp only [Y1.j0] at H
    have HC20:=Aside0.mk H
    clear H
    go_upto_if 34 with (fail)
    go_cut [5] (fun v5 wc=>∃ (kq:Nat) (x5_19:Int) (x148005_19:Int),v5 = .int .i64 x5_19∧Aside0 (Y1.j1 kq a0 t144 x5_19 0 0 0 (⟨#[]⟩:ByteArray) (⟨#[]⟩:ByteArray) x148005_19=some (r1,r2,r3,r4,r5,r6,r7))∧Aside0 (kq≤kj5)∧Aside0 (Kd.R Kd.string 9 wc w.heap.size (fun _=>True) v145 t144)∧Aside0 (wc.heap[gb143]? = some (.cells #[.int .i64 0,.int .i64 0,.int .i64 0,.string (⟨#[]⟩:ByteArray),.string (⟨#[]⟩:ByteArray),.int .i64 0,.int .i64 0] 25 (0,0)))∧Aside0 (wc.heap[gb147]? = some (.cells #[.int .i64 0,.int .i64 0,.int .i64 0,.string (⟨#[]⟩:ByteArray),.string (⟨#[]⟩:ByteArray),.int .i64 x148005_19] 23 (0,0)))∧Aside0 (Below w.heap.size w wc))
    case first =>
     have H:=HC20.out
     clear HC20
     by_cases c21:x34_5=true
     ·subst c21
      have H1:(if 0<(t144.length:Int) then (if 1≤((rdOf ByteArray.empty t144 0).size:Int) then ((Y10.f kj5 ((rdOf ByteArray.empty t144 0).extract 1 (rdOf ByteArray.empty t144 0).size)).bind fun t151=>(Y1.j1 kj5 a0 t144 1 0 0 0 (⟨#[]⟩:ByteArray) (⟨#[]⟩:ByteArray) t151)) else (none)) else (none))=some (r1,r2,r3,r4,r5,r6,r7):=by rw [if_pos rfl] at H;exact H
      clear H
      have H:=H1
      clear H1
      by_cases c22:0<(t144.length:Int)
      ·rw [if_pos c22] at H
       have c22b0:decide (0<(t144.length:Int))=true:=decide_eq_true c22
       have c22b1:decide (0<t144.length)=true:=decide_eq_true (by omega)
       clear c22
       (first | rw [c22b0] | (simp only [i64_w,i32_w];rw [c22b0]) | skip)
       by_cases c23:1≤((rdOf ByteArray.empty t144 0).size:Int)
       ·rw [if_pos c23] at H
        have c23b0:=eq_true c23
        have c23b1:decide (1≤((rdOf ByteArray.empty t144 0).size:Int))=true:=decide_eq_true c23
        clear c23
        replace H:=Option.bind_eq_some_iff.mp H
        obtain ⟨t151,A240,H⟩:=H
        replace H:(Y1.j1 kj5 a0 t144 1 0 0 0 (⟨#[]⟩:ByteArray) (⟨#[]⟩:ByteArray) t151)=some (r1,r2,r3,r4,r5,r6,r7):=H
        have A24:=Aside0.mk A240
        clear A240
        have H':=Aside0.mk H
        clear H
        obtain ⟨Ao25,co25,eo25⟩:=Kd.R_slice HO_3.out
        subst eo25
        have p150:0≤(0:Int):=(by omega)
        have q150:0<(t144.length:Int):=of_decide_eq_true (by first | (with_reducible assumption) | assumption)
        obtain ⟨ad150,e150,hx150_0⟩:=Kd.at_string (Kd.R_reads' HO_3.out).2.2 0 p150 q150
        cases e150
        have qi150:(0<t144.length)=True:=eq_true (by omega)
        (try rw [show ((0:Int)).toNat=0 from rfl] at hx150_0)
        (try rw [Addr.add_zero'] at hx150_0)
        replace p150:=eq_true p150
        replace q150:=eq_true q150
        go_wp2_with (first | ((with_reducible refine gate_callee (f:=8) rfl ?_);refine goesL_ (some 39) rfl rfl Tryd.func8 (by kernel_rfl) rfl #[.string ((rdOf ByteArray.empty t144 0).extract 1 (rdOf ByteArray.empty t144 0).size)] rfl (by (try simp only [List.map_toArray,List.map_cons,List.map_nil]);first | done | rfl | (simp only [List.length_drop,List.length_take];rfl)) ?_;(with_reducible refine (Y10.calls kj5 ((rdOf ByteArray.empty t144 0).extract 1 (rdOf ByteArray.empty t144 0).size) t151 _ A24.out).mono ?_);rintro e w' ⟨rfl,⟨nd,rfl⟩⟩;refine ⟨_,rfl,?_⟩;(try (rw [drewN_self wc];generalize hq_:World.drewN wc _=wc;have n0_:Aside0 (Kd.R Kd.string 9 wc w.heap.size (fun _=>True) (.slice (some ad150) t144.length co25) t144):=⟨by rw [← hq_];exact (by (with_reducible repeat (first | apply Kd.R_alloc | apply Kd.R_drewN | apply Kd.R_drew));exact HO_3.out)⟩;have n1_:Aside0 (wc.heap[gb143]? = some (.cells #[.int .i64 0,.int .i64 0,.int .i64 0,.string (⟨#[]⟩:ByteArray),.string (⟨#[]⟩:ByteArray),.int .i64 0,.int .i64 0] 25 (0,0))):=⟨by rw [← hq_];exact (by (with_reducible repeat (first | refine blk_drewN ?_ _ | refine blk_drew ?_ | refine blk_alloc ?_ _));exact BK143.out)⟩;have n2_:Aside0 (wc.heap[gb147]? = some (.cells #[.int .i64 0,.int .i64 0,.int .i64 0,.string (⟨#[]⟩:ByteArray),.string (⟨#[]⟩:ByteArray),.int .i64 (-1)] 23 (0,0))):=⟨by rw [← hq_];exact (by (with_reducible repeat (first | refine blk_drewN ?_ _ | refine blk_drew ?_ | refine blk_alloc ?_ _));exact BK147.out)⟩;have n3_:Aside0 (Below w.heap.size w wc):=⟨by rw [← hq_];exact (by repeat (first | (with_reducible first | exact HB.out | apply below_alloc | apply pw_below_drewN | apply below_drew1 | refine below_set ?_ GE143.out | refine below_set ?_ GE147.out) | exact HB.out))⟩;clear HO_3 BK143 BK147 HB hq_;have HO_3:=n0_;have BK143:=n1_;have BK147:=n2_;have HB:=n3_;clear n0_ n1_ n2_ n3_));have hnb26:=NB147_143.out;have hnc26:=NB143_147.out;have hcz27_0:wc.cell? ⟨gb147,0,none⟩=some (.int .i64 0):=(blk_cell BK147.out 0).trans rfl;have hcz27_1:wc.cell? ⟨gb147,1,none⟩=some (.int .i64 0):=(blk_cell BK147.out 1).trans rfl;have hcz27_2:wc.cell? ⟨gb147,2,none⟩=some (.int .i64 0):=(blk_cell BK147.out 2).trans rfl;have hcz27_3:wc.cell? ⟨gb147,3,none⟩=some (.string (⟨#[]⟩:ByteArray)):=(blk_cell BK147.out 3).trans rfl;have hcz27_4:wc.cell? ⟨gb147,4,none⟩=some (.string (⟨#[]⟩:ByteArray)):=(blk_cell BK147.out 4).trans rfl;have hcz27_5:wc.cell? ⟨gb147,5,none⟩=some (.int .i64 (-1)):=(blk_cell BK147.out 5).trans rfl;have hfz27_0:=blk_frozen BK147.out 0;have hfz27_1:=blk_frozen BK147.out 1;have hfz27_2:=blk_frozen BK147.out 2;have hfz27_3:=blk_frozen BK147.out 3;have hfz27_4:=blk_frozen BK147.out 4;have hfz27_5:=blk_frozen BK147.out 5))
        go_meet
        case rel=>exact ⟨_,(1),(t151),(by first | rfl | (simp;done) | (simp [*];done) | (simp [bne];done)),H',⟨by have:=HJ5.out;first | omega | exact Nat.le_refl _⟩,⟨by (with_reducible repeat (first | apply Kd.R_alloc | apply Kd.R_drewN | apply Kd.R_drew));exact Kd.R_mono (Kd.R_far (p:=⟨gb147,5,none⟩) (Kd.R_types HO_3.out BK147.out (by decide)) (fun _ hk=>hk.2) (.int .i64 t151)) (fun _ hk=>trivial)⟩,⟨by (with_reducible repeat (first | refine blk_drewN ?_ _ | refine blk_drew ?_ | refine blk_alloc ?_ _));refine blk_far ?_ NB143_147.out _;(with_reducible repeat (first | refine blk_drewN ?_ _ | refine blk_drew ?_ | refine blk_alloc ?_ _));exact BK143.out⟩,⟨by (with_reducible repeat (first | refine blk_drewN ?_ _ | refine blk_drew ?_ | refine blk_alloc ?_ _));refine blk_put (cs:=#[.int .i64 0,.int .i64 0,.int .i64 0,.string (⟨#[]⟩:ByteArray),.string (⟨#[]⟩:ByteArray),.int .i64 (-1)]) ?_ 5 _ rfl;(with_reducible repeat (first | refine blk_drewN ?_ _ | refine blk_drew ?_ | refine blk_alloc ?_ _));exact BK147.out⟩,⟨by repeat (first | (with_reducible first | exact HB.out | apply below_alloc | apply pw_below_drewN | apply below_drew1 | refine below_set ?_ GE143.out | refine below_set ?_ GE147.out) | exact HB.out)⟩⟩
       ·rw [if_neg c23] at H
        exact absurd H (by simp)
      ·rw [if_neg c22] at H
       exact absurd H (by simp)
     ·replace c21:=Bool.eq_false_iff.mpr c21
      subst c21
      have H1:(Y1.j1 kj5 a0 t144 0 0 0 0 (⟨#[]⟩:ByteArray) (⟨#[]⟩:ByteArray) (-1))=some (r1,r2,r3,r4,r5,r6,r7):=by rw [if_neg (show ¬ (false=true) by decide)] at H;exact H
      clear H
      have H:=H1
      clear H1
      have H':=Aside0.mk H
      clear H
      go_wp2
      go_meet
      case rel=>exact ⟨_,(0),((-1)),(by first | rfl | (simp;done) | (simp [*];done) | (simp [bne];done)),H',⟨by have:=HJ5.out;first | omega | exact Nat.le_refl _⟩,⟨by (with_reducible repeat (first | apply Kd.R_alloc | apply Kd.R_drewN | apply Kd.R_drew));exact HO_3.out⟩,⟨by (with_reducible repeat (first | refine blk_drewN ?_ _ | refine blk_drew ?_ | refine blk_alloc ?_ _));exact BK143.out⟩,⟨by (with_reducible repeat (first | refine blk_drewN ?_ _ | refine blk_drew ?_ | refine blk_alloc ?_ _));exact BK147.out⟩,⟨by repeat (first | (with_reducible first | exact HB.out | apply below_alloc | apply pw_below_drewN | apply below_drew1 | refine below_set ?_ GE143.out | refine below_set ?_ GE147.out) | exact HB.out)⟩⟩
    case rest =>
     clear HC20
     try clear c1
     try clear p1
     try clear q1
     try clear hx1
     try clear qi1
     try clear c2
     try clear c2b0
     try clear c2b1
     try clear p2
     try clear c4
     try clear c7
     try clear c8
     try clear c10
     try clear c12
     try clear c12b0
     try clear c12b1
     try clear c13
     try clear c13b0
     try clear c13b1
     try clear c14
     try clear c14b0
     try clear c14b1
     try clear p14
     try clear q14
     try clear hx14
     try clear qi14
     try clear p15
     try clear q15
     try clear hx15
     try clear qi15
     try clear c16
     try clear c16b0
     try clear c16b1
     try clear c21
     try clear c22
     try clear c22b0
     try clear c22b1
     try clear c23
     try clear c23b0
     try clear c23b1
     try clear c26
     try clear hcz11_0
     try clear hcz11_1
     try clear hcz11_2
     try clear hcz11_3
     try clear hcz11_4
     try clear hcz11_5
     try clear hcz27_0
     try clear hcz27_1
     try clear hcz27_2
     try clear hcz27_3
     try clear hcz27_4
     try clear hcz27_5
     try clear hcz4_0
     try clear hcz4_1
     try clear hcz4_2
     try clear hcz4_3
     try clear hcz4_4
     try clear hcz4_5
     try clear hcz4_6
     try clear hfz11_0
     try clear hfz11_1
     try clear hfz11_2
     try clear hfz11_3
     try clear hfz11_4
     try clear hfz11_5
     try clear hfz27_0
     try clear hfz27_1
     try clear hfz27_2
     try clear hfz27_3
     try clear hfz27_4
     try clear hfz27_5
     try clear hfz4_0
     try clear hfz4_1
     try clear hfz4_2
     try clear hfz4_3
     try clear hfz4_4
     try clear hfz4_5
     try clear hfz4_6
     try clear hx148_0
     try clear hx149_0
     try clear hx150_0
     try clear p1
     try clear p14
     try clear p148
     try clear p149
     try clear p15
     try clear p150
     try clear p2
     try clear q1
     try clear q14
     try clear q148
     try clear q149
     try clear q15
     try clear q150
     obtain ⟨kq,x5_19,x148005_19,rfl,HA,HJ19,HO_3,BK143,BK147,HB⟩:=hcut
     cases kq with
     | zero=>exact absurd HA.out (by simp [Y1.j1])
     | succ kj19 =>
      have H:=HA.out
      clear HA
      simp only [Y1.j1] at H
      have H':=Aside0.mk H
      clear H
      go_wp2
      go_loopg [6] kj19 (fun kq v6 w'=>∃ (x6_3:Int) (x148000_3:Int),v6 = .int .i64 x6_3∧Aside0 (Y1.l0 kq a0 t144 x5_19 x6_3 x148000_3 0 0 (⟨#[]⟩:ByteArray) (⟨#[]⟩:ByteArray) x148005_19=some (r1,r2,r3,r4,r5,r6,r7))∧Aside0 (kq≤kj19)∧Aside0 (Kd.R Kd.string 9 w' w.heap.size (fun _=>True) v145 t144)∧Aside0 (w'.heap[gb143]? = some (.cells #[.int .i64 0,.int .i64 0,.int .i64 0,.string (⟨#[]⟩:ByteArray),.string (⟨#[]⟩:ByteArray),.int .i64 0,.int .i64 0] 25 (0,0)))∧Aside0 (w'.heap[gb147]? = some (.cells #[.int .i64 x148000_3,.int .i64 0,.int .i64 0,.string (⟨#[]⟩:ByteArray),.string (⟨#[]⟩:ByteArray),.int .i64 x148005_19] 23 (0,0)))∧Aside0 (Below w.heap.size w w'))
      case atStart=>exact ⟨(1),(0),(by first | rfl | (simp;done) | (simp [*];done) | (simp [bne];done)),H',⟨Nat.le_refl _⟩,⟨by (with_reducible repeat (first | apply Kd.R_alloc | apply Kd.R_drewN | apply Kd.R_drew));exact HO_3.out⟩,⟨by (with_reducible repeat (first | refine blk_drewN ?_ _ | refine blk_drew ?_ | refine blk_alloc ?_ _));exact BK143.out⟩,⟨by (with_reducible repeat (first | refine blk_drewN ?_ _ | refine blk_drew ?_ | refine blk_alloc ?_ _));exact BK147.out⟩,⟨by repeat (first | (with_reducible first | exact HB.out | apply below_alloc | apply pw_below_drewN | apply below_drew1 | refine below_set ?_ GE143.out | refine below_set ?_ GE147.out) | exact HB.out)⟩⟩
      case round =>
       clear H'
       try clear c1
       try clear p1
       try clear q1
       try clear hx1
       try clear qi1
       try clear c2
       try clear c2b0
       try clear c2b1
       try clear p2
       try clear c4
       try clear c7
       try clear c8
       try clear c10
       try clear c12
       try clear c12b0
       try clear c12b1
       try clear c13
       try clear c13b0
       try clear c13b1
       try clear c14
       try clear c14b0
       try clear c14b1
       try clear p14
       try clear q14
       try clear hx14
       try clear qi14
       try clear p15
       try clear q15
       try clear hx15
       try clear qi15
       try clear c16
       try clear c16b0
       try clear c16b1
       try clear c21
       try clear c22
       try clear c22b0
       try clear c22b1
       try clear c23
       try clear c23b0
       try clear c23b1
       try clear c26
       try clear hcz11_0
       try clear hcz11_1
       try clear hcz11_2
       try clear hcz11_3
       try clear hcz11_4
       try clear hcz11_5
       try clear hcz27_0
       try clear hcz27_1
       try clear hcz27_2
       try clear hcz27_3
       try clear hcz27_4
       try clear hcz27_5
       try clear hcz4_0
       try clear hcz4_1
       try clear hcz4_2
       try clear hcz4_3
       try clear hcz4_4
       try clear hcz4_5
       try clear hcz4_6
       try clear hfz11_0
       try clear hfz11_1
       try clear hfz11_2
       try clear hfz11_3
       try clear hfz11_4
       try clear hfz11_5
       try clear hfz27_0
       try clear hfz27_1
       try clear hfz27_2
       try clear hfz27_3
       try clear hfz27_4
       try clear hfz27_5
       try clear hfz4_0
       try clear hfz4_1
       try clear hfz4_2
       try clear hfz4_3
       try clear hfz4_4
       try clear hfz4_5
       try clear hfz4_6
       try clear hx148_0
       try clear hx149_0
       try clear hx150_0
       try clear p1
       try clear p14
       try clear p148
       try clear p149
       try clear p15
       try clear p150
       try clear p2
       try clear q1
       try clear q14
       try clear q148
       try clear q149
       try clear q15
       try clear q150
       obtain ⟨x6_3,x148000_3,rfl,HA,HK3,HO_3,BK143,BK147,HB⟩:=hrel
       cases gk with
       | zero=>exact absurd HA.out (by simp [Y1.l0])
       | succ k3 =>
        have H:=HA.out
        clear HA
        simp only [Y1.l0] at H
        by_cases c28:x6_3≤17
        ·rw [if_pos c28] at H
         have c28b0:decide (x6_3≤17)=true:=decide_eq_true c28
         clear c28
         by_cases c29:0≤x5_19
         ·rw [if_pos c29] at H
          have c29b0:decide (0≤x5_19)=true:=decide_eq_true c29
          clear c29
          by_cases c30:x5_19<(t144.length:Int)
          ·rw [if_pos c30] at H
           have c30b0:decide (x5_19<(t144.length:Int))=true:=decide_eq_true c30
           clear c30
           replace H:=Option.bind_eq_some_iff.mp H
           obtain ⟨t153,A310,H⟩:=H
           replace H:(if (rdOf ByteArray.empty t144 x5_19).toList=t153.toList then (Y1.l0 k3 a0 t144 x5_19 (wrap64 (x6_3+1)) x6_3 0 0 (⟨#[]⟩:ByteArray) (⟨#[]⟩:ByteArray) x148005_19) else (Y1.l0 k3 a0 t144 x5_19 (wrap64 (x6_3+1)) x148000_3 0 0 (⟨#[]⟩:ByteArray) (⟨#[]⟩:ByteArray) x148005_19))=some (r1,r2,r3,r4,r5,r6,r7):=H
           have A31:=Aside0.mk A310
           clear A310
           by_cases c32:(rdOf ByteArray.empty t144 x5_19).toList=t153.toList
           ·rw [if_pos c32] at H
            have c32b0:((rdOf ByteArray.empty t144 x5_19).toList == t153.toList)=true:=beq_iff_eq.mpr c32
            have c32b1:((rdOf ByteArray.empty t144 x5_19).toList != t153.toList)=false:=bne_eq_false_iff_eq.mpr c32
            clear c32
            have H':=Aside0.mk H
            clear H
            try go_wp2
            have n0_:=Aside0.mk (Kd.R_drew HO_3.out)
            have n1_:=Aside0.mk (blk_drew BK143.out)
            have n2_:=Aside0.mk (blk_drew BK147.out)
            have n3_:=Aside0.mk (below_drew1 HB.out)
            clear HO_3
            clear BK143
            clear BK147
            clear HB
            have HO_3:=n0_
            have BK143:=n1_
            have BK147:=n2_
            have HB:=n3_
            clear n0_ n1_ n2_ n3_
            obtain ⟨Ao34,co34,eo34⟩:=Kd.R_slice HO_3.out
            (first | subst eo34 | (injection eo34 with f1_ f2_ f3_;have f4_:=f1_.symm;have f5_:=f3_.symm;clear f1_ f2_ f3_;subst f4_;subst f5_))
            have p152:0≤(x5_19:Int):=of_decide_eq_true (by first | (with_reducible assumption) | assumption)
            have q152:x5_19<(t144.length:Int):=of_decide_eq_true (by first | (with_reducible assumption) | assumption)
            obtain ⟨ad152,e152,hx152_0⟩:=Kd.at_string (Kd.R_reads' HO_3.out).2.2 x5_19 p152 q152
            cases e152
            replace p152:=eq_true p152
            replace q152:=eq_true q152
            refine start_ (n:=7) (S:=fun w'=>w'.cell? (ad152.add (x5_19).toNat)=some (.string (rdOf ByteArray.empty t144 x5_19))) (ds:=[]) #[false,false,false,false,false,false,false] (by kernel_rfl) rfl rfl (hx152_0) (fun hHeld=>?_)
            generalize wr.drew=w33 at HO_3 BK143 BK147 HB hx152_0 hHeld ⊢
            refine pure_ (i:=0) (N:=some 45) (v:=?_) (a':=?_) #[true,false,false,false,false,false,false] rfl rfl (by kernel_rfl) (fun _ _ _ h=>h) (Or.inl ⟨by rfl,?_⟩) ?_ ?_
            rotate_left
            ·intro w'
             go_simp
             with_reducible rfl
            rotate_left
            ·simp only [Act.put,sa_,s0_,ss_,i64_w,i32_w]
             rfl
            refine pure_ (i:=1) (N:=some 46) (v:=?_) (a':=?_) #[true,true,false,false,false,false,false] rfl rfl (by kernel_rfl) (fun _ _ _ h=>h) (Or.inl ⟨by rfl,?_⟩) ?_ ?_
            rotate_left
            ·intro w'
             go_simp
             with_reducible rfl
            rotate_left
            ·simp only [Act.put,sa_,s0_,ss_,i64_w,i32_w]
             rfl
            refine pure_ (i:=2) (N:=some 47) (v:=?_) (a':=?_) #[true,true,true,false,false,false,false] rfl rfl (by kernel_rfl) (fun _ _ _ h=>h) (Or.inl ⟨by rfl,?_⟩) ?_ ?_
            rotate_left
            ·intro w'
             go_simp
             with_reducible rfl
            rotate_left
            ·simp only [Act.put,sa_,s0_,ss_,i64_w,i32_w]
             rfl
            refine pure_ (i:=4) (N:=some 49) (v:=?_) (a':=?_) #[true,true,true,false,true,false,false] rfl rfl (by kernel_rfl) (fun _ _ _ h=>h) (Or.inl ⟨by rfl,?_⟩) ?_ ?_
            rotate_left
            ·intro w'
             go_simp
             with_reducible rfl
            rotate_left
            ·simp only [Act.put,sa_,s0_,ss_,i64_w,i32_w]
             rfl
            refine take_ (i:=3) (N:=some 48) (v:=?_) (a':=?_) #[true,true,true,true,true,false,false] rfl rfl (by kernel_rfl) (fun _ _ _ h=>h) (Or.inl ⟨by rfl,?_⟩) hHeld ?_ ?_
            rotate_left
            ·intro w' s0
             go_simp
             with_reducible rfl
            rotate_left
            ·simp only [Act.put,sa_,s0_,ss_,i64_w,i32_w]
             rfl
            refine one_ (i:=5) (N:=some 50) #[true,true,true,true,true,true,false] rfl rfl (by kernel_rfl) (by decide) (fun K hK=>?_)
            refine goes_ Tryd.func9 (by kernel_rfl) rfl #[.int .i64 x6_3] (by rfl) rfl rfl (by (try simp only [List.map_toArray,List.map_cons,List.map_nil]);first | done | rfl | (simp only [List.length_drop,List.length_take];rfl)) ?_
            with_reducible refine (Y9.calls k3 x6_3 t153 _ A31.out).mono ?_
            rintro e w35 ⟨rfl,hb⟩
            have HS0_:=(hb.cell (World.block_lt_of_cell? _ _ (hHeld))).trans (hHeld)
            refine ⟨_,rfl,?_⟩
            have n0_:=Aside0.mk (Kd.R_below (by (with_reducible repeat (first | apply Kd.R_alloc | apply Kd.R_drewN | apply Kd.R_drew));exact HO_3.out) hb)
            have n1_:=Aside0.mk (blk_below (g:=gb143) (o:=.cells #[.int .i64 0,.int .i64 0,.int .i64 0,.string (⟨#[]⟩:ByteArray),.string (⟨#[]⟩:ByteArray),.int .i64 0,.int .i64 0] 25 (0,0)) (by (with_reducible repeat (first | refine blk_drewN ?_ _ | refine blk_drew ?_ | refine blk_alloc ?_ _));exact BK143.out) hb)
            have n2_:=Aside0.mk (blk_below (g:=gb147) (o:=.cells #[.int .i64 x148000_3,.int .i64 0,.int .i64 0,.string (⟨#[]⟩:ByteArray),.string (⟨#[]⟩:ByteArray),.int .i64 x148005_19] 23 (0,0)) (by (with_reducible repeat (first | refine blk_drewN ?_ _ | refine blk_drew ?_ | refine blk_alloc ?_ _));exact BK147.out) hb)
            have n3_:=Aside0.mk (below_step (by repeat (first | (with_reducible first | exact HB.out | apply below_alloc | apply pw_below_drewN | apply below_drew1 | refine below_set ?_ GE143.out | refine below_set ?_ GE147.out) | exact HB.out)) hb)
            clear HO_3
            clear BK143
            clear BK147
            clear HB
            have HO_3:=n0_
            have BK143:=n1_
            have BK147:=n2_
            have HB:=n3_
            clear n0_ n1_ n2_ n3_
            (try clear hb)
            (try clear hb2)
            (try clear hk)
            (try clear hi)
            refine hK.out _ _ (HS0_) (fun hHeld=>?_)
            clear hK K
            refine norm_ (a':=?_) ?_ ?_
            rotate_left
            ·show Act.put _ (some 50) _=_
             simp only [Act.put,sa_,s0_,ss_,i64_w,i32_w]
             rfl
            refine pure_ (i:=6) (N:=some 51) (v:=?_) (a':=?_) #[true,true,true,true,true,true,true] rfl rfl (by kernel_rfl) (fun _ _ _ h=>h) (Or.inl ⟨by rfl,?_⟩) ?_ ?_
            rotate_left
            ·intro w'
             go_simp
             with_reducible rfl
            rotate_left
            ·simp only [Act.put,sa_,s0_,ss_,i64_w,i32_w]
             rfl
            refine done_ (by kernel_rfl) ?_
            have hnb36:=NB147_143.out
            have hnc36:=NB143_147.out
            have hcz37_0:w35.cell? ⟨gb147,0,none⟩=some (.int .i64 x148000_3):=(blk_cell BK147.out 0).trans rfl
            have hcz37_1:w35.cell? ⟨gb147,1,none⟩=some (.int .i64 0):=(blk_cell BK147.out 1).trans rfl
            have hcz37_2:w35.cell? ⟨gb147,2,none⟩=some (.int .i64 0):=(blk_cell BK147.out 2).trans rfl
            have hcz37_3:w35.cell? ⟨gb147,3,none⟩=some (.string (⟨#[]⟩:ByteArray)):=(blk_cell BK147.out 3).trans rfl
            have hcz37_4:w35.cell? ⟨gb147,4,none⟩=some (.string (⟨#[]⟩:ByteArray)):=(blk_cell BK147.out 4).trans rfl
            have hcz37_5:w35.cell? ⟨gb147,5,none⟩=some (.int .i64 x148005_19):=(blk_cell BK147.out 5).trans rfl
            have hfz37_0:=blk_frozen BK147.out 0
            have hfz37_1:=blk_frozen BK147.out 1
            have hfz37_2:=blk_frozen BK147.out 2
            have hfz37_3:=blk_frozen BK147.out 3
            have hfz37_4:=blk_frozen BK147.out 4
            have hfz37_5:=blk_frozen BK147.out 5
            try go_wp2
            go_roundg k3
            case measure=>have:=HJ5.out;have:=HJ19.out;have:=HK3.out;omega
            case rel=>exact ⟨(wrap64 (x6_3+1)),(x6_3),(by first | rfl | (simp;done) | (simp [*];done) | (simp [bne];done)),H',⟨by have:=HJ5.out;have:=HJ19.out;have:=HK3.out;omega⟩,⟨by (with_reducible repeat (first | apply Kd.R_alloc | apply Kd.R_drewN | apply Kd.R_drew));exact Kd.R_mono (Kd.R_far (p:=⟨gb147,0,none⟩) (Kd.R_types HO_3.out BK147.out (by decide)) (fun _ hk=>hk.2) (.int .i64 x6_3)) (fun _ hk=>trivial)⟩,⟨by (with_reducible repeat (first | refine blk_drewN ?_ _ | refine blk_drew ?_ | refine blk_alloc ?_ _));refine blk_far ?_ NB143_147.out _;(with_reducible repeat (first | refine blk_drewN ?_ _ | refine blk_drew ?_ | refine blk_alloc ?_ _));exact BK143.out⟩,⟨by (with_reducible repeat (first | refine blk_drewN ?_ _ | refine blk_drew ?_ | refine blk_alloc ?_ _));refine blk_put (cs:=#[.int .i64 x148000_3,.int .i64 0,.int .i64 0,.string (⟨#[]⟩:ByteArray),.string (⟨#[]⟩:ByteArray),.int .i64 x148005_19]) ?_ 0 _ rfl;(with_reducible repeat (first | refine blk_drewN ?_ _ | refine blk_drew ?_ | refine blk_alloc ?_ _));exact BK147.out⟩,⟨by repeat (first | (with_reducible first | exact HB.out | apply below_alloc | apply pw_below_drewN | apply below_drew1 | refine below_set ?_ GE143.out | refine below_set ?_ GE147.out) | exact HB.out)⟩⟩
           ·rw [if_neg c32] at H
            have c32b0:((rdOf ByteArray.empty t144 x5_19).toList == t153.toList)=false:=beq_eq_false_iff_ne.mpr c32
            have c32b1:((rdOf ByteArray.empty t144 x5_19).toList != t153.toList)=true:=bne_iff_ne.mpr c32
            have H':=Aside0.mk H
            clear H
            try go_wp2
            have n0_:=Aside0.mk (Kd.R_drew HO_3.out)
            have n1_:=Aside0.mk (blk_drew BK143.out)
            have n2_:=Aside0.mk (blk_drew BK147.out)
            have n3_:=Aside0.mk (below_drew1 HB.out)
            clear HO_3
            clear BK143
            clear BK147
            clear HB
            have HO_3:=n0_
            have BK143:=n1_
            have BK147:=n2_
            have HB:=n3_
            clear n0_ n1_ n2_ n3_
            obtain ⟨Ao39,co39,eo39⟩:=Kd.R_slice HO_3.out
            (first | subst eo39 | (injection eo39 with f1_ f2_ f3_;have f4_:=f1_.symm;have f5_:=f3_.symm;clear f1_ f2_ f3_;subst f4_;subst f5_))
            have p152:0≤(x5_19:Int):=of_decide_eq_true (by first | (with_reducible assumption) | assumption)
            have q152:x5_19<(t144.length:Int):=of_decide_eq_true (by first | (with_reducible assumption) | assumption)
            obtain ⟨ad152,e152,hx152_0⟩:=Kd.at_string (Kd.R_reads' HO_3.out).2.2 x5_19 p152 q152
            cases e152
            replace p152:=eq_true p152
            replace q152:=eq_true q152
            refine start_ (n:=7) (S:=fun w'=>w'.cell? (ad152.add (x5_19).toNat)=some (.string (rdOf ByteArray.empty t144 x5_19))) (ds:=[]) #[false,false,false,false,false,false,false] (by kernel_rfl) rfl rfl (hx152_0) (fun hHeld=>?_)
            generalize wr.drew=w38 at HO_3 BK143 BK147 HB hx152_0 hHeld ⊢
            refine pure_ (i:=0) (N:=some 45) (v:=?_) (a':=?_) #[true,false,false,false,false,false,false] rfl rfl (by kernel_rfl) (fun _ _ _ h=>h) (Or.inl ⟨by rfl,?_⟩) ?_ ?_
            rotate_left
            ·intro w'
             go_simp
             with_reducible rfl
            rotate_left
            ·simp only [Act.put,sa_,s0_,ss_,i64_w,i32_w]
             rfl
            refine pure_ (i:=1) (N:=some 46) (v:=?_) (a':=?_) #[true,true,false,false,false,false,false] rfl rfl (by kernel_rfl) (fun _ _ _ h=>h) (Or.inl ⟨by rfl,?_⟩) ?_ ?_
            rotate_left
            ·intro w'
             go_simp
             with_reducible rfl
            rotate_left
            ·simp only [Act.put,sa_,s0_,ss_,i64_w,i32_w]
             rfl
            refine pure_ (i:=2) (N:=some 47) (v:=?_) (a':=?_) #[true,true,true,false,false,false,false] rfl rfl (by kernel_rfl) (fun _ _ _ h=>h) (Or.inl ⟨by rfl,?_⟩) ?_ ?_
            rotate_left
            ·intro w'
             go_simp
             with_reducible rfl
            rotate_left
            ·simp only [Act.put,sa_,s0_,ss_,i64_w,i32_w]
             rfl
            refine pure_ (i:=4) (N:=some 49) (v:=?_) (a':=?_) #[true,true,true,false,true,false,false] rfl rfl (by kernel_rfl) (fun _ _ _ h=>h) (Or.inl ⟨by rfl,?_⟩) ?_ ?_
            rotate_left
            ·intro w'
             go_simp
             with_reducible rfl
            rotate_left
            ·simp only [Act.put,sa_,s0_,ss_,i64_w,i32_w]
             rfl
            refine take_ (i:=3) (N:=some 48) (v:=?_) (a':=?_) #[true,true,true,true,true,false,false] rfl rfl (by kernel_rfl) (fun _ _ _ h=>h) (Or.inl ⟨by rfl,?_⟩) hHeld ?_ ?_
            rotate_left
            ·intro w' s0
             go_simp
             with_reducible rfl
            rotate_left
            ·simp only [Act.put,sa_,s0_,ss_,i64_w,i32_w]
             rfl
            refine one_ (i:=5) (N:=some 50) #[true,true,true,true,true,true,false] rfl rfl (by kernel_rfl) (by decide) (fun K hK=>?_)
            refine goes_ Tryd.func9 (by kernel_rfl) rfl #[.int .i64 x6_3] (by rfl) rfl rfl (by (try simp only [List.map_toArray,List.map_cons,List.map_nil]);first | done | rfl | (simp only [List.length_drop,List.length_take];rfl)) ?_
            with_reducible refine (Y9.calls k3 x6_3 t153 _ A31.out).mono ?_
            rintro e w40 ⟨rfl,hb⟩
            have HS0_:=(hb.cell (World.block_lt_of_cell? _ _ (hHeld))).trans (hHeld)
            refine ⟨_,rfl,?_⟩
            have n0_:=Aside0.mk (Kd.R_below (by (with_reducible repeat (first | apply Kd.R_alloc | apply Kd.R_drewN | apply Kd.R_drew));exact HO_3.out) hb)
            have n1_:=Aside0.mk (blk_below (g:=gb143) (o:=.cells #[.int .i64 0,.int .i64 0,.int .i64 0,.string (⟨#[]⟩:ByteArray),.string (⟨#[]⟩:ByteArray),.int .i64 0,.int .i64 0] 25 (0,0)) (by (with_reducible repeat (first | refine blk_drewN ?_ _ | refine blk_drew ?_ | refine blk_alloc ?_ _));exact BK143.out) hb)
            have n2_:=Aside0.mk (blk_below (g:=gb147) (o:=.cells #[.int .i64 x148000_3,.int .i64 0,.int .i64 0,.string (⟨#[]⟩:ByteArray),.string (⟨#[]⟩:ByteArray),.int .i64 x148005_19] 23 (0,0)) (by (with_reducible repeat (first | refine blk_drewN ?_ _ | refine blk_drew ?_ | refine blk_alloc ?_ _));exact BK147.out) hb)
            have n3_:=Aside0.mk (below_step (by repeat (first | (with_reducible first | exact HB.out | apply below_alloc | apply pw_below_drewN | apply below_drew1 | refine below_set ?_ GE143.out | refine below_set ?_ GE147.out) | exact HB.out)) hb)
            clear HO_3
            clear BK143
            clear BK147
            clear HB
            have HO_3:=n0_
            have BK143:=n1_
            have BK147:=n2_
            have HB:=n3_
            clear n0_ n1_ n2_ n3_
            (try clear hb)
            (try clear hb2)
            (try clear hk)
            (try clear hi)
            refine hK.out _ _ (HS0_) (fun hHeld=>?_)
            clear hK K
            refine norm_ (a':=?_) ?_ ?_
            rotate_left
            ·show Act.put _ (some 50) _=_
             simp only [Act.put,sa_,s0_,ss_,i64_w,i32_w]
             rfl
            refine pure_ (i:=6) (N:=some 51) (v:=?_) (a':=?_) #[true,true,true,true,true,true,true] rfl rfl (by kernel_rfl) (fun _ _ _ h=>h) (Or.inl ⟨by rfl,?_⟩) ?_ ?_
            rotate_left
            ·intro w'
             go_simp
             with_reducible rfl
            rotate_left
            ·simp only [Act.put,sa_,s0_,ss_,i64_w,i32_w]
             rfl
            refine done_ (by kernel_rfl) ?_
            try go_wp2
            go_roundg k3
            case measure=>have:=HJ5.out;have:=HJ19.out;have:=HK3.out;omega
            case rel=>exact ⟨(wrap64 (x6_3+1)),(x148000_3),(by first | rfl | (simp;done) | (simp [*];done) | (simp [bne];done)),H',⟨by have:=HJ5.out;have:=HJ19.out;have:=HK3.out;omega⟩,⟨by (with_reducible repeat (first | apply Kd.R_alloc | apply Kd.R_drewN | apply Kd.R_drew));exact HO_3.out⟩,⟨by (with_reducible repeat (first | refine blk_drewN ?_ _ | refine blk_drew ?_ | refine blk_alloc ?_ _));exact BK143.out⟩,⟨by (with_reducible repeat (first | refine blk_drewN ?_ _ | refine blk_drew ?_ | refine blk_alloc ?_ _));exact BK147.out⟩,⟨by repeat (first | (with_reducible first | exact HB.out | apply below_alloc | apply pw_below_drewN | apply below_drew1 | refine below_set ?_ GE143.out | refine below_set ?_ GE147.out) | exact HB.out)⟩⟩
          ·rw [if_neg c30] at H
           exact absurd H (by simp)
         ·rw [if_neg c29] at H
          exact absurd H (by simp)
        ·rw [if_neg c28] at H
         have c28b0:decide (x6_3≤17)=false:=decide_eq_false c28
         clear c28
         replace H:=Option.bind_eq_some_iff.mp H
         obtain ⟨⟨t154,t155,t156,t157⟩,A410,H⟩:=H
         replace H:(if t154=true then (Y1.j3 k3 a0 t144 (wrap64 (x5_19+1)) t155 t156 t157 (decide ((wrap64 (x5_19+1))<(t144.length:Int))) x148000_3 0 0 (⟨#[]⟩:ByteArray) (⟨#[]⟩:ByteArray) x148005_19) else (Y1.j3 k3 a0 t144 (wrap64 (x5_19+1)) t155 t156 t157 false x148000_3 0 0 (⟨#[]⟩:ByteArray) (⟨#[]⟩:ByteArray) x148005_19))=some (r1,r2,r3,r4,r5,r6,r7):=H
         have A41:=Aside0.mk A410
         clear A410
         have HC42:=Aside0.mk H
         clear H
         have hnb43:=NB147_143.out
         have hnc43:=NB143_147.out
         have hcz44_0:wr.cell? ⟨gb147,0,none⟩=some (.int .i64 x148000_3):=(blk_cell BK147.out 0).trans rfl
         have hcz44_1:wr.cell? ⟨gb147,1,none⟩=some (.int .i64 0):=(blk_cell BK147.out 1).trans rfl
         have hcz44_2:wr.cell? ⟨gb147,2,none⟩=some (.int .i64 0):=(blk_cell BK147.out 2).trans rfl
         have hcz44_3:wr.cell? ⟨gb147,3,none⟩=some (.string (⟨#[]⟩:ByteArray)):=(blk_cell BK147.out 3).trans rfl
         have hcz44_4:wr.cell? ⟨gb147,4,none⟩=some (.string (⟨#[]⟩:ByteArray)):=(blk_cell BK147.out 4).trans rfl
         have hcz44_5:wr.cell? ⟨gb147,5,none⟩=some (.int .i64 x148005_19):=(blk_cell BK147.out 5).trans rfl
         have hfz44_0:=blk_frozen BK147.out 0
         have hfz44_1:=blk_frozen BK147.out 1
         have hfz44_2:=blk_frozen BK147.out 2
         have hfz44_3:=blk_frozen BK147.out 3
         have hfz44_4:=blk_frozen BK147.out 4
         have hfz44_5:=blk_frozen BK147.out 5
         go_upto_region 16 with (first | ((with_reducible refine gate_callee (f:=10) rfl ?_);refine goesL_ (some 59) rfl rfl Tryd.func10 (by kernel_rfl) rfl #[.int .i64 x148000_3] rfl (by (try simp only [List.map_toArray,List.map_cons,List.map_nil]);first | done | rfl | (simp only [List.length_drop,List.length_take];rfl)) ?_;(with_reducible refine (Y12.calls k3 x148000_3 t154 t155 t156 t157 _ A41.out).mono ?_);rintro e w' ⟨rfl,⟨nd,rfl⟩⟩;refine ⟨_,rfl,?_⟩))
         (try simp only [Act.put,sa_,s0_,ss_])
         go_cut [70] (fun v70 wc=>∃ (kq:Nat) (x70_41:Bool),v70 = .bool x70_41∧Aside0 (Y1.j3 kq a0 t144 (wrap64 (x5_19+1)) t155 t156 t157 x70_41 x148000_3 0 0 (⟨#[]⟩:ByteArray) (⟨#[]⟩:ByteArray) x148005_19=some (r1,r2,r3,r4,r5,r6,r7))∧Aside0 (kq≤k3)∧Aside0 (Kd.R Kd.string 9 wc w.heap.size (fun _=>True) v145 t144)∧Aside0 (wc.heap[gb143]? = some (.cells #[.int .i64 0,.int .i64 0,.int .i64 0,.string (⟨#[]⟩:ByteArray),.string (⟨#[]⟩:ByteArray),.int .i64 0,.int .i64 0] 25 (0,0)))∧Aside0 (wc.heap[gb147]? = some (.cells #[.int .i64 x148000_3,.int .i64 0,.int .i64 0,.string (⟨#[]⟩:ByteArray),.string (⟨#[]⟩:ByteArray),.int .i64 x148005_19] 23 (0,0)))∧Aside0 (Below w.heap.size w wc))
         case first =>
          have H:=HC42.out
          clear HC42
          by_cases c45:t154=true
          ·subst c45
           have H1:(Y1.j3 k3 a0 t144 (wrap64 (x5_19+1)) t155 t156 t157 (decide ((wrap64 (x5_19+1))<(t144.length:Int))) x148000_3 0 0 (⟨#[]⟩:ByteArray) (⟨#[]⟩:ByteArray) x148005_19)=some (r1,r2,r3,r4,r5,r6,r7):=by rw [if_pos rfl] at H;exact H
           clear H
           have H:=H1
           clear H1
           have H':=Aside0.mk H
           clear H
           obtain ⟨Ao46,co46,eo46⟩:=Kd.R_slice HO_3.out
           subst eo46
           go_wp2
           go_meet
           case rel=>exact ⟨_,(decide ((wrap64 (x5_19+1))<(t144.length:Int))),(by first | rfl | (simp;done) | (simp [*];done) | (simp [bne];done)),H',⟨by have:=HJ5.out;have:=HJ19.out;have:=HK3.out;first | omega | exact Nat.le_refl _⟩,⟨by (with_reducible repeat (first | apply Kd.R_alloc | apply Kd.R_drewN | apply Kd.R_drew));exact HO_3.out⟩,⟨by (with_reducible repeat (first | refine blk_drewN ?_ _ | refine blk_drew ?_ | refine blk_alloc ?_ _));exact BK143.out⟩,⟨by (with_reducible repeat (first | refine blk_drewN ?_ _ | refine blk_drew ?_ | refine blk_alloc ?_ _));exact BK147.out⟩,⟨by repeat (first | (with_reducible first | exact HB.out | apply below_alloc | apply pw_below_drewN | apply below_drew1 | refine below_set ?_ GE143.out | refine below_set ?_ GE147.out) | exact HB.out)⟩⟩
          ·replace c45:=Bool.eq_false_iff.mpr c45
           subst c45
           have H1:(Y1.j3 k3 a0 t144 (wrap64 (x5_19+1)) t155 t156 t157 false x148000_3 0 0 (⟨#[]⟩:ByteArray) (⟨#[]⟩:ByteArray) x148005_19)=some (r1,r2,r3,r4,r5,r6,r7):=by rw [if_neg (show ¬ (false=true) by decide)] at H;exact H
           clear H
           have H:=H1
           clear H1
           have H':=Aside0.mk H
           clear H
           go_wp2
           go_meet
           case rel=>exact ⟨_,(false),(by first | rfl | (simp;done) | (simp [*];done) | (simp [bne];done)),H',⟨by have:=HJ5.out;have:=HJ19.out;have:=HK3.out;first | omega | exact Nat.le_refl _⟩,⟨by (with_reducible repeat (first | apply Kd.R_alloc | apply Kd.R_drewN | apply Kd.R_drew));exact HO_3.out⟩,⟨by (with_reducible repeat (first | refine blk_drewN ?_ _ | refine blk_drew ?_ | refine blk_alloc ?_ _));exact BK143.out⟩,⟨by (with_reducible repeat (first | refine blk_drewN ?_ _ | refine blk_drew ?_ | refine blk_alloc ?_ _));exact BK147.out⟩,⟨by repeat (first | (with_reducible first | exact HB.out | apply below_alloc | apply pw_below_drewN | apply below_drew1 | refine below_set ?_ GE143.out | refine below_set ?_ GE147.out) | exact HB.out)⟩⟩
         case rest =>
          clear HC42
          try clear c1
          try clear p1
          try clear q1
          try clear hx1
          try clear qi1
          try clear c2
          try clear c2b0
          try clear c2b1
          try clear p2
          try clear c3
          try clear c4
          try clear p6
          try clear c7
          try clear c8
          try clear c9
          try clear c10
          try clear c12
          try clear c12b0
          try clear c12b1
          try clear c13
          try clear c13b0
          try clear c13b1
          try clear c14
          try clear c14b0
          try clear c14b1
          try clear p14
          try clear q14
          try clear hx14
          try clear qi14
          try clear p15
          try clear q15
          try clear hx15
          try clear qi15
          try clear c16
          try clear c16b0
          try clear c16b1
          try clear c21
          try clear c22
          try clear c22b0
          try clear c22b1
          try clear c23
          try clear c23b0
          try clear c23b1
          try clear c26
          try clear c28
          try clear c28b0
          try clear c29
          try clear c29b0
          try clear c30
          try clear c30b0
          try clear c32
          try clear c32b0
          try clear c32b1
          try clear c36
          try clear c43
          try clear c45
          try clear hcz11_0
          try clear hcz11_1
          try clear hcz11_2
          try clear hcz11_3
          try clear hcz11_4
          try clear hcz11_5
          try clear hcz27_0
          try clear hcz27_1
          try clear hcz27_2
          try clear hcz27_3
          try clear hcz27_4
          try clear hcz27_5
          try clear hcz37_0
          try clear hcz37_1
          try clear hcz37_2
          try clear hcz37_3
          try clear hcz37_4
          try clear hcz37_5
          try clear hcz44_0
          try clear hcz44_1
          try clear hcz44_2
          try clear hcz44_3
          try clear hcz44_4
          try clear hcz44_5
          try clear hcz4_0
          try clear hcz4_1
          try clear hcz4_2
          try clear hcz4_3
          try clear hcz4_4
          try clear hcz4_5
          try clear hcz4_6
          try clear hfz11_0
          try clear hfz11_1
          try clear hfz11_2
          try clear hfz11_3
          try clear hfz11_4
          try clear hfz11_5
          try clear hfz27_0
          try clear hfz27_1
          try clear hfz27_2
          try clear hfz27_3
          try clear hfz27_4
          try clear hfz27_5
          try clear hfz37_0
          try clear hfz37_1
          try clear hfz37_2
          try clear hfz37_3
          try clear hfz37_4
          try clear hfz37_5
          try clear hfz44_0
          try clear hfz44_1
          try clear hfz44_2
          try clear hfz44_3
          try clear hfz44_4
          try clear hfz44_5
          try clear hfz4_0
          try clear hfz4_1
          try clear hfz4_2
          try clear hfz4_3
          try clear hfz4_4
          try clear hfz4_5
          try clear hfz4_6
          try clear hx148_0
          try clear hx149_0
          try clear hx150_0
          try clear hx152_0
          try clear p1
          try clear p14
          try clear p148
          try clear p149
          try clear p15
          try clear p150
          try clear p152
          try clear p2
          try clear q1
          try clear q14
          try clear q148
          try clear q149
          try clear q15
          try clear q150
          try clear q152
          obtain ⟨kq,x70_41,rfl,HA,HJ41,HO_3,BK143,BK147,HB⟩:=hcut
          cases kq with
          | zero=>exact absurd HA.out (by simp [Y1.j3])
          | succ kj41 =>
           have H:=HA.out
           clear HA
           simp only [Y1.j3] at H
           have HC47:=Aside0.mk H
           clear H
           go_upto_if 70 with (fail)
           go_cut [5] (fun v5 wc=>∃ (kq:Nat) (x5_46:Int) (x148001_46:Int),v5 = .int .i64 x5_46∧Aside0 (Y1.j4 kq a0 t144 x5_46 t155 t156 t157 x148000_3 x148001_46 0 (⟨#[]⟩:ByteArray) (⟨#[]⟩:ByteArray) x148005_19=some (r1,r2,r3,r4,r5,r6,r7))∧Aside0 (kq≤kj41)∧Aside0 (Kd.R Kd.string 9 wc w.heap.size (fun _=>True) v145 t144)∧Aside0 (wc.heap[gb143]? = some (.cells #[.int .i64 0,.int .i64 0,.int .i64 0,.string (⟨#[]⟩:ByteArray),.string (⟨#[]⟩:ByteArray),.int .i64 0,.int .i64 0] 25 (0,0)))∧Aside0 (wc.heap[gb147]? = some (.cells #[.int .i64 x148000_3,.int .i64 x148001_46,.int .i64 0,.string (⟨#[]⟩:ByteArray),.string (⟨#[]⟩:ByteArray),.int .i64 x148005_19] 23 (0,0)))∧Aside0 (Below w.heap.size w wc))
           case first =>
            have H:=HC47.out
            clear HC47
            by_cases c48:x70_41=true
            ·subst c48
             have H1:(if 0≤(wrap64 (x5_19+1)) then (if (wrap64 (x5_19+1))<(t144.length:Int) then ((Y10.f kj41 (rdOf ByteArray.empty t144 (wrap64 (x5_19+1)))).bind fun t159=>(Y1.j4 kj41 a0 t144 (wrap64 ((wrap64 (x5_19+1))+1)) t155 t156 t157 x148000_3 t159 0 (⟨#[]⟩:ByteArray) (⟨#[]⟩:ByteArray) x148005_19)) else (none)) else (none))=some (r1,r2,r3,r4,r5,r6,r7):=by rw [if_pos rfl] at H;exact H
             clear H
             have H:=H1
             clear H1
             obtain ⟨ji49,hji49⟩:∃ j_:Int,(wrap64 (x5_19+1))=j_:=⟨_,rfl⟩
             replace H:(if 0≤(ji49) then (if (ji49)<(t144.length:Int) then ((Y10.f kj41 (rdOf ByteArray.empty t144 (ji49))).bind fun t159=>(Y1.j4 kj41 a0 t144 (wrap64 ((ji49)+1)) t155 t156 t157 x148000_3 t159 0 (⟨#[]⟩:ByteArray) (⟨#[]⟩:ByteArray) x148005_19)) else (none)) else (none))=some (r1,r2,r3,r4,r5,r6,r7):=by first | (rw [hji49] at H;exact H) | (simp only [hji49] at H ⊢;exact H)
             have hji49w:(IntKind.i64.wrap (x5_19+1))=ji49:=(i64_w _).trans hji49
             by_cases c50:0≤(ji49)
             ·rw [if_pos c50] at H
              have c50b0:decide (0≤(ji49))=true:=decide_eq_true c50
              clear c50
              (first | rw [c50b0] | (simp only [i64_w,i32_w];rw [c50b0]) | skip)
              by_cases c51:(ji49)<(t144.length:Int)
              ·rw [if_pos c51] at H
               have c51b0:decide ((ji49)<(t144.length:Int))=true:=decide_eq_true c51
               clear c51
               replace H:=Option.bind_eq_some_iff.mp H
               obtain ⟨t159,A520,H⟩:=H
               replace H:(Y1.j4 kj41 a0 t144 (wrap64 ((ji49)+1)) t155 t156 t157 x148000_3 t159 0 (⟨#[]⟩:ByteArray) (⟨#[]⟩:ByteArray) x148005_19)=some (r1,r2,r3,r4,r5,r6,r7):=H
               have A52:=Aside0.mk A520
               clear A520
               have H':=Aside0.mk H
               clear H
               obtain ⟨Ao53,co53,eo53⟩:=Kd.R_slice HO_3.out
               subst eo53
               have p158:0≤((ji49):Int):=of_decide_eq_true (by first | (with_reducible assumption) | assumption)
               have q158:(ji49)<(t144.length:Int):=of_decide_eq_true (by first | (with_reducible assumption) | assumption)
               obtain ⟨ad158,e158,hx158_0⟩:=Kd.at_string (Kd.R_reads' HO_3.out).2.2 (ji49) p158 q158
               cases e158
               replace p158:=eq_true p158
               replace q158:=eq_true q158
               go_wp2_with (first | ((with_reducible refine gate_callee (f:=8) rfl ?_);refine goesL_ (some 75) rfl rfl Tryd.func8 (by kernel_rfl) rfl #[.string (rdOf ByteArray.empty t144 (ji49))] rfl (by (try simp only [List.map_toArray,List.map_cons,List.map_nil]);first | done | (simp only [hji49];rfl) | rfl | (simp only [List.length_drop,List.length_take];rfl)) ?_;(with_reducible refine (Y10.calls kj41 (rdOf ByteArray.empty t144 (ji49)) t159 _ A52.out).mono ?_);rintro e w' ⟨rfl,⟨nd,rfl⟩⟩;refine ⟨_,rfl,?_⟩;(try (rw [drewN_self wc];generalize hq_:World.drewN wc _=wc;have n0_:Aside0 (Kd.R Kd.string 9 wc w.heap.size (fun _=>True) (.slice (some ad158) t144.length co53) t144):=⟨by rw [← hq_];exact (by (with_reducible repeat (first | apply Kd.R_alloc | apply Kd.R_drewN | apply Kd.R_drew));exact HO_3.out)⟩;have n1_:Aside0 (wc.heap[gb143]? = some (.cells #[.int .i64 0,.int .i64 0,.int .i64 0,.string (⟨#[]⟩:ByteArray),.string (⟨#[]⟩:ByteArray),.int .i64 0,.int .i64 0] 25 (0,0))):=⟨by rw [← hq_];exact (by (with_reducible repeat (first | refine blk_drewN ?_ _ | refine blk_drew ?_ | refine blk_alloc ?_ _));exact BK143.out)⟩;have n2_:Aside0 (wc.heap[gb147]? = some (.cells #[.int .i64 x148000_3,.int .i64 0,.int .i64 0,.string (⟨#[]⟩:ByteArray),.string (⟨#[]⟩:ByteArray),.int .i64 x148005_19] 23 (0,0))):=⟨by rw [← hq_];exact (by (with_reducible repeat (first | refine blk_drewN ?_ _ | refine blk_drew ?_ | refine blk_alloc ?_ _));exact BK147.out)⟩;have n3_:Aside0 (Below w.heap.size w wc):=⟨by rw [← hq_];exact (by repeat (first | (with_reducible first | exact HB.out | apply below_alloc | apply pw_below_drewN | apply below_drew1 | refine below_set ?_ GE143.out | refine below_set ?_ GE147.out) | exact HB.out))⟩;clear HO_3 BK143 BK147 HB hq_;have HO_3:=n0_;have BK143:=n1_;have BK147:=n2_;have HB:=n3_;clear n0_ n1_ n2_ n3_));have hnb54:=NB147_143.out;have hnc54:=NB143_147.out;have hcz55_0:wc.cell? ⟨gb147,0,none⟩=some (.int .i64 x148000_3):=(blk_cell BK147.out 0).trans rfl;have hcz55_1:wc.cell? ⟨gb147,1,none⟩=some (.int .i64 0):=(blk_cell BK147.out 1).trans rfl;have hcz55_2:wc.cell? ⟨gb147,2,none⟩=some (.int .i64 0):=(blk_cell BK147.out 2).trans rfl;have hcz55_3:wc.cell? ⟨gb147,3,none⟩=some (.string (⟨#[]⟩:ByteArray)):=(blk_cell BK147.out 3).trans rfl;have hcz55_4:wc.cell? ⟨gb147,4,none⟩=some (.string (⟨#[]⟩:ByteArray)):=(blk_cell BK147.out 4).trans rfl;have hcz55_5:wc.cell? ⟨gb147,5,none⟩=some (.int .i64 x148005_19):=(blk_cell BK147.out 5).trans rfl;have hfz55_0:=blk_frozen BK147.out 0;have hfz55_1:=blk_frozen BK147.out 1;have hfz55_2:=blk_frozen BK147.out 2;have hfz55_3:=blk_frozen BK147.out 3;have hfz55_4:=blk_frozen BK147.out 4;have hfz55_5:=blk_frozen BK147.out 5))
               go_meet
               case rel=>exact ⟨_,(wrap64 ((ji49)+1)),(t159),(by first | rfl | (simp;done) | (simp only [← hji49] <;> (first | rfl | simp)) | (simp [*];done)),H',⟨by have:=HJ5.out;have:=HJ19.out;have:=HK3.out;have:=HJ41.out;first | omega | exact Nat.le_refl _⟩,⟨by (with_reducible repeat (first | apply Kd.R_alloc | apply Kd.R_drewN | apply Kd.R_drew));exact Kd.R_mono (Kd.R_far (p:=⟨gb147,1,none⟩) (Kd.R_types HO_3.out BK147.out (by decide)) (fun _ hk=>hk.2) (.int .i64 t159)) (fun _ hk=>trivial)⟩,⟨by (with_reducible repeat (first | refine blk_drewN ?_ _ | refine blk_drew ?_ | refine blk_alloc ?_ _));refine blk_far ?_ NB143_147.out _;(with_reducible repeat (first | refine blk_drewN ?_ _ | refine blk_drew ?_ | refine blk_alloc ?_ _));exact BK143.out⟩,⟨by (with_reducible repeat (first | refine blk_drewN ?_ _ | refine blk_drew ?_ | refine blk_alloc ?_ _));refine blk_put (cs:=#[.int .i64 x148000_3,.int .i64 0,.int .i64 0,.string (⟨#[]⟩:ByteArray),.string (⟨#[]⟩:ByteArray),.int .i64 x148005_19]) ?_ 1 _ rfl;(with_reducible repeat (first | refine blk_drewN ?_ _ | refine blk_drew ?_ | refine blk_alloc ?_ _));exact BK147.out⟩,⟨by repeat (first | (with_reducible first | exact HB.out | apply below_alloc | apply pw_below_drewN | apply below_drew1 | refine below_set ?_ GE143.out | refine below_set ?_ GE147.out) | exact HB.out)⟩⟩
              ·rw [if_neg c51] at H
               exact absurd H (by simp)
             ·rw [if_neg c50] at H
              exact absurd H (by simp)
            ·replace c48:=Bool.eq_false_iff.mpr c48
             subst c48
             have H1:(Y1.j4 kj41 a0 t144 (wrap64 (x5_19+1)) t155 t156 t157 x148000_3 0 0 (⟨#[]⟩:ByteArray) (⟨#[]⟩:ByteArray) x148005_19)=some (r1,r2,r3,r4,r5,r6,r7):=by rw [if_neg (show ¬ (false=true) by decide)] at H;exact H
             clear H
             have H:=H1
             clear H1
             have H':=Aside0.mk H
             clear H
             go_wp2
             go_meet
             case rel=>exact ⟨_,((wrap64 (x5_19+1))),(0),(by first | rfl | (simp;done) | (simp [*];done) | (simp [bne];done)),H',⟨by have:=HJ5.out;have:=HJ19.out;have:=HK3.out;have:=HJ41.out;first | omega | exact Nat.le_refl _⟩,⟨by (with_reducible repeat (first | apply Kd.R_alloc | apply Kd.R_drewN | apply Kd.R_drew));exact HO_3.out⟩,⟨by (with_reducible repeat (first | refine blk_drewN ?_ _ | refine blk_drew ?_ | refine blk_alloc ?_ _));exact BK143.out⟩,⟨by (with_reducible repeat (first | refine blk_drewN ?_ _ | refine blk_drew ?_ | refine blk_alloc ?_ _));exact BK147.out⟩,⟨by repeat (first | (with_reducible first | exact HB.out | apply below_alloc | apply pw_below_drewN | apply below_drew1 | refine below_set ?_ GE143.out | refine below_set ?_ GE147.out) | exact HB.out)⟩⟩
           case rest =>
            clear HC47
            try clear c1
            try clear p1
            try clear q1
            try clear hx1
            try clear qi1
            try clear c2
            try clear c2b0
            try clear c2b1
            try clear p2
            try clear c3
            try clear c4
            try clear c5
            try clear p6
            try clear c7
            try clear c8
            try clear c9
            try clear c10
            try clear c12
            try clear c12b0
            try clear c12b1
            try clear c13
            try clear c13b0
            try clear c13b1
            try clear c14
            try clear c14b0
            try clear c14b1
            try clear p14
            try clear q14
            try clear hx14
            try clear qi14
            try clear p15
            try clear q15
            try clear hx15
            try clear qi15
            try clear c16
            try clear c16b0
            try clear c16b1
            try clear c21
            try clear c22
            try clear c22b0
            try clear c22b1
            try clear c23
            try clear c23b0
            try clear c23b1
            try clear c26
            try clear c28
            try clear c28b0
            try clear c29
            try clear c29b0
            try clear c30
            try clear c30b0
            try clear c32
            try clear c32b0
            try clear c32b1
            try clear c36
            try clear c43
            try clear c45
            try clear c48
            try clear c50
            try clear c50b0
            try clear c51
            try clear c51b0
            try clear c54
            try clear hcz11_0
            try clear hcz11_1
            try clear hcz11_2
            try clear hcz11_3
            try clear hcz11_4
            try clear hcz11_5
            try clear hcz27_0
            try clear hcz27_1
            try clear hcz27_2
            try clear hcz27_3
            try clear hcz27_4
            try clear hcz27_5
            try clear hcz37_0
            try clear hcz37_1
            try clear hcz37_2
            try clear hcz37_3
            try clear hcz37_4
            try clear hcz37_5
            try clear hcz44_0
            try clear hcz44_1
            try clear hcz44_2
            try clear hcz44_3
            try clear hcz44_4
            try clear hcz44_5
            try clear hcz4_0
            try clear hcz4_1
            try clear hcz4_2
            try clear hcz4_3
            try clear hcz4_4
            try clear hcz4_5
            try clear hcz4_6
            try clear hcz55_0
            try clear hcz55_1
            try clear hcz55_2
            try clear hcz55_3
            try clear hcz55_4
            try clear hcz55_5
            try clear hfz11_0
            try clear hfz11_1
            try clear hfz11_2
            try clear hfz11_3
            try clear hfz11_4
            try clear hfz11_5
            try clear hfz27_0
            try clear hfz27_1
            try clear hfz27_2
            try clear hfz27_3
            try clear hfz27_4
            try clear hfz27_5
            try clear hfz37_0
            try clear hfz37_1
            try clear hfz37_2
            try clear hfz37_3
            try clear hfz37_4
            try clear hfz37_5
            try clear hfz44_0
            try clear hfz44_1
            try clear hfz44_2
            try clear hfz44_3
            try clear hfz44_4
            try clear hfz44_5
            try clear hfz4_0
            try clear hfz4_1
            try clear hfz4_2
            try clear hfz4_3
            try clear hfz4_4
            try clear hfz4_5
            try clear hfz4_6
            try clear hfz55_0
            try clear hfz55_1
            try clear hfz55_2
            try clear hfz55_3
            try clear hfz55_4
            try clear hfz55_5
            try clear hx148_0
            try clear hx149_0
            try clear hx150_0
            try clear hx152_0
            try clear hx158_0
            try clear p1
            try clear p14
            try clear p148
            try clear p149
            try clear p15
            try clear p150
            try clear p152
            try clear p158
            try clear p2
            try clear p6
            try clear q1
            try clear q14
            try clear q148
            try clear q149
            try clear q15
            try clear q150
            try clear q152
            try clear q158
            obtain ⟨kq,x5_46,x148001_46,rfl,HA,HJ46,HO_3,BK143,BK147,HB⟩:=hcut
            cases kq with
            | zero=>exact absurd HA.out (by simp [Y1.j4])
            | succ kj46 =>
             have H:=HA.out
             clear HA
             simp only [Y1.j4] at H
             have HC56:=Aside0.mk H
             clear H
             go_upto_region 19 with (fail)
             go_cut [85] (fun v85 wc=>∃ (kq:Nat) (x85_55:Bool),v85 = .bool x85_55∧Aside0 (Y1.j5 kq a0 t144 x5_46 t156 t157 x85_55 x148000_3 x148001_46 0 (⟨#[]⟩:ByteArray) (⟨#[]⟩:ByteArray) x148005_19=some (r1,r2,r3,r4,r5,r6,r7))∧Aside0 (kq≤kj46)∧Aside0 (Kd.R Kd.string 9 wc w.heap.size (fun _=>True) v145 t144)∧Aside0 (wc.heap[gb143]? = some (.cells #[.int .i64 0,.int .i64 0,.int .i64 0,.string (⟨#[]⟩:ByteArray),.string (⟨#[]⟩:ByteArray),.int .i64 0,.int .i64 0] 25 (0,0)))∧Aside0 (wc.heap[gb147]? = some (.cells #[.int .i64 x148000_3,.int .i64 x148001_46,.int .i64 0,.string (⟨#[]⟩:ByteArray),.string (⟨#[]⟩:ByteArray),.int .i64 x148005_19] 23 (0,0)))∧Aside0 (Below w.heap.size w wc))
             case first =>
              have H:=HC56.out
              clear HC56
              by_cases c57:t155=true
              ·subst c57
               have H1:(Y1.j5 kj46 a0 t144 x5_46 t156 t157 (decide (x5_46<(t144.length:Int))) x148000_3 x148001_46 0 (⟨#[]⟩:ByteArray) (⟨#[]⟩:ByteArray) x148005_19)=some (r1,r2,r3,r4,r5,r6,r7):=by rw [if_pos rfl] at H;exact H
               clear H
               have H:=H1
               clear H1
               have H':=Aside0.mk H
               clear H
               obtain ⟨Ao58,co58,eo58⟩:=Kd.R_slice HO_3.out
               subst eo58
               go_wp2
               go_meet
               case rel=>exact ⟨_,(decide (x5_46<(t144.length:Int))),(by first | rfl | (simp;done) | (simp [*];done) | (simp [bne];done)),H',⟨by have:=HJ5.out;have:=HJ19.out;have:=HK3.out;have:=HJ41.out;have:=HJ46.out;first | omega | exact Nat.le_refl _⟩,⟨by (with_reducible repeat (first | apply Kd.R_alloc | apply Kd.R_drewN | apply Kd.R_drew));exact HO_3.out⟩,⟨by (with_reducible repeat (first | refine blk_drewN ?_ _ | refine blk_drew ?_ | refine blk_alloc ?_ _));exact BK143.out⟩,⟨by (with_reducible repeat (first | refine blk_drewN ?_ _ | refine blk_drew ?_ | refine blk_alloc ?_ _));exact BK147.out⟩,⟨by repeat (first | (with_reducible first | exact HB.out | apply below_alloc | apply pw_below_drewN | apply below_drew1 | refine below_set ?_ GE143.out | refine below_set ?_ GE147.out) | exact HB.out)⟩⟩
              ·replace c57:=Bool.eq_false_iff.mpr c57
               subst c57
               have H1:(Y1.j5 kj46 a0 t144 x5_46 t156 t157 false x148000_3 x148001_46 0 (⟨#[]⟩:ByteArray) (⟨#[]⟩:ByteArray) x148005_19)=some (r1,r2,r3,r4,r5,r6,r7):=by rw [if_neg (show ¬ (false=true) by decide)] at H;exact H
               clear H
               have H:=H1
               clear H1
               have H':=Aside0.mk H
               clear H
               go_wp2
               go_meet
               case rel=>exact ⟨_,(false),(by first | rfl | (simp;done) | (simp [*];done) | (simp [bne];done)),H',⟨by have:=HJ5.out;have:=HJ19.out;have:=HK3.out;have:=HJ41.out;have:=HJ46.out;first | omega | exact Nat.le_refl _⟩,⟨by (with_reducible repeat (first | apply Kd.R_alloc | apply Kd.R_drewN | apply Kd.R_drew));exact HO_3.out⟩,⟨by (with_reducible repeat (first | refine blk_drewN ?_ _ | refine blk_drew ?_ | refine blk_alloc ?_ _));exact BK143.out⟩,⟨by (with_reducible repeat (first | refine blk_drewN ?_ _ | refine blk_drew ?_ | refine blk_alloc ?_ _));exact BK147.out⟩,⟨by repeat (first | (with_reducible first | exact HB.out | apply below_alloc | apply pw_below_drewN | apply below_drew1 | refine below_set ?_ GE143.out | refine below_set ?_ GE147.out) | exact HB.out)⟩⟩
             case rest =>
              clear HC56
              try clear c1
              try clear p1
              try clear q1
              try clear hx1
              try clear qi1
              try clear c2
              try clear c2b0
              try clear c2b1
              try clear p2
              try clear c3
              try clear c4
              try clear c5
              try clear p6
              try clear c7
              try clear c8
              try clear c9
              try clear c10
              try clear c12
              try clear c12b0
              try clear c12b1
              try clear c13
              try clear c13b0
              try clear c13b1
              try clear c14
              try clear c14b0
              try clear c14b1
              try clear p14
              try clear q14
              try clear hx14
              try clear qi14
              try clear p15
              try clear q15
              try clear hx15
              try clear qi15
              try clear c16
              try clear c16b0
              try clear c16b1
              try clear c21
              try clear c22
              try clear c22b0
              try clear c22b1
              try clear c23
              try clear c23b0
              try clear c23b1
              try clear c26
              try clear c28
              try clear c28b0
              try clear c29
              try clear c29b0
              try clear c30
              try clear c30b0
              try clear c32
              try clear c32b0
              try clear c32b1
              try clear c36
              try clear c43
              try clear c45
              try clear c48
              try clear c50
              try clear c50b0
              try clear c51
              try clear c51b0
              try clear c54
              try clear c57
              try clear hcz11_0
              try clear hcz11_1
              try clear hcz11_2
              try clear hcz11_3
              try clear hcz11_4
              try clear hcz11_5
              try clear hcz27_0
              try clear hcz27_1
              try clear hcz27_2
              try clear hcz27_3
              try clear hcz27_4
              try clear hcz27_5
              try clear hcz37_0
              try clear hcz37_1
              try clear hcz37_2
              try clear hcz37_3
              try clear hcz37_4
              try clear hcz37_5
              try clear hcz44_0
              try clear hcz44_1
              try clear hcz44_2
              try clear hcz44_3
              try clear hcz44_4
              try clear hcz44_5
              try clear hcz4_0
              try clear hcz4_1
              try clear hcz4_2
              try clear hcz4_3
              try clear hcz4_4
              try clear hcz4_5
              try clear hcz4_6
              try clear hcz55_0
              try clear hcz55_1
              try clear hcz55_2
              try clear hcz55_3
              try clear hcz55_4
              try clear hcz55_5
              try clear hfz11_0
              try clear hfz11_1
              try clear hfz11_2
              try clear hfz11_3
              try clear hfz11_4
              try clear hfz11_5
              try clear hfz27_0
              try clear hfz27_1
              try clear hfz27_2
              try clear hfz27_3
              try clear hfz27_4
              try clear hfz27_5
              try clear hfz37_0
              try clear hfz37_1
              try clear hfz37_2
              try clear hfz37_3
              try clear hfz37_4
              try clear hfz37_5
              try clear hfz44_0
              try clear hfz44_1
              try clear hfz44_2
              try clear hfz44_3
              try clear hfz44_4
              try clear hfz44_5
              try clear hfz4_0
              try clear hfz4_1
              try clear hfz4_2
              try clear hfz4_3
              try clear hfz4_4
              try clear hfz4_5
              try clear hfz4_6
              try clear hfz55_0
              try clear hfz55_1
              try clear hfz55_2
              try clear hfz55_3
              try clear hfz55_4
              try clear hfz55_5
              try clear hx148_0
              try clear hx149_0
              try clear hx150_0
              try clear hx152_0
              try clear hx158_0
              try clear p1
              try clear p14
              try clear p148
              try clear p149
              try clear p15
              try clear p150
              try clear p152
              try clear p158
              try clear p2
              try clear p6
              try clear q1
              try clear q14
              try clear q148
              try clear q149
              try clear q15
              try clear q150
              try clear q152
              try clear q158
              obtain ⟨kq,x85_55,rfl,HA,HJ55,HO_3,BK143,BK147,HB⟩:=hcut
              cases kq with
              | zero=>exact absurd HA.out (by simp [Y1.j5])
              | succ kj55 =>
               have H:=HA.out
               clear HA
               simp only [Y1.j5] at H
               have HC59:=Aside0.mk H
               clear H
               go_upto_if 85 with (fail)
               go_cut [5] (fun v5 wc=>∃ (kq:Nat) (x5_58:Int) (x148002_58:Int),v5 = .int .i64 x5_58∧Aside0 (Y1.j6 kq a0 t144 x5_58 t156 t157 x148000_3 x148001_46 x148002_58 (⟨#[]⟩:ByteArray) (⟨#[]⟩:ByteArray) x148005_19=some (r1,r2,r3,r4,r5,r6,r7))∧Aside0 (kq≤kj55)∧Aside0 (Kd.R Kd.string 9 wc w.heap.size (fun _=>True) v145 t144)∧Aside0 (wc.heap[gb143]? = some (.cells #[.int .i64 0,.int .i64 0,.int .i64 0,.string (⟨#[]⟩:ByteArray),.string (⟨#[]⟩:ByteArray),.int .i64 0,.int .i64 0] 25 (0,0)))∧Aside0 (wc.heap[gb147]? = some (.cells #[.int .i64 x148000_3,.int .i64 x148001_46,.int .i64 x148002_58,.string (⟨#[]⟩:ByteArray),.string (⟨#[]⟩:ByteArray),.int .i64 x148005_19] 23 (0,0)))∧Aside0 (Below w.heap.size w wc))
               case first =>
                have H:=HC59.out
                clear HC59
                by_cases c60:x85_55=true
                ·subst c60
                 have H1:(if 0≤x5_46 then (if x5_46<(t144.length:Int) then ((Y10.f kj55 (rdOf ByteArray.empty t144 x5_46)).bind fun t161=>(Y1.j6 kj55 a0 t144 (wrap64 (x5_46+1)) t156 t157 x148000_3 x148001_46 t161 (⟨#[]⟩:ByteArray) (⟨#[]⟩:ByteArray) x148005_19)) else (none)) else (none))=some (r1,r2,r3,r4,r5,r6,r7):=by rw [if_pos rfl] at H;exact H
                 clear H
                 have H:=H1
                 clear H1
                 by_cases c61:0≤x5_46
                 ·rw [if_pos c61] at H
                  have c61b0:decide (0≤x5_46)=true:=decide_eq_true c61
                  clear c61
                  (first | rw [c61b0] | (simp only [i64_w,i32_w];rw [c61b0]) | skip)
                  by_cases c62:x5_46<(t144.length:Int)
                  ·rw [if_pos c62] at H
                   have c62b0:decide (x5_46<(t144.length:Int))=true:=decide_eq_true c62
                   clear c62
                   replace H:=Option.bind_eq_some_iff.mp H
                   obtain ⟨t161,A630,H⟩:=H
                   replace H:(Y1.j6 kj55 a0 t144 (wrap64 (x5_46+1)) t156 t157 x148000_3 x148001_46 t161 (⟨#[]⟩:ByteArray) (⟨#[]⟩:ByteArray) x148005_19)=some (r1,r2,r3,r4,r5,r6,r7):=H
                   have A63:=Aside0.mk A630
                   clear A630
                   have H':=Aside0.mk H
                   clear H
                   obtain ⟨Ao64,co64,eo64⟩:=Kd.R_slice HO_3.out
                   subst eo64
                   have p160:0≤(x5_46:Int):=of_decide_eq_true (by first | (with_reducible assumption) | assumption)
                   have q160:x5_46<(t144.length:Int):=of_decide_eq_true (by first | (with_reducible assumption) | assumption)
                   obtain ⟨ad160,e160,hx160_0⟩:=Kd.at_string (Kd.R_reads' HO_3.out).2.2 x5_46 p160 q160
                   cases e160
                   replace p160:=eq_true p160
                   replace q160:=eq_true q160
                   go_wp2_with (first | ((with_reducible refine gate_callee (f:=8) rfl ?_);refine goesL_ (some 90) rfl rfl Tryd.func8 (by kernel_rfl) rfl #[.string (rdOf ByteArray.empty t144 x5_46)] rfl (by (try simp only [List.map_toArray,List.map_cons,List.map_nil]);first | done | rfl | (simp only [List.length_drop,List.length_take];rfl)) ?_;(with_reducible refine (Y10.calls kj55 (rdOf ByteArray.empty t144 x5_46) t161 _ A63.out).mono ?_);rintro e w' ⟨rfl,⟨nd,rfl⟩⟩;refine ⟨_,rfl,?_⟩;(try (rw [drewN_self wc];generalize hq_:World.drewN wc _=wc;have n0_:Aside0 (Kd.R Kd.string 9 wc w.heap.size (fun _=>True) (.slice (some ad160) t144.length co64) t144):=⟨by rw [← hq_];exact (by (with_reducible repeat (first | apply Kd.R_alloc | apply Kd.R_drewN | apply Kd.R_drew));exact HO_3.out)⟩;have n1_:Aside0 (wc.heap[gb143]? = some (.cells #[.int .i64 0,.int .i64 0,.int .i64 0,.string (⟨#[]⟩:ByteArray),.string (⟨#[]⟩:ByteArray),.int .i64 0,.int .i64 0] 25 (0,0))):=⟨by rw [← hq_];exact (by (with_reducible repeat (first | refine blk_drewN ?_ _ | refine blk_drew ?_ | refine blk_alloc ?_ _));exact BK143.out)⟩;have n2_:Aside0 (wc.heap[gb147]? = some (.cells #[.int .i64 x148000_3,.int .i64 x148001_46,.int .i64 0,.string (⟨#[]⟩:ByteArray),.string (⟨#[]⟩:ByteArray),.int .i64 x148005_19] 23 (0,0))):=⟨by rw [← hq_];exact (by (with_reducible repeat (first | refine blk_drewN ?_ _ | refine blk_drew ?_ | refine blk_alloc ?_ _));exact BK147.out)⟩;have n3_:Aside0 (Below w.heap.size w wc):=⟨by rw [← hq_];exact (by repeat (first | (with_reducible first | exact HB.out | apply below_alloc | apply pw_below_drewN | apply below_drew1 | refine below_set ?_ GE143.out | refine below_set ?_ GE147.out) | exact HB.out))⟩;clear HO_3 BK143 BK147 HB hq_;have HO_3:=n0_;have BK143:=n1_;have BK147:=n2_;have HB:=n3_;clear n0_ n1_ n2_ n3_));have hnb65:=NB147_143.out;have hnc65:=NB143_147.out;have hcz66_0:wc.cell? ⟨gb147,0,none⟩=some (.int .i64 x148000_3):=(blk_cell BK147.out 0).trans rfl;have hcz66_1:wc.cell? ⟨gb147,1,none⟩=some (.int .i64 x148001_46):=(blk_cell BK147.out 1).trans rfl;have hcz66_2:wc.cell? ⟨gb147,2,none⟩=some (.int .i64 0):=(blk_cell BK147.out 2).trans rfl;have hcz66_3:wc.cell? ⟨gb147,3,none⟩=some (.string (⟨#[]⟩:ByteArray)):=(blk_cell BK147.out 3).trans rfl;have hcz66_4:wc.cell? ⟨gb147,4,none⟩=some (.string (⟨#[]⟩:ByteArray)):=(blk_cell BK147.out 4).trans rfl;have hcz66_5:wc.cell? ⟨gb147,5,none⟩=some (.int .i64 x148005_19):=(blk_cell BK147.out 5).trans rfl;have hfz66_0:=blk_frozen BK147.out 0;have hfz66_1:=blk_frozen BK147.out 1;have hfz66_2:=blk_frozen BK147.out 2;have hfz66_3:=blk_frozen BK147.out 3;have hfz66_4:=blk_frozen BK147.out 4;have hfz66_5:=blk_frozen BK147.out 5))
                   go_meet
                   case rel=>exact ⟨_,(wrap64 (x5_46+1)),(t161),(by first | rfl | (simp;done) | (simp [*];done) | (simp [bne];done)),H',⟨by have:=HJ5.out;have:=HJ19.out;have:=HK3.out;have:=HJ41.out;have:=HJ46.out;have:=HJ55.out;first | omega | exact Nat.le_refl _⟩,⟨by (with_reducible repeat (first | apply Kd.R_alloc | apply Kd.R_drewN | apply Kd.R_drew));exact Kd.R_mono (Kd.R_far (p:=⟨gb147,2,none⟩) (Kd.R_types HO_3.out BK147.out (by decide)) (fun _ hk=>hk.2) (.int .i64 t161)) (fun _ hk=>trivial)⟩,⟨by (with_reducible repeat (first | refine blk_drewN ?_ _ | refine blk_drew ?_ | refine blk_alloc ?_ _));refine blk_far ?_ NB143_147.out _;(with_reducible repeat (first | refine blk_drewN ?_ _ | refine blk_drew ?_ | refine blk_alloc ?_ _));exact BK143.out⟩,⟨by (with_reducible repeat (first | refine blk_drewN ?_ _ | refine blk_drew ?_ | refine blk_alloc ?_ _));refine blk_put (cs:=#[.int .i64 x148000_3,.int .i64 x148001_46,.int .i64 0,.string (⟨#[]⟩:ByteArray),.string (⟨#[]⟩:ByteArray),.int .i64 x148005_19]) ?_ 2 _ rfl;(with_reducible repeat (first | refine blk_drewN ?_ _ | refine blk_drew ?_ | refine blk_alloc ?_ _));exact BK147.out⟩,⟨by repeat (first | (with_reducible first | exact HB.out | apply below_alloc | apply pw_below_drewN | apply below_drew1 | refine below_set ?_ GE143.out | refine below_set ?_ GE147.out) | exact HB.out)⟩⟩
                  ·rw [if_neg c62] at H
                   exact absurd H (by simp)
                 ·rw [if_neg c61] at H
                  exact absurd H (by simp)
                ·replace c60:=Bool.eq_false_iff.mpr c60
                 subst c60
                 have H1:(Y1.j6 kj55 a0 t144 x5_46 t156 t157 x148000_3 x148001_46 0 (⟨#[]⟩:ByteArray) (⟨#[]⟩:ByteArray) x148005_19)=some (r1,r2,r3,r4,r5,r6,r7):=by rw [if_neg (show ¬ (false=true) by decide)] at H;exact H
                 clear H
                 have H:=H1
                 clear H1
                 have H':=Aside0.mk H
                 clear H
                 go_wp2
                 go_meet
                 case rel=>exact ⟨_,(x5_46),(0),(by first | rfl | (simp;done) | (simp [*];done) | (simp [bne];done)),H',⟨by have:=HJ5.out;have:=HJ19.out;have:=HK3.out;have:=HJ41.out;have:=HJ46.out;have:=HJ55.out;first | omega | exact Nat.le_refl _⟩,⟨by (with_reducible repeat (first | apply Kd.R_alloc | apply Kd.R_drewN | apply Kd.R_drew));exact HO_3.out⟩,⟨by (with_reducible repeat (first | refine blk_drewN ?_ _ | refine blk_drew ?_ | refine blk_alloc ?_ _));exact BK143.out⟩,⟨by (with_reducible repeat (first | refine blk_drewN ?_ _ | refine blk_drew ?_ | refine blk_alloc ?_ _));exact BK147.out⟩,⟨by repeat (first | (with_reducible first | exact HB.out | apply below_alloc | apply pw_below_drewN | apply below_drew1 | refine below_set ?_ GE143.out | refine below_set ?_ GE147.out) | exact HB.out)⟩⟩
               case rest =>
                clear HC59
                try clear c1
                try clear p1
                try clear q1
                try clear hx1
                try clear qi1
                try clear c2
                try clear c2b0
                try clear c2b1
                try clear p2
                try clear c3
                try clear c4
                try clear c5
                try clear c6
                try clear p6
                try clear c7
                try clear c8
                try clear c9
                try clear c10
                try clear c12
                try clear c12b0
                try clear c12b1
                try clear c13
                try clear c13b0
                try clear c13b1
                try clear c14
                try clear c14b0
                try clear c14b1
                try clear p14
                try clear q14
                try clear hx14
                try clear qi14
                try clear p15
                try clear q15
                try clear hx15
                try clear qi15
                try clear c16
                try clear c16b0
                try clear c16b1
                try clear p16
                try clear q16
                try clear hx16
                try clear c21
                try clear c22
                try clear c22b0
                try clear c22b1
                try clear c23
                try clear c23b0
                try clear c23b1
                try clear c26
                try clear c28
                try clear c28b0
                try clear c29
                try clear c29b0
                try clear c30
                try clear c30b0
                try clear c32
                try clear c32b0
                try clear c32b1
                try clear c36
                try clear c43
                try clear c45
                try clear c48
                try clear c50
                try clear c50b0
                try clear c51
                try clear c51b0
                try clear c54
                try clear c57
                try clear c60
                try clear c61
                try clear c61b0
                try clear c62
                try clear c62b0
                try clear p64
                try clear c65
                try clear hcz11_0
                try clear hcz11_1
                try clear hcz11_2
                try clear hcz11_3
                try clear hcz11_4
                try clear hcz11_5
                try clear hcz27_0
                try clear hcz27_1
                try clear hcz27_2
                try clear hcz27_3
                try clear hcz27_4
                try clear hcz27_5
                try clear hcz37_0
                try clear hcz37_1
                try clear hcz37_2
                try clear hcz37_3
                try clear hcz37_4
                try clear hcz37_5
                try clear hcz44_0
                try clear hcz44_1
                try clear hcz44_2
                try clear hcz44_3
                try clear hcz44_4
                try clear hcz44_5
                try clear hcz4_0
                try clear hcz4_1
                try clear hcz4_2
                try clear hcz4_3
                try clear hcz4_4
                try clear hcz4_5
                try clear hcz4_6
                try clear hcz55_0
                try clear hcz55_1
                try clear hcz55_2
                try clear hcz55_3
                try clear hcz55_4
                try clear hcz55_5
                try clear hcz66_0
                try clear hcz66_1
                try clear hcz66_2
                try clear hcz66_3
                try clear hcz66_4
                try clear hcz66_5
                try clear hfz11_0
                try clear hfz11_1
                try clear hfz11_2
                try clear hfz11_3
                try clear hfz11_4
                try clear hfz11_5
                try clear hfz27_0
                try clear hfz27_1
                try clear hfz27_2
                try clear hfz27_3
                try clear hfz27_4
                try clear hfz27_5
                try clear hfz37_0
                try clear hfz37_1
                try clear hfz37_2
                try clear hfz37_3
                try clear hfz37_4
                try clear hfz37_5
                try clear hfz44_0
                try clear hfz44_1
                try clear hfz44_2
                try clear hfz44_3
                try clear hfz44_4
                try clear hfz44_5
                try clear hfz4_0
                try clear hfz4_1
                try clear hfz4_2
                try clear hfz4_3
                try clear hfz4_4
                try clear hfz4_5
                try clear hfz4_6
                try clear hfz55_0
                try clear hfz55_1
                try clear hfz55_2
                try clear hfz55_3
                try clear hfz55_4
                try clear hfz55_5
                try clear hfz66_0
                try clear hfz66_1
                try clear hfz66_2
                try clear hfz66_3
                try clear hfz66_4
                try clear hfz66_5
                try clear hx148_0
                try clear hx149_0
                try clear hx150_0
                try clear hx152_0
                try clear hx158_0
                try clear hx160_0
                try clear p1
                try clear p14
                try clear p148
                try clear p149
                try clear p15
                try clear p150
                try clear p152
                try clear p158
                try clear p160
                try clear p2
                try clear p6
                try clear q1
                try clear q14
                try clear q148
                try clear q149
                try clear q15
                try clear q150
                try clear q152
                try clear q158
                try clear q160
                obtain ⟨kq,x5_58,x148002_58,rfl,HA,HJ58,HO_3,BK143,BK147,HB⟩:=hcut
                cases kq with
                | zero=>exact absurd HA.out (by simp [Y1.j6])
                | succ kj58 =>
                 have H:=HA.out
                 clear HA
                 simp only [Y1.j6] at H
                 have HC67:=Aside0.mk H
                 clear H
                 go_upto_region 22 with (fail)
                 go_cut [100] (fun v100 wc=>∃ (kq:Nat) (x100_66:Bool),v100 = .bool x100_66∧Aside0 (Y1.j7 kq a0 t144 x5_58 t157 x100_66 x148000_3 x148001_46 x148002_58 (⟨#[]⟩:ByteArray) (⟨#[]⟩:ByteArray) x148005_19=some (r1,r2,r3,r4,r5,r6,r7))∧Aside0 (kq≤kj58)∧Aside0 (Kd.R Kd.string 9 wc w.heap.size (fun _=>True) v145 t144)∧Aside0 (wc.heap[gb143]? = some (.cells #[.int .i64 0,.int .i64 0,.int .i64 0,.string (⟨#[]⟩:ByteArray),.string (⟨#[]⟩:ByteArray),.int .i64 0,.int .i64 0] 25 (0,0)))∧Aside0 (wc.heap[gb147]? = some (.cells #[.int .i64 x148000_3,.int .i64 x148001_46,.int .i64 x148002_58,.string (⟨#[]⟩:ByteArray),.string (⟨#[]⟩:ByteArray),.int .i64 x148005_19] 23 (0,0)))∧Aside0 (Below w.heap.size w wc))
                 case first =>
                  have H:=HC67.out
                  clear HC67
                  by_cases c68:t156=true
                  ·subst c68
                   have H1:(Y1.j7 kj58 a0 t144 x5_58 t157 (decide (x5_58<(t144.length:Int))) x148000_3 x148001_46 x148002_58 (⟨#[]⟩:ByteArray) (⟨#[]⟩:ByteArray) x148005_19)=some (r1,r2,r3,r4,r5,r6,r7):=by rw [if_pos rfl] at H;exact H
                   clear H
                   have H:=H1
                   clear H1
                   have H':=Aside0.mk H
                   clear H
                   obtain ⟨Ao69,co69,eo69⟩:=Kd.R_slice HO_3.out
                   subst eo69
                   go_wp2
                   go_meet
                   case rel=>exact ⟨_,(decide (x5_58<(t144.length:Int))),(by first | rfl | (simp;done) | (simp [*];done) | (simp [bne];done)),H',⟨by have:=HJ5.out;have:=HJ19.out;have:=HK3.out;have:=HJ41.out;have:=HJ46.out;have:=HJ55.out;have:=HJ58.out;first | omega | exact Nat.le_refl _⟩,⟨by (with_reducible repeat (first | apply Kd.R_alloc | apply Kd.R_drewN | apply Kd.R_drew));exact HO_3.out⟩,⟨by (with_reducible repeat (first | refine blk_drewN ?_ _ | refine blk_drew ?_ | refine blk_alloc ?_ _));exact BK143.out⟩,⟨by (with_reducible repeat (first | refine blk_drewN ?_ _ | refine blk_drew ?_ | refine blk_alloc ?_ _));exact BK147.out⟩,⟨by repeat (first | (with_reducible first | exact HB.out | apply below_alloc | apply pw_below_drewN | apply below_drew1 | refine below_set ?_ GE143.out | refine below_set ?_ GE147.out) | exact HB.out)⟩⟩
                  ·replace c68:=Bool.eq_false_iff.mpr c68
                   subst c68
                   have H1:(Y1.j7 kj58 a0 t144 x5_58 t157 false x148000_3 x148001_46 x148002_58 (⟨#[]⟩:ByteArray) (⟨#[]⟩:ByteArray) x148005_19)=some (r1,r2,r3,r4,r5,r6,r7):=by rw [if_neg (show ¬ (false=true) by decide)] at H;exact H
                   clear H
                   have H:=H1
                   clear H1
                   have H':=Aside0.mk H
                   clear H
                   go_wp2
                   go_meet
                   case rel=>exact ⟨_,(false),(by first | rfl | (simp;done) | (simp [*];done) | (simp [bne];done)),H',⟨by have:=HJ5.out;have:=HJ19.out;have:=HK3.out;have:=HJ41.out;have:=HJ46.out;have:=HJ55.out;have:=HJ58.out;first | omega | exact Nat.le_refl _⟩,⟨by (with_reducible repeat (first | apply Kd.R_alloc | apply Kd.R_drewN | apply Kd.R_drew));exact HO_3.out⟩,⟨by (with_reducible repeat (first | refine blk_drewN ?_ _ | refine blk_drew ?_ | refine blk_alloc ?_ _));exact BK143.out⟩,⟨by (with_reducible repeat (first | refine blk_drewN ?_ _ | refine blk_drew ?_ | refine blk_alloc ?_ _));exact BK147.out⟩,⟨by repeat (first | (with_reducible first | exact HB.out | apply below_alloc | apply pw_below_drewN | apply below_drew1 | refine below_set ?_ GE143.out | refine below_set ?_ GE147.out) | exact HB.out)⟩⟩
                 case rest =>
                  clear HC67
                  try clear c1
                  try clear p1
                  try clear q1
                  try clear hx1
                  try clear qi1
                  try clear c2
                  try clear c2b0
                  try clear c2b1
                  try clear p2
                  try clear c3
                  try clear c4
                  try clear c5
                  try clear c6
                  try clear p6
                  try clear c7
                  try clear c8
                  try clear c9
                  try clear c10
                  try clear c12
                  try clear c12b0
                  try clear c12b1
                  try clear c13
                  try clear c13b0
                  try clear c13b1
                  try clear c14
                  try clear c14b0
                  try clear c14b1
                  try clear p14
                  try clear q14
                  try clear hx14
                  try clear qi14
                  try clear p15
                  try clear q15
                  try clear hx15
                  try clear qi15
                  try clear c16
                  try clear c16b0
                  try clear c16b1
                  try clear p16
                  try clear q16
                  try clear hx16
                  try clear c21
                  try clear c22
                  try clear c22b0
                  try clear c22b1
                  try clear c23
                  try clear c23b0
                  try clear c23b1
                  try clear c26
                  try clear c28
                  try clear c28b0
                  try clear c29
                  try clear c29b0
                  try clear c30
                  try clear c30b0
                  try clear c32
                  try clear c32b0
                  try clear c32b1
                  try clear c36
                  try clear c43
                  try clear c45
                  try clear c48
                  try clear c50
                  try clear c50b0
                  try clear c51
                  try clear c51b0
                  try clear c54
                  try clear c57
                  try clear c60
                  try clear c61
                  try clear c61b0
                  try clear c62
                  try clear c62b0
                  try clear p64
                  try clear c65
                  try clear c68
                  try clear hcz11_0
                  try clear hcz11_1
                  try clear hcz11_2
                  try clear hcz11_3
                  try clear hcz11_4
                  try clear hcz11_5
                  try clear hcz27_0
                  try clear hcz27_1
                  try clear hcz27_2
                  try clear hcz27_3
                  try clear hcz27_4
                  try clear hcz27_5
                  try clear hcz37_0
                  try clear hcz37_1
                  try clear hcz37_2
                  try clear hcz37_3
                  try clear hcz37_4
                  try clear hcz37_5
                  try clear hcz44_0
                  try clear hcz44_1
                  try clear hcz44_2
                  try clear hcz44_3
                  try clear hcz44_4
                  try clear hcz44_5
                  try clear hcz4_0
                  try clear hcz4_1
                  try clear hcz4_2
                  try clear hcz4_3
                  try clear hcz4_4
                  try clear hcz4_5
                  try clear hcz4_6
                  try clear hcz55_0
                  try clear hcz55_1
                  try clear hcz55_2
                  try clear hcz55_3
                  try clear hcz55_4
                  try clear hcz55_5
                  try clear hcz66_0
                  try clear hcz66_1
                  try clear hcz66_2
                  try clear hcz66_3
                  try clear hcz66_4
                  try clear hcz66_5
                  try clear hfz11_0
                  try clear hfz11_1
                  try clear hfz11_2
                  try clear hfz11_3
                  try clear hfz11_4
                  try clear hfz11_5
                  try clear hfz27_0
                  try clear hfz27_1
                  try clear hfz27_2
                  try clear hfz27_3
                  try clear hfz27_4
                  try clear hfz27_5
                  try clear hfz37_0
                  try clear hfz37_1
                  try clear hfz37_2
                  try clear hfz37_3
                  try clear hfz37_4
                  try clear hfz37_5
                  try clear hfz44_0
                  try clear hfz44_1
                  try clear hfz44_2
                  try clear hfz44_3
                  try clear hfz44_4
                  try clear hfz44_5
                  try clear hfz4_0
                  try clear hfz4_1
                  try clear hfz4_2
                  try clear hfz4_3
                  try clear hfz4_4
                  try clear hfz4_5
                  try clear hfz4_6
                  try clear hfz55_0
                  try clear hfz55_1
                  try clear hfz55_2
                  try clear hfz55_3
                  try clear hfz55_4
                  try clear hfz55_5
                  try clear hfz66_0
                  try clear hfz66_1
                  try clear hfz66_2
                  try clear hfz66_3
                  try clear hfz66_4
                  try clear hfz66_5
                  try clear hx148_0
                  try clear hx149_0
                  try clear hx150_0
                  try clear hx152_0
                  try clear hx158_0
                  try clear hx160_0
                  try clear p1
                  try clear p14
                  try clear p148
                  try clear p149
                  try clear p15
                  try clear p150
                  try clear p152
                  try clear p158
                  try clear p16
                  try clear p160
                  try clear p2
                  try clear p6
                  try clear p64
                  try clear q1
                  try clear q14
                  try clear q148
                  try clear q149
                  try clear q15
                  try clear q150
                  try clear q152
                  try clear q158
                  try clear q16
                  try clear q160
                  obtain ⟨kq,x100_66,rfl,HA,HJ66,HO_3,BK143,BK147,HB⟩:=hcut
                  cases kq with
                  | zero=>exact absurd HA.out (by simp [Y1.j7])
                  | succ kj66 =>
                   have H:=HA.out
                   clear HA
                   simp only [Y1.j7] at H
                   have HC70:=Aside0.mk H
                   clear H
                   go_upto_if 100 with (fail)
                   go_cut [5] (fun v5 wc=>∃ (kq:Nat) (x5_69:Int) (x148003_69:ByteArray),v5 = .int .i64 x5_69∧Aside0 (Y1.j8 kq a0 t144 x5_69 t157 x148000_3 x148001_46 x148002_58 x148003_69 (⟨#[]⟩:ByteArray) x148005_19=some (r1,r2,r3,r4,r5,r6,r7))∧Aside0 (kq≤kj66)∧Aside0 (Kd.R Kd.string 9 wc w.heap.size (fun _=>True) v145 t144)∧Aside0 (wc.heap[gb143]? = some (.cells #[.int .i64 0,.int .i64 0,.int .i64 0,.string (⟨#[]⟩:ByteArray),.string (⟨#[]⟩:ByteArray),.int .i64 0,.int .i64 0] 25 (0,0)))∧Aside0 (wc.heap[gb147]? = some (.cells #[.int .i64 x148000_3,.int .i64 x148001_46,.int .i64 x148002_58,.string x148003_69,.string (⟨#[]⟩:ByteArray),.int .i64 x148005_19] 23 (0,0)))∧Aside0 (Below w.heap.size w wc))
                   case first =>
                    have H:=HC70.out
                    clear HC70
                    by_cases c71:x100_66=true
                    ·subst c71
                     have H1:(if 0≤x5_58 then (if x5_58<(t144.length:Int) then (Y1.j8 kj66 a0 t144 (wrap64 (x5_58+1)) t157 x148000_3 x148001_46 x148002_58 (rdOf ByteArray.empty t144 x5_58) (⟨#[]⟩:ByteArray) x148005_19) else (none)) else (none))=some (r1,r2,r3,r4,r5,r6,r7):=by rw [if_pos rfl] at H;exact H
                     clear H
                     have H:=H1
                     clear H1
                     by_cases c72:0≤x5_58
                     ·rw [if_pos c72] at H
                      have c72b0:decide (0≤x5_58)=true:=decide_eq_true c72
                      clear c72
                      (first | rw [c72b0] | (simp only [i64_w,i32_w];rw [c72b0]) | skip)
                      by_cases c73:x5_58<(t144.length:Int)
                      ·rw [if_pos c73] at H
                       have c73b0:decide (x5_58<(t144.length:Int))=true:=decide_eq_true c73
                       clear c73
                       have H':=Aside0.mk H
                       clear H
                       obtain ⟨Ao74,co74,eo74⟩:=Kd.R_slice HO_3.out
                       subst eo74
                       have p162:0≤(x5_58:Int):=of_decide_eq_true (by first | (with_reducible assumption) | assumption)
                       have q162:x5_58<(t144.length:Int):=of_decide_eq_true (by first | (with_reducible assumption) | assumption)
                       obtain ⟨ad162,e162,hx162_0⟩:=Kd.at_string (Kd.R_reads' HO_3.out).2.2 x5_58 p162 q162
                       cases e162
                       replace p162:=eq_true p162
                       replace q162:=eq_true q162
                       have hnb75:=NB147_143.out
                       have hnc75:=NB143_147.out
                       have hcz76_0:wc.cell? ⟨gb147,0,none⟩=some (.int .i64 x148000_3):=(blk_cell BK147.out 0).trans rfl
                       have hcz76_1:wc.cell? ⟨gb147,1,none⟩=some (.int .i64 x148001_46):=(blk_cell BK147.out 1).trans rfl
                       have hcz76_2:wc.cell? ⟨gb147,2,none⟩=some (.int .i64 x148002_58):=(blk_cell BK147.out 2).trans rfl
                       have hcz76_3:wc.cell? ⟨gb147,3,none⟩=some (.string (⟨#[]⟩:ByteArray)):=(blk_cell BK147.out 3).trans rfl
                       have hcz76_4:wc.cell? ⟨gb147,4,none⟩=some (.string (⟨#[]⟩:ByteArray)):=(blk_cell BK147.out 4).trans rfl
                       have hcz76_5:wc.cell? ⟨gb147,5,none⟩=some (.int .i64 x148005_19):=(blk_cell BK147.out 5).trans rfl
                       have hfz76_0:=blk_frozen BK147.out 0
                       have hfz76_1:=blk_frozen BK147.out 1
                       have hfz76_2:=blk_frozen BK147.out 2
                       have hfz76_3:=blk_frozen BK147.out 3
                       have hfz76_4:=blk_frozen BK147.out 4
                       have hfz76_5:=blk_frozen BK147.out 5
                       go_wp2
                       go_meet
                       case rel=>exact ⟨_,(wrap64 (x5_58+1)),(rdOf ByteArray.empty t144 x5_58),(by first | rfl | (simp;done) | (simp [*];done) | (simp [bne];done)),H',⟨by have:=HJ5.out;have:=HJ19.out;have:=HK3.out;have:=HJ41.out;have:=HJ46.out;have:=HJ55.out;have:=HJ58.out;have:=HJ66.out;first | omega | exact Nat.le_refl _⟩,⟨by (with_reducible repeat (first | apply Kd.R_alloc | apply Kd.R_drewN | apply Kd.R_drew));exact Kd.R_mono (Kd.R_far (p:=⟨gb147,3,none⟩) (Kd.R_types HO_3.out BK147.out (by decide)) (fun _ hk=>hk.2) (.string (rdOf ByteArray.empty t144 x5_58))) (fun _ hk=>trivial)⟩,⟨by (with_reducible repeat (first | refine blk_drewN ?_ _ | refine blk_drew ?_ | refine blk_alloc ?_ _));refine blk_far ?_ NB143_147.out _;(with_reducible repeat (first | refine blk_drewN ?_ _ | refine blk_drew ?_ | refine blk_alloc ?_ _));exact BK143.out⟩,⟨by (with_reducible repeat (first | refine blk_drewN ?_ _ | refine blk_drew ?_ | refine blk_alloc ?_ _));refine blk_put (cs:=#[.int .i64 x148000_3,.int .i64 x148001_46,.int .i64 x148002_58,.string (⟨#[]⟩:ByteArray),.string (⟨#[]⟩:ByteArray),.int .i64 x148005_19]) ?_ 3 _ rfl;(with_reducible repeat (first | refine blk_drewN ?_ _ | refine blk_drew ?_ | refine blk_alloc ?_ _));exact BK147.out⟩,⟨by repeat (first | (with_reducible first | exact HB.out | apply below_alloc | apply pw_below_drewN | apply below_drew1 | refine below_set ?_ GE143.out | refine below_set ?_ GE147.out) | exact HB.out)⟩⟩
                      ·rw [if_neg c73] at H
                       exact absurd H (by simp)
                     ·rw [if_neg c72] at H
                      exact absurd H (by simp)
                    ·replace c71:=Bool.eq_false_iff.mpr c71
                     subst c71
                     have H1:(Y1.j8 kj66 a0 t144 x5_58 t157 x148000_3 x148001_46 x148002_58 (⟨#[]⟩:ByteArray) (⟨#[]⟩:ByteArray) x148005_19)=some (r1,r2,r3,r4,r5,r6,r7):=by rw [if_neg (show ¬ (false=true) by decide)] at H;exact H
                     clear H
                     have H:=H1
                     clear H1
                     have H':=Aside0.mk H
                     clear H
                     go_wp2
                     go_meet
                     case rel=>exact ⟨_,(x5_58),((⟨#[]⟩:ByteArray)),(by first | rfl | (simp;done) | (simp [*];done) | (simp [bne];done)),H',⟨by have:=HJ5.out;have:=HJ19.out;have:=HK3.out;have:=HJ41.out;have:=HJ46.out;have:=HJ55.out;have:=HJ58.out;have:=HJ66.out;first | omega | exact Nat.le_refl _⟩,⟨by (with_reducible repeat (first | apply Kd.R_alloc | apply Kd.R_drewN | apply Kd.R_drew));exact HO_3.out⟩,⟨by (with_reducible repeat (first | refine blk_drewN ?_ _ | refine blk_drew ?_ | refine blk_alloc ?_ _));exact BK143.out⟩,⟨by (with_reducible repeat (first | refine blk_drewN ?_ _ | refine blk_drew ?_ | refine blk_alloc ?_ _));exact BK147.out⟩,⟨by repeat (first | (with_reducible first | exact HB.out | apply below_alloc | apply pw_below_drewN | apply below_drew1 | refine below_set ?_ GE143.out | refine below_set ?_ GE147.out) | exact HB.out)⟩⟩
                   case rest =>
                    clear HC70
                    try clear c1
                    try clear p1
                    try clear q1
                    try clear hx1
                    try clear qi1
                    try clear c2
                    try clear c2b0
                    try clear c2b1
                    try clear p2
                    try clear c3
                    try clear c4
                    try clear c5
                    try clear c6
                    try clear p6
                    try clear c7
                    try clear c8
                    try clear c9
                    try clear c10
                    try clear c12
                    try clear c12b0
                    try clear c12b1
                    try clear c13
                    try clear c13b0
                    try clear c13b1
                    try clear c14
                    try clear c14b0
                    try clear c14b1
                    try clear p14
                    try clear q14
                    try clear hx14
                    try clear qi14
                    try clear p15
                    try clear q15
                    try clear hx15
                    try clear qi15
                    try clear c16
                    try clear c16b0
                    try clear c16b1
                    try clear p16
                    try clear q16
                    try clear hx16
                    try clear c21
                    try clear c22
                    try clear c22b0
                    try clear c22b1
                    try clear c23
                    try clear c23b0
                    try clear c23b1
                    try clear c26
                    try clear c28
                    try clear c28b0
                    try clear c29
                    try clear c29b0
                    try clear c30
                    try clear c30b0
                    try clear c32
                    try clear c32b0
                    try clear c32b1
                    try clear c36
                    try clear c43
                    try clear c45
                    try clear c48
                    try clear c50
                    try clear c50b0
                    try clear c51
                    try clear c51b0
                    try clear c54
                    try clear c57
                    try clear c60
                    try clear c61
                    try clear c61b0
                    try clear c62
                    try clear c62b0
                    try clear p64
                    try clear c65
                    try clear c68
                    try clear c71
                    try clear c72
                    try clear c72b0
                    try clear c73
                    try clear c73b0
                    try clear c75
                    try clear hcz11_0
                    try clear hcz11_1
                    try clear hcz11_2
                    try clear hcz11_3
                    try clear hcz11_4
                    try clear hcz11_5
                    try clear hcz27_0
                    try clear hcz27_1
                    try clear hcz27_2
                    try clear hcz27_3
                    try clear hcz27_4
                    try clear hcz27_5
                    try clear hcz37_0
                    try clear hcz37_1
                    try clear hcz37_2
                    try clear hcz37_3
                    try clear hcz37_4
                    try clear hcz37_5
                    try clear hcz44_0
                    try clear hcz44_1
                    try clear hcz44_2
                    try clear hcz44_3
                    try clear hcz44_4
                    try clear hcz44_5
                    try clear hcz4_0
                    try clear hcz4_1
                    try clear hcz4_2
                    try clear hcz4_3
                    try clear hcz4_4
                    try clear hcz4_5
                    try clear hcz4_6
                    try clear hcz55_0
                    try clear hcz55_1
                    try clear hcz55_2
                    try clear hcz55_3
                    try clear hcz55_4
                    try clear hcz55_5
                    try clear hcz66_0
                    try clear hcz66_1
                    try clear hcz66_2
                    try clear hcz66_3
                    try clear hcz66_4
                    try clear hcz66_5
                    try clear hcz76_0
                    try clear hcz76_1
                    try clear hcz76_2
                    try clear hcz76_3
                    try clear hcz76_4
                    try clear hcz76_5
                    try clear hfz11_0
                    try clear hfz11_1
                    try clear hfz11_2
                    try clear hfz11_3
                    try clear hfz11_4
                    try clear hfz11_5
                    try clear hfz27_0
                    try clear hfz27_1
                    try clear hfz27_2
                    try clear hfz27_3
                    try clear hfz27_4
                    try clear hfz27_5
                    try clear hfz37_0
                    try clear hfz37_1
                    try clear hfz37_2
                    try clear hfz37_3
                    try clear hfz37_4
                    try clear hfz37_5
                    try clear hfz44_0
                    try clear hfz44_1
                    try clear hfz44_2
                    try clear hfz44_3
                    try clear hfz44_4
                    try clear hfz44_5
                    try clear hfz4_0
                    try clear hfz4_1
                    try clear hfz4_2
                    try clear hfz4_3
                    try clear hfz4_4
                    try clear hfz4_5
                    try clear hfz4_6
                    try clear hfz55_0
                    try clear hfz55_1
                    try clear hfz55_2
                    try clear hfz55_3
                    try clear hfz55_4
                    try clear hfz55_5
                    try clear hfz66_0
                    try clear hfz66_1
                    try clear hfz66_2
                    try clear hfz66_3
                    try clear hfz66_4
                    try clear hfz66_5
                    try clear hfz76_0
                    try clear hfz76_1
                    try clear hfz76_2
                    try clear hfz76_3
                    try clear hfz76_4
                    try clear hfz76_5
                    try clear hx148_0
                    try clear hx149_0
                    try clear hx150_0
                    try clear hx152_0
                    try clear hx158_0
                    try clear hx160_0
                    try clear hx162_0
                    try clear p1
                    try clear p14
                    try clear p148
                    try clear p149
                    try clear p15
                    try clear p150
                    try clear p152
                    try clear p158
                    try clear p16
                    try clear p160
                    try clear p162
                    try clear p2
                    try clear p6
                    try clear p64
                    try clear q1
                    try clear q14
                    try clear q148
                    try clear q149
                    try clear q15
                    try clear q150
                    try clear q152
                    try clear q158
                    try clear q16
                    try clear q160
                    try clear q162
                    obtain ⟨kq,x5_69,x148003_69,rfl,HA,HJ69,HO_3,BK143,BK147,HB⟩:=hcut
                    cases kq with
                    | zero=>exact absurd HA.out (by simp [Y1.j8])
                    | succ kj69 =>
                     have H:=HA.out
                     clear HA
                     simp only [Y1.j8] at H
                     have HC77:=Aside0.mk H
                     clear H
                     go_upto_region 25 with (fail)
                     go_cut [114] (fun v114 wc=>∃ (kq:Nat) (x114_76:Bool),v114 = .bool x114_76∧Aside0 (Y1.j9 kq a0 t144 x5_69 x114_76 x148000_3 x148001_46 x148002_58 x148003_69 (⟨#[]⟩:ByteArray) x148005_19=some (r1,r2,r3,r4,r5,r6,r7))∧Aside0 (kq≤kj69)∧Aside0 (Kd.R Kd.string 9 wc w.heap.size (fun _=>True) v145 t144)∧Aside0 (wc.heap[gb143]? = some (.cells #[.int .i64 0,.int .i64 0,.int .i64 0,.string (⟨#[]⟩:ByteArray),.string (⟨#[]⟩:ByteArray),.int .i64 0,.int .i64 0] 25 (0,0)))∧Aside0 (wc.heap[gb147]? = some (.cells #[.int .i64 x148000_3,.int .i64 x148001_46,.int .i64 x148002_58,.string x148003_69,.string (⟨#[]⟩:ByteArray),.int .i64 x148005_19] 23 (0,0)))∧Aside0 (Below w.heap.size w wc))
                     case first =>
                      have H:=HC77.out
                      clear HC77
                      by_cases c78:t157=true
                      ·subst c78
                       have H1:(Y1.j9 kj69 a0 t144 x5_69 (decide (x5_69<(t144.length:Int))) x148000_3 x148001_46 x148002_58 x148003_69 (⟨#[]⟩:ByteArray) x148005_19)=some (r1,r2,r3,r4,r5,r6,r7):=by rw [if_pos rfl] at H;exact H
                       clear H
                       have H:=H1
                       clear H1
                       have H':=Aside0.mk H
                       clear H
                       obtain ⟨Ao79,co79,eo79⟩:=Kd.R_slice HO_3.out
                       subst eo79
                       go_wp2
                       go_meet
                       case rel=>exact ⟨_,(decide (x5_69<(t144.length:Int))),(by first | rfl | (simp;done) | (simp [*];done) | (simp [bne];done)),H',⟨by have:=HJ5.out;have:=HJ19.out;have:=HK3.out;have:=HJ41.out;have:=HJ46.out;have:=HJ55.out;have:=HJ58.out;have:=HJ66.out;have:=HJ69.out;first | omega | exact Nat.le_refl _⟩,⟨by (with_reducible repeat (first | apply Kd.R_alloc | apply Kd.R_drewN | apply Kd.R_drew));exact HO_3.out⟩,⟨by (with_reducible repeat (first | refine blk_drewN ?_ _ | refine blk_drew ?_ | refine blk_alloc ?_ _));exact BK143.out⟩,⟨by (with_reducible repeat (first | refine blk_drewN ?_ _ | refine blk_drew ?_ | refine blk_alloc ?_ _));exact BK147.out⟩,⟨by repeat (first | (with_reducible first | exact HB.out | apply below_alloc | apply pw_below_drewN | apply below_drew1 | refine below_set ?_ GE143.out | refine below_set ?_ GE147.out) | exact HB.out)⟩⟩
                      ·replace c78:=Bool.eq_false_iff.mpr c78
                       subst c78
                       have H1:(Y1.j9 kj69 a0 t144 x5_69 false x148000_3 x148001_46 x148002_58 x148003_69 (⟨#[]⟩:ByteArray) x148005_19)=some (r1,r2,r3,r4,r5,r6,r7):=by rw [if_neg (show ¬ (false=true) by decide)] at H;exact H
                       clear H
                       have H:=H1
                       clear H1
                       have H':=Aside0.mk H
                       clear H
                       go_wp2
                       go_meet
                       case rel=>exact ⟨_,(false),(by first | rfl | (simp;done) | (simp [*];done) | (simp [bne];done)),H',⟨by have:=HJ5.out;have:=HJ19.out;have:=HK3.out;have:=HJ41.out;have:=HJ46.out;have:=HJ55.out;have:=HJ58.out;have:=HJ66.out;have:=HJ69.out;first | omega | exact Nat.le_refl _⟩,⟨by (with_reducible repeat (first | apply Kd.R_alloc | apply Kd.R_drewN | apply Kd.R_drew));exact HO_3.out⟩,⟨by (with_reducible repeat (first | refine blk_drewN ?_ _ | refine blk_drew ?_ | refine blk_alloc ?_ _));exact BK143.out⟩,⟨by (with_reducible repeat (first | refine blk_drewN ?_ _ | refine blk_drew ?_ | refine blk_alloc ?_ _));exact BK147.out⟩,⟨by repeat (first | (with_reducible first | exact HB.out | apply below_alloc | apply pw_below_drewN | apply below_drew1 | refine below_set ?_ GE143.out | refine below_set ?_ GE147.out) | exact HB.out)⟩⟩
                     case rest =>
                      clear HC77
                      try clear c1
                      try clear p1
                      try clear q1
                      try clear hx1
                      try clear qi1
                      try clear c2
                      try clear c2b0
                      try clear c2b1
                      try clear p2
                      try clear c3
                      try clear c4
                      try clear c5
                      try clear c6
                      try clear p6
                      try clear c7
                      try clear c8
                      try clear c9
                      try clear c10
                      try clear c12
                      try clear c12b0
                      try clear c12b1
                      try clear c13
                      try clear c13b0
                      try clear c13b1
                      try clear c14
                      try clear c14b0
                      try clear c14b1
                      try clear p14
                      try clear q14
                      try clear hx14
                      try clear qi14
                      try clear p15
                      try clear q15
                      try clear hx15
                      try clear qi15
                      try clear c16
                      try clear c16b0
                      try clear c16b1
                      try clear p16
                      try clear q16
                      try clear hx16
                      try clear c21
                      try clear c22
                      try clear c22b0
                      try clear c22b1
                      try clear c23
                      try clear c23b0
                      try clear c23b1
                      try clear c26
                      try clear c28
                      try clear c28b0
                      try clear c29
                      try clear c29b0
                      try clear c30
                      try clear c30b0
                      try clear c32
                      try clear c32b0
                      try clear c32b1
                      try clear c36
                      try clear c43
                      try clear c45
                      try clear c48
                      try clear c50
                      try clear c50b0
                      try clear c51
                      try clear c51b0
                      try clear c54
                      try clear c57
                      try clear c60
                      try clear c61
                      try clear c61b0
                      try clear c62
                      try clear c62b0
                      try clear p64
                      try clear c65
                      try clear c68
                      try clear c71
                      try clear c72
                      try clear c72b0
                      try clear c73
                      try clear c73b0
                      try clear c75
                      try clear c78
                      try clear hcz11_0
                      try clear hcz11_1
                      try clear hcz11_2
                      try clear hcz11_3
                      try clear hcz11_4
                      try clear hcz11_5
                      try clear hcz27_0
                      try clear hcz27_1
                      try clear hcz27_2
                      try clear hcz27_3
                      try clear hcz27_4
                      try clear hcz27_5
                      try clear hcz37_0
                      try clear hcz37_1
                      try clear hcz37_2
                      try clear hcz37_3
                      try clear hcz37_4
                      try clear hcz37_5
                      try clear hcz44_0
                      try clear hcz44_1
                      try clear hcz44_2
                      try clear hcz44_3
                      try clear hcz44_4
                      try clear hcz44_5
                      try clear hcz4_0
                      try clear hcz4_1
                      try clear hcz4_2
                      try clear hcz4_3
                      try clear hcz4_4
                      try clear hcz4_5
                      try clear hcz4_6
                      try clear hcz55_0
                      try clear hcz55_1
                      try clear hcz55_2
                      try clear hcz55_3
                      try clear hcz55_4
                      try clear hcz55_5
                      try clear hcz66_0
                      try clear hcz66_1
                      try clear hcz66_2
                      try clear hcz66_3
                      try clear hcz66_4
                      try clear hcz66_5
                      try clear hcz76_0
                      try clear hcz76_1
                      try clear hcz76_2
                      try clear hcz76_3
                      try clear hcz76_4
                      try clear hcz76_5
                      try clear hfz11_0
                      try clear hfz11_1
                      try clear hfz11_2
                      try clear hfz11_3
                      try clear hfz11_4
                      try clear hfz11_5
                      try clear hfz27_0
                      try clear hfz27_1
                      try clear hfz27_2
                      try clear hfz27_3
                      try clear hfz27_4
                      try clear hfz27_5
                      try clear hfz37_0
                      try clear hfz37_1
                      try clear hfz37_2
                      try clear hfz37_3
                      try clear hfz37_4
                      try clear hfz37_5
                      try clear hfz44_0
                      try clear hfz44_1
                      try clear hfz44_2
                      try clear hfz44_3
                      try clear hfz44_4
                      try clear hfz44_5
                      try clear hfz4_0
                      try clear hfz4_1
                      try clear hfz4_2
                      try clear hfz4_3
                      try clear hfz4_4
                      try clear hfz4_5
                      try clear hfz4_6
                      try clear hfz55_0
                      try clear hfz55_1
                      try clear hfz55_2
                      try clear hfz55_3
                      try clear hfz55_4
                      try clear hfz55_5
                      try clear hfz66_0
                      try clear hfz66_1
                      try clear hfz66_2
                      try clear hfz66_3
                      try clear hfz66_4
                      try clear hfz66_5
                      try clear hfz76_0
                      try clear hfz76_1
                      try clear hfz76_2
                      try clear hfz76_3
                      try clear hfz76_4
                      try clear hfz76_5
                      try clear hx148_0
                      try clear hx149_0
                      try clear hx150_0
                      try clear hx152_0
                      try clear hx158_0
                      try clear hx160_0
                      try clear hx162_0
                      try clear p1
                      try clear p14
                      try clear p148
                      try clear p149
                      try clear p15
                      try clear p150
                      try clear p152
                      try clear p158
                      try clear p16
                      try clear p160
                      try clear p162
                      try clear p2
                      try clear p6
                      try clear p64
                      try clear q1
                      try clear q14
                      try clear q148
                      try clear q149
                      try clear q15
                      try clear q150
                      try clear q152
                      try clear q158
                      try clear q16
                      try clear q160
                      try clear q162
                      obtain ⟨kq,x114_76,rfl,HA,HJ76,HO_3,BK143,BK147,HB⟩:=hcut
                      cases kq with
                      | zero=>exact absurd HA.out (by simp [Y1.j9])
                      | succ kj76 =>
                       have H:=HA.out
                       clear HA
                       simp only [Y1.j9] at H
                       have HC80:=Aside0.mk H
                       clear H
                       go_upto_if 114 with (fail)
                       go_cut [] (fun wc=>∃ (kq:Nat) (x148004_79:ByteArray),Aside0 (Y1.j10 kq a0 x148000_3 x148001_46 x148002_58 x148003_69 x148004_79 x148005_19=some (r1,r2,r3,r4,r5,r6,r7))∧Aside0 (kq≤kj76)∧Aside0 (wc.heap[gb143]? = some (.cells #[.int .i64 0,.int .i64 0,.int .i64 0,.string (⟨#[]⟩:ByteArray),.string (⟨#[]⟩:ByteArray),.int .i64 0,.int .i64 0] 25 (0,0)))∧Aside0 (wc.heap[gb147]? = some (.cells #[.int .i64 x148000_3,.int .i64 x148001_46,.int .i64 x148002_58,.string x148003_69,.string x148004_79,.int .i64 x148005_19] 23 (0,0)))∧Aside0 (Below w.heap.size w wc))
                       case first =>
                        have H:=HC80.out
                        clear HC80
                        by_cases c81:x114_76=true
                        ·subst c81
                         have H1:(if 0≤x5_69 then (if x5_69<(t144.length:Int) then (Y1.j10 kj76 a0 x148000_3 x148001_46 x148002_58 x148003_69 (rdOf ByteArray.empty t144 x5_69) x148005_19) else (none)) else (none))=some (r1,r2,r3,r4,r5,r6,r7):=by rw [if_pos rfl] at H;exact H
                         clear H
                         have H:=H1
                         clear H1
                         by_cases c82:0≤x5_69
                         ·rw [if_pos c82] at H
                          have c82b0:decide (0≤x5_69)=true:=decide_eq_true c82
                          clear c82
                          (first | rw [c82b0] | (simp only [i64_w,i32_w];rw [c82b0]) | skip)
                          by_cases c83:x5_69<(t144.length:Int)
                          ·rw [if_pos c83] at H
                           have c83b0:decide (x5_69<(t144.length:Int))=true:=decide_eq_true c83
                           clear c83
                           have H':=Aside0.mk H
                           clear H
                           obtain ⟨Ao84,co84,eo84⟩:=Kd.R_slice HO_3.out
                           subst eo84
                           have p163:0≤(x5_69:Int):=of_decide_eq_true (by first | (with_reducible assumption) | assumption)
                           have q163:x5_69<(t144.length:Int):=of_decide_eq_true (by first | (with_reducible assumption) | assumption)
                           obtain ⟨ad163,e163,hx163_0⟩:=Kd.at_string (Kd.R_reads' HO_3.out).2.2 x5_69 p163 q163
                           cases e163
                           replace p163:=eq_true p163
                           replace q163:=eq_true q163
                           have hnb85:=NB147_143.out
                           have hnc85:=NB143_147.out
                           have hcz86_0:wc.cell? ⟨gb147,0,none⟩=some (.int .i64 x148000_3):=(blk_cell BK147.out 0).trans rfl
                           have hcz86_1:wc.cell? ⟨gb147,1,none⟩=some (.int .i64 x148001_46):=(blk_cell BK147.out 1).trans rfl
                           have hcz86_2:wc.cell? ⟨gb147,2,none⟩=some (.int .i64 x148002_58):=(blk_cell BK147.out 2).trans rfl
                           have hcz86_3:wc.cell? ⟨gb147,3,none⟩=some (.string x148003_69):=(blk_cell BK147.out 3).trans rfl
                           have hcz86_4:wc.cell? ⟨gb147,4,none⟩=some (.string (⟨#[]⟩:ByteArray)):=(blk_cell BK147.out 4).trans rfl
                           have hcz86_5:wc.cell? ⟨gb147,5,none⟩=some (.int .i64 x148005_19):=(blk_cell BK147.out 5).trans rfl
                           have hfz86_0:=blk_frozen BK147.out 0
                           have hfz86_1:=blk_frozen BK147.out 1
                           have hfz86_2:=blk_frozen BK147.out 2
                           have hfz86_3:=blk_frozen BK147.out 3
                           have hfz86_4:=blk_frozen BK147.out 4
                           have hfz86_5:=blk_frozen BK147.out 5
                           go_wp2
                           go_meet
                           case rel=>exact ⟨_,(rdOf ByteArray.empty t144 x5_69),H',⟨by have:=HJ5.out;have:=HJ19.out;have:=HK3.out;have:=HJ41.out;have:=HJ46.out;have:=HJ55.out;have:=HJ58.out;have:=HJ66.out;have:=HJ69.out;have:=HJ76.out;first | omega | exact Nat.le_refl _⟩,⟨by (with_reducible repeat (first | refine blk_drewN ?_ _ | refine blk_drew ?_ | refine blk_alloc ?_ _));refine blk_far ?_ NB143_147.out _;(with_reducible repeat (first | refine blk_drewN ?_ _ | refine blk_drew ?_ | refine blk_alloc ?_ _));exact BK143.out⟩,⟨by (with_reducible repeat (first | refine blk_drewN ?_ _ | refine blk_drew ?_ | refine blk_alloc ?_ _));refine blk_put (cs:=#[.int .i64 x148000_3,.int .i64 x148001_46,.int .i64 x148002_58,.string x148003_69,.string (⟨#[]⟩:ByteArray),.int .i64 x148005_19]) ?_ 4 _ rfl;(with_reducible repeat (first | refine blk_drewN ?_ _ | refine blk_drew ?_ | refine blk_alloc ?_ _));exact BK147.out⟩,⟨by repeat (first | (with_reducible first | exact HB.out | apply below_alloc | apply pw_below_drewN | apply below_drew1 | refine below_set ?_ GE143.out | refine below_set ?_ GE147.out) | exact HB.out)⟩⟩
                          ·rw [if_neg c83] at H
                           exact absurd H (by simp)
                         ·rw [if_neg c82] at H
                          exact absurd H (by simp)
                        ·replace c81:=Bool.eq_false_iff.mpr c81
                         subst c81
                         have H1:(Y1.j10 kj76 a0 x148000_3 x148001_46 x148002_58 x148003_69 (⟨#[]⟩:ByteArray) x148005_19)=some (r1,r2,r3,r4,r5,r6,r7):=by rw [if_neg (show ¬ (false=true) by decide)] at H;exact H
                         clear H
                         have H:=H1
                         clear H1
                         have H':=Aside0.mk H
                         clear H
                         go_wp2
                         go_meet
                         case rel=>exact ⟨_,((⟨#[]⟩:ByteArray)),H',⟨by have:=HJ5.out;have:=HJ19.out;have:=HK3.out;have:=HJ41.out;have:=HJ46.out;have:=HJ55.out;have:=HJ58.out;have:=HJ66.out;have:=HJ69.out;have:=HJ76.out;first | omega | exact Nat.le_refl _⟩,⟨by (with_reducible repeat (first | refine blk_drewN ?_ _ | refine blk_drew ?_ | refine blk_alloc ?_ _));exact BK143.out⟩,⟨by (with_reducible repeat (first | refine blk_drewN ?_ _ | refine blk_drew ?_ | refine blk_alloc ?_ _));exact BK147.out⟩,⟨by repeat (first | (with_reducible first | exact HB.out | apply below_alloc | apply pw_below_drewN | apply below_drew1 | refine below_set ?_ GE143.out | refine below_set ?_ GE147.out) | exact HB.out)⟩⟩
                       case rest =>
                        clear HC80
                        try clear c1
                        try clear p1
                        try clear q1
                        try clear hx1
                        try clear qi1
                        try clear c2
                        try clear c2b0
                        try clear c2b1
                        try clear p2
                        try clear c3
                        try clear c4
                        try clear c5
                        try clear c6
                        try clear p6
                        try clear c7
                        try clear c8
                        try clear c9
                        try clear c10
                        try clear c12
                        try clear c12b0
                        try clear c12b1
                        try clear c13
                        try clear c13b0
                        try clear c13b1
                        try clear c14
                        try clear c14b0
                        try clear c14b1
                        try clear p14
                        try clear q14
                        try clear hx14
                        try clear qi14
                        try clear p15
                        try clear q15
                        try clear hx15
                        try clear qi15
                        try clear c16
                        try clear c16b0
                        try clear c16b1
                        try clear p16
                        try clear q16
                        try clear hx16
                        try clear c21
                        try clear c22
                        try clear c22b0
                        try clear c22b1
                        try clear c23
                        try clear c23b0
                        try clear c23b1
                        try clear c26
                        try clear c28
                        try clear c28b0
                        try clear c29
                        try clear c29b0
                        try clear c30
                        try clear c30b0
                        try clear c32
                        try clear c32b0
                        try clear c32b1
                        try clear c36
                        try clear c43
                        try clear c45
                        try clear c48
                        try clear c50
                        try clear c50b0
                        try clear c51
                        try clear c51b0
                        try clear c54
                        try clear c57
                        try clear c60
                        try clear c61
                        try clear c61b0
                        try clear c62
                        try clear c62b0
                        try clear p64
                        try clear c65
                        try clear c68
                        try clear c71
                        try clear c72
                        try clear c72b0
                        try clear c73
                        try clear c73b0
                        try clear c75
                        try clear c78
                        try clear c81
                        try clear c82
                        try clear c82b0
                        try clear c83
                        try clear c83b0
                        try clear c85
                        try clear hcz11_0
                        try clear hcz11_1
                        try clear hcz11_2
                        try clear hcz11_3
                        try clear hcz11_4
                        try clear hcz11_5
                        try clear hcz27_0
                        try clear hcz27_1
                        try clear hcz27_2
                        try clear hcz27_3
                        try clear hcz27_4
                        try clear hcz27_5
                        try clear hcz37_0
                        try clear hcz37_1
                        try clear hcz37_2
                        try clear hcz37_3
                        try clear hcz37_4
                        try clear hcz37_5
                        try clear hcz44_0
                        try clear hcz44_1
                        try clear hcz44_2
                        try clear hcz44_3
                        try clear hcz44_4
                        try clear hcz44_5
                        try clear hcz4_0
                        try clear hcz4_1
                        try clear hcz4_2
                        try clear hcz4_3
                        try clear hcz4_4
                        try clear hcz4_5
                        try clear hcz4_6
                        try clear hcz55_0
                        try clear hcz55_1
                        try clear hcz55_2
                        try clear hcz55_3
                        try clear hcz55_4
                        try clear hcz55_5
                        try clear hcz66_0
                        try clear hcz66_1
                        try clear hcz66_2
                        try clear hcz66_3
                        try clear hcz66_4
                        try clear hcz66_5
                        try clear hcz76_0
                        try clear hcz76_1
                        try clear hcz76_2
                        try clear hcz76_3
                        try clear hcz76_4
                        try clear hcz76_5
                        try clear hcz86_0
                        try clear hcz86_1
                        try clear hcz86_2
                        try clear hcz86_3
                        try clear hcz86_4
                        try clear hcz86_5
                        try clear hfz11_0
                        try clear hfz11_1
                        try clear hfz11_2
                        try clear hfz11_3
                        try clear hfz11_4
                        try clear hfz11_5
                        try clear hfz27_0
                        try clear hfz27_1
                        try clear hfz27_2
                        try clear hfz27_3
                        try clear hfz27_4
                        try clear hfz27_5
                        try clear hfz37_0
                        try clear hfz37_1
                        try clear hfz37_2
                        try clear hfz37_3
                        try clear hfz37_4
                        try clear hfz37_5
                        try clear hfz44_0
                        try clear hfz44_1
                        try clear hfz44_2
                        try clear hfz44_3
                        try clear hfz44_4
                        try clear hfz44_5
                        try clear hfz4_0
                        try clear hfz4_1
                        try clear hfz4_2
                        try clear hfz4_3
                        try clear hfz4_4
                        try clear hfz4_5
                        try clear hfz4_6
                        try clear hfz55_0
                        try clear hfz55_1
                        try clear hfz55_2
                        try clear hfz55_3
                        try clear hfz55_4
                        try clear hfz55_5
                        try clear hfz66_0
                        try clear hfz66_1
                        try clear hfz66_2
                        try clear hfz66_3
                        try clear hfz66_4
                        try clear hfz66_5
                        try clear hfz76_0
                        try clear hfz76_1
                        try clear hfz76_2
                        try clear hfz76_3
                        try clear hfz76_4
                        try clear hfz76_5
                        try clear hfz86_0
                        try clear hfz86_1
                        try clear hfz86_2
                        try clear hfz86_3
                        try clear hfz86_4
                        try clear hfz86_5
                        try clear hx148_0
                        try clear hx149_0
                        try clear hx150_0
                        try clear hx152_0
                        try clear hx158_0
                        try clear hx160_0
                        try clear hx162_0
                        try clear hx163_0
                        try clear p1
                        try clear p14
                        try clear p148
                        try clear p149
                        try clear p15
                        try clear p150
                        try clear p152
                        try clear p158
                        try clear p16
                        try clear p160
                        try clear p162
                        try clear p163
                        try clear p2
                        try clear p6
                        try clear p64
                        try clear q1
                        try clear q14
                        try clear q148
                        try clear q149
                        try clear q15
                        try clear q150
                        try clear q152
                        try clear q158
                        try clear q16
                        try clear q160
                        try clear q162
                        try clear q163
                        obtain ⟨kq,x148004_79,HA,HJ79,BK143,BK147,HB⟩:=hcut
                        cases kq with
                        | zero=>exact absurd HA.out (by simp [Y1.j10])
                        | succ kj79 =>
                         have H:=HA.out
                         clear HA
                         simp only [Y1.j10] at H
                         have HC87:=Aside0.mk H
                         clear H
                         go_upto_region 27 with (fail)
                         go_cut [127] (fun v127 wc=>∃ (kq:Nat) (x127_86:Bool),v127 = .bool x127_86∧Aside0 (Y1.j11 kq x127_86 x148000_3 x148001_46 x148002_58 x148003_69 x148004_79 x148005_19=some (r1,r2,r3,r4,r5,r6,r7))∧Aside0 (kq≤kj79)∧Aside0 (wc.heap[gb143]? = some (.cells #[.int .i64 0,.int .i64 0,.int .i64 0,.string (⟨#[]⟩:ByteArray),.string (⟨#[]⟩:ByteArray),.int .i64 0,.int .i64 0] 25 (0,0)))∧Aside0 (wc.heap[gb147]? = some (.cells #[.int .i64 x148000_3,.int .i64 x148001_46,.int .i64 x148002_58,.string x148003_69,.string x148004_79,.int .i64 x148005_19] 23 (0,0)))∧Aside0 (Below w.heap.size w wc))
                         case first =>
                          have H:=HC87.out
                          clear HC87
                          by_cases c88:a0.toList=([]:List UInt8)
                          ·rw [if_pos c88] at H
                           have c88b0:(a0.toList == ([]:List UInt8))=true:=beq_iff_eq.mpr c88
                           have c88b1:(a0.toList != ([]:List UInt8))=false:=bne_eq_false_iff_eq.mpr c88
                           clear c88
                           (first | rw [c88b0] | (simp only [i64_w,i32_w];rw [c88b0]) | skip)
                           have H':=Aside0.mk H
                           clear H
                           go_wp2
                           go_meet
                           case rel=>exact ⟨_,(true),(by first | rfl | (simp;done) | (simp [*];done) | (simp [bne];done)),H',⟨by have:=HJ5.out;have:=HJ19.out;have:=HK3.out;have:=HJ41.out;have:=HJ46.out;have:=HJ55.out;have:=HJ58.out;have:=HJ66.out;have:=HJ69.out;have:=HJ76.out;have:=HJ79.out;first | omega | exact Nat.le_refl _⟩,⟨by (with_reducible repeat (first | refine blk_drewN ?_ _ | refine blk_drew ?_ | refine blk_alloc ?_ _));exact BK143.out⟩,⟨by (with_reducible repeat (first | refine blk_drewN ?_ _ | refine blk_drew ?_ | refine blk_alloc ?_ _));exact BK147.out⟩,⟨by repeat (first | (with_reducible first | exact HB.out | apply below_alloc | apply pw_below_drewN | apply below_drew1 | refine below_set ?_ GE143.out | refine below_set ?_ GE147.out) | exact HB.out)⟩⟩
                          ·rw [if_neg c88] at H
                           have c88b0:(a0.toList == ([]:List UInt8))=false:=beq_eq_false_iff_ne.mpr c88
                           have c88b1:(a0.toList != ([]:List UInt8))=true:=bne_iff_ne.mpr c88
                           (first | rw [c88b0] | (simp only [i64_w,i32_w];rw [c88b0]) | skip)
                           replace H:=Option.bind_eq_some_iff.mp H
                           obtain ⟨t164,A890,H⟩:=H
                           replace H:(Y1.j11 kj79 (t164.toList != a0.toList) x148000_3 x148001_46 x148002_58 x148003_69 x148004_79 x148005_19)=some (r1,r2,r3,r4,r5,r6,r7):=H
                           have A89:=Aside0.mk A890
                           clear A890
                           have H':=Aside0.mk H
                           clear H
                           have hnb90:=NB147_143.out
                           have hnc90:=NB143_147.out
                           have hcz91_0:wc.cell? ⟨gb147,0,none⟩=some (.int .i64 x148000_3):=(blk_cell BK147.out 0).trans rfl
                           have hcz91_1:wc.cell? ⟨gb147,1,none⟩=some (.int .i64 x148001_46):=(blk_cell BK147.out 1).trans rfl
                           have hcz91_2:wc.cell? ⟨gb147,2,none⟩=some (.int .i64 x148002_58):=(blk_cell BK147.out 2).trans rfl
                           have hcz91_3:wc.cell? ⟨gb147,3,none⟩=some (.string x148003_69):=(blk_cell BK147.out 3).trans rfl
                           have hcz91_4:wc.cell? ⟨gb147,4,none⟩=some (.string x148004_79):=(blk_cell BK147.out 4).trans rfl
                           have hcz91_5:wc.cell? ⟨gb147,5,none⟩=some (.int .i64 x148005_19):=(blk_cell BK147.out 5).trans rfl
                           have hfz91_0:=blk_frozen BK147.out 0
                           have hfz91_1:=blk_frozen BK147.out 1
                           have hfz91_2:=blk_frozen BK147.out 2
                           have hfz91_3:=blk_frozen BK147.out 3
                           have hfz91_4:=blk_frozen BK147.out 4
                           have hfz91_5:=blk_frozen BK147.out 5
                           go_wp2_with (first | (go_at_call 11;(with_reducible refine (Y8.calls kj79 x148000_3 x148001_46 x148002_58 x148003_69 x148004_79 x148005_19 t164 _ A89.out).mono ?_);rintro e w92 ⟨rfl,hb⟩;have n0_:=Aside0.mk (blk_below (g:=gb143) (o:=.cells #[.int .i64 0,.int .i64 0,.int .i64 0,.string (⟨#[]⟩:ByteArray),.string (⟨#[]⟩:ByteArray),.int .i64 0,.int .i64 0] 25 (0,0)) (by (with_reducible repeat (first | refine blk_drewN ?_ _ | refine blk_drew ?_ | refine blk_alloc ?_ _));exact BK143.out) hb);have n1_:=Aside0.mk (blk_below (g:=gb147) (o:=.cells #[.int .i64 x148000_3,.int .i64 x148001_46,.int .i64 x148002_58,.string x148003_69,.string x148004_79,.int .i64 x148005_19] 23 (0,0)) (by (with_reducible repeat (first | refine blk_drewN ?_ _ | refine blk_drew ?_ | refine blk_alloc ?_ _));exact BK147.out) hb);have n2_:=Aside0.mk (below_step (by repeat (first | (with_reducible first | exact HB.out | apply below_alloc | apply pw_below_drewN | apply below_drew1 | refine below_set ?_ GE143.out | refine below_set ?_ GE147.out) | exact HB.out)) hb);clear BK143;clear BK147;clear HB;have BK143:=n0_;have BK147:=n1_;have HB:=n2_;clear n0_ n1_ n2_;(try clear hb);(try clear hb2);(try clear hk);(try clear hi)))
                           go_meet
                           case rel=>exact ⟨_,((t164.toList != a0.toList)),(by first | rfl | (simp;done) | (simp [*];done) | (simp [bne];done)),H',⟨by have:=HJ5.out;have:=HJ19.out;have:=HK3.out;have:=HJ41.out;have:=HJ46.out;have:=HJ55.out;have:=HJ58.out;have:=HJ66.out;have:=HJ69.out;have:=HJ76.out;have:=HJ79.out;first | omega | exact Nat.le_refl _⟩,⟨by (with_reducible repeat (first | refine blk_drewN ?_ _ | refine blk_drew ?_ | refine blk_alloc ?_ _));exact BK143.out⟩,⟨by (with_reducible repeat (first | refine blk_drewN ?_ _ | refine blk_drew ?_ | refine blk_alloc ?_ _));exact BK147.out⟩,⟨by repeat (first | (with_reducible first | exact HB.out | apply below_alloc | apply pw_below_drewN | apply below_drew1 | refine below_set ?_ GE143.out | refine below_set ?_ GE147.out) | exact HB.out)⟩⟩
                         case rest =>
                          clear HC87
                          try clear c1
                          try clear p1
                          try clear q1
                          try clear hx1
                          try clear qi1
                          try clear c2
                          try clear c2b0
                          try clear c2b1
                          try clear p2
                          try clear c3
                          try clear c4
                          try clear c5
                          try clear c6
                          try clear p6
                          try clear c7
                          try clear c8
                          try clear c9
                          try clear c10
                          try clear c12
                          try clear c12b0
                          try clear c12b1
                          try clear c13
                          try clear c13b0
                          try clear c13b1
                          try clear c14
                          try clear c14b0
                          try clear c14b1
                          try clear p14
                          try clear q14
                          try clear hx14
                          try clear qi14
                          try clear p15
                          try clear q15
                          try clear hx15
                          try clear qi15
                          try clear c16
                          try clear c16b0
                          try clear c16b1
                          try clear p16
                          try clear q16
                          try clear hx16
                          try clear c21
                          try clear c22
                          try clear c22b0
                          try clear c22b1
                          try clear c23
                          try clear c23b0
                          try clear c23b1
                          try clear c26
                          try clear c28
                          try clear c28b0
                          try clear c29
                          try clear c29b0
                          try clear c30
                          try clear c30b0
                          try clear c32
                          try clear c32b0
                          try clear c32b1
                          try clear c36
                          try clear c43
                          try clear c45
                          try clear c48
                          try clear c50
                          try clear c50b0
                          try clear c51
                          try clear c51b0
                          try clear c54
                          try clear c57
                          try clear c60
                          try clear c61
                          try clear c61b0
                          try clear c62
                          try clear c62b0
                          try clear p64
                          try clear c65
                          try clear c68
                          try clear c71
                          try clear c72
                          try clear c72b0
                          try clear c73
                          try clear c73b0
                          try clear c75
                          try clear c78
                          try clear c81
                          try clear c82
                          try clear c82b0
                          try clear c83
                          try clear c83b0
                          try clear c85
                          try clear c88
                          try clear c88b0
                          try clear c88b1
                          try clear c90
                          try clear hcz11_0
                          try clear hcz11_1
                          try clear hcz11_2
                          try clear hcz11_3
                          try clear hcz11_4
                          try clear hcz11_5
                          try clear hcz27_0
                          try clear hcz27_1
                          try clear hcz27_2
                          try clear hcz27_3
                          try clear hcz27_4
                          try clear hcz27_5
                          try clear hcz37_0
                          try clear hcz37_1
                          try clear hcz37_2
                          try clear hcz37_3
                          try clear hcz37_4
                          try clear hcz37_5
                          try clear hcz44_0
                          try clear hcz44_1
                          try clear hcz44_2
                          try clear hcz44_3
                          try clear hcz44_4
                          try clear hcz44_5
                          try clear hcz4_0
                          try clear hcz4_1
                          try clear hcz4_2
                          try clear hcz4_3
                          try clear hcz4_4
                          try clear hcz4_5
                          try clear hcz4_6
                          try clear hcz55_0
                          try clear hcz55_1
                          try clear hcz55_2
                          try clear hcz55_3
                          try clear hcz55_4
                          try clear hcz55_5
                          try clear hcz66_0
                          try clear hcz66_1
                          try clear hcz66_2
                          try clear hcz66_3
                          try clear hcz66_4
                          try clear hcz66_5
                          try clear hcz76_0
                          try clear hcz76_1
                          try clear hcz76_2
                          try clear hcz76_3
                          try clear hcz76_4
                          try clear hcz76_5
                          try clear hcz86_0
                          try clear hcz86_1
                          try clear hcz86_2
                          try clear hcz86_3
                          try clear hcz86_4
                          try clear hcz86_5
                          try clear hcz91_0
                          try clear hcz91_1
                          try clear hcz91_2
                          try clear hcz91_3
                          try clear hcz91_4
                          try clear hcz91_5
                          try clear hfz11_0
                          try clear hfz11_1
                          try clear hfz11_2
                          try clear hfz11_3
                          try clear hfz11_4
                          try clear hfz11_5
                          try clear hfz27_0
                          try clear hfz27_1
                          try clear hfz27_2
                          try clear hfz27_3
                          try clear hfz27_4
                          try clear hfz27_5
                          try clear hfz37_0
                          try clear hfz37_1
                          try clear hfz37_2
                          try clear hfz37_3
                          try clear hfz37_4
                          try clear hfz37_5
                          try clear hfz44_0
                          try clear hfz44_1
                          try clear hfz44_2
                          try clear hfz44_3
                          try clear hfz44_4
                          try clear hfz44_5
                          try clear hfz4_0
                          try clear hfz4_1
                          try clear hfz4_2
                          try clear hfz4_3
                          try clear hfz4_4
                          try clear hfz4_5
                          try clear hfz4_6
                          try clear hfz55_0
                          try clear hfz55_1
                          try clear hfz55_2
                          try clear hfz55_3
                          try clear hfz55_4
                          try clear hfz55_5
                          try clear hfz66_0
                          try clear hfz66_1
                          try clear hfz66_2
                          try clear hfz66_3
                          try clear hfz66_4
                          try clear hfz66_5
                          try clear hfz76_0
                          try clear hfz76_1
                          try clear hfz76_2
                          try clear hfz76_3
                          try clear hfz76_4
                          try clear hfz76_5
                          try clear hfz86_0
                          try clear hfz86_1
                          try clear hfz86_2
                          try clear hfz86_3
                          try clear hfz86_4
                          try clear hfz86_5
                          try clear hfz91_0
                          try clear hfz91_1
                          try clear hfz91_2
                          try clear hfz91_3
                          try clear hfz91_4
                          try clear hfz91_5
                          try clear hx148_0
                          try clear hx149_0
                          try clear hx150_0
                          try clear hx152_0
                          try clear hx158_0
                          try clear hx160_0
                          try clear hx162_0
                          try clear hx163_0
                          try clear p1
                          try clear p14
                          try clear p148
                          try clear p149
                          try clear p15
                          try clear p150
                          try clear p152
                          try clear p158
                          try clear p16
                          try clear p160
                          try clear p162
                          try clear p163
                          try clear p2
                          try clear p6
                          try clear p64
                          try clear q1
                          try clear q14
                          try clear q148
                          try clear q149
                          try clear q15
                          try clear q150
                          try clear q152
                          try clear q158
                          try clear q16
                          try clear q160
                          try clear q162
                          try clear q163
                          obtain ⟨kq,x127_86,rfl,HA,HJ86,BK143,BK147,HB⟩:=hcut
                          cases kq with
                          | zero=>exact absurd HA.out (by simp [Y1.j11])
                          | succ kj86 =>
                           have H:=HA.out
                           clear HA
                           simp only [Y1.j11] at H
                           by_cases c93:x127_86=true
                           ·subst c93
                            have H1:(some (0,0,0,(⟨#[]⟩:ByteArray),(⟨#[]⟩:ByteArray),0,3))=some (r1,r2,r3,r4,r5,r6,r7):=by rw [if_pos rfl] at H;exact H
                            clear H
                            have H:=H1
                            clear H1
                            simp only [Option.some.injEq,Prod.mk.injEq] at H
                            obtain ⟨rfl,rfl,rfl,rfl,rfl,rfl,rfl⟩:=H
                            have hnb94:=NB143_147.out
                            have hnc94:=NB147_143.out
                            have hcz95_0:wc.cell? ⟨gb143,0,none⟩=some (.int .i64 0):=(blk_cell BK143.out 0).trans rfl
                            have hcz95_1:wc.cell? ⟨gb143,1,none⟩=some (.int .i64 0):=(blk_cell BK143.out 1).trans rfl
                            have hcz95_2:wc.cell? ⟨gb143,2,none⟩=some (.int .i64 0):=(blk_cell BK143.out 2).trans rfl
                            have hcz95_3:wc.cell? ⟨gb143,3,none⟩=some (.string (⟨#[]⟩:ByteArray)):=(blk_cell BK143.out 3).trans rfl
                            have hcz95_4:wc.cell? ⟨gb143,4,none⟩=some (.string (⟨#[]⟩:ByteArray)):=(blk_cell BK143.out 4).trans rfl
                            have hcz95_5:wc.cell? ⟨gb143,5,none⟩=some (.int .i64 0):=(blk_cell BK143.out 5).trans rfl
                            have hcz95_6:wc.cell? ⟨gb143,6,none⟩=some (.int .i64 0):=(blk_cell BK143.out 6).trans rfl
                            have hfz95_0:=blk_frozen BK143.out 0
                            have hfz95_1:=blk_frozen BK143.out 1
                            have hfz95_2:=blk_frozen BK143.out 2
                            have hfz95_3:=blk_frozen BK143.out 3
                            have hfz95_4:=blk_frozen BK143.out 4
                            have hfz95_5:=blk_frozen BK143.out 5
                            have hfz95_6:=blk_frozen BK143.out 6
                            go_wp2
                            refine bodyPost_ret (results_cell_row rfl _ _ gb143 25 #[.int .i64 0,.int .i64 0,.int .i64 0,.string (⟨#[]⟩:ByteArray),.string (⟨#[]⟩:ByteArray),.int .i64 0,.int .i64 3] (0,0) _ rfl (by (with_reducible repeat (first | refine blk_drewN ?_ _ | refine blk_drew ?_ | refine blk_alloc ?_ _));refine blk_put (cs:=#[.int .i64 0,.int .i64 0,.int .i64 0,.string (⟨#[]⟩:ByteArray),.string (⟨#[]⟩:ByteArray),.int .i64 0,.int .i64 0]) ?_ 6 _ rfl;(with_reducible repeat (first | refine blk_drewN ?_ _ | refine blk_drew ?_ | refine blk_alloc ?_ _));refine blk_put (cs:=#[.int .i64 0,.int .i64 0,.int .i64 0,.string (⟨#[]⟩:ByteArray),.string (⟨#[]⟩:ByteArray),.int .i64 0,.int .i64 0]) ?_ 5 _ rfl;(with_reducible repeat (first | refine blk_drewN ?_ _ | refine blk_drew ?_ | refine blk_alloc ?_ _));refine blk_put (cs:=#[.int .i64 0,.int .i64 0,.int .i64 0,.string (⟨#[]⟩:ByteArray),.string (⟨#[]⟩:ByteArray),.int .i64 0,.int .i64 0]) ?_ 4 _ rfl;(with_reducible repeat (first | refine blk_drewN ?_ _ | refine blk_drew ?_ | refine blk_alloc ?_ _));refine blk_put (cs:=#[.int .i64 0,.int .i64 0,.int .i64 0,.string (⟨#[]⟩:ByteArray),.string (⟨#[]⟩:ByteArray),.int .i64 0,.int .i64 0]) ?_ 3 _ rfl;(with_reducible repeat (first | refine blk_drewN ?_ _ | refine blk_drew ?_ | refine blk_alloc ?_ _));refine blk_put (cs:=#[.int .i64 0,.int .i64 0,.int .i64 0,.string (⟨#[]⟩:ByteArray),.string (⟨#[]⟩:ByteArray),.int .i64 0,.int .i64 0]) ?_ 2 _ rfl;(with_reducible repeat (first | refine blk_drewN ?_ _ | refine blk_drew ?_ | refine blk_alloc ?_ _));refine blk_put (cs:=#[.int .i64 0,.int .i64 0,.int .i64 0,.string (⟨#[]⟩:ByteArray),.string (⟨#[]⟩:ByteArray),.int .i64 0,.int .i64 0]) ?_ 1 _ rfl;(with_reducible repeat (first | refine blk_drewN ?_ _ | refine blk_drew ?_ | refine blk_alloc ?_ _));refine blk_put (cs:=#[.int .i64 0,.int .i64 0,.int .i64 0,.string (⟨#[]⟩:ByteArray),.string (⟨#[]⟩:ByteArray),.int .i64 0,.int .i64 0]) ?_ 0 _ rfl;(with_reducible repeat (first | refine blk_drewN ?_ _ | refine blk_drew ?_ | refine blk_alloc ?_ _));exact BK143.out) Tryd.underlying25 rfl (by kernel_rfl)) rfl ?_
                            exact ⟨by first | rfl | (simp [errW_none,errW_some] <;> rfl) | (simp [*,errW_none,errW_some] <;> rfl),by repeat (first | (with_reducible first | exact HB.out | apply below_alloc | apply pw_below_drewN | apply below_drew1 | refine below_set ?_ GE143.out | refine below_set ?_ GE147.out) | exact HB.out)⟩
                           ·replace c93:=Bool.eq_false_iff.mpr c93
                            subst c93
                            have H1:(some (x148000_3,x148001_46,x148002_58,x148003_69,x148004_79,x148005_19,0))=some (r1,r2,r3,r4,r5,r6,r7):=by rw [if_neg (show ¬ (false=true) by decide)] at H;exact H
                            clear H
                            have H:=H1
                            clear H1
                            simp only [Option.some.injEq,Prod.mk.injEq] at H
                            obtain ⟨rfl,rfl,rfl,rfl,rfl,rfl,rfl⟩:=H
                            have hnb96:=NB147_143.out
                            have hnc96:=NB143_147.out
                            have hcz97_0:wc.cell? ⟨gb147,0,none⟩=some (.int .i64 x148000_3):=(blk_cell BK147.out 0).trans rfl
                            have hcz97_1:wc.cell? ⟨gb147,1,none⟩=some (.int .i64 x148001_46):=(blk_cell BK147.out 1).trans rfl
                            have hcz97_2:wc.cell? ⟨gb147,2,none⟩=some (.int .i64 x148002_58):=(blk_cell BK147.out 2).trans rfl
                            have hcz97_3:wc.cell? ⟨gb147,3,none⟩=some (.string x148003_69):=(blk_cell BK147.out 3).trans rfl
                            have hcz97_4:wc.cell? ⟨gb147,4,none⟩=some (.string x148004_79):=(blk_cell BK147.out 4).trans rfl
                            have hcz97_5:wc.cell? ⟨gb147,5,none⟩=some (.int .i64 x148005_19):=(blk_cell BK147.out 5).trans rfl
                            have hfz97_0:=blk_frozen BK147.out 0
                            have hfz97_1:=blk_frozen BK147.out 1
                            have hfz97_2:=blk_frozen BK147.out 2
                            have hfz97_3:=blk_frozen BK147.out 3
                            have hfz97_4:=blk_frozen BK147.out 4
                            have hfz97_5:=blk_frozen BK147.out 5
                            have hcz98_0:wc.cell? ⟨gb143,0,none⟩=some (.int .i64 0):=(blk_cell BK143.out 0).trans rfl
                            have hcz98_1:wc.cell? ⟨gb143,1,none⟩=some (.int .i64 0):=(blk_cell BK143.out 1).trans rfl
                            have hcz98_2:wc.cell? ⟨gb143,2,none⟩=some (.int .i64 0):=(blk_cell BK143.out 2).trans rfl
                            have hcz98_3:wc.cell? ⟨gb143,3,none⟩=some (.string (⟨#[]⟩:ByteArray)):=(blk_cell BK143.out 3).trans rfl
                            have hcz98_4:wc.cell? ⟨gb143,4,none⟩=some (.string (⟨#[]⟩:ByteArray)):=(blk_cell BK143.out 4).trans rfl
                            have hcz98_5:wc.cell? ⟨gb143,5,none⟩=some (.int .i64 0):=(blk_cell BK143.out 5).trans rfl
                            have hcz98_6:wc.cell? ⟨gb143,6,none⟩=some (.int .i64 0):=(blk_cell BK143.out 6).trans rfl
                            have hfz98_0:=blk_frozen BK143.out 0
                            have hfz98_1:=blk_frozen BK143.out 1
                            have hfz98_2:=blk_frozen BK143.out 2
                            have hfz98_3:=blk_frozen BK143.out 3
                            have hfz98_4:=blk_frozen BK143.out 4
                            have hfz98_5:=blk_frozen BK143.out 5
                            have hfz98_6:=blk_frozen BK143.out 6
                            go_wp2
                            refine bodyPost_ret (results_cell_row rfl _ _ gb143 25 #[.int .i64 x148000_3,.int .i64 x148001_46,.int .i64 x148002_58,.string x148003_69,.string x148004_79,.int .i64 x148005_19,.int .i64 0] (0,0) _ rfl (by (with_reducible repeat (first | refine blk_drewN ?_ _ | refine blk_drew ?_ | refine blk_alloc ?_ _));refine blk_put (cs:=#[.int .i64 x148000_3,.int .i64 x148001_46,.int .i64 x148002_58,.string x148003_69,.string x148004_79,.int .i64 x148005_19,.int .i64 0]) ?_ 6 _ rfl;(with_reducible repeat (first | refine blk_drewN ?_ _ | refine blk_drew ?_ | refine blk_alloc ?_ _));refine blk_put (cs:=#[.int .i64 x148000_3,.int .i64 x148001_46,.int .i64 x148002_58,.string x148003_69,.string x148004_79,.int .i64 0,.int .i64 0]) ?_ 5 _ rfl;(with_reducible repeat (first | refine blk_drewN ?_ _ | refine blk_drew ?_ | refine blk_alloc ?_ _));refine blk_put (cs:=#[.int .i64 x148000_3,.int .i64 x148001_46,.int .i64 x148002_58,.string x148003_69,.string (⟨#[]⟩:ByteArray),.int .i64 0,.int .i64 0]) ?_ 4 _ rfl;(with_reducible repeat (first | refine blk_drewN ?_ _ | refine blk_drew ?_ | refine blk_alloc ?_ _));refine blk_put (cs:=#[.int .i64 x148000_3,.int .i64 x148001_46,.int .i64 x148002_58,.string (⟨#[]⟩:ByteArray),.string (⟨#[]⟩:ByteArray),.int .i64 0,.int .i64 0]) ?_ 3 _ rfl;(with_reducible repeat (first | refine blk_drewN ?_ _ | refine blk_drew ?_ | refine blk_alloc ?_ _));refine blk_put (cs:=#[.int .i64 x148000_3,.int .i64 x148001_46,.int .i64 0,.string (⟨#[]⟩:ByteArray),.string (⟨#[]⟩:ByteArray),.int .i64 0,.int .i64 0]) ?_ 2 _ rfl;(with_reducible repeat (first | refine blk_drewN ?_ _ | refine blk_drew ?_ | refine blk_alloc ?_ _));refine blk_put (cs:=#[.int .i64 x148000_3,.int .i64 0,.int .i64 0,.string (⟨#[]⟩:ByteArray),.string (⟨#[]⟩:ByteArray),.int .i64 0,.int .i64 0]) ?_ 1 _ rfl;(with_reducible repeat (first | refine blk_drewN ?_ _ | refine blk_drew ?_ | refine blk_alloc ?_ _));refine blk_put (cs:=#[.int .i64 0,.int .i64 0,.int .i64 0,.string (⟨#[]⟩:ByteArray),.string (⟨#[]⟩:ByteArray),.int .i64 0,.int .i64 0]) ?_ 0 _ rfl;(with_reducible repeat (first | refine blk_drewN ?_ _ | refine blk_drew ?_ | refine blk_alloc ?_ _));exact BK143.out) Tryd.underlying25 rfl (by kernel_rfl)) rfl ?_
                            exact ⟨by first | rfl | (simp [errW_none,errW_some] <;> rfl) | (simp [*,errW_none,errW_some] <;> rfl),by repeat (first | (with_reducible first | exact HB.out | apply below_alloc | apply pw_below_drewN | apply below_drew1 | refine below_set ?_ GE143.out | refine below_set ?_ GE147.out) | exact HB.out)⟩


/-! ### Y40: function 18 -/
def Y40.f (a0:ByteArray):Option (Bool):=some (decide ((a0.size:Int)>8000))
set_option maxHeartbeats 8000000 in
set_option maxRecDepth 100000 in
theorem Y40.calls (a0:ByteArray) (r:Bool) (w:World) (h:Y40.f a0=some r) :
  Calls Tryd.prog 18 #[.string a0] w fun e w'=>e = .returned (.bool r)∧Drawn0 w w':=by
 have H:(some (decide ((a0.size:Int)>8000)))=some r:=h
 clear h
 obtain rfl:=Option.some.inj H
 go_enter Tryd.func18,Tryd.ntmps18
 go_wp2
 go_ret
 exact ⟨by first | rfl | (simp;done) | (simp [*];done) | (simp [bne];done),by repeat (first | exact Drawn0.refl _ | apply Drawn0.step)⟩


/-! ### Y7: function 31 -/
def Y7.l0:Nat→List ByteArray→Int→Int→Option (Int)
 | 0,_,_,_=>none
 | k+1,x0,x7,x8=>if x8<x7 then (if 0≤x8 then (if x8<(x0.length:Int) then ((Y40.f (rdOf ByteArray.empty x0 x8)).bind fun t166=>(if t166=true then (some x8) else (Y7.l0 k x0 x7 (wrap64 (x8+1))))) else (none)) else (none)) else (some (-1))
def Y7.f (k:Nat) (l0:List ByteArray)  : Option (Int):=Y7.l0 k l0 (l0.length:Int) 0
theorem Y7.mono_l:∀ k,(∀ y0 y1 y2,LeO (Y7.l0 k y0 y1 y2) (Y7.l0 (k+1) y0 y1 y2))
 | 0=>fun _ _ _ r h=>by simp [Y7.l0] at h
 | k+1=>by
  have ih0:=Y7.mono_l k
  ·intro y0 y1 y2
   unfold Y7.l0
   repeat' first
   | (with_reducible exact ih0 _ _ _)
   | (with_reducible exact LeO.refl _)
   | (with_reducible exact LeO.none _)
   | (with_reducible refine LeO.ite ?_ ?_)
   | (with_reducible refine LeO.bind ?_ (fun _=>?_))
   | exact ih0 _ _ _
   | exact LeO.none _
   | refine LeO.ite ?_ ?_
   | refine LeO.bind ?_ (fun _=>?_)
theorem Y7.mono:∀ a0 k,LeO (Y7.f k a0) (Y7.f (k+1) a0):=by
 intro a0 k
 have ih0:=Y7.mono_l k
 unfold Y7.f
 repeat' first
   | (with_reducible exact ih0 _ _ _)
   | (with_reducible exact LeO.refl _)
   | (with_reducible exact LeO.none _)
   | (with_reducible refine LeO.ite ?_ ?_)
   | (with_reducible refine LeO.bind ?_ (fun _=>?_))
   | exact ih0 _ _ _
   | exact LeO.none _
   | refine LeO.ite ?_ ?_
   | refine LeO.bind ?_ (fun _=>?_)
set_option maxHeartbeats 8000000 in
set_option maxRecDepth 100000 in
theorem Y7.calls (k:Nat) (A0:Option Addr) (c0:Nat) (l0:List ByteArray)  (r:Int) (w:World) (hr0:Kd.C Kd.string w A0 l0.length l0) (hc0:l0.length≤c0) (h:Y7.f k l0=some r) :
  Calls Tryd.prog 31 #[.slice A0 l0.length c0,.func (.func 18) #[] #[]] w fun e w'=>e = .returned (.int .i64 r)∧Drawn0 w w':=by
 have HR0:=Aside0.mk hr0
 have HC0:=Aside0.mk hc0
 clear hr0 hc0
 have H:(Y7.l0 k l0 (l0.length:Int) 0)=some r:=h
 clear h
 have H':=Aside0.mk H
 clear H
 go_enter Tryd.func31,Tryd.ntmps31
 go_wp2
 go_loopg [8] k (fun kq v8 w'=>∃ (x8_1:Int),v8 = .int .i64 x8_1∧Aside0 (Y7.l0 kq l0 (l0.length:Int) x8_1=some r)∧Aside0 (kq≤k)∧Drawn0 w w')
 case atStart=>exact ⟨(0),(by first | rfl | (simp;done) | (simp [*];done) | (simp [bne];done)),H',⟨Nat.le_refl _⟩,by repeat (first | exact Drawn0.refl _ | apply Drawn0.step)⟩
 case round =>
  clear H'
  try clear p2
  obtain ⟨x8_1,rfl,HA,HK1,⟨m1,rfl⟩⟩:=hrel
  cases gk with
  | zero=>exact absurd HA.out (by simp [Y7.l0])
  | succ k1 =>
   have H:=HA.out
   clear HA
   simp only [Y7.l0] at H
   by_cases c3:x8_1<(l0.length:Int)
   ·rw [if_pos c3] at H
    have c3b0:decide (x8_1<(l0.length:Int))=true:=decide_eq_true c3
    clear c3
    by_cases c4:0≤x8_1
    ·rw [if_pos c4] at H
     have c4b0:decide (0≤x8_1)=true:=decide_eq_true c4
     clear c4
     by_cases c5:x8_1<(l0.length:Int)
     ·rw [if_pos c5] at H
      have c5b0:decide (x8_1<(l0.length:Int))=true:=decide_eq_true c5
      clear c5
      replace H:=Option.bind_eq_some_iff.mp H
      obtain ⟨t166,A60,H⟩:=H
      replace H:(if t166=true then (some x8_1) else (Y7.l0 k1 l0 (l0.length:Int) (wrap64 (x8_1+1))))=some r:=H
      have A6:=Aside0.mk A60
      clear A60
      by_cases c7:t166=true
      ·subst c7
       have H1:(some x8_1)=some r:=by rw [if_pos rfl] at H;exact H
       clear H
       have H:=H1
       clear H1
       obtain rfl:=Option.some.inj H
       have p165:0≤(x8_1:Int):=of_decide_eq_true (by first | (with_reducible assumption) | assumption)
       have q165:x8_1<(l0.length:Int):=of_decide_eq_true (by first | (with_reducible assumption) | assumption)
       obtain ⟨ad165,e165,hx165_0⟩:=Kd.at_string HR0.out x8_1 p165 q165
       cases e165
       replace p165:=eq_true p165
       replace q165:=eq_true q165
       go_wp2_with (first | (go_at_call 18;(with_reducible refine (Y40.calls (rdOf ByteArray.empty l0 x8_1) true _ A6.out).mono ?_);rintro e w' ⟨rfl,⟨nd,rfl⟩⟩))
       go_ret
       exact ⟨by first | rfl | (simp;done) | (simp [*];done) | (simp [bne];done),by repeat (first | exact Drawn0.refl _ | apply Drawn0.step)⟩
      ·replace c7:=Bool.eq_false_iff.mpr c7
       subst c7
       have H1:(Y7.l0 k1 l0 (l0.length:Int) (wrap64 (x8_1+1)))=some r:=by rw [if_neg (show ¬ (false=true) by decide)] at H;exact H
       clear H
       have H:=H1
       clear H1
       have H':=Aside0.mk H
       clear H
       have p165:0≤(x8_1:Int):=of_decide_eq_true (by first | (with_reducible assumption) | assumption)
       have q165:x8_1<(l0.length:Int):=of_decide_eq_true (by first | (with_reducible assumption) | assumption)
       obtain ⟨ad165,e165,hx165_0⟩:=Kd.at_string HR0.out x8_1 p165 q165
       cases e165
       replace p165:=eq_true p165
       replace q165:=eq_true q165
       go_wp2_with (first | (go_at_call 18;(with_reducible refine (Y40.calls (rdOf ByteArray.empty l0 x8_1) false _ A6.out).mono ?_);rintro e w' ⟨rfl,⟨nd,rfl⟩⟩))
       go_roundg k1
       case measure=>have:=HK1.out;omega
       case rel=>exact ⟨(wrap64 (x8_1+1)),(by first | rfl | (simp;done) | (simp [*];done) | (simp [bne];done)),H',⟨by have:=HK1.out;omega⟩,by repeat (first | exact Drawn0.refl _ | apply Drawn0.step)⟩
     ·rw [if_neg c5] at H
      exact absurd H (by simp)
    ·rw [if_neg c4] at H
     exact absurd H (by simp)
   ·rw [if_neg c3] at H
    have c3b0:decide (x8_1<(l0.length:Int))=false:=decide_eq_false c3
    clear c3
    obtain rfl:=Option.some.inj H
    go_wp2
    go_ret
    exact ⟨by first | rfl | (simp;done) | (simp [*];done) | (simp [bne];done),by repeat (first | exact Drawn0.refl _ | apply Drawn0.step)⟩


/-! ### Y14: function 17 -/
def Y14.f (k:Nat) (l0:List ByteArray)  : Option (Bool):=(Y7.f k l0).bind fun t167=>(some (decide (t167≥0)))
theorem Y14.mono:∀ a0 k,LeO (Y14.f k a0) (Y14.f (k+1) a0):=by
 intro a0 k
 unfold Y14.f
 repeat' first
   | (with_reducible exact Y7.mono _ _)
   | (with_reducible exact LeO.refl _)
   | (with_reducible exact LeO.none _)
   | (with_reducible refine LeO.ite ?_ ?_)
   | (with_reducible refine LeO.bind ?_ (fun _=>?_))
   | exact Y7.mono _ _
   | exact LeO.none _
   | refine LeO.ite ?_ ?_
   | refine LeO.bind ?_ (fun _=>?_)
set_option maxHeartbeats 8000000 in
set_option maxRecDepth 100000 in
theorem Y14.calls (k:Nat) (A0:Option Addr) (c0:Nat) (l0:List ByteArray)  (r:Bool) (w:World) (hr0:Kd.C Kd.string w A0 l0.length l0) (hc0:l0.length≤c0) (h:Y14.f k l0=some r) :
  Calls Tryd.prog 17 #[.slice A0 l0.length c0,.func (.func 18) #[] #[]] w fun e w'=>e = .returned (.bool r)∧Drawn0 w w':=by
 have HR0:=Aside0.mk hr0
 have HC0:=Aside0.mk hc0
 clear hr0 hc0
 have H:((Y7.f k l0).bind fun t167=>(some (decide (t167≥0))))=some r:=h
 clear h
 replace H:=Option.bind_eq_some_iff.mp H
 obtain ⟨t167,A30,H⟩:=H
 replace H:(some (decide (t167≥0)))=some r:=H
 have A3:=Aside0.mk A30
 clear A30
 obtain rfl:=Option.some.inj H
 go_enter Tryd.func17,Tryd.ntmps17
 go_wp2_with (first | ((with_reducible refine gate_callee (f:=31) rfl ?_);refine goesL_ (some 7) rfl rfl Tryd.func31 (by kernel_rfl) rfl #[.slice A0 l0.length c0,.func (.func 18) #[] #[]] rfl (by (try simp only [List.map_toArray,List.map_cons,List.map_nil]);first | done | rfl | (simp only [List.length_drop,List.length_take];rfl)) ?_;(with_reducible refine (Y7.calls k _ _ l0  t167 _ ?side1 ?side2 A3.out).mono ?_);(case side1=>repeat (first | exact HR0.out | (with_reducible refine Kd.C_alloc ?_ _) | (with_reducible refine Kd.C_drewN ?_ _) | (with_reducible refine Kd.C_drew ?_)));(case side2=>exact HC0.out);rintro e w' ⟨rfl,⟨nd,rfl⟩⟩;refine ⟨_,rfl,?_⟩))
 go_ret
 exact ⟨by first | rfl | (simp;done) | (simp [*];done) | (simp [bne];done),by repeat (first | exact Drawn0.refl _ | apply Drawn0.step)⟩


/-! ### Y28: function 12 -/
def Y28.f (k:Nat) (l0:List ByteArray):Option (Bool):=(Y14.f k l0).bind fun t168=>(some t168)
theorem Y28.mono:∀ a0 k,LeO (Y28.f k a0) (Y28.f (k+1) a0):=by
 intro a0 k
 unfold Y28.f
 repeat' first
   | (with_reducible exact Y14.mono _ _)
   | (with_reducible exact LeO.refl _)
   | (with_reducible exact LeO.none _)
   | (with_reducible refine LeO.ite ?_ ?_)
   | (with_reducible refine LeO.bind ?_ (fun _=>?_))
   | exact Y14.mono _ _
   | exact LeO.none _
   | refine LeO.ite ?_ ?_
   | refine LeO.bind ?_ (fun _=>?_)
set_option maxHeartbeats 8000000 in
set_option maxRecDepth 100000 in
theorem Y28.calls (k:Nat) (A0:Option Addr) (c0:Nat) (l0:List ByteArray) (r:Bool) (w:World) (hr0:Kd.C Kd.string w A0 l0.length l0) (hc0:l0.length≤c0) (h:Y28.f k l0=some r) :
  Calls Tryd.prog 12 #[.slice A0 l0.length c0] w fun e w'=>e = .returned (.bool r)∧Drawn0 w w':=by
 have HR0:=Aside0.mk hr0
 have HC0:=Aside0.mk hc0
 clear hr0 hc0
 have H:((Y14.f k l0).bind fun t168=>(some t168))=some r:=h
 clear h
 replace H:=Option.bind_eq_some_iff.mp H
 obtain ⟨t168,A20,H⟩:=H
 replace H:(some t168)=some r:=H
 have A2:=Aside0.mk A20
 clear A20
 obtain rfl:=Option.some.inj H
 go_enter Tryd.func12,Tryd.ntmps12
 go_wp2_with (first | ((with_reducible refine gate_callee (f:=17) rfl ?_);refine goesL_ (some 4) rfl rfl Tryd.func17 (by kernel_rfl) rfl #[.slice A0 l0.length c0,.func (.func 18) #[] #[]] rfl (by (try simp only [List.map_toArray,List.map_cons,List.map_nil]);first | done | rfl | (simp only [List.length_drop,List.length_take];rfl)) ?_;(with_reducible refine (Y14.calls k _ _ l0  t168 _ ?side1 ?side2 A2.out).mono ?_);(case side1=>repeat (first | exact HR0.out | (with_reducible refine Kd.C_alloc ?_ _) | (with_reducible refine Kd.C_drewN ?_ _) | (with_reducible refine Kd.C_drew ?_)));(case side2=>exact HC0.out);rintro e w' ⟨rfl,⟨nd,rfl⟩⟩;refine ⟨_,rfl,?_⟩))
 go_ret
 exact ⟨by first | rfl | (simp;done) | (simp [*];done) | (simp [bne];done),by repeat (first | exact Drawn0.refl _ | apply Drawn0.step)⟩


/-! ### Y27: function 35 -/
section
open Go.Shelf Go.Sort
def lays173__ren:Go.Shelf.Ren:=⟨fun | 173=>49 | 246=>60 | 283=>71 | 284=>72 | 285=>73 | 286=>74 | 129=>79 | 317=>78 | 318=>80 | 319=>81 | 320=>82 | 337=>83 | 338=>84 | n=>n,fun | 2=>2 | 3=>3 | 9=>9 | 4=>4 | 171=>87 | 0=>0 | 53=>73 | 37=>55 | 5=>5 | 173=>90 | 212=>104 | 51=>96 | 20=>20 | 213=>105 | 46=>76 | 232=>109 | 233=>110 | n=>n,fun | 17=>5 | 18=>6 | 19=>7 | n=>n⟩
theorem lays173_:Go.Proofs.LaysM.n173 Tryd.prog lays173__ren:={
  mixed:=by kernel_rfl
  f129:=Tryd.func79.trans (congrArg some (by kernel_rfl))
  f173:=Tryd.func49.trans (congrArg some (by kernel_rfl))
  f246:=Tryd.func60.trans (congrArg some (by kernel_rfl))
  f283:=Tryd.func71.trans (congrArg some (by kernel_rfl))
  f284:=Tryd.func72.trans (congrArg some (by kernel_rfl))
  f285:=Tryd.func73.trans (congrArg some (by kernel_rfl))
  f286:=Tryd.func74.trans (congrArg some (by kernel_rfl))
  f317:=Tryd.func78.trans (congrArg some (by kernel_rfl))
  f318:=Tryd.func80.trans (congrArg some (by kernel_rfl))
  f319:=Tryd.func81.trans (congrArg some (by kernel_rfl))
  f320:=Tryd.func82.trans (congrArg some (by kernel_rfl))
  f337:=Tryd.func83.trans (congrArg some (by kernel_rfl))
  f338:=Tryd.func84.trans (congrArg some (by kernel_rfl))
  t0:=Tryd.underlying0
  a0:=Tryd.isAgg0
  z0:=Tryd.sizeOf0
  v0:=Tryd.zeroValue0
  t2:=Tryd.underlying2
  a2:=Tryd.isAgg2
  z2:=Tryd.sizeOf2
  v2:=Tryd.zeroValue2
  t3:=Tryd.underlying3
  a3:=Tryd.isAgg3
  z3:=Tryd.sizeOf3
  v3:=Tryd.zeroValue3
  t4:=Tryd.underlying4
  a4:=Tryd.isAgg4
  z4:=Tryd.sizeOf4
  v4:=Tryd.zeroValue4
  t5:=Tryd.underlying5
  a5:=Tryd.isAgg5
  z5:=Tryd.sizeOf5
  v5:=Tryd.zeroValue5
  t9:=Tryd.underlying9
  a9:=Tryd.isAgg9
  z9:=Tryd.sizeOf9
  v9:=Tryd.zeroValue9
  t20:=Tryd.underlying20
  a20:=Tryd.isAgg20
  z20:=Tryd.sizeOf20
  v20:=Tryd.zeroValue20
  t37:=Tryd.underlying55
  a37:=Tryd.isAgg55
  z37:=Tryd.sizeOf55
  v37:=Tryd.zeroValue55
  t46:=Tryd.underlying76
  a46:=Tryd.isAgg76
  z46:=Tryd.sizeOf76
  v46:=Tryd.zeroValue76
  t51:=Tryd.underlying96
  a51:=Tryd.isAgg96
  z51:=Tryd.sizeOf96
  v51:=Tryd.zeroValue96
  t53:=Tryd.underlying73
  a53:=Tryd.isAgg73
  z53:=Tryd.sizeOf73
  v53:=Tryd.zeroValue73
  t171:=Tryd.underlying87
  a171:=Tryd.isAgg87
  z171:=Tryd.sizeOf87
  v171:=Tryd.zeroValue87
  t173:=Tryd.underlying90
  a173:=Tryd.isAgg90
  z173:=Tryd.sizeOf90
  v173:=Tryd.zeroValue90
  t212:=Tryd.underlying104
  a212:=Tryd.isAgg104
  z212:=Tryd.sizeOf104
  v212:=Tryd.zeroValue104
  t213:=Tryd.underlying105
  a213:=Tryd.isAgg105
  z213:=Tryd.sizeOf105
  t232:=Tryd.underlying109
  a232:=Tryd.isAgg109
  z232:=Tryd.sizeOf109
  v232:=Tryd.zeroValue109
  t233:=Tryd.underlying110
  a233:=Tryd.isAgg110
  z233:=Tryd.sizeOf110
  v233:=Tryd.zeroValue110
  g17:=by kernel_rfl
  g18:=by kernel_rfl
  g19:=by kernel_rfl
  i0:=by kernel_rfl
  i2:=by kernel_rfl
  i3:=by kernel_rfl
  i4:=by kernel_rfl
  i5:=by kernel_rfl
  i9:=by kernel_rfl
  i20:=by kernel_rfl
  i37:=by kernel_rfl
  i46:=by kernel_rfl
  i51:=by kernel_rfl
  i53:=by kernel_rfl
  i171:=by kernel_rfl
  i173:=by kernel_rfl
  i212:=by kernel_rfl
  i232:=by kernel_rfl
  i233:=by kernel_rfl
  m17:=by kernel_rfl
  m18:=by kernel_rfl
  m19:=by kernel_rfl }
theorem below_grown_ (w:World) (q:Nat) (os:Array Obj):Below w.heap.size w (grow (w.drewN q) os) :=
 ⟨rfl,rfl,rfl,by first | (simp [grow];done) | (simp [grow];omega),fun i hi=>by
  show ((w.drewN q).heap ++ os)[i]? = _
  rw [Array.getElem?_append_left (by show i<w.heap.size;omega)]
  rfl⟩
def Err_ (w:World) (g:Nat):Prop:=∃ ev,w.cell? ⟨g,0,none⟩=some ev∧(ev = .nilIface∨∃ te pe,ev = .iface te pe)
def Tab_ (w:World):Prop:=Lib.TabIs Tryd.prog w "internal/strconv.uint64pow10" .u64 Lib.pow10Tab∧(∃ m,w.cell? ⟨0,0,none⟩=some (.int .i64 m))∧Err_ w 1∧Err_ w 2
theorem cell_below_ {w w':World} {a:Addr} {v:Value} (h:w.cell? a=some v) (hb:Below w.heap.size w w'):w'.cell? a=some v:=(hb.cell (World.block_lt_of_cell? w _ h)).trans h
theorem tab_below {w w':World} (h:Tab_ w) (hb:Below w.heap.size w w'):Tab_ w':=by
 obtain ⟨h1,⟨m,h2⟩,⟨e1,h3,h4⟩,⟨e2,h5,h6⟩⟩:=h
 exact ⟨Go.Proofs.TabIs_below (g:=5) (by kernel_rfl) h1 hb,⟨m,cell_below_ h2 hb⟩,⟨e1,cell_below_ h3 hb,h4⟩,⟨e2,cell_below_ h5 hb,h6⟩⟩
def I64_ (n:Int):Prop := -9223372036854775808≤n∧n≤9223372036854775807
instance (n:Int):Decidable (I64_ n):=by unfold I64_;exact inferInstance
def Y27.f (a0:Int):Option ByteArray:=if I64_ a0 then some ⟨(Lib.itoa a0).toArray⟩ else none
set_option maxHeartbeats 1000000 in
set_option maxRecDepth 100000 in
theorem Y27.calls (a0:Int) (r:ByteArray) (w:World) (h:Y27.f a0=some r) (htab:Tab_ w) :
  Calls Tryd.prog 35 #[.int .i64 a0] w fun e w'=>e = .returned (.string r)∧Below w.heap.size w w':=by
 unfold Y27.f at h
 by_cases hn:I64_ a0
 case neg=>rw [if_neg hn] at h;cases h
 rw [if_pos hn] at h
 obtain rfl:=Option.some.inj h
 clear h
 go_enter Tryd.func35,Tryd.ntmps35
 go_wp2_with (first | ((with_reducible refine gate_callee (f:=49) rfl ?_);refine goesL_ (some 4) rfl rfl Tryd.func49 (by kernel_rfl) rfl #[.int .i64 a0,.int .i64 10] rfl (by (try simp only [List.map_toArray,List.map_cons,List.map_nil]);first | done | rfl) ?_;refine (Go.Proofs.Any.strconv_FormatInt_10 lays173_ a0 hn.1 hn.2 _ htab.1).mono ?_;rintro e w' ⟨rfl,k,os,rfl⟩;refine ⟨_,rfl,?_⟩))
 go_ret
 exact ⟨rfl,below_grown_ _ _ _⟩
end


/-! ### Y38: function 19 -/
section
open Go.Shelf Go.Sort
def lays146__ren:Go.Shelf.Ren:=⟨fun | 146=>19 | 221=>32 | 268=>43 | 138=>44 | 143=>45 | 195=>51 | 197=>52 | 218=>53 | 219=>54 | 260=>61 | 217=>62 | 225=>63 | 224=>64 | 267=>65 | 266=>75 | 314=>76 | n=>n,fun | 9=>9 | 31=>29 | 3=>3 | 4=>4 | 0=>0 | 105=>69 | 21=>21 | 5=>5 | 46=>76 | 119=>92 | 139=>95 | 138=>94 | 146=>97 | 51=>96 | n=>n,fun | 1=>0 | 3=>3 | 4=>4 | n=>n⟩
theorem lays146_:Go.Proofs.Lays.n146 Tryd.prog lays146__ren:={
  mixed:=by kernel_rfl
  f138:=Tryd.func44.trans (congrArg some (by kernel_rfl))
  f143:=Tryd.func45.trans (congrArg some (by kernel_rfl))
  f146:=Tryd.func19.trans (congrArg some (by kernel_rfl))
  f195:=Tryd.func51.trans (congrArg some (by kernel_rfl))
  f197:=Tryd.func52.trans (congrArg some (by kernel_rfl))
  f217:=Tryd.func62.trans (congrArg some (by kernel_rfl))
  f218:=Tryd.func53.trans (congrArg some (by kernel_rfl))
  f219:=Tryd.func54.trans (congrArg some (by kernel_rfl))
  f221:=Tryd.func32.trans (congrArg some (by kernel_rfl))
  f224:=Tryd.func64.trans (congrArg some (by kernel_rfl))
  f225:=Tryd.func63.trans (congrArg some (by kernel_rfl))
  f260:=Tryd.func61.trans (congrArg some (by kernel_rfl))
  f266:=Tryd.func75.trans (congrArg some (by kernel_rfl))
  f267:=Tryd.func65.trans (congrArg some (by kernel_rfl))
  f268:=Tryd.func43.trans (congrArg some (by kernel_rfl))
  f314:=Tryd.func76.trans (congrArg some (by kernel_rfl))
  t0:=Tryd.underlying0
  a0:=Tryd.isAgg0
  z0:=Tryd.sizeOf0
  v0:=Tryd.zeroValue0
  t3:=Tryd.underlying3
  a3:=Tryd.isAgg3
  z3:=Tryd.sizeOf3
  v3:=Tryd.zeroValue3
  t4:=Tryd.underlying4
  a4:=Tryd.isAgg4
  z4:=Tryd.sizeOf4
  v4:=Tryd.zeroValue4
  t5:=Tryd.underlying5
  a5:=Tryd.isAgg5
  z5:=Tryd.sizeOf5
  v5:=Tryd.zeroValue5
  t9:=Tryd.underlying9
  a9:=Tryd.isAgg9
  z9:=Tryd.sizeOf9
  v9:=Tryd.zeroValue9
  t21:=Tryd.underlying21
  a21:=Tryd.isAgg21
  z21:=Tryd.sizeOf21
  v21:=Tryd.zeroValue21
  t31:=Tryd.underlying29
  a31:=Tryd.isAgg29
  z31:=Tryd.sizeOf29
  v31:=Tryd.zeroValue29
  t46:=Tryd.underlying76
  a46:=Tryd.isAgg76
  z46:=Tryd.sizeOf76
  v46:=Tryd.zeroValue76
  t51:=Tryd.underlying96
  a51:=Tryd.isAgg96
  z51:=Tryd.sizeOf96
  v51:=Tryd.zeroValue96
  t105:=Tryd.underlying69
  a105:=Tryd.isAgg69
  z105:=Tryd.sizeOf69
  v105:=Tryd.zeroValue69
  t119:=Tryd.underlying92
  a119:=Tryd.isAgg92
  z119:=Tryd.sizeOf92
  t138:=Tryd.underlying94
  a138:=Tryd.isAgg94
  z138:=Tryd.sizeOf94
  v138:=Tryd.zeroValue94
  t139:=Tryd.underlying95
  a139:=Tryd.isAgg95
  z139:=Tryd.sizeOf95
  v139:=Tryd.zeroValue95
  t146:=Tryd.underlying97
  a146:=Tryd.isAgg97
  z146:=Tryd.sizeOf97
  v146:=Tryd.zeroValue97
  g1:=by kernel_rfl
  g3:=by kernel_rfl
  g4:=by kernel_rfl }
def Y38.f (a0 a1:ByteArray):Option (List ByteArray):=if a0.size<4294967281∧1≤a1.size then some (Lib.splitB a1 0 (Lib.countB a0 a1) a0) else none
theorem Y38.calls (a0 a1:ByteArray) (r:List ByteArray) (w:World) (h:Y38.f a0 a1=some r) (htab:Tab_ w) :
  Calls Tryd.prog 19 #[.string a0,.string a1] w fun e w'=>∃ v0_:Value,e = .returned (v0_)∧Kd.R Kd.string 9 w' w.heap.size (fun _=>True) v0_ r∧Below w.heap.size w w':=by
 unfold Y38.f at h
 by_cases hc:a0.size<4294967281∧1≤a1.size
 case neg=>rw [if_neg hc] at h;cases h
 rw [if_pos hc] at h
 obtain rfl:=Option.some.inj h
 obtain ⟨m,hm⟩:=htab.2.1
 refine (Go.Proofs.Any.strings_Split lays146_ (by kernel_rfl) a0 a1 m w hc.1 hm hc.2).mono ?_
 rintro e w' ⟨rfl,rfl⟩
 have hlen:=Lib.splitB_all a1 hc.2 0 _ a0 rfl
 have hle:=Lib.countB_le a1 hc.2 a0.size a0 (Nat.le_refl _)
 generalize Lib.splitB a1 0 (Lib.countB a0 a1) a0=xs at hlen ⊢
 have ho:=World.ownsRow_lit (base:=w.heap.size) (e:=9) (size:=1) w ((xs.map Value.string).toArray) (Lib.countB a0 a1+1) (Nat.le_refl _) (by unfold maxLen;omega) (by simp [hlen])
 refine ⟨_,rfl,⟨fun _ _=>trivial,xs.map Value.string,?_,⟨by simp [Kd.string,Kd.scalar],fun j p hj=>?_⟩⟩,below_alloc (Below.refl _ _) _⟩
 ·rw [hlen]
  exact ho
 ·show _=[Value.string p]
  have hs:Kd.string.sz=1:=rfl
  rw [hs,Nat.mul_one,← List.map_drop,← List.map_take]
  have hl:=(List.getElem?_eq_some_iff.1 hj).1
  rw [List.drop_eq_getElem_cons hl,(List.getElem?_eq_some_iff.1 hj).2]
  simp
end


/-! ### Y23: function 21 -/
section
open Go.Shelf Go.Sort
def lays174__ren:Go.Shelf.Ren:=⟨fun | 174=>34 | 247=>47 | 245=>48 | 287=>55 | 279=>56 | 280=>57 | 281=>58 | 282=>59 | 321=>66 | 322=>67 | 316=>68 | 171=>70 | 205=>69 | 243=>77 | 246=>60 | 283=>71 | 284=>72 | 285=>73 | 286=>74 | 129=>79 | 317=>78 | 318=>80 | 319=>81 | 320=>82 | 337=>83 | 338=>84 | n=>n,fun | 9=>9 | 3=>3 | 2=>2 | 75=>59 | 85=>60 | 4=>4 | 167=>72 | 5=>5 | 53=>73 | 175=>74 | 46=>76 | 168=>77 | 37=>55 | 0=>0 | 210=>84 | 21=>21 | 127=>99 | 145=>102 | 143=>100 | 171=>87 | 173=>90 | 212=>104 | 51=>96 | 20=>20 | 213=>105 | 232=>109 | 233=>110 | 80=>111 | n=>n,fun | 15=>1 | 16=>2 | 17=>5 | 18=>6 | 19=>7 | n=>n⟩
theorem lays174_:Go.Proofs.LaysC.n174 Tryd.prog lays174__ren:={
  mixed:=by kernel_rfl
  f129:=Tryd.func79.trans (congrArg some (by kernel_rfl))
  f171:=Tryd.func70.trans (congrArg some (by kernel_rfl))
  f174:=Tryd.func34.trans (congrArg some (by kernel_rfl))
  f205:=Tryd.func69.trans (congrArg some (by kernel_rfl))
  f243:=Tryd.func77.trans (congrArg some (by kernel_rfl))
  f245:=Tryd.func48.trans (congrArg some (by kernel_rfl))
  f246:=Tryd.func60.trans (congrArg some (by kernel_rfl))
  f247:=Tryd.func47.trans (congrArg some (by kernel_rfl))
  f279:=Tryd.func56.trans (congrArg some (by kernel_rfl))
  f280:=Tryd.func57.trans (congrArg some (by kernel_rfl))
  f281:=Tryd.func58.trans (congrArg some (by kernel_rfl))
  f282:=Tryd.func59.trans (congrArg some (by kernel_rfl))
  f283:=Tryd.func71.trans (congrArg some (by kernel_rfl))
  f284:=Tryd.func72.trans (congrArg some (by kernel_rfl))
  f285:=Tryd.func73.trans (congrArg some (by kernel_rfl))
  f286:=Tryd.func74.trans (congrArg some (by kernel_rfl))
  f287:=Tryd.func55.trans (congrArg some (by kernel_rfl))
  f316:=Tryd.func68.trans (congrArg some (by kernel_rfl))
  f317:=Tryd.func78.trans (congrArg some (by kernel_rfl))
  f318:=Tryd.func80.trans (congrArg some (by kernel_rfl))
  f319:=Tryd.func81.trans (congrArg some (by kernel_rfl))
  f320:=Tryd.func82.trans (congrArg some (by kernel_rfl))
  f321:=Tryd.func66.trans (congrArg some (by kernel_rfl))
  f322:=Tryd.func67.trans (congrArg some (by kernel_rfl))
  f337:=Tryd.func83.trans (congrArg some (by kernel_rfl))
  f338:=Tryd.func84.trans (congrArg some (by kernel_rfl))
  t0:=Tryd.underlying0
  a0:=Tryd.isAgg0
  z0:=Tryd.sizeOf0
  v0:=Tryd.zeroValue0
  t2:=Tryd.underlying2
  a2:=Tryd.isAgg2
  z2:=Tryd.sizeOf2
  v2:=Tryd.zeroValue2
  t3:=Tryd.underlying3
  a3:=Tryd.isAgg3
  z3:=Tryd.sizeOf3
  v3:=Tryd.zeroValue3
  t4:=Tryd.underlying4
  a4:=Tryd.isAgg4
  z4:=Tryd.sizeOf4
  v4:=Tryd.zeroValue4
  t5:=Tryd.underlying5
  a5:=Tryd.isAgg5
  z5:=Tryd.sizeOf5
  v5:=Tryd.zeroValue5
  t9:=Tryd.underlying9
  a9:=Tryd.isAgg9
  z9:=Tryd.sizeOf9
  v9:=Tryd.zeroValue9
  t20:=Tryd.underlying20
  a20:=Tryd.isAgg20
  z20:=Tryd.sizeOf20
  v20:=Tryd.zeroValue20
  t21:=Tryd.underlying21
  a21:=Tryd.isAgg21
  z21:=Tryd.sizeOf21
  v21:=Tryd.zeroValue21
  t37:=Tryd.underlying55
  a37:=Tryd.isAgg55
  z37:=Tryd.sizeOf55
  v37:=Tryd.zeroValue55
  t46:=Tryd.underlying76
  a46:=Tryd.isAgg76
  z46:=Tryd.sizeOf76
  v46:=Tryd.zeroValue76
  t51:=Tryd.underlying96
  a51:=Tryd.isAgg96
  z51:=Tryd.sizeOf96
  v51:=Tryd.zeroValue96
  t53:=Tryd.underlying73
  a53:=Tryd.isAgg73
  z53:=Tryd.sizeOf73
  v53:=Tryd.zeroValue73
  t75:=Tryd.underlying59
  a75:=Tryd.isAgg59
  z75:=Tryd.sizeOf59
  v75:=Tryd.zeroValue59
  t85:=Tryd.underlying60
  a85:=Tryd.isAgg60
  z85:=Tryd.sizeOf60
  v85:=Tryd.zeroValue60
  t127:=Tryd.underlying99
  a127:=Tryd.isAgg99
  z127:=Tryd.sizeOf99
  v127:=Tryd.zeroValue99
  t143:=Tryd.underlying100
  a143:=Tryd.isAgg100
  z143:=Tryd.sizeOf100
  v143:=Tryd.zeroValue100
  t145:=Tryd.underlying102
  a145:=Tryd.isAgg102
  z145:=Tryd.sizeOf102
  v145:=Tryd.zeroValue102
  t167:=Tryd.underlying72
  a167:=Tryd.isAgg72
  z167:=Tryd.sizeOf72
  v167:=Tryd.zeroValue72
  t168:=Tryd.underlying77
  a168:=Tryd.isAgg77
  z168:=Tryd.sizeOf77
  v168:=Tryd.zeroValue77
  t171:=Tryd.underlying87
  a171:=Tryd.isAgg87
  z171:=Tryd.sizeOf87
  v171:=Tryd.zeroValue87
  t173:=Tryd.underlying90
  a173:=Tryd.isAgg90
  z173:=Tryd.sizeOf90
  v173:=Tryd.zeroValue90
  t175:=Tryd.underlying74
  a175:=Tryd.isAgg74
  z175:=Tryd.sizeOf74
  v175:=Tryd.zeroValue74
  t210:=Tryd.underlying84
  a210:=Tryd.isAgg84
  z210:=Tryd.sizeOf84
  v210:=Tryd.zeroValue84
  t212:=Tryd.underlying104
  a212:=Tryd.isAgg104
  z212:=Tryd.sizeOf104
  v212:=Tryd.zeroValue104
  t213:=Tryd.underlying105
  a213:=Tryd.isAgg105
  z213:=Tryd.sizeOf105
  t232:=Tryd.underlying109
  a232:=Tryd.isAgg109
  z232:=Tryd.sizeOf109
  v232:=Tryd.zeroValue109
  t233:=Tryd.underlying110
  a233:=Tryd.isAgg110
  z233:=Tryd.sizeOf110
  v233:=Tryd.zeroValue110
  g15:=by kernel_rfl
  g16:=by kernel_rfl
  g17:=by kernel_rfl
  g18:=by kernel_rfl
  g19:=by kernel_rfl
  t80:=Tryd.underlying111
  a80:=Tryd.isAgg111
  z80:=Tryd.sizeOf111
  v80:=Tryd.zeroValue111
  i0:=by kernel_rfl
  i2:=by kernel_rfl
  i3:=by kernel_rfl
  i4:=by kernel_rfl
  i5:=by kernel_rfl
  i9:=by kernel_rfl
  i20:=by kernel_rfl
  i21:=by kernel_rfl
  i37:=by kernel_rfl
  i46:=by kernel_rfl
  i51:=by kernel_rfl
  i53:=by kernel_rfl
  i75:=by kernel_rfl
  i80:=by kernel_rfl
  i85:=by kernel_rfl
  i127:=by kernel_rfl
  i143:=by kernel_rfl
  i145:=by kernel_rfl
  i167:=by kernel_rfl
  i168:=by kernel_rfl
  i171:=by kernel_rfl
  i173:=by kernel_rfl
  i175:=by kernel_rfl
  i210:=by kernel_rfl
  i212:=by kernel_rfl
  i232:=by kernel_rfl
  i233:=by kernel_rfl
  m15:=by kernel_rfl
  m16:=by kernel_rfl
  m17:=by kernel_rfl
  m18:=by kernel_rfl
  m19:=by kernel_rfl
  c0:=by kernel_rfl
  c2:=by kernel_rfl
  c3:=by kernel_rfl
  c4:=by kernel_rfl
  c5:=by kernel_rfl
  c9:=by kernel_rfl
  c20:=by kernel_rfl
  c21:=by kernel_rfl
  c37:=by kernel_rfl
  c46:=by kernel_rfl
  c51:=by kernel_rfl
  c53:=by kernel_rfl
  c75:=by kernel_rfl
  c80:=by kernel_rfl
  c85:=by kernel_rfl
  c127:=by kernel_rfl
  c143:=by kernel_rfl
  c145:=by kernel_rfl
  c167:=by kernel_rfl
  c168:=by kernel_rfl
  c171:=by kernel_rfl
  c173:=by kernel_rfl
  c175:=by kernel_rfl
  c210:=by kernel_rfl
  c212:=by kernel_rfl
  c213:=by kernel_rfl
  c232:=by kernel_rfl
  c233:=by kernel_rfl }
def pInt_ (s:ByteArray):Int × Bool:=match Lib.parseIntB 64 s.data.toList with
 | .ok v=>(v,true)
 | .range=>(Lib.intSat 64 s.data.toList,false)
 | _=>(0,false)
theorem ends_ (x:Lib.NumEnd Int):(∃ v,x = .ok v)∨x = .range∨x=Lib.parseIntB 64 []:=by
 cases x
 case ok v=>exact .inl ⟨v,rfl⟩
 all_goals first | exact .inr (.inl rfl) | exact .inr (.inr rfl)
theorem below_bytes_ {w w':World} {t:TypeId} (h:w'=w∨∃ s,w'=Lib.bytesWorld w t s):Below w.heap.size w w':=by
 rcases h with rfl | ⟨s,rfl⟩
 ·exact Below.refl _ _
 ·exact Lib.bytesWorld_below w t s
/-- strconv.ParseInt(s, 10, 64), whatever s is. -/
theorem parseInt_ (s:ByteArray) (w:World) (hs:s.size≤281474976710656) (htab:Tab_ w) :
  Calls Tryd.prog 34 #[.string s,.int .i64 10,.int .i64 64] w fun e w'=>∃ ev,e = .returned (.tuple #[.int .i64 (pInt_ s).1,ev])∧(((pInt_ s).2=true∧ev = .nilIface)∨((pInt_ s).2=false∧∃ t x,ev = .iface t x))∧Below w.heap.size w w':=by
 obtain ⟨_,_,⟨e1,hv1,he1⟩,⟨e2,hv2,he2⟩⟩:=htab
 rcases ends_ (Lib.parseIntB 64 s.data.toList) with ⟨v,hp⟩ | hp | hp
 ·have hv:pInt_ s=(v,true):=by unfold pInt_;rw [hp]
  rw [hv]
  refine (Go.Proofs.Any.strconv_ParseInt_10_at64_ok lays174_ s (by omega) v hp w).mono ?_
  rintro e w' ⟨rfl,hw⟩
  exact ⟨_,rfl,.inl ⟨rfl,rfl⟩,below_bytes_ hw⟩
 ·have hv:pInt_ s=(Lib.intSat 64 s.data.toList,false):=by unfold pInt_;rw [hp]
  rw [hv]
  refine (Go.Proofs.Any.strconv_ParseInt_10_at64_range lays174_ s hs hp e2 w hv2 he2).mono ?_
  rintro e w' ⟨N,rfl,_,_,hb⟩
  exact ⟨_,rfl,.inr ⟨rfl,_,_,rfl⟩,hb⟩
 ·have hv:pInt_ s=(0,false):=by unfold pInt_;rw [hp];rfl
  rw [hv]
  refine (Go.Proofs.Any.strconv_ParseInt_10_at64_syntax lays174_ s hs hp e1 w hv1 he1).mono ?_
  rintro e w' ⟨N,rfl,_,_,hb⟩
  exact ⟨_,rfl,.inr ⟨rfl,_,_,rfl⟩,hb⟩
theorem pInt_64 (s:ByteArray) (h:(pInt_ s).2=true):I64_ (pInt_ s).1:=by
 unfold pInt_ at h ⊢
 cases hp:Lib.parseIntB 64 s.data.toList
 case ok v =>
  have:=Lib.parseIntB_bounds hp
  have e:(2:Nat) ^ (64-1)=9223372036854775808:=by decide
  rw [e] at this
  unfold I64_
  constructor
  ·exact this.1
  ·show v≤_
   have:=this.2
   omega
 all_goals (rw [hp] at h;cases h)
def dec_ (n:Int):ByteArray:=⟨(Lib.itoa n).toArray⟩
def Y23.f (a0:ByteArray):Option (Int × Bool):=if a0.size≤281474976710656 then some ((pInt_ a0).1,(((pInt_ a0).2 && decide (0≤(pInt_ a0).1)) && decide (a0.size≤9)) && ((dec_ (pInt_ a0).1).toList == a0.toList)) else none
set_option maxHeartbeats 1000000 in
set_option maxRecDepth 100000 in
theorem Y23.calls (a0:ByteArray) (r1:Int) (r2:Bool) (w:World) (h:Y23.f a0=some (r1,r2)) (htab:Tab_ w) :
  Calls Tryd.prog 21 #[.string a0] w fun e w'=>e = .returned (.tuple #[.int .i64 r1,.bool r2])∧Below w.heap.size w w':=by
 unfold Y23.f at h
 by_cases hs:a0.size≤281474976710656
 case neg=>rw [if_neg hs] at h;cases h
 rw [if_pos hs] at h
 have h1:=congrArg Prod.fst (Option.some.inj h)
 have h2:=congrArg Prod.snd (Option.some.inj h)
 clear h
 simp only at h1 h2
 subst h1
 have h64:=pInt_64 a0
 have hpi:=parseInt_ a0 w hs htab
 go_enter Tryd.func21,Tryd.ntmps21
 go_wp2_with (first | ((with_reducible refine gate_callee (f:=34) rfl ?_);refine goesL_ (some 8) rfl rfl Tryd.func34 (by kernel_rfl) rfl #[.string a0,.int .i64 10,.int .i64 64] rfl (by (try simp only [List.map_toArray,List.map_cons,List.map_nil]);first | done | rfl) ?_;refine hpi.mono ?_;rintro e w' ⟨ev,rfl,hev,hbel⟩;refine ⟨_,rfl,?_⟩))
 generalize hP:(pInt_ a0).1=p1 at *
 generalize (pInt_ a0).2=p2 at *
 rcases hev with ⟨rfl,rfl⟩ | ⟨rfl,t,x,rfl⟩
 case inr =>
  go_wp2
  subst h2
  try rw [hP]
  refine bodyPost_ret (results_tmp2 rfl _ _ _) rfl ?_
  exact ⟨rfl,hbel⟩
 go_wp2_with (fail)
 ·refine (Y27.calls p1 (dec_ p1) _ (by unfold Y27.f;rw [if_pos (h64 (by trivial))];rfl) (tab_below htab hbel)).mono ?_
  rintro e w2 ⟨rfl,hbel2⟩
  have hp0:0≤p1:=by omega
  have hp8:a0.size≤9:=by omega
  rw [decide_eq_true hp0,decide_eq_true hp8] at h2
  simp only [Bool.true_and] at h2
  go_wp2
  subst h2
  try rw [hP]
  refine bodyPost_ret (results_tmp2 rfl _ _ _) rfl ?_
  exact ⟨rfl,hbel.trans (hbel2.mono hbel.size)⟩
 ·have hp8:¬ a0.size≤9:=by omega
  rw [decide_eq_false hp8] at h2
  simp only [Bool.and_false,Bool.false_and] at h2
  subst h2
  try rw [hP]
  refine bodyPost_ret (results_tmp2 rfl _ _ _) rfl ?_
  exact ⟨rfl,hbel⟩
 ·have hp8:¬ 0≤p1:=by omega
  rw [decide_eq_false hp8] at h2
  simp only [Bool.and_false,Bool.false_and] at h2
  subst h2
  try rw [hP]
  refine bodyPost_ret (results_tmp2 rfl _ _ _) rfl ?_
  exact ⟨rfl,hbel⟩
end


/-! ### Y20: function 23 -/
def Y20.f  : Option ((List (S50))):=some (([(⟨(⟨#[112,117,116]⟩:ByteArray),(⟨#[65,75,68]⟩:ByteArray)⟩:S50),(⟨(⟨#[111,118,101,114]⟩:ByteArray),(⟨#[65,66,75,68]⟩:ByteArray)⟩:S50),(⟨(⟨#[100,101,108]⟩:ByteArray),(⟨#[65,66,75]⟩:ByteArray)⟩:S50),(⟨(⟨#[103,101,116]⟩:ByteArray),(⟨#[65,75]⟩:ByteArray)⟩:S50),(⟨(⟨#[100,101,108,105,118,101,114]⟩:ByteArray),(⟨#[65]⟩:ByteArray)⟩:S50),(⟨(⟨#[108,111,115,101]⟩:ByteArray),(⟨#[65]⟩:ByteArray)⟩:S50),(⟨(⟨#[116,119,105,99,101]⟩:ByteArray),(⟨#[65]⟩:ByteArray)⟩:S50),(⟨(⟨#[116,105,99,107]⟩:ByteArray),(⟨#[]⟩:ByteArray)⟩:S50),(⟨(⟨#[99,114,97,115,104]⟩:ByteArray),(⟨#[65]⟩:ByteArray)⟩:S50),(⟨(⟨#[115,116,97,114,116]⟩:ByteArray),(⟨#[65]⟩:ByteArray)⟩:S50),(⟨(⟨#[115,117,115,112,101,99,116]⟩:ByteArray),(⟨#[65]⟩:ByteArray)⟩:S50),(⟨(⟨#[116,114,117,115,116]⟩:ByteArray),(⟨#[65]⟩:ByteArray)⟩:S50),(⟨(⟨#[104,97,110,100]⟩:ByteArray),(⟨#[65]⟩:ByteArray)⟩:S50),(⟨(⟨#[112,97,99,107]⟩:ByteArray),(⟨#[65]⟩:ByteArray)⟩:S50),(⟨(⟨#[115,101,116,116,108,101]⟩:ByteArray),(⟨#[]⟩:ByteArray)⟩:S50),(⟨(⟨#[115,112,114,101,97,100]⟩:ByteArray),(⟨#[75]⟩:ByteArray)⟩:S50),(⟨(⟨#[101,120,99,104,97,110,103,101]⟩:ByteArray),(⟨#[65,66]⟩:ByteArray)⟩:S50)]:List (S50)))
set_option maxHeartbeats 8000000 in
set_option maxRecDepth 100000 in
theorem Y20.calls  (r:List (S50)) (w:World) (h:Y20.f  = some r) :
  Calls Tryd.prog 23 #[] w fun e w'=>∃ v0_:Value,e = .returned (v0_)∧Kd.R k50 50 w' w.heap.size (fun _=>True) v0_ r∧Below w.heap.size w w':=by
 have hu50:=Tryd.underlying50
 have HB:=Aside0.mk (Below.refl w.heap.size w)
 have H:(some (([(⟨(⟨#[112,117,116]⟩:ByteArray),(⟨#[65,75,68]⟩:ByteArray)⟩:S50),(⟨(⟨#[111,118,101,114]⟩:ByteArray),(⟨#[65,66,75,68]⟩:ByteArray)⟩:S50),(⟨(⟨#[100,101,108]⟩:ByteArray),(⟨#[65,66,75]⟩:ByteArray)⟩:S50),(⟨(⟨#[103,101,116]⟩:ByteArray),(⟨#[65,75]⟩:ByteArray)⟩:S50),(⟨(⟨#[100,101,108,105,118,101,114]⟩:ByteArray),(⟨#[65]⟩:ByteArray)⟩:S50),(⟨(⟨#[108,111,115,101]⟩:ByteArray),(⟨#[65]⟩:ByteArray)⟩:S50),(⟨(⟨#[116,119,105,99,101]⟩:ByteArray),(⟨#[65]⟩:ByteArray)⟩:S50),(⟨(⟨#[116,105,99,107]⟩:ByteArray),(⟨#[]⟩:ByteArray)⟩:S50),(⟨(⟨#[99,114,97,115,104]⟩:ByteArray),(⟨#[65]⟩:ByteArray)⟩:S50),(⟨(⟨#[115,116,97,114,116]⟩:ByteArray),(⟨#[65]⟩:ByteArray)⟩:S50),(⟨(⟨#[115,117,115,112,101,99,116]⟩:ByteArray),(⟨#[65]⟩:ByteArray)⟩:S50),(⟨(⟨#[116,114,117,115,116]⟩:ByteArray),(⟨#[65]⟩:ByteArray)⟩:S50),(⟨(⟨#[104,97,110,100]⟩:ByteArray),(⟨#[65]⟩:ByteArray)⟩:S50),(⟨(⟨#[112,97,99,107]⟩:ByteArray),(⟨#[65]⟩:ByteArray)⟩:S50),(⟨(⟨#[115,101,116,116,108,101]⟩:ByteArray),(⟨#[]⟩:ByteArray)⟩:S50),(⟨(⟨#[115,112,114,101,97,100]⟩:ByteArray),(⟨#[75]⟩:ByteArray)⟩:S50),(⟨(⟨#[101,120,99,104,97,110,103,101]⟩:ByteArray),(⟨#[65,66]⟩:ByteArray)⟩:S50)]:List (S50))))=some r:=h
 clear h
 obtain ⟨y169,hy169⟩:∃ y_:List (S50),y_=(([(⟨(⟨#[112,117,116]⟩:ByteArray),(⟨#[65,75,68]⟩:ByteArray)⟩:S50),(⟨(⟨#[111,118,101,114]⟩:ByteArray),(⟨#[65,66,75,68]⟩:ByteArray)⟩:S50),(⟨(⟨#[100,101,108]⟩:ByteArray),(⟨#[65,66,75]⟩:ByteArray)⟩:S50),(⟨(⟨#[103,101,116]⟩:ByteArray),(⟨#[65,75]⟩:ByteArray)⟩:S50),(⟨(⟨#[100,101,108,105,118,101,114]⟩:ByteArray),(⟨#[65]⟩:ByteArray)⟩:S50),(⟨(⟨#[108,111,115,101]⟩:ByteArray),(⟨#[65]⟩:ByteArray)⟩:S50),(⟨(⟨#[116,119,105,99,101]⟩:ByteArray),(⟨#[65]⟩:ByteArray)⟩:S50),(⟨(⟨#[116,105,99,107]⟩:ByteArray),(⟨#[]⟩:ByteArray)⟩:S50),(⟨(⟨#[99,114,97,115,104]⟩:ByteArray),(⟨#[65]⟩:ByteArray)⟩:S50),(⟨(⟨#[115,116,97,114,116]⟩:ByteArray),(⟨#[65]⟩:ByteArray)⟩:S50),(⟨(⟨#[115,117,115,112,101,99,116]⟩:ByteArray),(⟨#[65]⟩:ByteArray)⟩:S50),(⟨(⟨#[116,114,117,115,116]⟩:ByteArray),(⟨#[65]⟩:ByteArray)⟩:S50),(⟨(⟨#[104,97,110,100]⟩:ByteArray),(⟨#[65]⟩:ByteArray)⟩:S50),(⟨(⟨#[112,97,99,107]⟩:ByteArray),(⟨#[65]⟩:ByteArray)⟩:S50),(⟨(⟨#[115,101,116,116,108,101]⟩:ByteArray),(⟨#[]⟩:ByteArray)⟩:S50),(⟨(⟨#[115,112,114,101,97,100]⟩:ByteArray),(⟨#[75]⟩:ByteArray)⟩:S50),(⟨(⟨#[101,120,99,104,97,110,103,101]⟩:ByteArray),(⟨#[65,66]⟩:ByteArray)⟩:S50)]:List (S50))):=⟨_,rfl⟩
 replace H:(some y169)=some r:=by first | (rw [hy169];with_reducible exact H) | (have H2_:=(Option.bind_some _ _).symm.trans H;rw [hy169];with_reducible exact H2_) | (have H2_:=(Option.bind_some _ _).symm.trans H;with_reducible exact H2_) | with_reducible exact H | (rw [hy169];exact H) | exact H
 have Ny169:=Aside0.mk hy169
 clear hy169
 obtain rfl:=Option.some.inj H
 go_enter Tryd.func23,Tryd.ntmps23
 go_wp2_with (first | ((with_reducible refine gate_dst (N:=18) rfl ?_);refine Kd.R_lit k50 _ 50 ?hg (N:=18) ?hd (xs:=([(⟨(⟨#[112,117,116]⟩:ByteArray),(⟨#[65,75,68]⟩:ByteArray)⟩:S50),(⟨(⟨#[111,118,101,114]⟩:ByteArray),(⟨#[65,66,75,68]⟩:ByteArray)⟩:S50),(⟨(⟨#[100,101,108]⟩:ByteArray),(⟨#[65,66,75]⟩:ByteArray)⟩:S50),(⟨(⟨#[103,101,116]⟩:ByteArray),(⟨#[65,75]⟩:ByteArray)⟩:S50),(⟨(⟨#[100,101,108,105,118,101,114]⟩:ByteArray),(⟨#[65]⟩:ByteArray)⟩:S50),(⟨(⟨#[108,111,115,101]⟩:ByteArray),(⟨#[65]⟩:ByteArray)⟩:S50),(⟨(⟨#[116,119,105,99,101]⟩:ByteArray),(⟨#[65]⟩:ByteArray)⟩:S50),(⟨(⟨#[116,105,99,107]⟩:ByteArray),(⟨#[]⟩:ByteArray)⟩:S50),(⟨(⟨#[99,114,97,115,104]⟩:ByteArray),(⟨#[65]⟩:ByteArray)⟩:S50),(⟨(⟨#[115,116,97,114,116]⟩:ByteArray),(⟨#[65]⟩:ByteArray)⟩:S50),(⟨(⟨#[115,117,115,112,101,99,116]⟩:ByteArray),(⟨#[65]⟩:ByteArray)⟩:S50),(⟨(⟨#[116,114,117,115,116]⟩:ByteArray),(⟨#[65]⟩:ByteArray)⟩:S50),(⟨(⟨#[104,97,110,100]⟩:ByteArray),(⟨#[65]⟩:ByteArray)⟩:S50),(⟨(⟨#[112,97,99,107]⟩:ByteArray),(⟨#[65]⟩:ByteArray)⟩:S50),(⟨(⟨#[115,101,116,116,108,101]⟩:ByteArray),(⟨#[]⟩:ByteArray)⟩:S50),(⟨(⟨#[115,112,114,101,97,100]⟩:ByteArray),(⟨#[75]⟩:ByteArray)⟩:S50),(⟨(⟨#[101,120,99,104,97,110,103,101]⟩:ByteArray),(⟨#[65,66]⟩:ByteArray)⟩:S50)]:List (S50))) (inner:=[.string (⟨#[112,117,116]⟩:ByteArray),.string (⟨#[65,75,68]⟩:ByteArray),.string (⟨#[111,118,101,114]⟩:ByteArray),.string (⟨#[65,66,75,68]⟩:ByteArray),.string (⟨#[100,101,108]⟩:ByteArray),.string (⟨#[65,66,75]⟩:ByteArray),.string (⟨#[103,101,116]⟩:ByteArray),.string (⟨#[65,75]⟩:ByteArray),.string (⟨#[100,101,108,105,118,101,114]⟩:ByteArray),.string (⟨#[65]⟩:ByteArray),.string (⟨#[108,111,115,101]⟩:ByteArray),.string (⟨#[65]⟩:ByteArray),.string (⟨#[116,119,105,99,101]⟩:ByteArray),.string (⟨#[65]⟩:ByteArray),.string (⟨#[116,105,99,107]⟩:ByteArray),.string (⟨#[]⟩:ByteArray),.string (⟨#[99,114,97,115,104]⟩:ByteArray),.string (⟨#[65]⟩:ByteArray),.string (⟨#[115,116,97,114,116]⟩:ByteArray),.string (⟨#[65]⟩:ByteArray),.string (⟨#[115,117,115,112,101,99,116]⟩:ByteArray),.string (⟨#[65]⟩:ByteArray),.string (⟨#[116,114,117,115,116]⟩:ByteArray),.string (⟨#[65]⟩:ByteArray),.string (⟨#[104,97,110,100]⟩:ByteArray),.string (⟨#[65]⟩:ByteArray),.string (⟨#[112,97,99,107]⟩:ByteArray),.string (⟨#[65]⟩:ByteArray),.string (⟨#[115,101,116,116,108,101]⟩:ByteArray),.string (⟨#[]⟩:ByteArray),.string (⟨#[115,112,114,101,97,100]⟩:ByteArray),.string (⟨#[75]⟩:ByteArray),.string (⟨#[101,120,99,104,97,110,103,101]⟩:ByteArray),.string (⟨#[65,66]⟩:ByteArray)]) (ok:=fun _=>True) (okp:=fun _=>True) ?hr ?hp (fun _ hk=>hk) trivial (Below.refl _ _) (Nat.le_refl _) (by simp) ?_;(case hd=>rfl);(case hg=>rfl);(case hr=>first | (go_simp;done) | (go_simp;rfl));(case hp=>exact (Reps.c2 (show Kd.M k50 _ _ _ (⟨(⟨#[112,117,116]⟩:ByteArray),(⟨#[65,75,68]⟩:ByteArray)⟩:S50) [.string (⟨#[112,117,116]⟩:ByteArray),.string (⟨#[65,75,68]⟩:ByteArray)] from (k50_mkM _ _ _ (⟨(⟨#[112,117,116]⟩:ByteArray),(⟨#[65,75,68]⟩:ByteArray)⟩:S50) )) (Reps.c2 (show Kd.M k50 _ _ _ (⟨(⟨#[111,118,101,114]⟩:ByteArray),(⟨#[65,66,75,68]⟩:ByteArray)⟩:S50) [.string (⟨#[111,118,101,114]⟩:ByteArray),.string (⟨#[65,66,75,68]⟩:ByteArray)] from (k50_mkM _ _ _ (⟨(⟨#[111,118,101,114]⟩:ByteArray),(⟨#[65,66,75,68]⟩:ByteArray)⟩:S50) )) (Reps.c2 (show Kd.M k50 _ _ _ (⟨(⟨#[100,101,108]⟩:ByteArray),(⟨#[65,66,75]⟩:ByteArray)⟩:S50) [.string (⟨#[100,101,108]⟩:ByteArray),.string (⟨#[65,66,75]⟩:ByteArray)] from (k50_mkM _ _ _ (⟨(⟨#[100,101,108]⟩:ByteArray),(⟨#[65,66,75]⟩:ByteArray)⟩:S50) )) (Reps.c2 (show Kd.M k50 _ _ _ (⟨(⟨#[103,101,116]⟩:ByteArray),(⟨#[65,75]⟩:ByteArray)⟩:S50) [.string (⟨#[103,101,116]⟩:ByteArray),.string (⟨#[65,75]⟩:ByteArray)] from (k50_mkM _ _ _ (⟨(⟨#[103,101,116]⟩:ByteArray),(⟨#[65,75]⟩:ByteArray)⟩:S50) )) (Reps.c2 (show Kd.M k50 _ _ _ (⟨(⟨#[100,101,108,105,118,101,114]⟩:ByteArray),(⟨#[65]⟩:ByteArray)⟩:S50) [.string (⟨#[100,101,108,105,118,101,114]⟩:ByteArray),.string (⟨#[65]⟩:ByteArray)] from (k50_mkM _ _ _ (⟨(⟨#[100,101,108,105,118,101,114]⟩:ByteArray),(⟨#[65]⟩:ByteArray)⟩:S50) )) (Reps.c2 (show Kd.M k50 _ _ _ (⟨(⟨#[108,111,115,101]⟩:ByteArray),(⟨#[65]⟩:ByteArray)⟩:S50) [.string (⟨#[108,111,115,101]⟩:ByteArray),.string (⟨#[65]⟩:ByteArray)] from (k50_mkM _ _ _ (⟨(⟨#[108,111,115,101]⟩:ByteArray),(⟨#[65]⟩:ByteArray)⟩:S50) )) (Reps.c2 (show Kd.M k50 _ _ _ (⟨(⟨#[116,119,105,99,101]⟩:ByteArray),(⟨#[65]⟩:ByteArray)⟩:S50) [.string (⟨#[116,119,105,99,101]⟩:ByteArray),.string (⟨#[65]⟩:ByteArray)] from (k50_mkM _ _ _ (⟨(⟨#[116,119,105,99,101]⟩:ByteArray),(⟨#[65]⟩:ByteArray)⟩:S50) )) (Reps.c2 (show Kd.M k50 _ _ _ (⟨(⟨#[116,105,99,107]⟩:ByteArray),(⟨#[]⟩:ByteArray)⟩:S50) [.string (⟨#[116,105,99,107]⟩:ByteArray),.string (⟨#[]⟩:ByteArray)] from (k50_mkM _ _ _ (⟨(⟨#[116,105,99,107]⟩:ByteArray),(⟨#[]⟩:ByteArray)⟩:S50) )) (Reps.c2 (show Kd.M k50 _ _ _ (⟨(⟨#[99,114,97,115,104]⟩:ByteArray),(⟨#[65]⟩:ByteArray)⟩:S50) [.string (⟨#[99,114,97,115,104]⟩:ByteArray),.string (⟨#[65]⟩:ByteArray)] from (k50_mkM _ _ _ (⟨(⟨#[99,114,97,115,104]⟩:ByteArray),(⟨#[65]⟩:ByteArray)⟩:S50) )) (Reps.c2 (show Kd.M k50 _ _ _ (⟨(⟨#[115,116,97,114,116]⟩:ByteArray),(⟨#[65]⟩:ByteArray)⟩:S50) [.string (⟨#[115,116,97,114,116]⟩:ByteArray),.string (⟨#[65]⟩:ByteArray)] from (k50_mkM _ _ _ (⟨(⟨#[115,116,97,114,116]⟩:ByteArray),(⟨#[65]⟩:ByteArray)⟩:S50) )) (Reps.c2 (show Kd.M k50 _ _ _ (⟨(⟨#[115,117,115,112,101,99,116]⟩:ByteArray),(⟨#[65]⟩:ByteArray)⟩:S50) [.string (⟨#[115,117,115,112,101,99,116]⟩:ByteArray),.string (⟨#[65]⟩:ByteArray)] from (k50_mkM _ _ _ (⟨(⟨#[115,117,115,112,101,99,116]⟩:ByteArray),(⟨#[65]⟩:ByteArray)⟩:S50) )) (Reps.c2 (show Kd.M k50 _ _ _ (⟨(⟨#[116,114,117,115,116]⟩:ByteArray),(⟨#[65]⟩:ByteArray)⟩:S50) [.string (⟨#[116,114,117,115,116]⟩:ByteArray),.string (⟨#[65]⟩:ByteArray)] from (k50_mkM _ _ _ (⟨(⟨#[116,114,117,115,116]⟩:ByteArray),(⟨#[65]⟩:ByteArray)⟩:S50) )) (Reps.c2 (show Kd.M k50 _ _ _ (⟨(⟨#[104,97,110,100]⟩:ByteArray),(⟨#[65]⟩:ByteArray)⟩:S50) [.string (⟨#[104,97,110,100]⟩:ByteArray),.string (⟨#[65]⟩:ByteArray)] from (k50_mkM _ _ _ (⟨(⟨#[104,97,110,100]⟩:ByteArray),(⟨#[65]⟩:ByteArray)⟩:S50) )) (Reps.c2 (show Kd.M k50 _ _ _ (⟨(⟨#[112,97,99,107]⟩:ByteArray),(⟨#[65]⟩:ByteArray)⟩:S50) [.string (⟨#[112,97,99,107]⟩:ByteArray),.string (⟨#[65]⟩:ByteArray)] from (k50_mkM _ _ _ (⟨(⟨#[112,97,99,107]⟩:ByteArray),(⟨#[65]⟩:ByteArray)⟩:S50) )) (Reps.c2 (show Kd.M k50 _ _ _ (⟨(⟨#[115,101,116,116,108,101]⟩:ByteArray),(⟨#[]⟩:ByteArray)⟩:S50) [.string (⟨#[115,101,116,116,108,101]⟩:ByteArray),.string (⟨#[]⟩:ByteArray)] from (k50_mkM _ _ _ (⟨(⟨#[115,101,116,116,108,101]⟩:ByteArray),(⟨#[]⟩:ByteArray)⟩:S50) )) (Reps.c2 (show Kd.M k50 _ _ _ (⟨(⟨#[115,112,114,101,97,100]⟩:ByteArray),(⟨#[75]⟩:ByteArray)⟩:S50) [.string (⟨#[115,112,114,101,97,100]⟩:ByteArray),.string (⟨#[75]⟩:ByteArray)] from (k50_mkM _ _ _ (⟨(⟨#[115,112,114,101,97,100]⟩:ByteArray),(⟨#[75]⟩:ByteArray)⟩:S50) )) (Reps.c2 (show Kd.M k50 _ _ _ (⟨(⟨#[101,120,99,104,97,110,103,101]⟩:ByteArray),(⟨#[65,66]⟩:ByteArray)⟩:S50) [.string (⟨#[101,120,99,104,97,110,103,101]⟩:ByteArray),.string (⟨#[65,66]⟩:ByteArray)] from (k50_mkM _ _ _ (⟨(⟨#[101,120,99,104,97,110,103,101]⟩:ByteArray),(⟨#[65,66]⟩:ByteArray)⟩:S50) )) (Reps.none _ _)))))))))))))))))));intro v170 w1 ho2 hb hg_ hnew_;clear hg_ hnew_;(first | rw [← Ny169.out] at ho2 | (simp only [Int.reduceToNat] at ho2;rw [← Ny169.out] at ho2));have n0_:=Aside0.mk (Kd.R_lower ho2 (below_size (by repeat (first | (with_reducible first | exact HB.out | apply below_alloc | apply pw_below_drewN | apply below_drew1) | exact HB.out))));have n1_:=Aside0.mk (below_step (by repeat (first | (with_reducible first | exact HB.out | apply below_alloc | apply pw_below_drewN | apply below_drew1) | exact HB.out)) hb);clear HB;have HO171:=n0_;have HB:=n1_;clear n0_ n1_;clear hb ho2))
 go_ret
 exact ⟨_,by first | rfl | (simp [errW_none,errW_some] <;> rfl) | (simp [*,errW_none,errW_some] <;> rfl),by (with_reducible repeat (first | apply Kd.R_alloc | apply Kd.R_drewN | apply Kd.R_drew));exact HO171.out,by repeat (first | (with_reducible first | exact HB.out | apply below_alloc | apply pw_below_drewN | apply below_drew1) | exact HB.out)⟩


/-! ### Y22: function 36 -/
def Y22.f (a0:Int) (a1:Int) (a2:Int):Option (Bool):=if a1≤a0 then (some (decide (a0≤a2))) else (some false)
set_option maxHeartbeats 8000000 in
set_option maxRecDepth 100000 in
theorem Y22.calls (a0:Int) (a1:Int) (a2:Int) (r:Bool) (w:World) (h:Y22.f a0 a1 a2=some r) :
  Calls Tryd.prog 36 #[.int .i64 a0,.int .i64 a1,.int .i64 a2] w fun e w'=>e = .returned (.bool r)∧Drawn0 w w':=by
 have H:(if a1≤a0 then (some (decide (a0≤a2))) else (some false))=some r:=h
 clear h
 by_cases c4:a1≤a0
 ·rw [if_pos c4] at H
  have c4b0:decide (a1≤a0)=true:=decide_eq_true c4
  clear c4
  obtain rfl:=Option.some.inj H
  go_enter Tryd.func36,Tryd.ntmps36
  go_wp2
  go_ret
  exact ⟨by first | rfl | (simp;done) | (simp [*];done) | (simp [bne];done),by repeat (first | exact Drawn0.refl _ | apply Drawn0.step)⟩
 ·rw [if_neg c4] at H
  have c4b0:decide (a1≤a0)=false:=decide_eq_false c4
  clear c4
  obtain rfl:=Option.some.inj H
  go_enter Tryd.func36,Tryd.ntmps36
  go_wp2
  go_ret
  exact ⟨by first | rfl | (simp;done) | (simp [*];done) | (simp [bne];done),by repeat (first | exact Drawn0.refl _ | apply Drawn0.step)⟩

end Go.Proofs.YtkaojnmgflaldaaDoor.P
