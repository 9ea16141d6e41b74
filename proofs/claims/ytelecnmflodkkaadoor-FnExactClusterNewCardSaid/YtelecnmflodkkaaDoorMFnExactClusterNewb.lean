/- For all numbers the program's ClusterNew and the reference's return the same, of memory of its own. No condition. (Part 2 of 3: written by programs of this workplace and by hand, merged.) -/
import Derived.Test.YtelecnmflodkkaaDoorMFnExactClusterNewa
set_option linter.unusedVariables false
set_option linter.unusedSimpArgs false
set_option maxHeartbeats 8000000
set_option maxRecDepth 100000

namespace Go.Proofs.YtelecnmflodkkaaDoor.P
open Go.RowKit Go.Proofs.YtelecnmflodkkaaDoorW.PrintWords Go.Proofs.YtelecnmflodkkaaDoorW.PrintLast Go.Proofs.YtelecnmflodkkaaDoorW.PrintMore
attribute [local go_sem] max2_int min2_int max_two min_two max_three min_three max_four min_four   -- for this text's walks alone
set_option linter.unusedVariables false
set_option linter.unusedSimpArgs false

/-! ### Y0: function 129 -/
mutual
def Y0.l0:Nat→List (S77)→Int→Int→Int→Option (Int × Bool × (List (S77)))
 | 0,_,_,_,_=>none
 | k+1,x0,x1,x12,x13=>if x12≤x13 then (if 0≤x12 then (if x12<(x0.length:Int) then (if 0≤x1 then (if x1<(x0.length:Int) then ((Y14.f k ((rd_T77 x0 x12).f0) ((rd_T77 x0 x12).f1) ((rd_T77 x0 x1).f0) ((rd_T77 x0 x1).f1)).bind fun t198=>(Y0.j1 k x0 x1 x12 x13 (decide (t198<0)))) else (none)) else (none)) else (none)) else (none)) else (Y0.j1 k x0 x1 x12 x13 false)
def Y0.j1:Nat→List (S77)→Int→Int→Int→Bool→Option (Int × Bool × (List (S77)))
 | 0,_,_,_,_,_=>none
 | k+1,x0,x1,x12,x13,x47=>if x47=true then (Y0.l0 k x0 x1 (wrap64 (x12+1)) x13) else (Y0.l1 k x0 x1 x12 x13)
def Y0.l1:Nat→List (S77)→Int→Int→Int→Option (Int × Bool × (List (S77)))
 | 0,_,_,_,_=>none
 | k+1,x0,x1,x12,x13=>if x12≤x13 then (if 0≤x13 then (if x13<(x0.length:Int) then (if 0≤x1 then (if x1<(x0.length:Int) then ((Y14.f k ((rd_T77 x0 x13).f0) ((rd_T77 x0 x13).f1) ((rd_T77 x0 x1).f0) ((rd_T77 x0 x1).f1)).bind fun t201=>(Y0.j3 k x0 x1 x12 x13 (!(decide (t201<0))))) else (none)) else (none)) else (none)) else (none)) else (Y0.j3 k x0 x1 x12 x13 false)
def Y0.j3:Nat→List (S77)→Int→Int→Int→Bool→Option (Int × Bool × (List (S77)))
 | 0,_,_,_,_,_=>none
 | k+1,x0,x1,x12,x13,x66=>if x66=true then (Y0.l1 k x0 x1 x12 (wrap64 (x13-1))) else (if x12>x13 then (if 0≤x1 then (if x1<(x0.length:Int) then (if 0≤x13 then (if x13<(x0.length:Int) then (some (x13,true,((x0.set (x13:Int).toNat (⟨(rd_T77 x0 x1).f0,(rd_T77 x0 x1).f1⟩:S77)).set (x1:Int).toNat (⟨(rd_T77 x0 x13).f0,(rd_T77 x0 x13).f1⟩:S77)))) else (none)) else (none)) else (none)) else (none)) else (if 0≤x13 then (if x13<(x0.length:Int) then (if 0≤x12 then (if x12<(x0.length:Int) then (Y0.l2 k ((x0.set (x12:Int).toNat (⟨(rd_T77 x0 x13).f0,(rd_T77 x0 x13).f1⟩:S77)).set (x13:Int).toNat (⟨(rd_T77 x0 x12).f0,(rd_T77 x0 x12).f1⟩:S77)) x1 (wrap64 (x12+1)) (wrap64 (x13-1))) else (none)) else (none)) else (none)) else (none)))
def Y0.l2:Nat→List (S77)→Int→Int→Int→Option (Int × Bool × (List (S77)))
 | 0,_,_,_,_=>none
 | k+1,x0,x1,x12,x13=>Y0.l3 k x0 x1 x12 x13
def Y0.l3:Nat→List (S77)→Int→Int→Int→Option (Int × Bool × (List (S77)))
 | 0,_,_,_,_=>none
 | k+1,x0,x1,x12,x13=>if x12≤x13 then (if 0≤x12 then (if x12<(x0.length:Int) then (if 0≤x1 then (if x1<(x0.length:Int) then ((Y14.f k ((rd_T77 x0 x12).f0) ((rd_T77 x0 x12).f1) ((rd_T77 x0 x1).f0) ((rd_T77 x0 x1).f1)).bind fun t212=>(Y0.j6 k x0 x1 x12 x13 (decide (t212<0)))) else (none)) else (none)) else (none)) else (none)) else (Y0.j6 k x0 x1 x12 x13 false)
def Y0.j6:Nat→List (S77)→Int→Int→Int→Bool→Option (Int × Bool × (List (S77)))
 | 0,_,_,_,_,_=>none
 | k+1,x0,x1,x12,x13,x120=>if x120=true then (Y0.l3 k x0 x1 (wrap64 (x12+1)) x13) else (Y0.l4 k x0 x1 x12 x13)
def Y0.l4:Nat→List (S77)→Int→Int→Int→Option (Int × Bool × (List (S77)))
 | 0,_,_,_,_=>none
 | k+1,x0,x1,x12,x13=>if x12≤x13 then (if 0≤x13 then (if x13<(x0.length:Int) then (if 0≤x1 then (if x1<(x0.length:Int) then ((Y14.f k ((rd_T77 x0 x13).f0) ((rd_T77 x0 x13).f1) ((rd_T77 x0 x1).f0) ((rd_T77 x0 x1).f1)).bind fun t215=>(Y0.j8 k x0 x1 x12 x13 (!(decide (t215<0))))) else (none)) else (none)) else (none)) else (none)) else (Y0.j8 k x0 x1 x12 x13 false)
def Y0.j8:Nat→List (S77)→Int→Int→Int→Bool→Option (Int × Bool × (List (S77)))
 | 0,_,_,_,_,_=>none
 | k+1,x0,x1,x12,x13,x139=>if x139=true then (Y0.l4 k x0 x1 x12 (wrap64 (x13-1))) else (if x12>x13 then (if 0≤x1 then (if x1<(x0.length:Int) then (if 0≤x13 then (if x13<(x0.length:Int) then (some (x13,false,((x0.set (x13:Int).toNat (⟨(rd_T77 x0 x1).f0,(rd_T77 x0 x1).f1⟩:S77)).set (x1:Int).toNat (⟨(rd_T77 x0 x13).f0,(rd_T77 x0 x13).f1⟩:S77)))) else (none)) else (none)) else (none)) else (none)) else (if 0≤x13 then (if x13<(x0.length:Int) then (if 0≤x12 then (if x12<(x0.length:Int) then (Y0.l2 k ((x0.set (x12:Int).toNat (⟨(rd_T77 x0 x13).f0,(rd_T77 x0 x13).f1⟩:S77)).set (x13:Int).toNat (⟨(rd_T77 x0 x12).f0,(rd_T77 x0 x12).f1⟩:S77)) x1 (wrap64 (x12+1)) (wrap64 (x13-1))) else (none)) else (none)) else (none)) else (none)))
end
def Y0.f (k:Nat) (l0:List (S77)) (a1:Int) (a2:Int) (a3:Int)  : Option (Int × Bool × (List (S77))):=if 0≤a3 then (if a3<(l0.length:Int) then (if 0≤a1 then (if a1<(l0.length:Int) then (Y0.l0 k ((l0.set (a1:Int).toNat (⟨(rd_T77 l0 a3).f0,(rd_T77 l0 a3).f1⟩:S77)).set (a3:Int).toNat (⟨(rd_T77 l0 a1).f0,(rd_T77 l0 a1).f1⟩:S77)) a1 (wrap64 (a1+1)) (wrap64 (a2-1))) else (none)) else (none)) else (none)) else (none)
theorem Y0.mono_l:∀ k,(∀ y0 y1 y2 y3,LeO (Y0.l0 k y0 y1 y2 y3) (Y0.l0 (k+1) y0 y1 y2 y3))∧(∀ y0 y1 y2 y3 y4,LeO (Y0.j1 k y0 y1 y2 y3 y4) (Y0.j1 (k+1) y0 y1 y2 y3 y4))∧(∀ y0 y1 y2 y3,LeO (Y0.l1 k y0 y1 y2 y3) (Y0.l1 (k+1) y0 y1 y2 y3))∧(∀ y0 y1 y2 y3 y4,LeO (Y0.j3 k y0 y1 y2 y3 y4) (Y0.j3 (k+1) y0 y1 y2 y3 y4))∧(∀ y0 y1 y2 y3,LeO (Y0.l2 k y0 y1 y2 y3) (Y0.l2 (k+1) y0 y1 y2 y3))∧(∀ y0 y1 y2 y3,LeO (Y0.l3 k y0 y1 y2 y3) (Y0.l3 (k+1) y0 y1 y2 y3))∧(∀ y0 y1 y2 y3 y4,LeO (Y0.j6 k y0 y1 y2 y3 y4) (Y0.j6 (k+1) y0 y1 y2 y3 y4))∧(∀ y0 y1 y2 y3,LeO (Y0.l4 k y0 y1 y2 y3) (Y0.l4 (k+1) y0 y1 y2 y3))∧(∀ y0 y1 y2 y3 y4,LeO (Y0.j8 k y0 y1 y2 y3 y4) (Y0.j8 (k+1) y0 y1 y2 y3 y4))
 | 0=>by refine ⟨?_,?_,?_,?_,?_,?_,?_,?_,?_⟩ <;> intros <;> exact LeO.none _
 | k+1=>by
  obtain ⟨ih0,ih1,ih2,ih3,ih4,ih5,ih6,ih7,ih8⟩:=Y0.mono_l k
  have m0:=@Y14.mono
  refine ⟨?_,?_,?_,?_,?_,?_,?_,?_,?_⟩
  ·intros
   unfold Y0.l0
   exact mO
  ·intros
   unfold Y0.j1
   exact mO
  ·intros
   unfold Y0.l1
   exact mO
  ·intros
   unfold Y0.j3
   exact mO
  ·intros
   unfold Y0.l2
   exact mO
  ·intros
   unfold Y0.l3
   exact mO
  ·intros
   unfold Y0.j6
   exact mO
  ·intros
   unfold Y0.l4
   exact mO
  ·intros
   unfold Y0.j8
   exact mO
theorem Y0.mono:∀ a0 a1 a2 a3 k,LeO (Y0.f k a0 a1 a2 a3) (Y0.f (k+1) a0 a1 a2 a3):=by
 intro a0 a1 a2 a3 k
 have m0:=@Y14.mono
 obtain ⟨ih0,ih1,ih2,ih3,ih4,ih5,ih6,ih7,ih8⟩:=Y0.mono_l k
 unfold Y0.f
 exact mO
def Y0.T1:Bool × List (List Nat × List Nat):=(true,[([],[]),([],[]),([],[]),([],[]),([],[]),([],[]),([4,5],[4,5]),([6],[6]),([],[]),([],[]),([8,9],[8,9]),([10],[10]),([0,1,0,1,4,5,6,7,11],[0,1]),([12,7,0,1,4,5,6,7,11],[7,12]),([2,3,0,1,2,3,4,5,6,7,8,9,10,11,12,13],[2,3]),([14,11,13,0,1,2,3,4,5,6,7,8,9,10,11,12,13],[11,14])])
def Y0.B1:List Nat:=[0,0,0,0,0,0,48,112,0,0,768,1792,4083,8179,16383,32767]
theorem Y0.tab1:rtab .any (opsOf Tryd.f129 1)=Y0.T1:=by kernel_rfl
theorem Y0.bits1:waitsOk Y0.T1.2 Y0.B1=true:=by kernel_rfl
def Y0.T3:Bool × List (List Nat × List Nat):=(true,[([],[]),([],[]),([0,1],[0,1]),([2],[2]),([3],[3]),([3],[3]),([3],[3]),([5,6,3],[3,5,6]),([7,3],[3,7]),([3],[3]),([3],[3]),([9,10,3],[3,9,10]),([11,3],[3,11]),([4,8,12,3,3],[3,4,8,12]),([13,3],[3,13]),([3,14],[3,14])])
def Y0.B3:List Nat:=[0,0,3,7,15,15,15,111,239,15,15,1551,3599,8191,16383,32767]
theorem Y0.tab3:rtab .any (opsOf Tryd.f129 3)=Y0.T3:=by kernel_rfl
theorem Y0.bits3:waitsOk Y0.T3.2 Y0.B3=true:=by kernel_rfl
def Y0.T5:Bool × List (List Nat × List Nat):=(true,[([],[]),([],[]),([0,1],[0,1]),([2],[2]),([3],[3]),([3],[3]),([3],[3]),([5,6,3],[3,5,6]),([7,3],[3,7]),([3],[3]),([3],[3]),([9,10,3],[3,9,10]),([11,3],[3,11]),([4,8,12,3,3],[3,4,8,12]),([13,3],[3,13]),([14,3],[3,14]),([3,15],[3,15])])
def Y0.B5:List Nat:=[0,0,3,7,15,15,15,111,239,15,15,1551,3599,8191,16383,32767,65535]
theorem Y0.tab5:rtab .any (opsOf Tryd.f129 5)=Y0.T5:=by kernel_rfl
theorem Y0.bits5:waitsOk Y0.T5.2 Y0.B5=true:=by kernel_rfl
def Y0.T8:Bool × List (List Nat × List Nat):=(true,[([],[]),([],[]),([],[]),([],[]),([],[]),([],[]),([4,5],[4,5]),([6],[6]),([],[]),([],[]),([8,9],[8,9]),([10],[10]),([0,1,0,1,4,5,6,7,11],[0,1]),([12,7,0,1,4,5,6,7,11],[7,12]),([2,3,0,1,2,3,4,5,6,7,8,9,10,11,12,13],[2,3]),([14,11,13,0,1,2,3,4,5,6,7,8,9,10,11,12,13],[11,14])])
def Y0.B8:List Nat:=[0,0,0,0,0,0,48,112,0,0,768,1792,4083,8179,16383,32767]
theorem Y0.tab8:rtab .any (opsOf Tryd.f129 8)=Y0.T8:=by kernel_rfl
theorem Y0.bits8:waitsOk Y0.T8.2 Y0.B8=true:=by kernel_rfl
def Y0.T10:Bool × List (List Nat × List Nat):=(true,[([],[]),([],[]),([],[]),([],[]),([],[]),([],[]),([4,5],[4,5]),([6],[6]),([],[]),([],[]),([8,9],[8,9]),([10],[10]),([0,1,0,1,4,5,6,7,11],[0,1]),([12,7,0,1,4,5,6,7,11],[7,12]),([2,3,0,1,2,3,4,5,6,7,8,9,10,11,12,13],[2,3]),([14,11,13,0,1,2,3,4,5,6,7,8,9,10,11,12,13],[11,14])])
def Y0.B10:List Nat:=[0,0,0,0,0,0,48,112,0,0,768,1792,4083,8179,16383,32767]
theorem Y0.tab10:rtab .any (opsOf Tryd.f129 10)=Y0.T10:=by kernel_rfl
theorem Y0.bits10:waitsOk Y0.T10.2 Y0.B10=true:=by kernel_rfl
def Y0.T13:Bool × List (List Nat × List Nat):=(true,[([],[]),([],[]),([0,1],[0,1]),([2],[2]),([3],[3]),([3],[3]),([3],[3]),([5,6,3],[3,5,6]),([7,3],[3,7]),([3],[3]),([3],[3]),([9,10,3],[3,9,10]),([11,3],[3,11]),([4,8,12,3,3],[3,4,8,12]),([13,3],[3,13]),([3,14],[3,14])])
def Y0.B13:List Nat:=[0,0,3,7,15,15,15,111,239,15,15,1551,3599,8191,16383,32767]
theorem Y0.tab13:rtab .any (opsOf Tryd.f129 13)=Y0.T13:=by kernel_rfl
theorem Y0.bits13:waitsOk Y0.T13.2 Y0.B13=true:=by kernel_rfl
def Y0.T15:Bool × List (List Nat × List Nat):=(true,[([],[]),([],[]),([0,1],[0,1]),([2],[2]),([3],[3]),([3],[3]),([3],[3]),([5,6,3],[3,5,6]),([7,3],[3,7]),([3],[3]),([3],[3]),([9,10,3],[3,9,10]),([11,3],[3,11]),([4,8,12,3,3],[3,4,8,12]),([13,3],[3,13]),([14,3],[3,14]),([3,15],[3,15])])
def Y0.B15:List Nat:=[0,0,3,7,15,15,15,111,239,15,15,1551,3599,8191,16383,32767,65535]
theorem Y0.tab15:rtab .any (opsOf Tryd.f129 15)=Y0.T15:=by kernel_rfl
theorem Y0.bits15:waitsOk Y0.T15.2 Y0.B15=true:=by kernel_rfl
def Y0.T18:Bool × List (List Nat × List Nat):=(true,[([],[]),([],[]),([],[]),([],[]),([],[]),([],[]),([4,5],[4,5]),([6],[6]),([],[]),([],[]),([8,9],[8,9]),([10],[10]),([0,1,0,1,4,5,6,7,11],[0,1]),([12,7,0,1,4,5,6,7,11],[7,12]),([2,3,0,1,2,3,4,5,6,7,8,9,10,11,12,13],[2,3]),([14,11,13,0,1,2,3,4,5,6,7,8,9,10,11,12,13],[11,14])])
def Y0.B18:List Nat:=[0,0,0,0,0,0,48,112,0,0,768,1792,4083,8179,16383,32767]
theorem Y0.tab18:rtab .any (opsOf Tryd.f129 18)=Y0.T18:=by kernel_rfl
theorem Y0.bits18:waitsOk Y0.T18.2 Y0.B18=true:=by kernel_rfl
def Y0.T21:Bool × List (List Nat × List Nat):=(true,[([],[]),([],[]),([],[]),([],[]),([],[]),([],[]),([4,5],[4,5]),([6],[6]),([],[]),([],[]),([8,9],[8,9]),([10],[10]),([0,1,0,1,4,5,6,7,11],[0,1]),([12,7,0,1,4,5,6,7,11],[7,12]),([2,3,0,1,2,3,4,5,6,7,8,9,10,11,12,13],[2,3]),([14,11,13,0,1,2,3,4,5,6,7,8,9,10,11,12,13],[11,14])])
def Y0.B21:List Nat:=[0,0,0,0,0,0,48,112,0,0,768,1792,4083,8179,16383,32767]
theorem Y0.tab21:rtab .any (opsOf Tryd.f129 21)=Y0.T21:=by kernel_rfl
theorem Y0.bits21:waitsOk Y0.T21.2 Y0.B21=true:=by kernel_rfl
abbrev Y0.q0:Array Bool:=#[O,O,O,O,O,O,O,O,O,O,O,O,O,O,O,O]
abbrev Y0.q1:Array Bool:=#[I,O,O,O,O,O,O,O,O,O,O,O,O,O,O,O]
abbrev Y0.q2:Array Bool:=#[I,I,O,O,O,O,O,O,O,O,O,O,O,O,O,O]
abbrev Y0.q3:Array Bool:=#[I,I,I,O,O,O,O,O,O,O,O,O,O,O,O,O]
abbrev Y0.q4:Array Bool:=#[I,I,I,I,O,O,O,O,O,O,O,O,O,O,O,O]
abbrev Y0.q5:Array Bool:=#[I,I,I,I,I,O,O,O,O,O,O,O,O,O,O,O]
abbrev Y0.q6:Array Bool:=#[I,I,I,I,I,I,O,O,O,O,O,O,O,O,O,O]
abbrev Y0.q7:Array Bool:=#[I,I,I,I,I,I,I,O,O,O,O,O,O,O,O,O]
abbrev Y0.q8:Array Bool:=#[I,I,I,I,I,I,I,O,I,O,O,O,O,O,O,O]
abbrev Y0.q9:Array Bool:=#[I,I,I,I,I,I,I,O,I,I,O,O,O,O,O,O]
abbrev Y0.q10:Array Bool:=#[I,I,I,I,I,I,I,O,I,I,I,O,O,O,O,O]
abbrev Y0.q11:Array Bool:=#[I,I,I,I,I,I,I,I,I,I,I,O,O,O,O,O]
abbrev Y0.q12:Array Bool:=#[I,I,I,I,I,I,I,I,I,I,I,I,O,O,O,O]
abbrev Y0.q13:Array Bool:=#[I,I,I,I,I,I,I,I,I,I,I,I,I,O,O,O]
abbrev Y0.q14:Array Bool:=#[I,I,I,I,I,I,I,I,I,I,I,I,I,I,O,O]
abbrev Y0.q15:Array Bool:=#[I,I,I,I,I,I,I,I,I,I,I,I,I,I,I,O]
abbrev Y0.q16:Array Bool:=#[I,I,I,I,I,I,I,I,I,I,I,I,I,I,I,I]
abbrev Y0.q17:Array Bool:=#[I,I,I,I,I,I,I,I,O,O,O,O,O,O,O,O]
abbrev Y0.q18:Array Bool:=#[I,I,I,I,I,I,I,I,O,I,O,O,O,O,O,O]
abbrev Y0.q19:Array Bool:=#[I,I,I,I,I,I,I,I,O,I,I,O,O,O,O,O]
abbrev Y0.q20:Array Bool:=#[I,I,I,I,I,I,I,I,O,I,I,I,O,O,O,O]
abbrev Y0.q21:Array Bool:=#[I,I,I,I,I,I,I,I,I,O,O,O,O,O,O,O]
abbrev Y0.q22:Array Bool:=#[I,I,I,I,I,I,I,I,I,I,O,O,O,O,O,O]
abbrev Y0.q23:Array Bool:=#[O,O,O,O,O,O,O,O,O,O,O,O,O,O,O,O,O]
abbrev Y0.q24:Array Bool:=#[I,O,O,O,O,O,O,O,O,O,O,O,O,O,O,O,O]
abbrev Y0.q25:Array Bool:=#[I,I,O,O,O,O,O,O,O,O,O,O,O,O,O,O,O]
abbrev Y0.q26:Array Bool:=#[I,I,I,O,O,O,O,O,O,O,O,O,O,O,O,O,O]
abbrev Y0.q27:Array Bool:=#[I,I,I,I,O,O,O,O,O,O,O,O,O,O,O,O,O]
abbrev Y0.q28:Array Bool:=#[I,I,I,I,I,O,O,O,O,O,O,O,O,O,O,O,O]
abbrev Y0.q29:Array Bool:=#[I,I,I,I,I,I,O,O,O,O,O,O,O,O,O,O,O]
abbrev Y0.q30:Array Bool:=#[I,I,I,I,I,I,I,O,O,O,O,O,O,O,O,O,O]
abbrev Y0.q31:Array Bool:=#[I,I,I,I,I,I,I,I,O,O,O,O,O,O,O,O,O]
abbrev Y0.q32:Array Bool:=#[I,I,I,I,I,I,I,I,O,I,O,O,O,O,O,O,O]
abbrev Y0.q33:Array Bool:=#[I,I,I,I,I,I,I,I,O,I,I,O,O,O,O,O,O]
abbrev Y0.q34:Array Bool:=#[I,I,I,I,I,I,I,I,O,I,I,I,O,O,O,O,O]
abbrev Y0.q35:Array Bool:=#[I,I,I,I,I,I,I,I,I,I,I,I,O,O,O,O,O]
abbrev Y0.q36:Array Bool:=#[I,I,I,I,I,I,I,I,I,I,I,I,I,O,O,O,O]
abbrev Y0.q37:Array Bool:=#[I,I,I,I,I,I,I,I,I,I,I,I,I,I,O,O,O]
abbrev Y0.q38:Array Bool:=#[I,I,I,I,I,I,I,I,I,I,I,I,I,I,I,O,O]
abbrev Y0.q39:Array Bool:=#[I,I,I,I,I,I,I,I,I,I,I,I,I,I,I,I,O]
abbrev Y0.q40:Array Bool:=#[I,I,I,I,I,I,I,I,I,I,I,I,I,I,I,I,I]
abbrev Y0.q41:Array Bool:=#[I,I,I,I,I,I,I,I,I,O,O,O,O,O,O,O,O]
abbrev Y0.q42:Array Bool:=#[I,I,I,I,I,I,I,I,I,I,O,O,O,O,O,O,O]
abbrev Y0.q43:Array Bool:=#[I,I,I,I,I,I,I,I,I,I,I,O,O,O,O,O,O]
theorem Y0.calls (k:Nat) (P0_:Nat→Prop) (u9000_:Value) (l0:List (S77)) (a1:Int) (a2:Int) (a3:Int)  (r1:Int) (r2:Bool) (r3:List (S77)) (w0 w:World) (hB:Below w0.heap.size w0 w) (ho0:Kd.R k77 77 w w0.heap.size P0_ u9000_ l0) (h:Y0.f k l0 a1 a2 a3=some (r1,r2,r3)) :
  Calls Tryd.prog 129 #[u9000_,.int .i64 a1,.int .i64 a2,.int .i64 a3,.func (.func 78) #[] #[]] w fun e w'=>e = .returned (.tuple #[.int .i64 r1,.bool r2])∧Kd.R k77 77 w' w0.heap.size (fun k_=>(P0_ k_∨w.heap.size≤k_)) u9000_ r3∧Below w0.heap.size w0 w'∧Kept w w' (fun k_=>P0_ k_):=by
 have hu77:=Tryd.underlying77
 have HO0:=aM (show Kd.R k77 77 w w0.heap.size (fun k_=>(P0_ k_∨w.heap.size≤k_)) u9000_ l0 from Kd.R_mono ho0 (fun k_ hk=>(.inl hk)))
 have HK:=aM (Kept.refl w (fun k_=>P0_ k_))
 have HW0:=aM hB.size
 have HB:=aM hB
 clear hB
 have H:(if 0≤a3 then (if a3<(l0.length:Int) then (if 0≤a1 then (if a1<(l0.length:Int) then (Y0.l0 k ((l0.set (a1:Int).toNat (⟨(rd_T77 l0 a3).f0,(rd_T77 l0 a3).f1⟩:S77)).set (a3:Int).toNat (⟨(rd_T77 l0 a1).f0,(rd_T77 l0 a1).f1⟩:S77)) a1 (wrap64 (a1+1)) (wrap64 (a2-1))) else (none)) else (none)) else (none)) else (none))=some (r1,r2,r3):=h
 clear h
 by_cases c6:0≤a3
 ·rw [if_pos c6] at H
  have c6b0:decide (0≤a3)=true:=dE c6
  clear c6
  by_cases c7:a3<(l0.length:Int)
  ·rw [if_pos c7] at H
   have c7b0:decide (a3<(l0.length:Int))=true:=dE c7
   clear c7
   by_cases c8:0≤a1
   ·rw [if_pos c8] at H
    have c8b0:decide (0≤a1)=true:=dE c8
    clear c8
    by_cases c9:a1<(l0.length:Int)
    ·rw [if_pos c9] at H
     have c9b0:decide (a1<(l0.length:Int))=true:=dE c9
     clear c9
     obtain ⟨y194,hy194⟩:∃ y_:List (S77),y_=(l0.set (a1:Int).toNat (⟨(rd_T77 l0 a3).f0,(rd_T77 l0 a3).f1⟩:S77)):=⟨_,rfl⟩
     replace H:(Y0.l0 k (y194.set (a3:Int).toNat (⟨(rd_T77 l0 a1).f0,(rd_T77 l0 a1).f1⟩:S77)) a1 (wrap64 (a1+1)) (wrap64 (a2-1)))=some (r1,r2,r3):=by first | (rw [hy194];with_reducible exact H) | (have H2_:=(Option.bind_some _ _).symm.trans H;rw [hy194];with_reducible exact H2_) | (have H2_:=(Option.bind_some _ _).symm.trans H;with_reducible exact H2_) | with_reducible exact H | (rw [hy194];exact H) | exact H
     have Ny194:=aM hy194
     clear hy194
     obtain ⟨y195,hy195⟩:∃ y_:List (S77),y_=(y194.set (a3:Int).toNat (⟨(rd_T77 l0 a1).f0,(rd_T77 l0 a1).f1⟩:S77)):=⟨_,rfl⟩
     replace H:(Y0.l0 k y195 a1 (wrap64 (a1+1)) (wrap64 (a2-1)))=some (r1,r2,r3):=by first | (rw [hy195];with_reducible exact H) | (have H2_:=(Option.bind_some _ _).symm.trans H;rw [hy195];with_reducible exact H2_) | (have H2_:=(Option.bind_some _ _).symm.trans H;with_reducible exact H2_) | with_reducible exact H | (rw [hy195];exact H) | exact H
     have Ny195:=aM hy195
     clear hy195
     have H':=aM H
     clear H
     go_enter Tryd.func129,Tryd.ntmps129
     try go_wp2
     have n0_:=aM (Kd.R_drew HO0.out)
     have n1_:=aM (Kept.drew HK.out)
     have n2_:=aM (below_drew1 HB.out)
     clear HO0
     clear HK
     clear HB
     have HO0:=n0_
     have HK:=n1_
     have HB:=n2_
     clear n0_ n1_ n2_
     obtain ⟨Ao13,co13,eo13⟩:=Kd.R_slice HO0.out
     (first | subst eo13 | (injection eo13 with f1_ f2_ f3_;have f4_:=f1_.symm;have f5_:=f3_.symm;clear f1_ f2_ f3_;subst f4_;subst f5_))
     have p192:0≤(a3:Int):=dT (z1_)
     have q192:a3<(l0.length:Int):=dT (z1_)
     obtain ⟨ad192,e192,hx192_0,hx192_1⟩:=at_T77 (Kd.R_reads' HO0.out).2.2 a3 p192 q192
     cases e192
     replace p192:=eq_true p192
     replace q192:=eq_true q192
     have p193:0≤(a1:Int):=dT (z1_)
     have q193:a1<(l0.length:Int):=dT (z1_)
     obtain ⟨ad193,e193,hx193_0,hx193_1⟩:=at_T77 (Kd.R_reads' HO0.out).2.2 a1 p193 q193
     obtain rfl:ad192=ad193:=(by injection e193)
     replace p193:=eq_true p193
     replace q193:=eq_true q193
     have p10:0≤(a1:Int):=dT (z1_)
     have q10:(a1:Int)<((l0.length:Int):Int):=dT (z1_)
     obtain ⟨go10,co10,eo10,gb10,gl10,cl10,HG10⟩:=Kd.R_form HO0.out (by omega)
     (first | cases eo10 | (injection eo10 with ea_ en_ ec_;(first | subst ea_ | (injection ea_ with ea_;subst ea_));subst ec_;clear en_))
     have GB10:=aM gb10
     have GG10:=aM HG10
     clear gb10 gl10 HG10
     have HMgo10:=aM (show (P0_ go10∨w.heap.size≤go10) from (HO0.out.1 _ rfl))
     (first | simp only [add_plain] at hx192_0 | skip)
     (first | simp only [add_plain] at hx192_1 | skip)
     (first | simp only [add_plain] at hx193_0 | skip)
     (first | simp only [add_plain] at hx193_1 | skip)
     obtain ⟨ce10,hcl10,hM10,hcc10,hfr10⟩:=Kd.R_elem HO0.out z77 (a1:Int) p10 q10
     obtain rfl:=k77_openM hM10
     have hx10_0:World.cell? _ ⟨go10,(a1:Int).toNat*2,none⟩=some (.int .i64 ((rd_T77 l0 a1).f0)):=hcc10 0 _ rfl
     have hx10_1:World.cell? _ ⟨go10,(a1:Int).toNat*2+1,none⟩=some (.int .i64 ((rd_T77 l0 a1).f1)):=hcc10 1 _ rfl
     have hf10_0:World.frozen? _ ⟨go10,(a1:Int).toNat*2,none⟩=false:=hfr10 0
     have hf10_1:World.frozen? _ ⟨go10,(a1:Int).toNat*2+1,none⟩=false:=hfr10 1
     clear hcl10 hcc10 hfr10 hM10
     replace p10:=eq_true p10
     replace q10:=eq_true q10
     obtain ⟨ce14,hcl14,hM14,hcc14,hfr14⟩:=Kd.R_elem HO0.out z77 (a1:Int) (dT (z1_)) (by have h_:(a1:Int)<((l0.length:Int):Int):=dT (by first | (with_reducible assumption) | assumption);first | exact h_ | (have e_:=(Kd.R_reads' HO0.out).1;omega) | simpa using h_)
     obtain rfl:=k77_openM hM14
     have HP14:=(Kd.R_seg HO0.out (a1:Int) (dT (z1_)) (by have h_:(a1:Int)<((l0.length:Int):Int):=dT (by first | (with_reducible assumption) | assumption);first | exact h_ | (have e_:=(Kd.R_reads' HO0.out).1;omega) | simpa using h_) (seg:=[.int .i64 ((rd_T77 l0 a3).f0),.int .i64 ((rd_T77 l0 a3).f1)]) (j:=0) hcl14 hcc14 (show 2≤2 from by decide) (x':=(⟨(rd_T77 l0 a3).f0,(rd_T77 l0 a3).f1⟩:S77)) (k77_mkM _ _ _ (⟨(rd_T77 l0 a3).f0,(rd_T77 l0 a3).f1⟩:S77) ) (fun _ hk=>hk)).1
     rw [← Ny194.out] at HP14
     have HQ14:=aM HP14
     clear hcl14 hcc14 hfr14 hM14 HP14
     have p11:0≤(a3:Int):=dT (z1_)
     have q11:(a3:Int)<((l0.length:Int):Int):=dT (z1_)
     obtain ⟨ce11,hcl11,hM11,hcc11,hfr11⟩:=Kd.R_elem HQ14.out z77 (a3:Int) p11 q11
     obtain rfl:=k77_openM hM11
     have hx11_0:World.cell? _ ⟨go10,(a3:Int).toNat*2,none⟩=some (.int .i64 ((rd_T77 y194 a3).f0)):=hcc11 0 _ rfl
     have hx11_1:World.cell? _ ⟨go10,(a3:Int).toNat*2+1,none⟩=some (.int .i64 ((rd_T77 y194 a3).f1)):=hcc11 1 _ rfl
     have hf11_0:World.frozen? _ ⟨go10,(a3:Int).toNat*2,none⟩=false:=hfr11 0
     have hf11_1:World.frozen? _ ⟨go10,(a3:Int).toNat*2+1,none⟩=false:=hfr11 1
     clear hcl11 hcc11 hfr11 hM11
     replace p11:=eq_true p11
     replace q11:=eq_true q11
     obtain ⟨ce15,hcl15,hM15,hcc15,hfr15⟩:=Kd.R_elem HQ14.out z77 (a3:Int) (dT (z1_)) (by have h_:(a3:Int)<((l0.length:Int):Int):=dT (by first | (with_reducible assumption) | assumption);first | exact h_ | (have e_:=(Kd.R_reads' HO0.out).1;omega) | simpa using h_)
     obtain rfl:=k77_openM hM15
     have HP15:=(Kd.R_seg HQ14.out (a3:Int) (dT (z1_)) (by have h_:(a3:Int)<((l0.length:Int):Int):=dT (by first | (with_reducible assumption) | assumption);first | exact h_ | (have e_:=(Kd.R_reads' HO0.out).1;omega) | simpa using h_) (seg:=[.int .i64 ((rd_T77 l0 a1).f0),.int .i64 ((rd_T77 l0 a1).f1)]) (j:=0) hcl15 hcc15 (show 2≤2 from by decide) (x':=(⟨(rd_T77 l0 a1).f0,(rd_T77 l0 a1).f1⟩:S77)) (k77_mkM _ _ _ (⟨(rd_T77 l0 a1).f0,(rd_T77 l0 a1).f1⟩:S77) ) (fun _ hk=>hk)).1
     rw [← Ny195.out] at HP15
     have HQ15:=aM HP15
     clear hcl15 hcc15 hfr15 hM15 HP15
     refine start_ (n:=16) (S:=fun w'=>w'.cell? ⟨go10,((a3).toNat*2),none⟩=some (.int .i64 ((rd_T77 l0 a3).f0))∧w'.cell? ⟨go10,((a3).toNat*2)+1,none⟩=some (.int .i64 ((rd_T77 l0 a3).f1))∧w'.cell? ⟨go10,((a1).toNat*2),none⟩=some (.int .i64 ((rd_T77 l0 a1).f0))∧w'.cell? ⟨go10,((a1).toNat*2)+1,none⟩=some (.int .i64 ((rd_T77 l0 a1).f1))) (ds:=[13,15]) Y0.q0 (by kernel_rfl) rfl rfl ⟨hx192_0,hx192_1,hx193_0,hx193_1⟩ (fun hHeld=>?_);refine with_tabW Y0.tab1 Y0.bits1 (fun HT_ HW_=>?_)
     generalize w.drew=w12 at HO0 HK HB GG10 HQ14 HQ15 hf10_0 hf10_1 hf11_0 hf11_1 hx10_0 hx10_1 hx11_0 hx11_1 hx192_0 hx192_1 hx193_0 hx193_1 hHeld ⊢
     have hz11_0:(w12.setCell ⟨go10,(a1:Int).toNat*2,none⟩ (.int .i64 ((rd_T77 l0 a3).f0))).cell? ⟨go10,(a3:Int).toNat*2,none⟩=some (.int .i64 ((rd_T77 y194 a3).f0)):=by have h_:=hx11_0;exact ((show ((w12.setCell ⟨go10,(a1:Int).toNat*2,none⟩ (.int .i64 ((rd_T77 l0 a3).f0))).setCell ⟨go10,(a1:Int).toNat*2+1,none⟩ (.int .i64 ((rd_T77 l0 a3).f1))).cell? ⟨go10,(a3:Int).toNat*2,none⟩=(w12.setCell ⟨go10,(a1:Int).toNat*2,none⟩ (.int .i64 ((rd_T77 l0 a3).f0))).cell? ⟨go10,(a3:Int).toNat*2,none⟩ from World.cell?_setCell_other _ _ _ _ (by intro e_;injection e_ with e1_ e2_;omega)).symm.trans h_)
     have hy11_0:w12.frozen? ⟨go10,(a3:Int).toNat*2,none⟩=false:=by have h_:=hf11_0;first | exact h_ | simpa only [World.frozen?_setCell] using h_ | simpa [World.setCells] using h_
     have hz11_1:((w12.setCell ⟨go10,(a1:Int).toNat*2,none⟩ (.int .i64 ((rd_T77 l0 a3).f0))).setCell ⟨go10,(a1:Int).toNat*2+1,none⟩ (.int .i64 ((rd_T77 l0 a3).f1))).cell? ⟨go10,(a3:Int).toNat*2+1,none⟩=some (.int .i64 ((rd_T77 y194 a3).f1)):=by have h_:=hx11_1;exact h_
     have hy11_1:w12.frozen? ⟨go10,(a3:Int).toNat*2+1,none⟩=false:=by have h_:=hf11_1;first | exact h_ | simpa only [World.frozen?_setCell] using h_ | simpa [World.setCells] using h_
     refine pu_ 0 14 Y0.q1 HT_.out ?_
     refine pu_ 1 15 Y0.q2 HT_.out ?_
     refine pu_ 2 16 Y0.q3 HT_.out ?_
     refine pu_ 3 17 Y0.q4 HT_.out ?_
     refine pu_ 4 18 Y0.q5 HT_.out ?_
     refine pu_ 5 19 Y0.q6 HT_.out ?_
     refine pu_ 6 20 Y0.q7 HT_.out ?_
     refine pu_ 8 22 Y0.q8 HT_.out ?_
     refine pu_ 9 23 Y0.q9 HT_.out ?_
     refine pu_ 10 24 Y0.q10 HT_.out ?_
     refine tk4_ 7 21 Y0.q11 HT_.out HW_.out hHeld ?_
     refine tk4_ 11 25 Y0.q12 HT_.out HW_.out hHeld ?_
     refine pu_ 12 26 Y0.q13 HT_.out ?_
     refine last_ (i:=13) (N:=none) Y0.q14 rfl rfl (one_of HT_.out (by kernel_rfl)) (by decide) (fun K hK=>?_)
     refine skip_ (w1:=?_) (by rfl) rfl ?_ ?_
     rotate_left
     ·go_simp
      rfl
     refine hK.out _ _ ?_
     clear hK K
     refine pu_ 14 27 Y0.q15 HT_.out ?_
     refine last_ (i:=15) (N:=none) Y0.q16 rfl rfl (one_of HT_.out (by kernel_rfl)) (by decide) (fun K hK=>?_)
     refine skip_ (w1:=?_) (by rfl) rfl ?_ ?_
     rotate_left
     ·go_simp
      rfl
     refine hK.out _ _ ?_
     clear hK K
     refine done_ (done_of HT_.out (by kernel_rfl)) ?_
     try go_wp2
     go_loopg [12] k (fun kq v12 w'=>∃ (x12_1:Int),v12 = .int .i64 x12_1∧Aside0 (Y0.l0 kq y195 a1 x12_1 (wrap64 (a2-1))=some (r1,r2,r3))∧Aside0 (kq≤k)∧Aside0 (Kd.R k77 77 w' w0.heap.size (fun k_=>(P0_ k_∨w.heap.size≤k_)) (.slice (some ⟨go10,0,none⟩) l0.length co13) y195)∧Aside0 (Kept w w' (fun k_=>P0_ k_))∧Aside0 (Below w0.heap.size w0 w'))
     case atStart=>exact ⟨(wrap64 (a1+1)),(z0_),H',⟨Nat.le_refl _⟩,⟨z2_ HQ15.out⟩,⟨z27_ HK.out HMgo10.out⟩,⟨z28_ HB.out GB10.out⟩⟩
     case round=>as_aux_lemma =>
      clear H'
      try clear c1
      try clear p1
      try clear q1
      try clear hx1
      try clear p2
      try clear c6
      try clear c6b0
      try clear p6
      try clear c7
      try clear c7b0
      try clear c8
      try clear c8b0
      try clear c9
      try clear c9b0
      try clear c10
      try clear p10
      try clear q10
      try clear hx10
      try clear hf10
      try clear c11
      try clear p11
      try clear q11
      try clear hx11
      try clear hf11
      try clear c14
      try clear c15
      try clear hx10_0
      try clear hx10_1
      try clear hx11_0
      try clear hx11_1
      try clear hx192_0
      try clear hx192_1
      try clear hx193_0
      try clear hx193_1
      try clear p10
      try clear p11
      try clear p192
      try clear p193
      try clear q10
      try clear q11
      try clear q192
      try clear q193
      obtain ⟨x12_1,rfl,HA,HK1,HO_0,HK,HB⟩:=hrel
      have hl0_1:=(Kd.R_reads' HO_0.out).1
      rw [hl0_1] at HO_0
      (try simp only [hl0_1])
      cases gk with
      | zero=>exact absurd HA.out (by simp [Y0.l0])
      | succ k1 =>
       have H:=HA.out
       clear HA
       simp only [Y0.l0] at H
       have HC16:=aM H
       clear H
       go_upto_region 3 with (fail)
       go_cut [47] (fun v47 wc=>∃ (kq:Nat) (x47_15:Bool),v47 = .bool x47_15∧Aside0 (Y0.j1 kq y195 a1 x12_1 (wrap64 (a2-1)) x47_15=some (r1,r2,r3))∧Aside0 (kq≤k1)∧Aside0 (Kd.R k77 77 wc w0.heap.size (fun k_=>(P0_ k_∨w.heap.size≤k_)) (.slice (some ⟨go10,0,none⟩) y195.length co13) y195)∧Aside0 (Kept w wc (fun k_=>P0_ k_))∧Aside0 (Below w0.heap.size w0 wc))
       case first=>as_aux_lemma =>
        have H:=HC16.out
        clear HC16
        by_cases c17:x12_1≤(wrap64 (a2-1))
        ·rw [if_pos c17] at H
         have c17b0:decide (x12_1≤(wrap64 (a2-1)))=true:=dE c17
         clear c17
         (first | rw [c17b0] | (simp only [i64_w,i32_w];rw [c17b0]) | skip)
         by_cases c18:0≤x12_1
         ·rw [if_pos c18] at H
          have c18b0:decide (0≤x12_1)=true:=dE c18
          clear c18
          by_cases c19:x12_1<(y195.length:Int)
          ·rw [if_pos c19] at H
           have c19b0:decide (x12_1<(y195.length:Int))=true:=dE c19
           clear c19
           by_cases c20:0≤a1
           ·rw [if_pos c20] at H
            have c20b0:decide (0≤a1)=true:=dE c20
            clear c20
            by_cases c21:a1<(y195.length:Int)
            ·rw [if_pos c21] at H
             have c21b0:decide (a1<(y195.length:Int))=true:=dE c21
             clear c21
             replace H:=bS H
             obtain ⟨t198,A220,H⟩:=H
             replace H:(Y0.j1 k1 y195 a1 x12_1 (wrap64 (a2-1)) (decide (t198<0)))=some (r1,r2,r3):=H
             have A22:=aM A220
             clear A220
             have H':=aM H
             clear H
             try go_wp2
             have n0_:=aM (Kd.R_drew HO_0.out)
             have n1_:=aM (Kept.drew HK.out)
             have n2_:=aM (below_drew1 HB.out)
             clear HO_0
             clear HK
             clear HB
             have HO_0:=n0_
             have HK:=n1_
             have HB:=n2_
             clear n0_ n1_ n2_
             have p196:0≤(x12_1:Int):=dT (z1_)
             have q196:x12_1<(y195.length:Int):=dT (z1_)
             obtain ⟨ad196,e196,hx196_0,hx196_1⟩:=at_T77 (Kd.R_reads' HO_0.out).2.2 x12_1 p196 q196
             obtain rfl:(⟨go10,0,none⟩:Addr)=ad196:=(by injection e196)
             (first | simp only [add_plain] at hx196_0 | simp only [add_at] at hx196_0 | simp only [Addr.add,Nat.zero_add] at hx196_0 | skip)
             (first | simp only [add_plain] at hx196_1 | simp only [add_at] at hx196_1 | simp only [Addr.add,Nat.zero_add] at hx196_1 | skip)
             replace p196:=eq_true p196
             replace q196:=eq_true q196
             have p197:0≤(a1:Int):=dT (z1_)
             have q197:a1<(y195.length:Int):=dT (z1_)
             obtain ⟨ad197,e197,hx197_0,hx197_1⟩:=at_T77 (Kd.R_reads' HO_0.out).2.2 a1 p197 q197
             obtain rfl:(⟨go10,0,none⟩:Addr)=ad197:=(by injection e197)
             (first | simp only [add_plain] at hx197_0 | simp only [add_at] at hx197_0 | simp only [Addr.add,Nat.zero_add] at hx197_0 | skip)
             (first | simp only [add_plain] at hx197_1 | simp only [add_at] at hx197_1 | simp only [Addr.add,Nat.zero_add] at hx197_1 | skip)
             replace p197:=eq_true p197
             replace q197:=eq_true q197
             refine start_ (n:=16) (S:=fun w'=>w'.cell? ⟨go10,(x12_1).toNat*2,none⟩=some (.int .i64 ((rd_T77 y195 x12_1).f0))∧w'.cell? ⟨go10,(x12_1).toNat*2+1,none⟩=some (.int .i64 ((rd_T77 y195 x12_1).f1))∧w'.cell? ⟨go10,(a1).toNat*2,none⟩=some (.int .i64 ((rd_T77 y195 a1).f0))∧w'.cell? ⟨go10,(a1).toNat*2+1,none⟩=some (.int .i64 ((rd_T77 y195 a1).f1))) (ds:=[]) Y0.q0 (by kernel_rfl) rfl rfl ⟨hx196_0,hx196_1,hx197_0,hx197_1⟩ (fun hHeld=>?_);refine with_tabW Y0.tab3 Y0.bits3 (fun HT_ HW_=>?_)
             generalize wr.drew=w23 at HO_0 HK HB hx196_0 hx196_1 hx197_0 hx197_1 hHeld ⊢
             refine pu_ 0 32 Y0.q1 HT_.out ?_
             refine pu_ 1 33 Y0.q2 HT_.out ?_
             refine pu_ 2 34 Y0.q3 HT_.out ?_
             refine pu_ 3 35 Y0.q4 HT_.out ?_
             refine pu_ 4 36 Y0.q5 HT_.out ?_
             refine pu_ 5 37 Y0.q6 HT_.out ?_
             refine pu_ 6 38 Y0.q7 HT_.out ?_
             refine pu_ 7 39 Y0.q17 HT_.out ?_
             refine pu_ 9 41 Y0.q18 HT_.out ?_
             refine pu_ 10 42 Y0.q19 HT_.out ?_
             refine pu_ 11 43 Y0.q20 HT_.out ?_
             refine tk4_ 8 40 Y0.q12 HT_.out HW_.out hHeld ?_
             refine tk4_ 12 44 Y0.q13 HT_.out HW_.out hHeld ?_
             refine o1_ 13 45 Y0.q14 HT_.out (fun K hK=>?_)
             refine goesD_ Tryd.func78 (by kernel_rfl) rfl #[.agg #[.int .i64 ((rd_T77 y195 x12_1).f0),.int .i64 ((rd_T77 y195 x12_1).f1)],.agg #[.int .i64 ((rd_T77 y195 a1).f0),.int .i64 ((rd_T77 y195 a1).f1)]] (by rfl) rfl rfl (by rfl) (z29_) ?_
             with_reducible refine (Y14.calls k1 ((rd_T77 y195 x12_1).f0) ((rd_T77 y195 x12_1).f1) ((rd_T77 y195 a1).f0) ((rd_T77 y195 a1).f1) t198 _ A22.out).mono ?_
             rintro e w24 ⟨rfl,hb⟩
             have HS0_:=(hb.cell (World.block_lt_of_cell? _ _ (hHeld.1))).trans (hHeld.1)
             have HS1_:=(hb.cell (World.block_lt_of_cell? _ _ (hHeld.2.1))).trans (hHeld.2.1)
             have HS2_:=(hb.cell (World.block_lt_of_cell? _ _ (hHeld.2.2.1))).trans (hHeld.2.2.1)
             have HS3_:=(hb.cell (World.block_lt_of_cell? _ _ (hHeld.2.2.2))).trans (hHeld.2.2.2)
             refine ⟨_,rfl,?_⟩
             have n0_:=aM (Kd.R_below (z2_ HO_0.out) hb)
             have n1_:=aM (Kept.below (S:=(fun k_=>P0_ k_)) (z5_ HK.out) hb)
             have n2_:=aM (below_step (z3_ HB.out) hb)
             clear HO_0
             clear HK
             clear HB
             have HO_0:=n0_
             have HK:=n1_
             have HB:=n2_
             clear n0_ n1_ n2_
             (try clear hb)
             refine hK.out _ _ ⟨HS0_,HS1_,HS2_,HS3_⟩ (fun hHeld=>?_)
             clear hK K
             refine nm_ 45 ?_
             refine pu_ 14 46 Y0.q15 HT_.out ?_
             refine pu_ 15 47 Y0.q16 HT_.out ?_
             refine done_ (done_of HT_.out (by kernel_rfl)) ?_
             try go_wp2
             go_meet
             case rel=>exact ⟨_,(decide (t198<0)),(z0_),H',⟨by have:=HK1.out;first | omega | exact Nat.le_refl _⟩,⟨z24_ HO_0.out⟩,⟨z5_ HK.out⟩,⟨z3_ HB.out⟩⟩
            ·rw [if_neg c21] at H
             exact nO H
           ·rw [if_neg c20] at H
            exact nO H
          ·rw [if_neg c19] at H
           exact nO H
         ·rw [if_neg c18] at H
          exact nO H
        ·rw [if_neg c17] at H
         have c17b0:decide (x12_1≤(wrap64 (a2-1)))=false:=dF c17
         clear c17
         (first | rw [c17b0] | (simp only [i64_w,i32_w];rw [c17b0]) | skip)
         have H':=aM H
         clear H
         try go_wp2
         have n0_:=aM (Kd.R_drew HO_0.out)
         have n1_:=aM (Kept.drew HK.out)
         have n2_:=aM (below_drew1 HB.out)
         clear HO_0
         clear HK
         clear HB
         have HO_0:=n0_
         have HK:=n1_
         have HB:=n2_
         clear n0_ n1_ n2_
         refine start_ (n:=16) (S:=fun w'=>True) (ds:=[]) Y0.q0 (by kernel_rfl) rfl rfl trivial (fun hHeld=>?_);refine with_tabW Y0.tab3 Y0.bits3 (fun HT_ HW_=>?_)
         generalize wr.drew=w25 at HO_0 HK HB hHeld ⊢
         refine pu_ 0 32 Y0.q1 HT_.out ?_
         refine pu_ 1 33 Y0.q2 HT_.out ?_
         refine pu_ 2 34 Y0.q3 HT_.out ?_
         refine pu_ 3 35 Y0.q4 HT_.out ?_
         refine pn_ 4 36 Y0.q5 HT_.out ?_
         refine pn_ 5 37 Y0.q6 HT_.out ?_
         refine pn_ 6 38 Y0.q7 HT_.out ?_
         refine pn_ 7 39 Y0.q17 HT_.out ?_
         refine pn_ 8 40 Y0.q21 HT_.out ?_
         refine pn_ 9 41 Y0.q22 HT_.out ?_
         refine pn_ 10 42 Y0.q11 HT_.out ?_
         refine pn_ 11 43 Y0.q12 HT_.out ?_
         refine pn_ 12 44 Y0.q13 HT_.out ?_
         refine pn_ 13 45 Y0.q14 HT_.out ?_
         refine pn_ 14 46 Y0.q15 HT_.out ?_
         refine pu_ 15 47 Y0.q16 HT_.out ?_
         refine done_ (done_of HT_.out (by kernel_rfl)) ?_
         try go_wp2
         go_meet
         case rel=>exact ⟨_,(false),(z0_),H',⟨by have:=HK1.out;first | omega | exact Nat.le_refl _⟩,⟨z24_ HO_0.out⟩,⟨z5_ HK.out⟩,⟨z3_ HB.out⟩⟩
       case rest=>as_aux_lemma =>
        clear HC16
        try clear c1
        try clear p1
        try clear q1
        try clear hx1
        try clear c2
        try clear p2
        try clear c6
        try clear c6b0
        try clear p6
        try clear c7
        try clear c7b0
        try clear c8
        try clear c8b0
        try clear c9
        try clear c9b0
        try clear c10
        try clear p10
        try clear q10
        try clear hx10
        try clear hf10
        try clear c11
        try clear p11
        try clear q11
        try clear hx11
        try clear hf11
        try clear c14
        try clear c15
        try clear c17
        try clear c17b0
        try clear c18
        try clear c18b0
        try clear c19
        try clear c19b0
        try clear p19
        try clear q19
        try clear hx19
        try clear c20
        try clear c20b0
        try clear c21
        try clear c21b0
        try clear hx10_0
        try clear hx10_1
        try clear hx11_0
        try clear hx11_1
        try clear hx192_0
        try clear hx192_1
        try clear hx193_0
        try clear hx193_1
        try clear hx196_0
        try clear hx196_1
        try clear hx197_0
        try clear hx197_1
        try clear p1
        try clear p10
        try clear p11
        try clear p192
        try clear p193
        try clear p196
        try clear p197
        try clear p2
        try clear p6
        try clear q1
        try clear q10
        try clear q11
        try clear q192
        try clear q193
        try clear q196
        try clear q197
        obtain ⟨kq,x47_15,rfl,HA,HJ15,HO_0,HK,HB⟩:=hcut
        cases kq with
        | zero=>exact absurd HA.out (by simp [Y0.j1])
        | succ kj15 =>
         have H:=HA.out
         clear HA
         simp only [Y0.j1] at H
         by_cases c26:x47_15=true
         ·subst c26
          have H1:(Y0.l0 kj15 y195 a1 (wrap64 (x12_1+1)) (wrap64 (a2-1)))=some (r1,r2,r3):=by rw [if_pos rfl] at H;exact H
          clear H
          have H:=H1
          clear H1
          have H':=aM H
          clear H
          go_wp2
          (try simp only [← hl0_1])
          go_roundg kj15
          case measure=>have:=HK1.out;have:=HJ15.out;omega
          case rel=>exact ⟨(wrap64 (x12_1+1)),(z0_),H',⟨by have:=HK1.out;have:=HJ15.out;omega⟩,⟨z24_ HO_0.out⟩,⟨z5_ HK.out⟩,⟨z3_ HB.out⟩⟩
         ·replace c26:=Bool.eq_false_iff.mpr c26
          subst c26
          have H1:(Y0.l1 kj15 y195 a1 x12_1 (wrap64 (a2-1)))=some (r1,r2,r3):=by rw [if_neg (show ¬ (false=true) by decide)] at H;exact H
          clear H
          have H:=H1
          clear H1
          have H':=aM H
          clear H
          go_wp2
          go_loopg [13] kj15 (fun kq v13 w'=>∃ (x13_3:Int),v13 = .int .i64 x13_3∧Aside0 (Y0.l1 kq y195 a1 x12_1 x13_3=some (r1,r2,r3))∧Aside0 (kq≤kj15)∧Aside0 (Kd.R k77 77 w' w0.heap.size (fun k_=>(P0_ k_∨w.heap.size≤k_)) (.slice (some ⟨go10,0,none⟩) y195.length co13) y195)∧Aside0 (Kept w w' (fun k_=>P0_ k_))∧Aside0 (Below w0.heap.size w0 w'))
          case atStart=>exact ⟨((wrap64 (a2-1))),(z0_),H',⟨Nat.le_refl _⟩,⟨z24_ HO_0.out⟩,⟨z5_ HK.out⟩,⟨z3_ HB.out⟩⟩
          case round=>as_aux_lemma =>
           clear H'
           try clear c1
           try clear p1
           try clear q1
           try clear hx1
           try clear c2
           try clear p2
           try clear c6
           try clear c6b0
           try clear p6
           try clear c7
           try clear c7b0
           try clear c8
           try clear c8b0
           try clear c9
           try clear c9b0
           try clear c10
           try clear p10
           try clear q10
           try clear hx10
           try clear hf10
           try clear c11
           try clear p11
           try clear q11
           try clear hx11
           try clear hf11
           try clear c14
           try clear c15
           try clear c17
           try clear c17b0
           try clear c18
           try clear c18b0
           try clear c19
           try clear c19b0
           try clear p19
           try clear q19
           try clear hx19
           try clear c20
           try clear c20b0
           try clear c21
           try clear c21b0
           try clear c26
           try clear hx10_0
           try clear hx10_1
           try clear hx11_0
           try clear hx11_1
           try clear hx192_0
           try clear hx192_1
           try clear hx193_0
           try clear hx193_1
           try clear hx196_0
           try clear hx196_1
           try clear hx197_0
           try clear hx197_1
           try clear p1
           try clear p10
           try clear p11
           try clear p19
           try clear p192
           try clear p193
           try clear p196
           try clear p197
           try clear p2
           try clear p6
           try clear q1
           try clear q10
           try clear q11
           try clear q19
           try clear q192
           try clear q193
           try clear q196
           try clear q197
           obtain ⟨x13_3,rfl,HA,HK3,HO_0,HK,HB⟩:=hrel
           cases gk with
           | zero=>exact absurd HA.out (by simp [Y0.l1])
           | succ k3 =>
            have H:=HA.out
            clear HA
            simp only [Y0.l1] at H
            have HC27:=aM H
            clear H
            go_upto_region 5 with (fail)
            go_cut [66] (fun v66 wc=>∃ (kq:Nat) (x66_26:Bool),v66 = .bool x66_26∧Aside0 (Y0.j3 kq y195 a1 x12_1 x13_3 x66_26=some (r1,r2,r3))∧Aside0 (kq≤k3)∧Aside0 (Kd.R k77 77 wc w0.heap.size (fun k_=>(P0_ k_∨w.heap.size≤k_)) (.slice (some ⟨go10,0,none⟩) y195.length co13) y195)∧Aside0 (Kept w wc (fun k_=>P0_ k_))∧Aside0 (Below w0.heap.size w0 wc))
            case first=>as_aux_lemma =>
             have H:=HC27.out
             clear HC27
             by_cases c28:x12_1≤x13_3
             ·rw [if_pos c28] at H
              have c28b0:decide (x12_1≤x13_3)=true:=dE c28
              clear c28
              (first | rw [c28b0] | (simp only [i64_w,i32_w];rw [c28b0]) | skip)
              by_cases c29:0≤x13_3
              ·rw [if_pos c29] at H
               have c29b0:decide (0≤x13_3)=true:=dE c29
               clear c29
               by_cases c30:x13_3<(y195.length:Int)
               ·rw [if_pos c30] at H
                have c30b0:decide (x13_3<(y195.length:Int))=true:=dE c30
                clear c30
                by_cases c31:0≤a1
                ·rw [if_pos c31] at H
                 have c31b0:decide (0≤a1)=true:=dE c31
                 clear c31
                 by_cases c32:a1<(y195.length:Int)
                 ·rw [if_pos c32] at H
                  have c32b0:decide (a1<(y195.length:Int))=true:=dE c32
                  clear c32
                  replace H:=bS H
                  obtain ⟨t201,A330,H⟩:=H
                  replace H:(Y0.j3 k3 y195 a1 x12_1 x13_3 (!(decide (t201<0))))=some (r1,r2,r3):=H
                  have A33:=aM A330
                  clear A330
                  have H':=aM H
                  clear H
                  try go_wp2
                  have n0_:=aM (Kd.R_drew HO_0.out)
                  have n1_:=aM (Kept.drew HK.out)
                  have n2_:=aM (below_drew1 HB.out)
                  clear HO_0
                  clear HK
                  clear HB
                  have HO_0:=n0_
                  have HK:=n1_
                  have HB:=n2_
                  clear n0_ n1_ n2_
                  have p199:0≤(x13_3:Int):=dT (z1_)
                  have q199:x13_3<(y195.length:Int):=dT (z1_)
                  obtain ⟨ad199,e199,hx199_0,hx199_1⟩:=at_T77 (Kd.R_reads' HO_0.out).2.2 x13_3 p199 q199
                  obtain rfl:(⟨go10,0,none⟩:Addr)=ad199:=(by injection e199)
                  (first | simp only [add_plain] at hx199_0 | simp only [add_at] at hx199_0 | simp only [Addr.add,Nat.zero_add] at hx199_0 | skip)
                  (first | simp only [add_plain] at hx199_1 | simp only [add_at] at hx199_1 | simp only [Addr.add,Nat.zero_add] at hx199_1 | skip)
                  replace p199:=eq_true p199
                  replace q199:=eq_true q199
                  have p200:0≤(a1:Int):=dT (z1_)
                  have q200:a1<(y195.length:Int):=dT (z1_)
                  obtain ⟨ad200,e200,hx200_0,hx200_1⟩:=at_T77 (Kd.R_reads' HO_0.out).2.2 a1 p200 q200
                  obtain rfl:(⟨go10,0,none⟩:Addr)=ad200:=(by injection e200)
                  (first | simp only [add_plain] at hx200_0 | simp only [add_at] at hx200_0 | simp only [Addr.add,Nat.zero_add] at hx200_0 | skip)
                  (first | simp only [add_plain] at hx200_1 | simp only [add_at] at hx200_1 | simp only [Addr.add,Nat.zero_add] at hx200_1 | skip)
                  replace p200:=eq_true p200
                  replace q200:=eq_true q200
                  refine start_ (n:=17) (S:=fun w'=>w'.cell? ⟨go10,(x13_3).toNat*2,none⟩=some (.int .i64 ((rd_T77 y195 x13_3).f0))∧w'.cell? ⟨go10,(x13_3).toNat*2+1,none⟩=some (.int .i64 ((rd_T77 y195 x13_3).f1))∧w'.cell? ⟨go10,(a1).toNat*2,none⟩=some (.int .i64 ((rd_T77 y195 a1).f0))∧w'.cell? ⟨go10,(a1).toNat*2+1,none⟩=some (.int .i64 ((rd_T77 y195 a1).f1))) (ds:=[]) Y0.q23 (by kernel_rfl) rfl rfl ⟨hx199_0,hx199_1,hx200_0,hx200_1⟩ (fun hHeld=>?_);refine with_tabW Y0.tab5 Y0.bits5 (fun HT_ HW_=>?_)
                  generalize wr.drew=w34 at HO_0 HK HB hx199_0 hx199_1 hx200_0 hx200_1 hHeld ⊢
                  refine pu_ 0 50 Y0.q24 HT_.out ?_
                  refine pu_ 1 51 Y0.q25 HT_.out ?_
                  refine pu_ 2 52 Y0.q26 HT_.out ?_
                  refine pu_ 3 53 Y0.q27 HT_.out ?_
                  refine pu_ 4 54 Y0.q28 HT_.out ?_
                  refine pu_ 5 55 Y0.q29 HT_.out ?_
                  refine pu_ 6 56 Y0.q30 HT_.out ?_
                  refine pu_ 7 57 Y0.q31 HT_.out ?_
                  refine pu_ 9 59 Y0.q32 HT_.out ?_
                  refine pu_ 10 60 Y0.q33 HT_.out ?_
                  refine pu_ 11 61 Y0.q34 HT_.out ?_
                  refine tk4_ 8 58 Y0.q35 HT_.out HW_.out hHeld ?_
                  refine tk4_ 12 62 Y0.q36 HT_.out HW_.out hHeld ?_
                  refine o1_ 13 63 Y0.q37 HT_.out (fun K hK=>?_)
                  refine goesD_ Tryd.func78 (by kernel_rfl) rfl #[.agg #[.int .i64 ((rd_T77 y195 x13_3).f0),.int .i64 ((rd_T77 y195 x13_3).f1)],.agg #[.int .i64 ((rd_T77 y195 a1).f0),.int .i64 ((rd_T77 y195 a1).f1)]] (by rfl) rfl rfl (by rfl) (z29_) ?_
                  with_reducible refine (Y14.calls k3 ((rd_T77 y195 x13_3).f0) ((rd_T77 y195 x13_3).f1) ((rd_T77 y195 a1).f0) ((rd_T77 y195 a1).f1) t201 _ A33.out).mono ?_
                  rintro e w35 ⟨rfl,hb⟩
                  have HS0_:=(hb.cell (World.block_lt_of_cell? _ _ (hHeld.1))).trans (hHeld.1)
                  have HS1_:=(hb.cell (World.block_lt_of_cell? _ _ (hHeld.2.1))).trans (hHeld.2.1)
                  have HS2_:=(hb.cell (World.block_lt_of_cell? _ _ (hHeld.2.2.1))).trans (hHeld.2.2.1)
                  have HS3_:=(hb.cell (World.block_lt_of_cell? _ _ (hHeld.2.2.2))).trans (hHeld.2.2.2)
                  refine ⟨_,rfl,?_⟩
                  have n0_:=aM (Kd.R_below (z2_ HO_0.out) hb)
                  have n1_:=aM (Kept.below (S:=(fun k_=>P0_ k_)) (z5_ HK.out) hb)
                  have n2_:=aM (below_step (z3_ HB.out) hb)
                  clear HO_0
                  clear HK
                  clear HB
                  have HO_0:=n0_
                  have HK:=n1_
                  have HB:=n2_
                  clear n0_ n1_ n2_
                  (try clear hb)
                  refine hK.out _ _ ⟨HS0_,HS1_,HS2_,HS3_⟩ (fun hHeld=>?_)
                  clear hK K
                  refine nm_ 63 ?_
                  refine pu_ 14 64 Y0.q38 HT_.out ?_
                  refine pu_ 15 65 Y0.q39 HT_.out ?_
                  refine pu_ 16 66 Y0.q40 HT_.out ?_
                  refine done_ (done_of HT_.out (by kernel_rfl)) ?_
                  try go_wp2
                  go_meet
                  case rel=>exact ⟨_,(!(decide (t201<0))),(z0_),H',⟨z18_ HK1.out HJ15.out HK3.out⟩,⟨z24_ HO_0.out⟩,⟨z5_ HK.out⟩,⟨z3_ HB.out⟩⟩
                 ·rw [if_neg c32] at H
                  exact nO H
                ·rw [if_neg c31] at H
                 exact nO H
               ·rw [if_neg c30] at H
                exact nO H
              ·rw [if_neg c29] at H
               exact nO H
             ·rw [if_neg c28] at H
              have c28b0:decide (x12_1≤x13_3)=false:=dF c28
              clear c28
              (first | rw [c28b0] | (simp only [i64_w,i32_w];rw [c28b0]) | skip)
              have H':=aM H
              clear H
              try go_wp2
              have n0_:=aM (Kd.R_drew HO_0.out)
              have n1_:=aM (Kept.drew HK.out)
              have n2_:=aM (below_drew1 HB.out)
              clear HO_0
              clear HK
              clear HB
              have HO_0:=n0_
              have HK:=n1_
              have HB:=n2_
              clear n0_ n1_ n2_
              refine start_ (n:=17) (S:=fun w'=>True) (ds:=[]) Y0.q23 (by kernel_rfl) rfl rfl trivial (fun hHeld=>?_);refine with_tabW Y0.tab5 Y0.bits5 (fun HT_ HW_=>?_)
              generalize wr.drew=w36 at HO_0 HK HB hHeld ⊢
              refine pu_ 0 50 Y0.q24 HT_.out ?_
              refine pu_ 1 51 Y0.q25 HT_.out ?_
              refine pu_ 2 52 Y0.q26 HT_.out ?_
              refine pu_ 3 53 Y0.q27 HT_.out ?_
              refine pn_ 4 54 Y0.q28 HT_.out ?_
              refine pn_ 5 55 Y0.q29 HT_.out ?_
              refine pn_ 6 56 Y0.q30 HT_.out ?_
              refine pn_ 7 57 Y0.q31 HT_.out ?_
              refine pn_ 8 58 Y0.q41 HT_.out ?_
              refine pn_ 9 59 Y0.q42 HT_.out ?_
              refine pn_ 10 60 Y0.q43 HT_.out ?_
              refine pn_ 11 61 Y0.q35 HT_.out ?_
              refine pn_ 12 62 Y0.q36 HT_.out ?_
              refine pn_ 13 63 Y0.q37 HT_.out ?_
              refine pn_ 14 64 Y0.q38 HT_.out ?_
              refine pn_ 15 65 Y0.q39 HT_.out ?_
              refine pu_ 16 66 Y0.q40 HT_.out ?_
              refine done_ (done_of HT_.out (by kernel_rfl)) ?_
              try go_wp2
              go_meet
              case rel=>exact ⟨_,(false),(z0_),H',⟨z18_ HK1.out HJ15.out HK3.out⟩,⟨z24_ HO_0.out⟩,⟨z5_ HK.out⟩,⟨z3_ HB.out⟩⟩
            case rest=>as_aux_lemma =>
             clear HC27
             try clear c1
             try clear p1
             try clear q1
             try clear hx1
             try clear c2
             try clear p2
             try clear q2
             try clear hx2
             try clear c3
             try clear c6
             try clear c6b0
             try clear p6
             try clear c7
             try clear c7b0
             try clear c8
             try clear c8b0
             try clear c9
             try clear c9b0
             try clear c10
             try clear p10
             try clear q10
             try clear hx10
             try clear hf10
             try clear c11
             try clear p11
             try clear q11
             try clear hx11
             try clear hf11
             try clear c14
             try clear c15
             try clear c17
             try clear c17b0
             try clear c18
             try clear c18b0
             try clear c19
             try clear c19b0
             try clear p19
             try clear q19
             try clear hx19
             try clear c20
             try clear c20b0
             try clear p20
             try clear q20
             try clear hx20
             try clear c21
             try clear c21b0
             try clear c26
             try clear c28
             try clear c28b0
             try clear c29
             try clear c29b0
             try clear c30
             try clear c30b0
             try clear c31
             try clear c31b0
             try clear c32
             try clear c32b0
             try clear hx10_0
             try clear hx10_1
             try clear hx11_0
             try clear hx11_1
             try clear hx192_0
             try clear hx192_1
             try clear hx193_0
             try clear hx193_1
             try clear hx196_0
             try clear hx196_1
             try clear hx197_0
             try clear hx197_1
             try clear hx199_0
             try clear hx199_1
             try clear hx200_0
             try clear hx200_1
             try clear p1
             try clear p10
             try clear p11
             try clear p19
             try clear p192
             try clear p193
             try clear p196
             try clear p197
             try clear p199
             try clear p2
             try clear p200
             try clear p6
             try clear q1
             try clear q10
             try clear q11
             try clear q19
             try clear q192
             try clear q193
             try clear q196
             try clear q197
             try clear q199
             try clear q200
             obtain ⟨kq,x66_26,rfl,HA,HJ26,HO_0,HK,HB⟩:=hcut
             cases kq with
             | zero=>exact absurd HA.out (by simp [Y0.j3])
             | succ kj26 =>
              have H:=HA.out
              clear HA
              simp only [Y0.j3] at H
              by_cases c37:x66_26=true
              ·subst c37
               have H1:(Y0.l1 kj26 y195 a1 x12_1 (wrap64 (x13_3-1)))=some (r1,r2,r3):=by rw [if_pos rfl] at H;exact H
               clear H
               have H:=H1
               clear H1
               have H':=aM H
               clear H
               go_wp2
               go_roundg kj26
               case measure=>have:=HK1.out;have:=HJ15.out;have:=HK3.out;have:=HJ26.out;omega
               case rel=>exact ⟨(wrap64 (x13_3-1)),(z0_),H',⟨by have:=HK1.out;have:=HJ15.out;have:=HK3.out;have:=HJ26.out;omega⟩,⟨z24_ HO_0.out⟩,⟨z5_ HK.out⟩,⟨z3_ HB.out⟩⟩
              ·replace c37:=Bool.eq_false_iff.mpr c37
               subst c37
               have H1:(if x12_1>x13_3 then (if 0≤a1 then (if a1<(y195.length:Int) then (if 0≤x13_3 then (if x13_3<(y195.length:Int) then (some (x13_3,true,((y195.set (x13_3:Int).toNat (⟨(rd_T77 y195 a1).f0,(rd_T77 y195 a1).f1⟩:S77)).set (a1:Int).toNat (⟨(rd_T77 y195 x13_3).f0,(rd_T77 y195 x13_3).f1⟩:S77)))) else (none)) else (none)) else (none)) else (none)) else (if 0≤x13_3 then (if x13_3<(y195.length:Int) then (if 0≤x12_1 then (if x12_1<(y195.length:Int) then (Y0.l2 kj26 ((y195.set (x12_1:Int).toNat (⟨(rd_T77 y195 x13_3).f0,(rd_T77 y195 x13_3).f1⟩:S77)).set (x13_3:Int).toNat (⟨(rd_T77 y195 x12_1).f0,(rd_T77 y195 x12_1).f1⟩:S77)) a1 (wrap64 (x12_1+1)) (wrap64 (x13_3-1))) else (none)) else (none)) else (none)) else (none)))=some (r1,r2,r3):=by rw [if_neg (show ¬ (false=true) by decide)] at H;exact H
               clear H
               have H:=H1
               clear H1
               by_cases c38:x12_1>x13_3
               ·rw [if_pos c38] at H
                have c38b0:decide (x13_3<x12_1)=true:=dE c38
                clear c38
                by_cases c39:0≤a1
                ·rw [if_pos c39] at H
                 have c39b0:decide (0≤a1)=true:=dE c39
                 clear c39
                 by_cases c40:a1<(y195.length:Int)
                 ·rw [if_pos c40] at H
                  have c40b0:decide (a1<(y195.length:Int))=true:=dE c40
                  clear c40
                  by_cases c41:0≤x13_3
                  ·rw [if_pos c41] at H
                   have c41b0:decide (0≤x13_3)=true:=dE c41
                   clear c41
                   by_cases c42:x13_3<(y195.length:Int)
                   ·rw [if_pos c42] at H
                    have c42b0:decide (x13_3<(y195.length:Int))=true:=dE c42
                    clear c42
                    obtain ⟨y204,hy204⟩:∃ y_:List (S77),y_=(y195.set (x13_3:Int).toNat (⟨(rd_T77 y195 a1).f0,(rd_T77 y195 a1).f1⟩:S77)):=⟨_,rfl⟩
                    replace H:(some (x13_3,true,(y204.set (a1:Int).toNat (⟨(rd_T77 y195 x13_3).f0,(rd_T77 y195 x13_3).f1⟩:S77))))=some (r1,r2,r3):=by first | (rw [hy204];with_reducible exact H) | (have H2_:=(Option.bind_some _ _).symm.trans H;rw [hy204];with_reducible exact H2_) | (have H2_:=(Option.bind_some _ _).symm.trans H;with_reducible exact H2_) | with_reducible exact H | (rw [hy204];exact H) | exact H
                    have Ny204:=aM hy204
                    clear hy204
                    obtain ⟨y205,hy205⟩:∃ y_:List (S77),y_=(y204.set (a1:Int).toNat (⟨(rd_T77 y195 x13_3).f0,(rd_T77 y195 x13_3).f1⟩:S77)):=⟨_,rfl⟩
                    replace H:(some (x13_3,true,y205))=some (r1,r2,r3):=by first | (rw [hy205];with_reducible exact H) | (have H2_:=(Option.bind_some _ _).symm.trans H;rw [hy205];with_reducible exact H2_) | (have H2_:=(Option.bind_some _ _).symm.trans H;with_reducible exact H2_) | with_reducible exact H | (rw [hy205];exact H) | exact H
                    have Ny205:=aM hy205
                    clear hy205
                    simp only [Option.some.injEq,Prod.mk.injEq] at H
                    obtain ⟨rfl,rfl,rfl⟩:=H
                    try go_wp2
                    have n0_:=aM (Kd.R_drew HO_0.out)
                    have n1_:=aM (Kept.drew HK.out)
                    have n2_:=aM (below_drew1 HB.out)
                    clear HO_0
                    clear HK
                    clear HB
                    have HO_0:=n0_
                    have HK:=n1_
                    have HB:=n2_
                    clear n0_ n1_ n2_
                    have p202:0≤(a1:Int):=dT (z1_)
                    have q202:a1<(y195.length:Int):=dT (z1_)
                    obtain ⟨ad202,e202,hx202_0,hx202_1⟩:=at_T77 (Kd.R_reads' HO_0.out).2.2 a1 p202 q202
                    obtain rfl:(⟨go10,0,none⟩:Addr)=ad202:=(by injection e202)
                    (first | simp only [add_plain] at hx202_0 | simp only [add_at] at hx202_0 | simp only [Addr.add,Nat.zero_add] at hx202_0 | skip)
                    (first | simp only [add_plain] at hx202_1 | simp only [add_at] at hx202_1 | simp only [Addr.add,Nat.zero_add] at hx202_1 | skip)
                    replace p202:=eq_true p202
                    replace q202:=eq_true q202
                    have p203:0≤(x13_3:Int):=dT (z1_)
                    have q203:x13_3<(y195.length:Int):=dT (z1_)
                    obtain ⟨ad203,e203,hx203_0,hx203_1⟩:=at_T77 (Kd.R_reads' HO_0.out).2.2 x13_3 p203 q203
                    obtain rfl:(⟨go10,0,none⟩:Addr)=ad203:=(by injection e203)
                    (first | simp only [add_plain] at hx203_0 | simp only [add_at] at hx203_0 | simp only [Addr.add,Nat.zero_add] at hx203_0 | skip)
                    (first | simp only [add_plain] at hx203_1 | simp only [add_at] at hx203_1 | simp only [Addr.add,Nat.zero_add] at hx203_1 | skip)
                    replace p203:=eq_true p203
                    replace q203:=eq_true q203
                    have p43:0≤(x13_3:Int):=dT (z1_)
                    have q43:(x13_3:Int)<((y195.length:Int):Int):=dT (z1_)
                    obtain ⟨ce43,hcl43,hM43,hcc43,hfr43⟩:=Kd.R_elem HO_0.out z77 (x13_3:Int) p43 q43
                    obtain rfl:=k77_openM hM43
                    have hx43_0:World.cell? _ ⟨go10,(x13_3:Int).toNat*2,none⟩=some (.int .i64 ((rd_T77 y195 x13_3).f0)):=hcc43 0 _ rfl
                    have hx43_1:World.cell? _ ⟨go10,(x13_3:Int).toNat*2+1,none⟩=some (.int .i64 ((rd_T77 y195 x13_3).f1)):=hcc43 1 _ rfl
                    have hf43_0:World.frozen? _ ⟨go10,(x13_3:Int).toNat*2,none⟩=false:=hfr43 0
                    have hf43_1:World.frozen? _ ⟨go10,(x13_3:Int).toNat*2+1,none⟩=false:=hfr43 1
                    clear hcl43 hcc43 hfr43 hM43
                    replace p43:=eq_true p43
                    replace q43:=eq_true q43
                    obtain ⟨ce46,hcl46,hM46,hcc46,hfr46⟩:=Kd.R_elem HO_0.out z77 (x13_3:Int) (dT (z1_)) (z33_ HO_0.out)
                    obtain rfl:=k77_openM hM46
                    have HP46:=(Kd.R_seg HO_0.out (x13_3:Int) (dT (z1_)) (z33_ HO_0.out) (seg:=[.int .i64 ((rd_T77 y195 a1).f0),.int .i64 ((rd_T77 y195 a1).f1)]) (j:=0) hcl46 hcc46 (show 2≤2 from by decide) (x':=(⟨(rd_T77 y195 a1).f0,(rd_T77 y195 a1).f1⟩:S77)) (k77_mkM _ _ _ (⟨(rd_T77 y195 a1).f0,(rd_T77 y195 a1).f1⟩:S77) ) (fun _ hk=>hk)).1
                    rw [← Ny204.out] at HP46
                    have HQ46:=aM HP46
                    clear hcl46 hcc46 hfr46 hM46 HP46
                    have p44:0≤(a1:Int):=dT (z1_)
                    have q44:(a1:Int)<((y195.length:Int):Int):=dT (z1_)
                    obtain ⟨ce44,hcl44,hM44,hcc44,hfr44⟩:=Kd.R_elem HQ46.out z77 (a1:Int) p44 q44
                    obtain rfl:=k77_openM hM44
                    have hx44_0:World.cell? _ ⟨go10,(a1:Int).toNat*2,none⟩=some (.int .i64 ((rd_T77 y204 a1).f0)):=hcc44 0 _ rfl
                    have hx44_1:World.cell? _ ⟨go10,(a1:Int).toNat*2+1,none⟩=some (.int .i64 ((rd_T77 y204 a1).f1)):=hcc44 1 _ rfl
                    have hf44_0:World.frozen? _ ⟨go10,(a1:Int).toNat*2,none⟩=false:=hfr44 0
                    have hf44_1:World.frozen? _ ⟨go10,(a1:Int).toNat*2+1,none⟩=false:=hfr44 1
                    clear hcl44 hcc44 hfr44 hM44
                    replace p44:=eq_true p44
                    replace q44:=eq_true q44
                    obtain ⟨ce47,hcl47,hM47,hcc47,hfr47⟩:=Kd.R_elem HQ46.out z77 (a1:Int) (dT (z1_)) (by have h_:(a1:Int)<((y195.length:Int):Int):=dT (by first | (with_reducible assumption) | assumption);first | exact h_ | (have e_:=(Kd.R_reads' HO_0.out).1;omega) | simpa using h_)
                    obtain rfl:=k77_openM hM47
                    have HP47:=(Kd.R_seg HQ46.out (a1:Int) (dT (z1_)) (by have h_:(a1:Int)<((y195.length:Int):Int):=dT (by first | (with_reducible assumption) | assumption);first | exact h_ | (have e_:=(Kd.R_reads' HO_0.out).1;omega) | simpa using h_) (seg:=[.int .i64 ((rd_T77 y195 x13_3).f0),.int .i64 ((rd_T77 y195 x13_3).f1)]) (j:=0) hcl47 hcc47 (show 2≤2 from by decide) (x':=(⟨(rd_T77 y195 x13_3).f0,(rd_T77 y195 x13_3).f1⟩:S77)) (k77_mkM _ _ _ (⟨(rd_T77 y195 x13_3).f0,(rd_T77 y195 x13_3).f1⟩:S77) ) (fun _ hk=>hk)).1
                    rw [← Ny205.out] at HP47
                    have HQ47:=aM HP47
                    clear hcl47 hcc47 hfr47 hM47 HP47
                    refine start_ (n:=16) (S:=fun w'=>w'.cell? ⟨go10,(a1).toNat*2,none⟩=some (.int .i64 ((rd_T77 y195 a1).f0))∧w'.cell? ⟨go10,(a1).toNat*2+1,none⟩=some (.int .i64 ((rd_T77 y195 a1).f1))∧w'.cell? ⟨go10,(x13_3).toNat*2,none⟩=some (.int .i64 ((rd_T77 y195 x13_3).f0))∧w'.cell? ⟨go10,(x13_3).toNat*2+1,none⟩=some (.int .i64 ((rd_T77 y195 x13_3).f1))) (ds:=[13,15]) Y0.q0 (by kernel_rfl) rfl rfl ⟨hx202_0,hx202_1,hx203_0,hx203_1⟩ (fun hHeld=>?_);refine with_tabW Y0.tab8 Y0.bits8 (fun HT_ HW_=>?_)
                    generalize wc.drew=w45 at HO_0 HK HB HQ46 HQ47 hf43_0 hf43_1 hf44_0 hf44_1 hx202_0 hx202_1 hx203_0 hx203_1 hx43_0 hx43_1 hx44_0 hx44_1 hHeld ⊢
                    have hz44_0:(w45.setCell ⟨go10,(x13_3:Int).toNat*2,none⟩ (.int .i64 ((rd_T77 y195 a1).f0))).cell? ⟨go10,(a1:Int).toNat*2,none⟩=some (.int .i64 ((rd_T77 y204 a1).f0)):=by have h_:=hx44_0;exact ((show ((w45.setCell ⟨go10,(x13_3:Int).toNat*2,none⟩ (.int .i64 ((rd_T77 y195 a1).f0))).setCell ⟨go10,(x13_3:Int).toNat*2+1,none⟩ (.int .i64 ((rd_T77 y195 a1).f1))).cell? ⟨go10,(a1:Int).toNat*2,none⟩=(w45.setCell ⟨go10,(x13_3:Int).toNat*2,none⟩ (.int .i64 ((rd_T77 y195 a1).f0))).cell? ⟨go10,(a1:Int).toNat*2,none⟩ from World.cell?_setCell_other _ _ _ _ (by intro e_;injection e_ with e1_ e2_;omega)).symm.trans h_)
                    have hy44_0:w45.frozen? ⟨go10,(a1:Int).toNat*2,none⟩=false:=by have h_:=hf44_0;first | exact h_ | simpa only [World.frozen?_setCell] using h_ | simpa [World.setCells] using h_
                    have hz44_1:((w45.setCell ⟨go10,(x13_3:Int).toNat*2,none⟩ (.int .i64 ((rd_T77 y195 a1).f0))).setCell ⟨go10,(x13_3:Int).toNat*2+1,none⟩ (.int .i64 ((rd_T77 y195 a1).f1))).cell? ⟨go10,(a1:Int).toNat*2+1,none⟩=some (.int .i64 ((rd_T77 y204 a1).f1)):=by have h_:=hx44_1;exact h_
                    have hy44_1:w45.frozen? ⟨go10,(a1:Int).toNat*2+1,none⟩=false:=by have h_:=hf44_1;first | exact h_ | simpa only [World.frozen?_setCell] using h_ | simpa [World.setCells] using h_
                    refine pu_ 0 72 Y0.q1 HT_.out ?_
                    refine pu_ 1 73 Y0.q2 HT_.out ?_
                    refine pu_ 2 74 Y0.q3 HT_.out ?_
                    refine pu_ 3 75 Y0.q4 HT_.out ?_
                    refine pu_ 4 76 Y0.q5 HT_.out ?_
                    refine pu_ 5 77 Y0.q6 HT_.out ?_
                    refine pu_ 6 78 Y0.q7 HT_.out ?_
                    refine pu_ 8 80 Y0.q8 HT_.out ?_
                    refine pu_ 9 81 Y0.q9 HT_.out ?_
                    refine pu_ 10 82 Y0.q10 HT_.out ?_
                    refine tk4_ 7 79 Y0.q11 HT_.out HW_.out hHeld ?_
                    refine tk4_ 11 83 Y0.q12 HT_.out HW_.out hHeld ?_
                    refine pu_ 12 84 Y0.q13 HT_.out ?_
                    refine last_ (i:=13) (N:=none) Y0.q14 rfl rfl (one_of HT_.out (by kernel_rfl)) (by decide) (fun K hK=>?_)
                    refine skip_ (w1:=?_) (by rfl) rfl ?_ ?_
                    rotate_left
                    ·go_simp
                     rfl
                    refine hK.out _ _ ?_
                    clear hK K
                    refine pu_ 14 85 Y0.q15 HT_.out ?_
                    refine last_ (i:=15) (N:=none) Y0.q16 rfl rfl (one_of HT_.out (by kernel_rfl)) (by decide) (fun K hK=>?_)
                    refine skip_ (w1:=?_) (by rfl) rfl ?_ ?_
                    rotate_left
                    ·go_simp
                     rfl
                    refine hK.out _ _ ?_
                    clear hK K
                    refine done_ (done_of HT_.out (by kernel_rfl)) ?_
                    try go_wp2
                    go_ret2
                    exact ⟨z9_,(by first | exact (by (with_reducible repeat (first | apply Kd.R_alloc | apply Kd.R_drewN | apply Kd.R_drew));exact HQ47.out) | (simp only [hl0_1];exact (by (with_reducible repeat (first | apply Kd.R_alloc | apply Kd.R_drewN | apply Kd.R_drew));exact HQ47.out))),z28_ HB.out GB10.out,z27_ HK.out HMgo10.out⟩
                   ·rw [if_neg c42] at H
                    exact nO H
                  ·rw [if_neg c41] at H
                   exact nO H
                 ·rw [if_neg c40] at H
                  exact nO H
                ·rw [if_neg c39] at H
                 exact nO H
               ·rw [if_neg c38] at H
                have c38b0:decide (x13_3<x12_1)=false:=dF c38
                clear c38
                by_cases c48:0≤x13_3
                ·rw [if_pos c48] at H
                 have c48b0:decide (0≤x13_3)=true:=dE c48
                 clear c48
                 by_cases c49:x13_3<(y195.length:Int)
                 ·rw [if_pos c49] at H
                  have c49b0:decide (x13_3<(y195.length:Int))=true:=dE c49
                  clear c49
                  by_cases c50:0≤x12_1
                  ·rw [if_pos c50] at H
                   have c50b0:decide (0≤x12_1)=true:=dE c50
                   clear c50
                   by_cases c51:x12_1<(y195.length:Int)
                   ·rw [if_pos c51] at H
                    have c51b0:decide (x12_1<(y195.length:Int))=true:=dE c51
                    clear c51
                    obtain ⟨y208,hy208⟩:∃ y_:List (S77),y_=(y195.set (x12_1:Int).toNat (⟨(rd_T77 y195 x13_3).f0,(rd_T77 y195 x13_3).f1⟩:S77)):=⟨_,rfl⟩
                    replace H:(Y0.l2 kj26 (y208.set (x13_3:Int).toNat (⟨(rd_T77 y195 x12_1).f0,(rd_T77 y195 x12_1).f1⟩:S77)) a1 (wrap64 (x12_1+1)) (wrap64 (x13_3-1)))=some (r1,r2,r3):=by first | (rw [hy208];with_reducible exact H) | (have H2_:=(Option.bind_some _ _).symm.trans H;rw [hy208];with_reducible exact H2_) | (have H2_:=(Option.bind_some _ _).symm.trans H;with_reducible exact H2_) | with_reducible exact H | (rw [hy208];exact H) | exact H
                    have Ny208:=aM hy208
                    clear hy208
                    obtain ⟨y209,hy209⟩:∃ y_:List (S77),y_=(y208.set (x13_3:Int).toNat (⟨(rd_T77 y195 x12_1).f0,(rd_T77 y195 x12_1).f1⟩:S77)):=⟨_,rfl⟩
                    replace H:(Y0.l2 kj26 y209 a1 (wrap64 (x12_1+1)) (wrap64 (x13_3-1)))=some (r1,r2,r3):=by first | (rw [hy209];with_reducible exact H) | (have H2_:=(Option.bind_some _ _).symm.trans H;rw [hy209];with_reducible exact H2_) | (have H2_:=(Option.bind_some _ _).symm.trans H;with_reducible exact H2_) | with_reducible exact H | (rw [hy209];exact H) | exact H
                    have Ny209:=aM hy209
                    clear hy209
                    have H':=aM H
                    clear H
                    try go_wp2
                    have n0_:=aM (Kd.R_drew HO_0.out)
                    have n1_:=aM (Kept.drew HK.out)
                    have n2_:=aM (below_drew1 HB.out)
                    clear HO_0
                    clear HK
                    clear HB
                    have HO_0:=n0_
                    have HK:=n1_
                    have HB:=n2_
                    clear n0_ n1_ n2_
                    have p206:0≤(x13_3:Int):=dT (z1_)
                    have q206:x13_3<(y195.length:Int):=dT (z1_)
                    obtain ⟨ad206,e206,hx206_0,hx206_1⟩:=at_T77 (Kd.R_reads' HO_0.out).2.2 x13_3 p206 q206
                    obtain rfl:(⟨go10,0,none⟩:Addr)=ad206:=(by injection e206)
                    (first | simp only [add_plain] at hx206_0 | simp only [add_at] at hx206_0 | simp only [Addr.add,Nat.zero_add] at hx206_0 | skip)
                    (first | simp only [add_plain] at hx206_1 | simp only [add_at] at hx206_1 | simp only [Addr.add,Nat.zero_add] at hx206_1 | skip)
                    replace p206:=eq_true p206
                    replace q206:=eq_true q206
                    have p207:0≤(x12_1:Int):=dT (z1_)
                    have q207:x12_1<(y195.length:Int):=dT (z1_)
                    obtain ⟨ad207,e207,hx207_0,hx207_1⟩:=at_T77 (Kd.R_reads' HO_0.out).2.2 x12_1 p207 q207
                    obtain rfl:(⟨go10,0,none⟩:Addr)=ad207:=(by injection e207)
                    (first | simp only [add_plain] at hx207_0 | simp only [add_at] at hx207_0 | simp only [Addr.add,Nat.zero_add] at hx207_0 | skip)
                    (first | simp only [add_plain] at hx207_1 | simp only [add_at] at hx207_1 | simp only [Addr.add,Nat.zero_add] at hx207_1 | skip)
                    replace p207:=eq_true p207
                    replace q207:=eq_true q207
                    have p52:0≤(x12_1:Int):=dT (z1_)
                    have q52:(x12_1:Int)<((y195.length:Int):Int):=dT (z1_)
                    obtain ⟨ce52,hcl52,hM52,hcc52,hfr52⟩:=Kd.R_elem HO_0.out z77 (x12_1:Int) p52 q52
                    obtain rfl:=k77_openM hM52
                    have hx52_0:World.cell? _ ⟨go10,(x12_1:Int).toNat*2,none⟩=some (.int .i64 ((rd_T77 y195 x12_1).f0)):=hcc52 0 _ rfl
                    have hx52_1:World.cell? _ ⟨go10,(x12_1:Int).toNat*2+1,none⟩=some (.int .i64 ((rd_T77 y195 x12_1).f1)):=hcc52 1 _ rfl
                    have hf52_0:World.frozen? _ ⟨go10,(x12_1:Int).toNat*2,none⟩=false:=hfr52 0
                    have hf52_1:World.frozen? _ ⟨go10,(x12_1:Int).toNat*2+1,none⟩=false:=hfr52 1
                    clear hcl52 hcc52 hfr52 hM52
                    replace p52:=eq_true p52
                    replace q52:=eq_true q52
                    obtain ⟨ce55,hcl55,hM55,hcc55,hfr55⟩:=Kd.R_elem HO_0.out z77 (x12_1:Int) (dT (z1_)) (by have h_:(x12_1:Int)<((y195.length:Int):Int):=dT (by first | (with_reducible assumption) | assumption);first | exact h_ | (have e_:=(Kd.R_reads' HO_0.out).1;omega) | simpa using h_)
                    obtain rfl:=k77_openM hM55
                    have HP55:=(Kd.R_seg HO_0.out (x12_1:Int) (dT (z1_)) (by have h_:(x12_1:Int)<((y195.length:Int):Int):=dT (by first | (with_reducible assumption) | assumption);first | exact h_ | (have e_:=(Kd.R_reads' HO_0.out).1;omega) | simpa using h_) (seg:=[.int .i64 ((rd_T77 y195 x13_3).f0),.int .i64 ((rd_T77 y195 x13_3).f1)]) (j:=0) hcl55 hcc55 (show 2≤2 from by decide) (x':=(⟨(rd_T77 y195 x13_3).f0,(rd_T77 y195 x13_3).f1⟩:S77)) (k77_mkM _ _ _ (⟨(rd_T77 y195 x13_3).f0,(rd_T77 y195 x13_3).f1⟩:S77) ) (fun _ hk=>hk)).1
                    rw [← Ny208.out] at HP55
                    have HQ55:=aM HP55
                    clear hcl55 hcc55 hfr55 hM55 HP55
                    have p53:0≤(x13_3:Int):=dT (z1_)
                    have q53:(x13_3:Int)<((y195.length:Int):Int):=dT (z1_)
                    obtain ⟨ce53,hcl53,hM53,hcc53,hfr53⟩:=Kd.R_elem HQ55.out z77 (x13_3:Int) p53 q53
                    obtain rfl:=k77_openM hM53
                    have hx53_0:World.cell? _ ⟨go10,(x13_3:Int).toNat*2,none⟩=some (.int .i64 ((rd_T77 y208 x13_3).f0)):=hcc53 0 _ rfl
                    have hx53_1:World.cell? _ ⟨go10,(x13_3:Int).toNat*2+1,none⟩=some (.int .i64 ((rd_T77 y208 x13_3).f1)):=hcc53 1 _ rfl
                    have hf53_0:World.frozen? _ ⟨go10,(x13_3:Int).toNat*2,none⟩=false:=hfr53 0
                    have hf53_1:World.frozen? _ ⟨go10,(x13_3:Int).toNat*2+1,none⟩=false:=hfr53 1
                    clear hcl53 hcc53 hfr53 hM53
                    replace p53:=eq_true p53
                    replace q53:=eq_true q53
                    obtain ⟨ce56,hcl56,hM56,hcc56,hfr56⟩:=Kd.R_elem HQ55.out z77 (x13_3:Int) (dT (z1_)) (z33_ HO_0.out)
                    obtain rfl:=k77_openM hM56
                    have HP56:=(Kd.R_seg HQ55.out (x13_3:Int) (dT (z1_)) (z33_ HO_0.out) (seg:=[.int .i64 ((rd_T77 y195 x12_1).f0),.int .i64 ((rd_T77 y195 x12_1).f1)]) (j:=0) hcl56 hcc56 (show 2≤2 from by decide) (x':=(⟨(rd_T77 y195 x12_1).f0,(rd_T77 y195 x12_1).f1⟩:S77)) (k77_mkM _ _ _ (⟨(rd_T77 y195 x12_1).f0,(rd_T77 y195 x12_1).f1⟩:S77) ) (fun _ hk=>hk)).1
                    rw [← Ny209.out] at HP56
                    have HQ56:=aM HP56
                    clear hcl56 hcc56 hfr56 hM56 HP56
                    refine start_ (n:=16) (S:=fun w'=>w'.cell? ⟨go10,(x13_3).toNat*2,none⟩=some (.int .i64 ((rd_T77 y195 x13_3).f0))∧w'.cell? ⟨go10,(x13_3).toNat*2+1,none⟩=some (.int .i64 ((rd_T77 y195 x13_3).f1))∧w'.cell? ⟨go10,(x12_1).toNat*2,none⟩=some (.int .i64 ((rd_T77 y195 x12_1).f0))∧w'.cell? ⟨go10,(x12_1).toNat*2+1,none⟩=some (.int .i64 ((rd_T77 y195 x12_1).f1))) (ds:=[13,15]) Y0.q0 (by kernel_rfl) rfl rfl ⟨hx206_0,hx206_1,hx207_0,hx207_1⟩ (fun hHeld=>?_);refine with_tabW Y0.tab10 Y0.bits10 (fun HT_ HW_=>?_)
                    generalize wc.drew=w54 at HO_0 HK HB HQ55 HQ56 hf52_0 hf52_1 hf53_0 hf53_1 hx206_0 hx206_1 hx207_0 hx207_1 hx52_0 hx52_1 hx53_0 hx53_1 hHeld ⊢
                    have hz53_0:(w54.setCell ⟨go10,(x12_1:Int).toNat*2,none⟩ (.int .i64 ((rd_T77 y195 x13_3).f0))).cell? ⟨go10,(x13_3:Int).toNat*2,none⟩=some (.int .i64 ((rd_T77 y208 x13_3).f0)):=by have h_:=hx53_0;exact ((show ((w54.setCell ⟨go10,(x12_1:Int).toNat*2,none⟩ (.int .i64 ((rd_T77 y195 x13_3).f0))).setCell ⟨go10,(x12_1:Int).toNat*2+1,none⟩ (.int .i64 ((rd_T77 y195 x13_3).f1))).cell? ⟨go10,(x13_3:Int).toNat*2,none⟩=(w54.setCell ⟨go10,(x12_1:Int).toNat*2,none⟩ (.int .i64 ((rd_T77 y195 x13_3).f0))).cell? ⟨go10,(x13_3:Int).toNat*2,none⟩ from World.cell?_setCell_other _ _ _ _ (by intro e_;injection e_ with e1_ e2_;omega)).symm.trans h_)
                    have hy53_0:w54.frozen? ⟨go10,(x13_3:Int).toNat*2,none⟩=false:=by have h_:=hf53_0;first | exact h_ | simpa only [World.frozen?_setCell] using h_ | simpa [World.setCells] using h_
                    have hz53_1:((w54.setCell ⟨go10,(x12_1:Int).toNat*2,none⟩ (.int .i64 ((rd_T77 y195 x13_3).f0))).setCell ⟨go10,(x12_1:Int).toNat*2+1,none⟩ (.int .i64 ((rd_T77 y195 x13_3).f1))).cell? ⟨go10,(x13_3:Int).toNat*2+1,none⟩=some (.int .i64 ((rd_T77 y208 x13_3).f1)):=by have h_:=hx53_1;exact h_
                    have hy53_1:w54.frozen? ⟨go10,(x13_3:Int).toNat*2+1,none⟩=false:=by have h_:=hf53_1;first | exact h_ | simpa only [World.frozen?_setCell] using h_ | simpa [World.setCells] using h_
                    refine pu_ 0 87 Y0.q1 HT_.out ?_
                    refine pu_ 1 88 Y0.q2 HT_.out ?_
                    refine pu_ 2 89 Y0.q3 HT_.out ?_
                    refine pu_ 3 90 Y0.q4 HT_.out ?_
                    refine pu_ 4 91 Y0.q5 HT_.out ?_
                    refine pu_ 5 92 Y0.q6 HT_.out ?_
                    refine pu_ 6 93 Y0.q7 HT_.out ?_
                    refine pu_ 8 95 Y0.q8 HT_.out ?_
                    refine pu_ 9 96 Y0.q9 HT_.out ?_
                    refine pu_ 10 97 Y0.q10 HT_.out ?_
                    refine tk4_ 7 94 Y0.q11 HT_.out HW_.out hHeld ?_
                    refine tk4_ 11 98 Y0.q12 HT_.out HW_.out hHeld ?_
                    refine pu_ 12 99 Y0.q13 HT_.out ?_
                    refine last_ (i:=13) (N:=none) Y0.q14 rfl rfl (one_of HT_.out (by kernel_rfl)) (by decide) (fun K hK=>?_)
                    refine skip_ (w1:=?_) (by rfl) rfl ?_ ?_
                    rotate_left
                    ·go_simp
                     rfl
                    refine hK.out _ _ ?_
                    clear hK K
                    refine pu_ 14 100 Y0.q15 HT_.out ?_
                    refine last_ (i:=15) (N:=none) Y0.q16 rfl rfl (one_of HT_.out (by kernel_rfl)) (by decide) (fun K hK=>?_)
                    refine skip_ (w1:=?_) (by rfl) rfl ?_ ?_
                    rotate_left
                    ·go_simp
                     rfl
                    refine hK.out _ _ ?_
                    clear hK K
                    refine done_ (done_of HT_.out (by kernel_rfl)) ?_
                    try go_wp2
                    go_loopg [12,13] kj26 (fun kq v12 v13 w'=>∃ (x0_5:List (S77)) (x12_5:Int) (x13_5:Int),v12 = .int .i64 x12_5∧v13 = .int .i64 x13_5∧Aside0 (Y0.l2 kq x0_5 a1 x12_5 x13_5=some (r1,r2,r3))∧Aside0 (kq≤kj26)∧Aside0 (Kd.R k77 77 w' w0.heap.size (fun k_=>(P0_ k_∨w.heap.size≤k_)) (.slice (some ⟨go10,0,none⟩) y195.length co13) x0_5)∧Aside0 (Kept w w' (fun k_=>P0_ k_))∧Aside0 (Below w0.heap.size w0 w'))
                    case atStart=>exact ⟨(y209),(wrap64 (x12_1+1)),(wrap64 (x13_3-1)),(z0_),(z0_),H',⟨Nat.le_refl _⟩,⟨z24_ HQ56.out⟩,⟨z27_ HK.out HMgo10.out⟩,⟨z28_ HB.out GB10.out⟩⟩
                    case round=>as_aux_lemma =>
                     clear H'
                     try clear c1
                     try clear p1
                     try clear q1
                     try clear hx1
                     try clear c2
                     try clear p2
                     try clear q2
                     try clear hx2
                     try clear c3
                     try clear c4
                     try clear p4
                     try clear q4
                     try clear hx4
                     try clear c5
                     try clear p5
                     try clear q5
                     try clear hx5
                     try clear hf5
                     try clear c6
                     try clear c6b0
                     try clear p6
                     try clear c7
                     try clear c7b0
                     try clear c8
                     try clear c8b0
                     try clear c9
                     try clear c9b0
                     try clear c10
                     try clear p10
                     try clear q10
                     try clear hx10
                     try clear hf10
                     try clear c11
                     try clear p11
                     try clear q11
                     try clear hx11
                     try clear hf11
                     try clear c14
                     try clear c15
                     try clear c17
                     try clear c17b0
                     try clear c18
                     try clear c18b0
                     try clear c19
                     try clear c19b0
                     try clear p19
                     try clear q19
                     try clear hx19
                     try clear c20
                     try clear c20b0
                     try clear p20
                     try clear q20
                     try clear hx20
                     try clear c21
                     try clear c21b0
                     try clear c26
                     try clear c28
                     try clear c28b0
                     try clear c29
                     try clear c29b0
                     try clear c30
                     try clear c30b0
                     try clear c31
                     try clear c31b0
                     try clear c32
                     try clear c32b0
                     try clear c37
                     try clear c38
                     try clear c38b0
                     try clear c39
                     try clear c39b0
                     try clear c40
                     try clear c40b0
                     try clear c41
                     try clear c41b0
                     try clear c42
                     try clear c42b0
                     try clear c43
                     try clear p43
                     try clear q43
                     try clear hx43
                     try clear hf43
                     try clear c44
                     try clear p44
                     try clear q44
                     try clear hx44
                     try clear hf44
                     try clear c46
                     try clear c47
                     try clear c48
                     try clear c48b0
                     try clear c49
                     try clear c49b0
                     try clear c50
                     try clear c50b0
                     try clear c51
                     try clear c51b0
                     try clear c52
                     try clear p52
                     try clear q52
                     try clear hx52
                     try clear hf52
                     try clear c53
                     try clear p53
                     try clear q53
                     try clear hx53
                     try clear hf53
                     try clear c55
                     try clear c56
                     try clear hx10_0
                     try clear hx10_1
                     try clear hx11_0
                     try clear hx11_1
                     try clear hx192_0
                     try clear hx192_1
                     try clear hx193_0
                     try clear hx193_1
                     try clear hx196_0
                     try clear hx196_1
                     try clear hx197_0
                     try clear hx197_1
                     try clear hx199_0
                     try clear hx199_1
                     try clear hx200_0
                     try clear hx200_1
                     try clear hx202_0
                     try clear hx202_1
                     try clear hx203_0
                     try clear hx203_1
                     try clear hx206_0
                     try clear hx206_1
                     try clear hx207_0
                     try clear hx207_1
                     try clear hx43_0
                     try clear hx43_1
                     try clear hx44_0
                     try clear hx44_1
                     try clear hx52_0
                     try clear hx52_1
                     try clear hx53_0
                     try clear hx53_1
                     try clear p1
                     try clear p10
                     try clear p11
                     try clear p19
                     try clear p192
                     try clear p193
                     try clear p196
                     try clear p197
                     try clear p199
                     try clear p2
                     try clear p20
                     try clear p200
                     try clear p202
                     try clear p203
                     try clear p206
                     try clear p207
                     try clear p43
                     try clear p44
                     try clear p52
                     try clear p53
                     try clear p6
                     try clear q1
                     try clear q10
                     try clear q11
                     try clear q19
                     try clear q192
                     try clear q193
                     try clear q196
                     try clear q197
                     try clear q199
                     try clear q2
                     try clear q20
                     try clear q200
                     try clear q202
                     try clear q203
                     try clear q206
                     try clear q207
                     try clear q43
                     try clear q44
                     try clear q52
                     try clear q53
                     obtain ⟨x0_5,x12_5,x13_5,rfl,rfl,HA,HK5,HO_0,HK,HB⟩:=hrel
                     have hl0_5:=(Kd.R_reads' HO_0.out).1
                     rw [hl0_5] at HO_0
                     (try simp only [hl0_5])
                     cases gk with
                     | zero=>exact absurd HA.out (by simp [Y0.l2])
                     | succ k5 =>
                      have H:=HA.out
                      clear HA
                      simp only [Y0.l2] at H
                      have H':=aM H
                      clear H
                      go_wp2
                      go_loopg [12] k5 (fun kq v12 w'=>∃ (x12_6:Int),v12 = .int .i64 x12_6∧Aside0 (Y0.l3 kq x0_5 a1 x12_6 x13_5=some (r1,r2,r3))∧Aside0 (kq≤k5)∧Aside0 (Kd.R k77 77 w' w0.heap.size (fun k_=>(P0_ k_∨w.heap.size≤k_)) (.slice (some ⟨go10,0,none⟩) x0_5.length co13) x0_5)∧Aside0 (Kept w w' (fun k_=>P0_ k_))∧Aside0 (Below w0.heap.size w0 w'))
                      case atStart=>exact ⟨(x12_5),(z0_),H',⟨Nat.le_refl _⟩,⟨z20_ HO_0.out⟩,⟨z5_ HK.out⟩,⟨z3_ HB.out⟩⟩
                      case round=>as_aux_lemma =>
                       clear H'
                       try clear c1
                       try clear p1
                       try clear q1
                       try clear hx1
                       try clear c2
                       try clear p2
                       try clear q2
                       try clear hx2
                       try clear c3
                       try clear c4
                       try clear p4
                       try clear q4
                       try clear hx4
                       try clear c5
                       try clear p5
                       try clear q5
                       try clear hx5
                       try clear hf5
                       try clear c6
                       try clear c6b0
                       try clear p6
                       try clear c7
                       try clear c7b0
                       try clear c8
                       try clear c8b0
                       try clear c9
                       try clear c9b0
                       try clear c10
                       try clear p10
                       try clear q10
                       try clear hx10
                       try clear hf10
                       try clear c11
                       try clear p11
                       try clear q11
                       try clear hx11
                       try clear hf11
                       try clear c14
                       try clear c15
                       try clear c17
                       try clear c17b0
                       try clear c18
                       try clear c18b0
                       try clear c19
                       try clear c19b0
                       try clear p19
                       try clear q19
                       try clear hx19
                       try clear c20
                       try clear c20b0
                       try clear p20
                       try clear q20
                       try clear hx20
                       try clear c21
                       try clear c21b0
                       try clear c26
                       try clear c28
                       try clear c28b0
                       try clear c29
                       try clear c29b0
                       try clear c30
                       try clear c30b0
                       try clear c31
                       try clear c31b0
                       try clear c32
                       try clear c32b0
                       try clear c37
                       try clear c38
                       try clear c38b0
                       try clear c39
                       try clear c39b0
                       try clear c40
                       try clear c40b0
                       try clear c41
                       try clear c41b0
                       try clear c42
                       try clear c42b0
                       try clear c43
                       try clear p43
                       try clear q43
                       try clear hx43
                       try clear hf43
                       try clear c44
                       try clear p44
                       try clear q44
                       try clear hx44
                       try clear hf44
                       try clear c46
                       try clear c47
                       try clear c48
                       try clear c48b0
                       try clear c49
                       try clear c49b0
                       try clear c50
                       try clear c50b0
                       try clear c51
                       try clear c51b0
                       try clear c52
                       try clear p52
                       try clear q52
                       try clear hx52
                       try clear hf52
                       try clear c53
                       try clear p53
                       try clear q53
                       try clear hx53
                       try clear hf53
                       try clear c55
                       try clear c56
                       try clear hx10_0
                       try clear hx10_1
                       try clear hx11_0
                       try clear hx11_1
                       try clear hx192_0
                       try clear hx192_1
                       try clear hx193_0
                       try clear hx193_1
                       try clear hx196_0
                       try clear hx196_1
                       try clear hx197_0
                       try clear hx197_1
                       try clear hx199_0
                       try clear hx199_1
                       try clear hx200_0
                       try clear hx200_1
                       try clear hx202_0
                       try clear hx202_1
                       try clear hx203_0
                       try clear hx203_1
                       try clear hx206_0
                       try clear hx206_1
                       try clear hx207_0
                       try clear hx207_1
                       try clear hx43_0
                       try clear hx43_1
                       try clear hx44_0
                       try clear hx44_1
                       try clear hx52_0
                       try clear hx52_1
                       try clear hx53_0
                       try clear hx53_1
                       try clear p1
                       try clear p10
                       try clear p11
                       try clear p19
                       try clear p192
                       try clear p193
                       try clear p196
                       try clear p197
                       try clear p199
                       try clear p2
                       try clear p20
                       try clear p200
                       try clear p202
                       try clear p203
                       try clear p206
                       try clear p207
                       try clear p4
                       try clear p43
                       try clear p44
                       try clear p5
                       try clear p52
                       try clear p53
                       try clear p6
                       try clear q1
                       try clear q10
                       try clear q11
                       try clear q19
                       try clear q192
                       try clear q193
                       try clear q196
                       try clear q197
                       try clear q199
                       try clear q2
                       try clear q20
                       try clear q200
                       try clear q202
                       try clear q203
                       try clear q206
                       try clear q207
                       try clear q4
                       try clear q43
                       try clear q44
                       try clear q5
                       try clear q52
                       try clear q53
                       obtain ⟨x12_6,rfl,HA,HK6,HO_0,HK,HB⟩:=hrel
                       cases gk with
                       | zero=>exact absurd HA.out (by simp [Y0.l3])
                       | succ k6 =>
                        have H:=HA.out
                        clear HA
                        simp only [Y0.l3] at H
                        have HC57:=aM H
                        clear H
                        go_upto_region 13 with (fail)
                        go_cut [120] (fun v120 wc=>∃ (kq:Nat) (x120_56:Bool),v120 = .bool x120_56∧Aside0 (Y0.j6 kq x0_5 a1 x12_6 x13_5 x120_56=some (r1,r2,r3))∧Aside0 (kq≤k6)∧Aside0 (Kd.R k77 77 wc w0.heap.size (fun k_=>(P0_ k_∨w.heap.size≤k_)) (.slice (some ⟨go10,0,none⟩) x0_5.length co13) x0_5)∧Aside0 (Kept w wc (fun k_=>P0_ k_))∧Aside0 (Below w0.heap.size w0 wc))
                        case first=>as_aux_lemma =>
                         have H:=HC57.out
                         clear HC57
                         by_cases c58:x12_6≤x13_5
                         ·rw [if_pos c58] at H
                          have c58b0:decide (x12_6≤x13_5)=true:=dE c58
                          clear c58
                          (first | rw [c58b0] | (simp only [i64_w,i32_w];rw [c58b0]) | skip)
                          by_cases c59:0≤x12_6
                          ·rw [if_pos c59] at H
                           have c59b0:decide (0≤x12_6)=true:=dE c59
                           clear c59
                           by_cases c60:x12_6<(x0_5.length:Int)
                           ·rw [if_pos c60] at H
                            have c60b0:decide (x12_6<(x0_5.length:Int))=true:=dE c60
                            clear c60
                            by_cases c61:0≤a1
                            ·rw [if_pos c61] at H
                             have c61b0:decide (0≤a1)=true:=dE c61
                             clear c61
                             by_cases c62:a1<(x0_5.length:Int)
                             ·rw [if_pos c62] at H
                              have c62b0:decide (a1<(x0_5.length:Int))=true:=dE c62
                              clear c62
                              replace H:=bS H
                              obtain ⟨t212,A630,H⟩:=H
                              replace H:(Y0.j6 k6 x0_5 a1 x12_6 x13_5 (decide (t212<0)))=some (r1,r2,r3):=H
                              have A63:=aM A630
                              clear A630
                              have H':=aM H
                              clear H
                              try go_wp2
                              have n0_:=aM (Kd.R_drew HO_0.out)
                              have n1_:=aM (Kept.drew HK.out)
                              have n2_:=aM (below_drew1 HB.out)
                              clear HO_0
                              clear HK
                              clear HB
                              have HO_0:=n0_
                              have HK:=n1_
                              have HB:=n2_
                              clear n0_ n1_ n2_
                              have p210:0≤(x12_6:Int):=dT (z1_)
                              have q210:x12_6<(x0_5.length:Int):=dT (z1_)
                              obtain ⟨ad210,e210,hx210_0,hx210_1⟩:=at_T77 (Kd.R_reads' HO_0.out).2.2 x12_6 p210 q210
                              obtain rfl:(⟨go10,0,none⟩:Addr)=ad210:=(by injection e210)
                              (first | simp only [add_plain] at hx210_0 | simp only [add_at] at hx210_0 | simp only [Addr.add,Nat.zero_add] at hx210_0 | skip)
                              (first | simp only [add_plain] at hx210_1 | simp only [add_at] at hx210_1 | simp only [Addr.add,Nat.zero_add] at hx210_1 | skip)
                              replace p210:=eq_true p210
                              replace q210:=eq_true q210
                              have p211:0≤(a1:Int):=dT (z1_)
                              have q211:a1<(x0_5.length:Int):=dT (z1_)
                              obtain ⟨ad211,e211,hx211_0,hx211_1⟩:=at_T77 (Kd.R_reads' HO_0.out).2.2 a1 p211 q211
                              obtain rfl:(⟨go10,0,none⟩:Addr)=ad211:=(by injection e211)
                              (first | simp only [add_plain] at hx211_0 | simp only [add_at] at hx211_0 | simp only [Addr.add,Nat.zero_add] at hx211_0 | skip)
                              (first | simp only [add_plain] at hx211_1 | simp only [add_at] at hx211_1 | simp only [Addr.add,Nat.zero_add] at hx211_1 | skip)
                              replace p211:=eq_true p211
                              replace q211:=eq_true q211
                              refine start_ (n:=16) (S:=fun w'=>w'.cell? ⟨go10,(x12_6).toNat*2,none⟩=some (.int .i64 ((rd_T77 x0_5 x12_6).f0))∧w'.cell? ⟨go10,(x12_6).toNat*2+1,none⟩=some (.int .i64 ((rd_T77 x0_5 x12_6).f1))∧w'.cell? ⟨go10,(a1).toNat*2,none⟩=some (.int .i64 ((rd_T77 x0_5 a1).f0))∧w'.cell? ⟨go10,(a1).toNat*2+1,none⟩=some (.int .i64 ((rd_T77 x0_5 a1).f1))) (ds:=[]) Y0.q0 (by kernel_rfl) rfl rfl ⟨hx210_0,hx210_1,hx211_0,hx211_1⟩ (fun hHeld=>?_);refine with_tabW Y0.tab13 Y0.bits13 (fun HT_ HW_=>?_)
                              generalize wr.drew=w64 at HO_0 HK HB hx210_0 hx210_1 hx211_0 hx211_1 hHeld ⊢
                              refine pu_ 0 105 Y0.q1 HT_.out ?_
                              refine pu_ 1 106 Y0.q2 HT_.out ?_
                              refine pu_ 2 107 Y0.q3 HT_.out ?_
                              refine pu_ 3 108 Y0.q4 HT_.out ?_
                              refine pu_ 4 109 Y0.q5 HT_.out ?_
                              refine pu_ 5 110 Y0.q6 HT_.out ?_
                              refine pu_ 6 111 Y0.q7 HT_.out ?_
                              refine pu_ 7 112 Y0.q17 HT_.out ?_
                              refine pu_ 9 114 Y0.q18 HT_.out ?_
                              refine pu_ 10 115 Y0.q19 HT_.out ?_
                              refine pu_ 11 116 Y0.q20 HT_.out ?_
                              refine tk4_ 8 113 Y0.q12 HT_.out HW_.out hHeld ?_
                              refine tk4_ 12 117 Y0.q13 HT_.out HW_.out hHeld ?_
                              refine o1_ 13 118 Y0.q14 HT_.out (fun K hK=>?_)
                              refine goesD_ Tryd.func78 (by kernel_rfl) rfl #[.agg #[.int .i64 ((rd_T77 x0_5 x12_6).f0),.int .i64 ((rd_T77 x0_5 x12_6).f1)],.agg #[.int .i64 ((rd_T77 x0_5 a1).f0),.int .i64 ((rd_T77 x0_5 a1).f1)]] (by rfl) rfl rfl (by rfl) (z29_) ?_
                              with_reducible refine (Y14.calls k6 ((rd_T77 x0_5 x12_6).f0) ((rd_T77 x0_5 x12_6).f1) ((rd_T77 x0_5 a1).f0) ((rd_T77 x0_5 a1).f1) t212 _ A63.out).mono ?_
                              rintro e w65 ⟨rfl,hb⟩
                              have HS0_:=(hb.cell (World.block_lt_of_cell? _ _ (hHeld.1))).trans (hHeld.1)
                              have HS1_:=(hb.cell (World.block_lt_of_cell? _ _ (hHeld.2.1))).trans (hHeld.2.1)
                              have HS2_:=(hb.cell (World.block_lt_of_cell? _ _ (hHeld.2.2.1))).trans (hHeld.2.2.1)
                              have HS3_:=(hb.cell (World.block_lt_of_cell? _ _ (hHeld.2.2.2))).trans (hHeld.2.2.2)
                              refine ⟨_,rfl,?_⟩
                              have n0_:=aM (Kd.R_below (z2_ HO_0.out) hb)
                              have n1_:=aM (Kept.below (S:=(fun k_=>P0_ k_)) (z5_ HK.out) hb)
                              have n2_:=aM (below_step (z3_ HB.out) hb)
                              clear HO_0
                              clear HK
                              clear HB
                              have HO_0:=n0_
                              have HK:=n1_
                              have HB:=n2_
                              clear n0_ n1_ n2_
                              (try clear hb)
                              refine hK.out _ _ ⟨HS0_,HS1_,HS2_,HS3_⟩ (fun hHeld=>?_)
                              clear hK K
                              refine nm_ 118 ?_
                              refine pu_ 14 119 Y0.q15 HT_.out ?_
                              refine pu_ 15 120 Y0.q16 HT_.out ?_
                              refine done_ (done_of HT_.out (by kernel_rfl)) ?_
                              try go_wp2
                              go_meet
                              case rel=>exact ⟨_,(decide (t212<0)),(z0_),H',⟨by have:=HK1.out;have:=HJ15.out;have:=HK3.out;have:=HJ26.out;have:=HK5.out;have:=HK6.out;first | omega | exact Nat.le_refl _⟩,⟨z20_ HO_0.out⟩,⟨z5_ HK.out⟩,⟨z3_ HB.out⟩⟩
                             ·rw [if_neg c62] at H
                              exact nO H
                            ·rw [if_neg c61] at H
                             exact nO H
                           ·rw [if_neg c60] at H
                            exact nO H
                          ·rw [if_neg c59] at H
                           exact nO H
                         ·rw [if_neg c58] at H
                          have c58b0:decide (x12_6≤x13_5)=false:=dF c58
                          clear c58
                          (first | rw [c58b0] | (simp only [i64_w,i32_w];rw [c58b0]) | skip)
                          have H':=aM H
                          clear H
                          try go_wp2
                          have n0_:=aM (Kd.R_drew HO_0.out)
                          have n1_:=aM (Kept.drew HK.out)
                          have n2_:=aM (below_drew1 HB.out)
                          clear HO_0
                          clear HK
                          clear HB
                          have HO_0:=n0_
                          have HK:=n1_
                          have HB:=n2_
                          clear n0_ n1_ n2_
                          refine start_ (n:=16) (S:=fun w'=>True) (ds:=[]) Y0.q0 (by kernel_rfl) rfl rfl trivial (fun hHeld=>?_);refine with_tabW Y0.tab13 Y0.bits13 (fun HT_ HW_=>?_)
                          generalize wr.drew=w66 at HO_0 HK HB hHeld ⊢
                          refine pu_ 0 105 Y0.q1 HT_.out ?_
                          refine pu_ 1 106 Y0.q2 HT_.out ?_
                          refine pu_ 2 107 Y0.q3 HT_.out ?_
                          refine pu_ 3 108 Y0.q4 HT_.out ?_
                          refine pn_ 4 109 Y0.q5 HT_.out ?_
                          refine pn_ 5 110 Y0.q6 HT_.out ?_
                          refine pn_ 6 111 Y0.q7 HT_.out ?_
                          refine pn_ 7 112 Y0.q17 HT_.out ?_
                          refine pn_ 8 113 Y0.q21 HT_.out ?_
                          refine pn_ 9 114 Y0.q22 HT_.out ?_
                          refine pn_ 10 115 Y0.q11 HT_.out ?_
                          refine pn_ 11 116 Y0.q12 HT_.out ?_
                          refine pn_ 12 117 Y0.q13 HT_.out ?_
                          refine pn_ 13 118 Y0.q14 HT_.out ?_
                          refine pn_ 14 119 Y0.q15 HT_.out ?_
                          refine pu_ 15 120 Y0.q16 HT_.out ?_
                          refine done_ (done_of HT_.out (by kernel_rfl)) ?_
                          try go_wp2
                          go_meet
                          case rel=>exact ⟨_,(false),(z0_),H',⟨by have:=HK1.out;have:=HJ15.out;have:=HK3.out;have:=HJ26.out;have:=HK5.out;have:=HK6.out;first | omega | exact Nat.le_refl _⟩,⟨z20_ HO_0.out⟩,⟨z5_ HK.out⟩,⟨z3_ HB.out⟩⟩
                        case rest=>as_aux_lemma =>
                         clear HC57
                         try clear c1
                         try clear p1
                         try clear q1
                         try clear hx1
                         try clear c2
                         try clear p2
                         try clear q2
                         try clear hx2
                         try clear c3
                         try clear c4
                         try clear p4
                         try clear q4
                         try clear hx4
                         try clear c5
                         try clear p5
                         try clear q5
                         try clear hx5
                         try clear hf5
                         try clear c6
                         try clear c6b0
                         try clear p6
                         try clear c7
                         try clear c7b0
                         try clear c8
                         try clear c8b0
                         try clear c9
                         try clear c9b0
                         try clear c10
                         try clear p10
                         try clear q10
                         try clear hx10
                         try clear hf10
                         try clear c11
                         try clear p11
                         try clear q11
                         try clear hx11
                         try clear hf11
                         try clear c14
                         try clear c15
                         try clear c17
                         try clear c17b0
                         try clear c18
                         try clear c18b0
                         try clear c19
                         try clear c19b0
                         try clear p19
                         try clear q19
                         try clear hx19
                         try clear c20
                         try clear c20b0
                         try clear p20
                         try clear q20
                         try clear hx20
                         try clear c21
                         try clear c21b0
                         try clear p21
                         try clear q21
                         try clear hx21
                         try clear c26
                         try clear c28
                         try clear c28b0
                         try clear c29
                         try clear c29b0
                         try clear c30
                         try clear c30b0
                         try clear c31
                         try clear c31b0
                         try clear c32
                         try clear c32b0
                         try clear c37
                         try clear c38
                         try clear c38b0
                         try clear c39
                         try clear c39b0
                         try clear c40
                         try clear c40b0
                         try clear c41
                         try clear c41b0
                         try clear c42
                         try clear c42b0
                         try clear c43
                         try clear p43
                         try clear q43
                         try clear hx43
                         try clear hf43
                         try clear c44
                         try clear p44
                         try clear q44
                         try clear hx44
                         try clear hf44
                         try clear c46
                         try clear c47
                         try clear c48
                         try clear c48b0
                         try clear c49
                         try clear c49b0
                         try clear c50
                         try clear c50b0
                         try clear c51
                         try clear c51b0
                         try clear c52
                         try clear p52
                         try clear q52
                         try clear hx52
                         try clear hf52
                         try clear c53
                         try clear p53
                         try clear q53
                         try clear hx53
                         try clear hf53
                         try clear c55
                         try clear c56
                         try clear c58
                         try clear c58b0
                         try clear c59
                         try clear c59b0
                         try clear c60
                         try clear c60b0
                         try clear c61
                         try clear c61b0
                         try clear c62
                         try clear c62b0
                         try clear hx10_0
                         try clear hx10_1
                         try clear hx11_0
                         try clear hx11_1
                         try clear hx192_0
                         try clear hx192_1
                         try clear hx193_0
                         try clear hx193_1
                         try clear hx196_0
                         try clear hx196_1
                         try clear hx197_0
                         try clear hx197_1
                         try clear hx199_0
                         try clear hx199_1
                         try clear hx200_0
                         try clear hx200_1
                         try clear hx202_0
                         try clear hx202_1
                         try clear hx203_0
                         try clear hx203_1
                         try clear hx206_0
                         try clear hx206_1
                         try clear hx207_0
                         try clear hx207_1
                         try clear hx210_0
                         try clear hx210_1
                         try clear hx211_0
                         try clear hx211_1
                         try clear hx43_0
                         try clear hx43_1
                         try clear hx44_0
                         try clear hx44_1
                         try clear hx52_0
                         try clear hx52_1
                         try clear hx53_0
                         try clear hx53_1
                         try clear p1
                         try clear p10
                         try clear p11
                         try clear p19
                         try clear p192
                         try clear p193
                         try clear p196
                         try clear p197
                         try clear p199
                         try clear p2
                         try clear p20
                         try clear p200
                         try clear p202
                         try clear p203
                         try clear p206
                         try clear p207
                         try clear p210
                         try clear p211
                         try clear p4
                         try clear p43
                         try clear p44
                         try clear p5
                         try clear p52
                         try clear p53
                         try clear p6
                         try clear q1
                         try clear q10
                         try clear q11
                         try clear q19
                         try clear q192
                         try clear q193
                         try clear q196
                         try clear q197
                         try clear q199
                         try clear q2
                         try clear q20
                         try clear q200
                         try clear q202
                         try clear q203
                         try clear q206
                         try clear q207
                         try clear q210
                         try clear q211
                         try clear q4
                         try clear q43
                         try clear q44
                         try clear q5
                         try clear q52
                         try clear q53
                         obtain ⟨kq,x120_56,rfl,HA,HJ56,HO_0,HK,HB⟩:=hcut
                         cases kq with
                         | zero=>exact absurd HA.out (by simp [Y0.j6])
                         | succ kj56 =>
                          have H:=HA.out
                          clear HA
                          simp only [Y0.j6] at H
                          by_cases c67:x120_56=true
                          ·subst c67
                           have H1:(Y0.l3 kj56 x0_5 a1 (wrap64 (x12_6+1)) x13_5)=some (r1,r2,r3):=by rw [if_pos rfl] at H;exact H
                           clear H
                           have H:=H1
                           clear H1
                           have H':=aM H
                           clear H
                           go_wp2
                           go_roundg kj56
                           case measure=>have:=HK1.out;have:=HJ15.out;have:=HK3.out;have:=HJ26.out;have:=HK5.out;have:=HK6.out;have:=HJ56.out;omega
                           case rel=>exact ⟨(wrap64 (x12_6+1)),(z0_),H',⟨by have:=HK1.out;have:=HJ15.out;have:=HK3.out;have:=HJ26.out;have:=HK5.out;have:=HK6.out;have:=HJ56.out;omega⟩,⟨z20_ HO_0.out⟩,⟨z5_ HK.out⟩,⟨z3_ HB.out⟩⟩
                          ·replace c67:=Bool.eq_false_iff.mpr c67
                           subst c67
                           have H1:(Y0.l4 kj56 x0_5 a1 x12_6 x13_5)=some (r1,r2,r3):=by rw [if_neg (show ¬ (false=true) by decide)] at H;exact H
                           clear H
                           have H:=H1
                           clear H1
                           have H':=aM H
                           clear H
                           go_wp2
                           go_loopg [13] kj56 (fun kq v13 w'=>∃ (x13_8:Int),v13 = .int .i64 x13_8∧Aside0 (Y0.l4 kq x0_5 a1 x12_6 x13_8=some (r1,r2,r3))∧Aside0 (kq≤kj56)∧Aside0 (Kd.R k77 77 w' w0.heap.size (fun k_=>(P0_ k_∨w.heap.size≤k_)) (.slice (some ⟨go10,0,none⟩) x0_5.length co13) x0_5)∧Aside0 (Kept w w' (fun k_=>P0_ k_))∧Aside0 (Below w0.heap.size w0 w'))
                           case atStart=>exact ⟨(x13_5),(z0_),H',⟨Nat.le_refl _⟩,⟨z20_ HO_0.out⟩,⟨z5_ HK.out⟩,⟨z3_ HB.out⟩⟩
                           case round=>as_aux_lemma =>
                            clear H'
                            try clear c1
                            try clear p1
                            try clear q1
                            try clear hx1
                            try clear c2
                            try clear p2
                            try clear q2
                            try clear hx2
                            try clear c3
                            try clear c4
                            try clear p4
                            try clear q4
                            try clear hx4
                            try clear c5
                            try clear p5
                            try clear q5
                            try clear hx5
                            try clear hf5
                            try clear c6
                            try clear c6b0
                            try clear p6
                            try clear c7
                            try clear c7b0
                            try clear c8
                            try clear c8b0
                            try clear c9
                            try clear c9b0
                            try clear c10
                            try clear p10
                            try clear q10
                            try clear hx10
                            try clear hf10
                            try clear c11
                            try clear p11
                            try clear q11
                            try clear hx11
                            try clear hf11
                            try clear c14
                            try clear c15
                            try clear c17
                            try clear c17b0
                            try clear c18
                            try clear c18b0
                            try clear c19
                            try clear c19b0
                            try clear p19
                            try clear q19
                            try clear hx19
                            try clear c20
                            try clear c20b0
                            try clear p20
                            try clear q20
                            try clear hx20
                            try clear c21
                            try clear c21b0
                            try clear p21
                            try clear q21
                            try clear hx21
                            try clear c26
                            try clear c28
                            try clear c28b0
                            try clear c29
                            try clear c29b0
                            try clear c30
                            try clear c30b0
                            try clear c31
                            try clear c31b0
                            try clear c32
                            try clear c32b0
                            try clear c37
                            try clear c38
                            try clear c38b0
                            try clear c39
                            try clear c39b0
                            try clear c40
                            try clear c40b0
                            try clear c41
                            try clear c41b0
                            try clear c42
                            try clear c42b0
                            try clear c43
                            try clear p43
                            try clear q43
                            try clear hx43
                            try clear hf43
                            try clear c44
                            try clear p44
                            try clear q44
                            try clear hx44
                            try clear hf44
                            try clear c46
                            try clear c47
                            try clear c48
                            try clear c48b0
                            try clear c49
                            try clear c49b0
                            try clear c50
                            try clear c50b0
                            try clear c51
                            try clear c51b0
                            try clear c52
                            try clear p52
                            try clear q52
                            try clear hx52
                            try clear hf52
                            try clear c53
                            try clear p53
                            try clear q53
                            try clear hx53
                            try clear hf53
                            try clear c55
                            try clear c56
                            try clear c58
                            try clear c58b0
                            try clear c59
                            try clear c59b0
                            try clear c60
                            try clear c60b0
                            try clear c61
                            try clear c61b0
                            try clear c62
                            try clear c62b0
                            try clear p64
                            try clear c67
                            try clear hx10_0
                            try clear hx10_1
                            try clear hx11_0
                            try clear hx11_1
                            try clear hx192_0
                            try clear hx192_1
                            try clear hx193_0
                            try clear hx193_1
                            try clear hx196_0
                            try clear hx196_1
                            try clear hx197_0
                            try clear hx197_1
                            try clear hx199_0
                            try clear hx199_1
                            try clear hx200_0
                            try clear hx200_1
                            try clear hx202_0
                            try clear hx202_1
                            try clear hx203_0
                            try clear hx203_1
                            try clear hx206_0
                            try clear hx206_1
                            try clear hx207_0
                            try clear hx207_1
                            try clear hx210_0
                            try clear hx210_1
                            try clear hx211_0
                            try clear hx211_1
                            try clear hx43_0
                            try clear hx43_1
                            try clear hx44_0
                            try clear hx44_1
                            try clear hx52_0
                            try clear hx52_1
                            try clear hx53_0
                            try clear hx53_1
                            try clear p1
                            try clear p10
                            try clear p11
                            try clear p19
                            try clear p192
                            try clear p193
                            try clear p196
                            try clear p197
                            try clear p199
                            try clear p2
                            try clear p20
                            try clear p200
                            try clear p202
                            try clear p203
                            try clear p206
                            try clear p207
                            try clear p21
                            try clear p210
                            try clear p211
                            try clear p4
                            try clear p43
                            try clear p44
                            try clear p5
                            try clear p52
                            try clear p53
                            try clear p6
                            try clear q1
                            try clear q10
                            try clear q11
                            try clear q19
                            try clear q192
                            try clear q193
                            try clear q196
                            try clear q197
                            try clear q199
                            try clear q2
                            try clear q20
                            try clear q200
                            try clear q202
                            try clear q203
                            try clear q206
                            try clear q207
                            try clear q21
                            try clear q210
                            try clear q211
                            try clear q4
                            try clear q43
                            try clear q44
                            try clear q5
                            try clear q52
                            try clear q53
                            obtain ⟨x13_8,rfl,HA,HK8,HO_0,HK,HB⟩:=hrel
                            cases gk with
                            | zero=>exact absurd HA.out (by simp [Y0.l4])
                            | succ k8 =>
                             have H:=HA.out
                             clear HA
                             simp only [Y0.l4] at H
                             have HC68:=aM H
                             clear H
                             go_upto_region 15 with (fail)
                             go_cut [139] (fun v139 wc=>∃ (kq:Nat) (x139_67:Bool),v139 = .bool x139_67∧Aside0 (Y0.j8 kq x0_5 a1 x12_6 x13_8 x139_67=some (r1,r2,r3))∧Aside0 (kq≤k8)∧Aside0 (Kd.R k77 77 wc w0.heap.size (fun k_=>(P0_ k_∨w.heap.size≤k_)) (.slice (some ⟨go10,0,none⟩) x0_5.length co13) x0_5)∧Aside0 (Kept w wc (fun k_=>P0_ k_))∧Aside0 (Below w0.heap.size w0 wc))
                             case first=>as_aux_lemma =>
                              have H:=HC68.out
                              clear HC68
                              by_cases c69:x12_6≤x13_8
                              ·rw [if_pos c69] at H
                               have c69b0:decide (x12_6≤x13_8)=true:=dE c69
                               clear c69
                               (first | rw [c69b0] | (simp only [i64_w,i32_w];rw [c69b0]) | skip)
                               by_cases c70:0≤x13_8
                               ·rw [if_pos c70] at H
                                have c70b0:decide (0≤x13_8)=true:=dE c70
                                clear c70
                                by_cases c71:x13_8<(x0_5.length:Int)
                                ·rw [if_pos c71] at H
                                 have c71b0:decide (x13_8<(x0_5.length:Int))=true:=dE c71
                                 clear c71
                                 by_cases c72:0≤a1
                                 ·rw [if_pos c72] at H
                                  have c72b0:decide (0≤a1)=true:=dE c72
                                  clear c72
                                  by_cases c73:a1<(x0_5.length:Int)
                                  ·rw [if_pos c73] at H
                                   have c73b0:decide (a1<(x0_5.length:Int))=true:=dE c73
                                   clear c73
                                   replace H:=bS H
                                   obtain ⟨t215,A740,H⟩:=H
                                   replace H:(Y0.j8 k8 x0_5 a1 x12_6 x13_8 (!(decide (t215<0))))=some (r1,r2,r3):=H
                                   have A74:=aM A740
                                   clear A740
                                   have H':=aM H
                                   clear H
                                   try go_wp2
                                   have n0_:=aM (Kd.R_drew HO_0.out)
                                   have n1_:=aM (Kept.drew HK.out)
                                   have n2_:=aM (below_drew1 HB.out)
                                   clear HO_0
                                   clear HK
                                   clear HB
                                   have HO_0:=n0_
                                   have HK:=n1_
                                   have HB:=n2_
                                   clear n0_ n1_ n2_
                                   have p213:0≤(x13_8:Int):=dT (z1_)
                                   have q213:x13_8<(x0_5.length:Int):=dT (z1_)
                                   obtain ⟨ad213,e213,hx213_0,hx213_1⟩:=at_T77 (Kd.R_reads' HO_0.out).2.2 x13_8 p213 q213
                                   obtain rfl:(⟨go10,0,none⟩:Addr)=ad213:=(by injection e213)
                                   (first | simp only [add_plain] at hx213_0 | simp only [add_at] at hx213_0 | simp only [Addr.add,Nat.zero_add] at hx213_0 | skip)
                                   (first | simp only [add_plain] at hx213_1 | simp only [add_at] at hx213_1 | simp only [Addr.add,Nat.zero_add] at hx213_1 | skip)
                                   replace p213:=eq_true p213
                                   replace q213:=eq_true q213
                                   have p214:0≤(a1:Int):=dT (z1_)
                                   have q214:a1<(x0_5.length:Int):=dT (z1_)
                                   obtain ⟨ad214,e214,hx214_0,hx214_1⟩:=at_T77 (Kd.R_reads' HO_0.out).2.2 a1 p214 q214
                                   obtain rfl:(⟨go10,0,none⟩:Addr)=ad214:=(by injection e214)
                                   (first | simp only [add_plain] at hx214_0 | simp only [add_at] at hx214_0 | simp only [Addr.add,Nat.zero_add] at hx214_0 | skip)
                                   (first | simp only [add_plain] at hx214_1 | simp only [add_at] at hx214_1 | simp only [Addr.add,Nat.zero_add] at hx214_1 | skip)
                                   replace p214:=eq_true p214
                                   replace q214:=eq_true q214
                                   refine start_ (n:=17) (S:=fun w'=>w'.cell? ⟨go10,(x13_8).toNat*2,none⟩=some (.int .i64 ((rd_T77 x0_5 x13_8).f0))∧w'.cell? ⟨go10,(x13_8).toNat*2+1,none⟩=some (.int .i64 ((rd_T77 x0_5 x13_8).f1))∧w'.cell? ⟨go10,(a1).toNat*2,none⟩=some (.int .i64 ((rd_T77 x0_5 a1).f0))∧w'.cell? ⟨go10,(a1).toNat*2+1,none⟩=some (.int .i64 ((rd_T77 x0_5 a1).f1))) (ds:=[]) Y0.q23 (by kernel_rfl) rfl rfl ⟨hx213_0,hx213_1,hx214_0,hx214_1⟩ (fun hHeld=>?_);refine with_tabW Y0.tab15 Y0.bits15 (fun HT_ HW_=>?_)
                                   generalize wr.drew=w75 at HO_0 HK HB hx213_0 hx213_1 hx214_0 hx214_1 hHeld ⊢
                                   refine pu_ 0 123 Y0.q24 HT_.out ?_
                                   refine pu_ 1 124 Y0.q25 HT_.out ?_
                                   refine pu_ 2 125 Y0.q26 HT_.out ?_
                                   refine pu_ 3 126 Y0.q27 HT_.out ?_
                                   refine pu_ 4 127 Y0.q28 HT_.out ?_
                                   refine pu_ 5 128 Y0.q29 HT_.out ?_
                                   refine pu_ 6 129 Y0.q30 HT_.out ?_
                                   refine pu_ 7 130 Y0.q31 HT_.out ?_
                                   refine pu_ 9 132 Y0.q32 HT_.out ?_
                                   refine pu_ 10 133 Y0.q33 HT_.out ?_
                                   refine pu_ 11 134 Y0.q34 HT_.out ?_
                                   refine tk4_ 8 131 Y0.q35 HT_.out HW_.out hHeld ?_
                                   refine tk4_ 12 135 Y0.q36 HT_.out HW_.out hHeld ?_
                                   refine o1_ 13 136 Y0.q37 HT_.out (fun K hK=>?_)
                                   refine goesD_ Tryd.func78 (by kernel_rfl) rfl #[.agg #[.int .i64 ((rd_T77 x0_5 x13_8).f0),.int .i64 ((rd_T77 x0_5 x13_8).f1)],.agg #[.int .i64 ((rd_T77 x0_5 a1).f0),.int .i64 ((rd_T77 x0_5 a1).f1)]] (by rfl) rfl rfl (by rfl) (z29_) ?_
                                   with_reducible refine (Y14.calls k8 ((rd_T77 x0_5 x13_8).f0) ((rd_T77 x0_5 x13_8).f1) ((rd_T77 x0_5 a1).f0) ((rd_T77 x0_5 a1).f1) t215 _ A74.out).mono ?_
                                   rintro e w76 ⟨rfl,hb⟩
                                   have HS0_:=(hb.cell (World.block_lt_of_cell? _ _ (hHeld.1))).trans (hHeld.1)
                                   have HS1_:=(hb.cell (World.block_lt_of_cell? _ _ (hHeld.2.1))).trans (hHeld.2.1)
                                   have HS2_:=(hb.cell (World.block_lt_of_cell? _ _ (hHeld.2.2.1))).trans (hHeld.2.2.1)
                                   have HS3_:=(hb.cell (World.block_lt_of_cell? _ _ (hHeld.2.2.2))).trans (hHeld.2.2.2)
                                   refine ⟨_,rfl,?_⟩
                                   have n0_:=aM (Kd.R_below (z2_ HO_0.out) hb)
                                   have n1_:=aM (Kept.below (S:=(fun k_=>P0_ k_)) (z5_ HK.out) hb)
                                   have n2_:=aM (below_step (z3_ HB.out) hb)
                                   clear HO_0
                                   clear HK
                                   clear HB
                                   have HO_0:=n0_
                                   have HK:=n1_
                                   have HB:=n2_
                                   clear n0_ n1_ n2_
                                   (try clear hb)
                                   refine hK.out _ _ ⟨HS0_,HS1_,HS2_,HS3_⟩ (fun hHeld=>?_)
                                   clear hK K
                                   refine nm_ 136 ?_
                                   refine pu_ 14 137 Y0.q38 HT_.out ?_
                                   refine pu_ 15 138 Y0.q39 HT_.out ?_
                                   refine pu_ 16 139 Y0.q40 HT_.out ?_
                                   refine done_ (done_of HT_.out (by kernel_rfl)) ?_
                                   try go_wp2
                                   go_meet
                                   case rel=>exact ⟨_,(!(decide (t215<0))),(z0_),H',⟨by have:=HK1.out;have:=HJ15.out;have:=HK3.out;have:=HJ26.out;have:=HK5.out;have:=HK6.out;have:=HJ56.out;have:=HK8.out;first | omega | exact Nat.le_refl _⟩,⟨z20_ HO_0.out⟩,⟨z5_ HK.out⟩,⟨z3_ HB.out⟩⟩
                                  ·rw [if_neg c73] at H
                                   exact nO H
                                 ·rw [if_neg c72] at H
                                  exact nO H
                                ·rw [if_neg c71] at H
                                 exact nO H
                               ·rw [if_neg c70] at H
                                exact nO H
                              ·rw [if_neg c69] at H
                               have c69b0:decide (x12_6≤x13_8)=false:=dF c69
                               clear c69
                               (first | rw [c69b0] | (simp only [i64_w,i32_w];rw [c69b0]) | skip)
                               have H':=aM H
                               clear H
                               try go_wp2
                               have n0_:=aM (Kd.R_drew HO_0.out)
                               have n1_:=aM (Kept.drew HK.out)
                               have n2_:=aM (below_drew1 HB.out)
                               clear HO_0
                               clear HK
                               clear HB
                               have HO_0:=n0_
                               have HK:=n1_
                               have HB:=n2_
                               clear n0_ n1_ n2_
                               refine start_ (n:=17) (S:=fun w'=>True) (ds:=[]) Y0.q23 (by kernel_rfl) rfl rfl trivial (fun hHeld=>?_);refine with_tabW Y0.tab15 Y0.bits15 (fun HT_ HW_=>?_)
                               generalize wr.drew=w77 at HO_0 HK HB hHeld ⊢
                               refine pu_ 0 123 Y0.q24 HT_.out ?_
                               refine pu_ 1 124 Y0.q25 HT_.out ?_
                               refine pu_ 2 125 Y0.q26 HT_.out ?_
                               refine pu_ 3 126 Y0.q27 HT_.out ?_
                               refine pn_ 4 127 Y0.q28 HT_.out ?_
                               refine pn_ 5 128 Y0.q29 HT_.out ?_
                               refine pn_ 6 129 Y0.q30 HT_.out ?_
                               refine pn_ 7 130 Y0.q31 HT_.out ?_
                               refine pn_ 8 131 Y0.q41 HT_.out ?_
                               refine pn_ 9 132 Y0.q42 HT_.out ?_
                               refine pn_ 10 133 Y0.q43 HT_.out ?_
                               refine pn_ 11 134 Y0.q35 HT_.out ?_
                               refine pn_ 12 135 Y0.q36 HT_.out ?_
                               refine pn_ 13 136 Y0.q37 HT_.out ?_
                               refine pn_ 14 137 Y0.q38 HT_.out ?_
                               refine pn_ 15 138 Y0.q39 HT_.out ?_
                               refine pu_ 16 139 Y0.q40 HT_.out ?_
                               refine done_ (done_of HT_.out (by kernel_rfl)) ?_
                               try go_wp2
                               go_meet
                               case rel=>exact ⟨_,(false),(z0_),H',⟨by have:=HK1.out;have:=HJ15.out;have:=HK3.out;have:=HJ26.out;have:=HK5.out;have:=HK6.out;have:=HJ56.out;have:=HK8.out;first | omega | exact Nat.le_refl _⟩,⟨z20_ HO_0.out⟩,⟨z5_ HK.out⟩,⟨z3_ HB.out⟩⟩
                             case rest=>as_aux_lemma =>
                              clear HC68
                              try clear c1
                              try clear p1
                              try clear q1
                              try clear hx1
                              try clear c2
                              try clear p2
                              try clear q2
                              try clear hx2
                              try clear c3
                              try clear c4
                              try clear p4
                              try clear q4
                              try clear hx4
                              try clear c5
                              try clear p5
                              try clear q5
                              try clear hx5
                              try clear hf5
                              try clear c6
                              try clear c6b0
                              try clear p6
                              try clear c7
                              try clear c7b0
                              try clear c8
                              try clear c8b0
                              try clear c9
                              try clear c9b0
                              try clear c10
                              try clear p10
                              try clear q10
                              try clear hx10
                              try clear hf10
                              try clear c11
                              try clear p11
                              try clear q11
                              try clear hx11
                              try clear hf11
                              try clear c14
                              try clear c15
                              try clear c17
                              try clear c17b0
                              try clear c18
                              try clear c18b0
                              try clear c19
                              try clear c19b0
                              try clear p19
                              try clear q19
                              try clear hx19
                              try clear c20
                              try clear c20b0
                              try clear p20
                              try clear q20
                              try clear hx20
                              try clear c21
                              try clear c21b0
                              try clear p21
                              try clear q21
                              try clear hx21
                              try clear c26
                              try clear c28
                              try clear c28b0
                              try clear c29
                              try clear c29b0
                              try clear c30
                              try clear c30b0
                              try clear c31
                              try clear c31b0
                              try clear c32
                              try clear c32b0
                              try clear c37
                              try clear c38
                              try clear c38b0
                              try clear c39
                              try clear c39b0
                              try clear c40
                              try clear c40b0
                              try clear c41
                              try clear c41b0
                              try clear c42
                              try clear c42b0
                              try clear c43
                              try clear p43
                              try clear q43
                              try clear hx43
                              try clear hf43
                              try clear c44
                              try clear p44
                              try clear q44
                              try clear hx44
                              try clear hf44
                              try clear c46
                              try clear c47
                              try clear c48
                              try clear c48b0
                              try clear c49
                              try clear c49b0
                              try clear c50
                              try clear c50b0
                              try clear c51
                              try clear c51b0
                              try clear c52
                              try clear p52
                              try clear q52
                              try clear hx52
                              try clear hf52
                              try clear c53
                              try clear p53
                              try clear q53
                              try clear hx53
                              try clear hf53
                              try clear c55
                              try clear c56
                              try clear c58
                              try clear c58b0
                              try clear c59
                              try clear c59b0
                              try clear c60
                              try clear c60b0
                              try clear c61
                              try clear c61b0
                              try clear c62
                              try clear c62b0
                              try clear p64
                              try clear c67
                              try clear c69
                              try clear c69b0
                              try clear c70
                              try clear c70b0
                              try clear c71
                              try clear c71b0
                              try clear c72
                              try clear c72b0
                              try clear c73
                              try clear c73b0
                              try clear hx10_0
                              try clear hx10_1
                              try clear hx11_0
                              try clear hx11_1
                              try clear hx192_0
                              try clear hx192_1
                              try clear hx193_0
                              try clear hx193_1
                              try clear hx196_0
                              try clear hx196_1
                              try clear hx197_0
                              try clear hx197_1
                              try clear hx199_0
                              try clear hx199_1
                              try clear hx200_0
                              try clear hx200_1
                              try clear hx202_0
                              try clear hx202_1
                              try clear hx203_0
                              try clear hx203_1
                              try clear hx206_0
                              try clear hx206_1
                              try clear hx207_0
                              try clear hx207_1
                              try clear hx210_0
                              try clear hx210_1
                              try clear hx211_0
                              try clear hx211_1
                              try clear hx213_0
                              try clear hx213_1
                              try clear hx214_0
                              try clear hx214_1
                              try clear hx43_0
                              try clear hx43_1
                              try clear hx44_0
                              try clear hx44_1
                              try clear hx52_0
                              try clear hx52_1
                              try clear hx53_0
                              try clear hx53_1
                              try clear p1
                              try clear p10
                              try clear p11
                              try clear p19
                              try clear p192
                              try clear p193
                              try clear p196
                              try clear p197
                              try clear p199
                              try clear p2
                              try clear p20
                              try clear p200
                              try clear p202
                              try clear p203
                              try clear p206
                              try clear p207
                              try clear p21
                              try clear p210
                              try clear p211
                              try clear p213
                              try clear p214
                              try clear p4
                              try clear p43
                              try clear p44
                              try clear p5
                              try clear p52
                              try clear p53
                              try clear p6
                              try clear p64
                              try clear q1
                              try clear q10
                              try clear q11
                              try clear q19
                              try clear q192
                              try clear q193
                              try clear q196
                              try clear q197
                              try clear q199
                              try clear q2
                              try clear q20
                              try clear q200
                              try clear q202
                              try clear q203
                              try clear q206
                              try clear q207
                              try clear q21
                              try clear q210
                              try clear q211
                              try clear q213
                              try clear q214
                              try clear q4
                              try clear q43
                              try clear q44
                              try clear q5
                              try clear q52
                              try clear q53
                              obtain ⟨kq,x139_67,rfl,HA,HJ67,HO_0,HK,HB⟩:=hcut
                              cases kq with
                              | zero=>exact absurd HA.out (by simp [Y0.j8])
                              | succ kj67 =>
                               have H:=HA.out
                               clear HA
                               simp only [Y0.j8] at H
                               by_cases c78:x139_67=true
                               ·subst c78
                                have H1:(Y0.l4 kj67 x0_5 a1 x12_6 (wrap64 (x13_8-1)))=some (r1,r2,r3):=by rw [if_pos rfl] at H;exact H
                                clear H
                                have H:=H1
                                clear H1
                                have H':=aM H
                                clear H
                                go_wp2
                                go_roundg kj67
                                case measure=>have:=HK1.out;have:=HJ15.out;have:=HK3.out;have:=HJ26.out;have:=HK5.out;have:=HK6.out;have:=HJ56.out;have:=HK8.out;have:=HJ67.out;omega
                                case rel=>exact ⟨(wrap64 (x13_8-1)),(z0_),H',⟨by have:=HK1.out;have:=HJ15.out;have:=HK3.out;have:=HJ26.out;have:=HK5.out;have:=HK6.out;have:=HJ56.out;have:=HK8.out;have:=HJ67.out;omega⟩,⟨z20_ HO_0.out⟩,⟨z5_ HK.out⟩,⟨z3_ HB.out⟩⟩
                               ·replace c78:=Bool.eq_false_iff.mpr c78
                                subst c78
                                have H1:(if x12_6>x13_8 then (if 0≤a1 then (if a1<(x0_5.length:Int) then (if 0≤x13_8 then (if x13_8<(x0_5.length:Int) then (some (x13_8,false,((x0_5.set (x13_8:Int).toNat (⟨(rd_T77 x0_5 a1).f0,(rd_T77 x0_5 a1).f1⟩:S77)).set (a1:Int).toNat (⟨(rd_T77 x0_5 x13_8).f0,(rd_T77 x0_5 x13_8).f1⟩:S77)))) else (none)) else (none)) else (none)) else (none)) else (if 0≤x13_8 then (if x13_8<(x0_5.length:Int) then (if 0≤x12_6 then (if x12_6<(x0_5.length:Int) then (Y0.l2 kj67 ((x0_5.set (x12_6:Int).toNat (⟨(rd_T77 x0_5 x13_8).f0,(rd_T77 x0_5 x13_8).f1⟩:S77)).set (x13_8:Int).toNat (⟨(rd_T77 x0_5 x12_6).f0,(rd_T77 x0_5 x12_6).f1⟩:S77)) a1 (wrap64 (x12_6+1)) (wrap64 (x13_8-1))) else (none)) else (none)) else (none)) else (none)))=some (r1,r2,r3):=by rw [if_neg (show ¬ (false=true) by decide)] at H;exact H
                                clear H
                                have H:=H1
                                clear H1
                                by_cases c79:x12_6>x13_8
                                ·rw [if_pos c79] at H
                                 have c79b0:decide (x13_8<x12_6)=true:=dE c79
                                 clear c79
                                 by_cases c80:0≤a1
                                 ·rw [if_pos c80] at H
                                  have c80b0:decide (0≤a1)=true:=dE c80
                                  clear c80
                                  by_cases c81:a1<(x0_5.length:Int)
                                  ·rw [if_pos c81] at H
                                   have c81b0:decide (a1<(x0_5.length:Int))=true:=dE c81
                                   clear c81
                                   by_cases c82:0≤x13_8
                                   ·rw [if_pos c82] at H
                                    have c82b0:decide (0≤x13_8)=true:=dE c82
                                    clear c82
                                    by_cases c83:x13_8<(x0_5.length:Int)
                                    ·rw [if_pos c83] at H
                                     have c83b0:decide (x13_8<(x0_5.length:Int))=true:=dE c83
                                     clear c83
                                     obtain ⟨y218,hy218⟩:∃ y_:List (S77),y_=(x0_5.set (x13_8:Int).toNat (⟨(rd_T77 x0_5 a1).f0,(rd_T77 x0_5 a1).f1⟩:S77)):=⟨_,rfl⟩
                                     replace H:(some (x13_8,false,(y218.set (a1:Int).toNat (⟨(rd_T77 x0_5 x13_8).f0,(rd_T77 x0_5 x13_8).f1⟩:S77))))=some (r1,r2,r3):=by first | (rw [hy218];with_reducible exact H) | (have H2_:=(Option.bind_some _ _).symm.trans H;rw [hy218];with_reducible exact H2_) | (have H2_:=(Option.bind_some _ _).symm.trans H;with_reducible exact H2_) | with_reducible exact H | (rw [hy218];exact H) | exact H
                                     have Ny218:=aM hy218
                                     clear hy218
                                     obtain ⟨y219,hy219⟩:∃ y_:List (S77),y_=(y218.set (a1:Int).toNat (⟨(rd_T77 x0_5 x13_8).f0,(rd_T77 x0_5 x13_8).f1⟩:S77)):=⟨_,rfl⟩
                                     replace H:(some (x13_8,false,y219))=some (r1,r2,r3):=by first | (rw [hy219];with_reducible exact H) | (have H2_:=(Option.bind_some _ _).symm.trans H;rw [hy219];with_reducible exact H2_) | (have H2_:=(Option.bind_some _ _).symm.trans H;with_reducible exact H2_) | with_reducible exact H | (rw [hy219];exact H) | exact H
                                     have Ny219:=aM hy219
                                     clear hy219
                                     simp only [Option.some.injEq,Prod.mk.injEq] at H
                                     obtain ⟨rfl,rfl,rfl⟩:=H
                                     try go_wp2
                                     have n0_:=aM (Kd.R_drew HO_0.out)
                                     have n1_:=aM (Kept.drew HK.out)
                                     have n2_:=aM (below_drew1 HB.out)
                                     clear HO_0
                                     clear HK
                                     clear HB
                                     have HO_0:=n0_
                                     have HK:=n1_
                                     have HB:=n2_
                                     clear n0_ n1_ n2_
                                     have p216:0≤(a1:Int):=dT (z1_)
                                     have q216:a1<(x0_5.length:Int):=dT (z1_)
                                     obtain ⟨ad216,e216,hx216_0,hx216_1⟩:=at_T77 (Kd.R_reads' HO_0.out).2.2 a1 p216 q216
                                     obtain rfl:(⟨go10,0,none⟩:Addr)=ad216:=(by injection e216)
                                     (first | simp only [add_plain] at hx216_0 | simp only [add_at] at hx216_0 | simp only [Addr.add,Nat.zero_add] at hx216_0 | skip)
                                     (first | simp only [add_plain] at hx216_1 | simp only [add_at] at hx216_1 | simp only [Addr.add,Nat.zero_add] at hx216_1 | skip)
                                     replace p216:=eq_true p216
                                     replace q216:=eq_true q216
                                     have p217:0≤(x13_8:Int):=dT (z1_)
                                     have q217:x13_8<(x0_5.length:Int):=dT (z1_)
                                     obtain ⟨ad217,e217,hx217_0,hx217_1⟩:=at_T77 (Kd.R_reads' HO_0.out).2.2 x13_8 p217 q217
                                     obtain rfl:(⟨go10,0,none⟩:Addr)=ad217:=(by injection e217)
                                     (first | simp only [add_plain] at hx217_0 | simp only [add_at] at hx217_0 | simp only [Addr.add,Nat.zero_add] at hx217_0 | skip)
                                     (first | simp only [add_plain] at hx217_1 | simp only [add_at] at hx217_1 | simp only [Addr.add,Nat.zero_add] at hx217_1 | skip)
                                     replace p217:=eq_true p217
                                     replace q217:=eq_true q217
                                     have p84:0≤(x13_8:Int):=dT (z1_)
                                     have q84:(x13_8:Int)<((x0_5.length:Int):Int):=dT (z1_)
                                     obtain ⟨ce84,hcl84,hM84,hcc84,hfr84⟩:=Kd.R_elem HO_0.out z77 (x13_8:Int) p84 q84
                                     obtain rfl:=k77_openM hM84
                                     have hx84_0:World.cell? _ ⟨go10,(x13_8:Int).toNat*2,none⟩=some (.int .i64 ((rd_T77 x0_5 x13_8).f0)):=hcc84 0 _ rfl
                                     have hx84_1:World.cell? _ ⟨go10,(x13_8:Int).toNat*2+1,none⟩=some (.int .i64 ((rd_T77 x0_5 x13_8).f1)):=hcc84 1 _ rfl
                                     have hf84_0:World.frozen? _ ⟨go10,(x13_8:Int).toNat*2,none⟩=false:=hfr84 0
                                     have hf84_1:World.frozen? _ ⟨go10,(x13_8:Int).toNat*2+1,none⟩=false:=hfr84 1
                                     clear hcl84 hcc84 hfr84 hM84
                                     replace p84:=eq_true p84
                                     replace q84:=eq_true q84
                                     obtain ⟨ce87,hcl87,hM87,hcc87,hfr87⟩:=Kd.R_elem HO_0.out z77 (x13_8:Int) (dT (z1_)) (z34_ HO_0.out)
                                     obtain rfl:=k77_openM hM87
                                     have HP87:=(Kd.R_seg HO_0.out (x13_8:Int) (dT (z1_)) (z34_ HO_0.out) (seg:=[.int .i64 ((rd_T77 x0_5 a1).f0),.int .i64 ((rd_T77 x0_5 a1).f1)]) (j:=0) hcl87 hcc87 (show 2≤2 from by decide) (x':=(⟨(rd_T77 x0_5 a1).f0,(rd_T77 x0_5 a1).f1⟩:S77)) (k77_mkM _ _ _ (⟨(rd_T77 x0_5 a1).f0,(rd_T77 x0_5 a1).f1⟩:S77) ) (fun _ hk=>hk)).1
                                     rw [← Ny218.out] at HP87
                                     have HQ87:=aM HP87
                                     clear hcl87 hcc87 hfr87 hM87 HP87
                                     have p85:0≤(a1:Int):=dT (z1_)
                                     have q85:(a1:Int)<((x0_5.length:Int):Int):=dT (z1_)
                                     obtain ⟨ce85,hcl85,hM85,hcc85,hfr85⟩:=Kd.R_elem HQ87.out z77 (a1:Int) p85 q85
                                     obtain rfl:=k77_openM hM85
                                     have hx85_0:World.cell? _ ⟨go10,(a1:Int).toNat*2,none⟩=some (.int .i64 ((rd_T77 y218 a1).f0)):=hcc85 0 _ rfl
                                     have hx85_1:World.cell? _ ⟨go10,(a1:Int).toNat*2+1,none⟩=some (.int .i64 ((rd_T77 y218 a1).f1)):=hcc85 1 _ rfl
                                     have hf85_0:World.frozen? _ ⟨go10,(a1:Int).toNat*2,none⟩=false:=hfr85 0
                                     have hf85_1:World.frozen? _ ⟨go10,(a1:Int).toNat*2+1,none⟩=false:=hfr85 1
                                     clear hcl85 hcc85 hfr85 hM85
                                     replace p85:=eq_true p85
                                     replace q85:=eq_true q85
                                     obtain ⟨ce88,hcl88,hM88,hcc88,hfr88⟩:=Kd.R_elem HQ87.out z77 (a1:Int) (dT (z1_)) (by have h_:(a1:Int)<((x0_5.length:Int):Int):=dT (by first | (with_reducible assumption) | assumption);first | exact h_ | (have e_:=(Kd.R_reads' HO_0.out).1;omega) | simpa using h_)
                                     obtain rfl:=k77_openM hM88
                                     have HP88:=(Kd.R_seg HQ87.out (a1:Int) (dT (z1_)) (by have h_:(a1:Int)<((x0_5.length:Int):Int):=dT (by first | (with_reducible assumption) | assumption);first | exact h_ | (have e_:=(Kd.R_reads' HO_0.out).1;omega) | simpa using h_) (seg:=[.int .i64 ((rd_T77 x0_5 x13_8).f0),.int .i64 ((rd_T77 x0_5 x13_8).f1)]) (j:=0) hcl88 hcc88 (show 2≤2 from by decide) (x':=(⟨(rd_T77 x0_5 x13_8).f0,(rd_T77 x0_5 x13_8).f1⟩:S77)) (k77_mkM _ _ _ (⟨(rd_T77 x0_5 x13_8).f0,(rd_T77 x0_5 x13_8).f1⟩:S77) ) (fun _ hk=>hk)).1
                                     rw [← Ny219.out] at HP88
                                     have HQ88:=aM HP88
                                     clear hcl88 hcc88 hfr88 hM88 HP88
                                     refine start_ (n:=16) (S:=fun w'=>w'.cell? ⟨go10,(a1).toNat*2,none⟩=some (.int .i64 ((rd_T77 x0_5 a1).f0))∧w'.cell? ⟨go10,(a1).toNat*2+1,none⟩=some (.int .i64 ((rd_T77 x0_5 a1).f1))∧w'.cell? ⟨go10,(x13_8).toNat*2,none⟩=some (.int .i64 ((rd_T77 x0_5 x13_8).f0))∧w'.cell? ⟨go10,(x13_8).toNat*2+1,none⟩=some (.int .i64 ((rd_T77 x0_5 x13_8).f1))) (ds:=[13,15]) Y0.q0 (by kernel_rfl) rfl rfl ⟨hx216_0,hx216_1,hx217_0,hx217_1⟩ (fun hHeld=>?_);refine with_tabW Y0.tab21 Y0.bits21 (fun HT_ HW_=>?_)
                                     generalize wc.drew=w86 at HO_0 HK HB HQ87 HQ88 hf84_0 hf84_1 hf85_0 hf85_1 hx216_0 hx216_1 hx217_0 hx217_1 hx84_0 hx84_1 hx85_0 hx85_1 hHeld ⊢
                                     have hz85_0:(w86.setCell ⟨go10,(x13_8:Int).toNat*2,none⟩ (.int .i64 ((rd_T77 x0_5 a1).f0))).cell? ⟨go10,(a1:Int).toNat*2,none⟩=some (.int .i64 ((rd_T77 y218 a1).f0)):=by have h_:=hx85_0;exact ((show ((w86.setCell ⟨go10,(x13_8:Int).toNat*2,none⟩ (.int .i64 ((rd_T77 x0_5 a1).f0))).setCell ⟨go10,(x13_8:Int).toNat*2+1,none⟩ (.int .i64 ((rd_T77 x0_5 a1).f1))).cell? ⟨go10,(a1:Int).toNat*2,none⟩=(w86.setCell ⟨go10,(x13_8:Int).toNat*2,none⟩ (.int .i64 ((rd_T77 x0_5 a1).f0))).cell? ⟨go10,(a1:Int).toNat*2,none⟩ from World.cell?_setCell_other _ _ _ _ (by intro e_;injection e_ with e1_ e2_;omega)).symm.trans h_)
                                     have hy85_0:w86.frozen? ⟨go10,(a1:Int).toNat*2,none⟩=false:=by have h_:=hf85_0;first | exact h_ | simpa only [World.frozen?_setCell] using h_ | simpa [World.setCells] using h_
                                     have hz85_1:((w86.setCell ⟨go10,(x13_8:Int).toNat*2,none⟩ (.int .i64 ((rd_T77 x0_5 a1).f0))).setCell ⟨go10,(x13_8:Int).toNat*2+1,none⟩ (.int .i64 ((rd_T77 x0_5 a1).f1))).cell? ⟨go10,(a1:Int).toNat*2+1,none⟩=some (.int .i64 ((rd_T77 y218 a1).f1)):=by have h_:=hx85_1;exact h_
                                     have hy85_1:w86.frozen? ⟨go10,(a1:Int).toNat*2+1,none⟩=false:=by have h_:=hf85_1;first | exact h_ | simpa only [World.frozen?_setCell] using h_ | simpa [World.setCells] using h_
                                     refine pu_ 0 163 Y0.q1 HT_.out ?_
                                     refine pu_ 1 164 Y0.q2 HT_.out ?_
                                     refine pu_ 2 165 Y0.q3 HT_.out ?_
                                     refine pu_ 3 166 Y0.q4 HT_.out ?_
                                     refine pu_ 4 167 Y0.q5 HT_.out ?_
                                     refine pu_ 5 168 Y0.q6 HT_.out ?_
                                     refine pu_ 6 169 Y0.q7 HT_.out ?_
                                     refine pu_ 8 171 Y0.q8 HT_.out ?_
                                     refine pu_ 9 172 Y0.q9 HT_.out ?_
                                     refine pu_ 10 173 Y0.q10 HT_.out ?_
                                     refine tk4_ 7 170 Y0.q11 HT_.out HW_.out hHeld ?_
                                     refine tk4_ 11 174 Y0.q12 HT_.out HW_.out hHeld ?_
                                     refine pu_ 12 175 Y0.q13 HT_.out ?_
                                     refine last_ (i:=13) (N:=none) Y0.q14 rfl rfl (one_of HT_.out (by kernel_rfl)) (by decide) (fun K hK=>?_)
                                     refine skip_ (w1:=?_) (by rfl) rfl ?_ ?_
                                     rotate_left
                                     ·go_simp
                                      rfl
                                     refine hK.out _ _ ?_
                                     clear hK K
                                     refine pu_ 14 176 Y0.q15 HT_.out ?_
                                     refine last_ (i:=15) (N:=none) Y0.q16 rfl rfl (one_of HT_.out (by kernel_rfl)) (by decide) (fun K hK=>?_)
                                     refine skip_ (w1:=?_) (by rfl) rfl ?_ ?_
                                     rotate_left
                                     ·go_simp
                                      rfl
                                     refine hK.out _ _ ?_
                                     clear hK K
                                     refine done_ (done_of HT_.out (by kernel_rfl)) ?_
                                     try go_wp2
                                     go_ret2
                                     exact ⟨z9_,(by first | exact (by (with_reducible repeat (first | apply Kd.R_alloc | apply Kd.R_drewN | apply Kd.R_drew));exact HQ88.out) | (simp only [hl0_1,hl0_5];exact (by (with_reducible repeat (first | apply Kd.R_alloc | apply Kd.R_drewN | apply Kd.R_drew));exact HQ88.out))),z28_ HB.out GB10.out,z27_ HK.out HMgo10.out⟩
                                    ·rw [if_neg c83] at H
                                     exact nO H
                                   ·rw [if_neg c82] at H
                                    exact nO H
                                  ·rw [if_neg c81] at H
                                   exact nO H
                                 ·rw [if_neg c80] at H
                                  exact nO H
                                ·rw [if_neg c79] at H
                                 have c79b0:decide (x13_8<x12_6)=false:=dF c79
                                 clear c79
                                 by_cases c89:0≤x13_8
                                 ·rw [if_pos c89] at H
                                  have c89b0:decide (0≤x13_8)=true:=dE c89
                                  clear c89
                                  by_cases c90:x13_8<(x0_5.length:Int)
                                  ·rw [if_pos c90] at H
                                   have c90b0:decide (x13_8<(x0_5.length:Int))=true:=dE c90
                                   clear c90
                                   by_cases c91:0≤x12_6
                                   ·rw [if_pos c91] at H
                                    have c91b0:decide (0≤x12_6)=true:=dE c91
                                    clear c91
                                    by_cases c92:x12_6<(x0_5.length:Int)
                                    ·rw [if_pos c92] at H
                                     have c92b0:decide (x12_6<(x0_5.length:Int))=true:=dE c92
                                     clear c92
                                     obtain ⟨y222,hy222⟩:∃ y_:List (S77),y_=(x0_5.set (x12_6:Int).toNat (⟨(rd_T77 x0_5 x13_8).f0,(rd_T77 x0_5 x13_8).f1⟩:S77)):=⟨_,rfl⟩
                                     replace H:(Y0.l2 kj67 (y222.set (x13_8:Int).toNat (⟨(rd_T77 x0_5 x12_6).f0,(rd_T77 x0_5 x12_6).f1⟩:S77)) a1 (wrap64 (x12_6+1)) (wrap64 (x13_8-1)))=some (r1,r2,r3):=by first | (rw [hy222];with_reducible exact H) | (have H2_:=(Option.bind_some _ _).symm.trans H;rw [hy222];with_reducible exact H2_) | (have H2_:=(Option.bind_some _ _).symm.trans H;with_reducible exact H2_) | with_reducible exact H | (rw [hy222];exact H) | exact H
                                     have Ny222:=aM hy222
                                     clear hy222
                                     obtain ⟨y223,hy223⟩:∃ y_:List (S77),y_=(y222.set (x13_8:Int).toNat (⟨(rd_T77 x0_5 x12_6).f0,(rd_T77 x0_5 x12_6).f1⟩:S77)):=⟨_,rfl⟩
                                     replace H:(Y0.l2 kj67 y223 a1 (wrap64 (x12_6+1)) (wrap64 (x13_8-1)))=some (r1,r2,r3):=by first | (rw [hy223];with_reducible exact H) | (have H2_:=(Option.bind_some _ _).symm.trans H;rw [hy223];with_reducible exact H2_) | (have H2_:=(Option.bind_some _ _).symm.trans H;with_reducible exact H2_) | with_reducible exact H | (rw [hy223];exact H) | exact H
                                     have Ny223:=aM hy223
                                     clear hy223
                                     have H':=aM H
                                     clear H
                                     try go_wp2
                                     have n0_:=aM (Kd.R_drew HO_0.out)
                                     have n1_:=aM (Kept.drew HK.out)
                                     have n2_:=aM (below_drew1 HB.out)
                                     clear HO_0
                                     clear HK
                                     clear HB
                                     have HO_0:=n0_
                                     have HK:=n1_
                                     have HB:=n2_
                                     clear n0_ n1_ n2_
                                     have p220:0≤(x13_8:Int):=dT (z1_)
                                     have q220:x13_8<(x0_5.length:Int):=dT (z1_)
                                     obtain ⟨ad220,e220,hx220_0,hx220_1⟩:=at_T77 (Kd.R_reads' HO_0.out).2.2 x13_8 p220 q220
                                     obtain rfl:(⟨go10,0,none⟩:Addr)=ad220:=(by injection e220)
                                     (first | simp only [add_plain] at hx220_0 | simp only [add_at] at hx220_0 | simp only [Addr.add,Nat.zero_add] at hx220_0 | skip)
                                     (first | simp only [add_plain] at hx220_1 | simp only [add_at] at hx220_1 | simp only [Addr.add,Nat.zero_add] at hx220_1 | skip)
                                     replace p220:=eq_true p220
                                     replace q220:=eq_true q220
                                     have p221:0≤(x12_6:Int):=dT (z1_)
                                     have q221:x12_6<(x0_5.length:Int):=dT (z1_)
                                     obtain ⟨ad221,e221,hx221_0,hx221_1⟩:=at_T77 (Kd.R_reads' HO_0.out).2.2 x12_6 p221 q221
                                     obtain rfl:(⟨go10,0,none⟩:Addr)=ad221:=(by injection e221)
                                     (first | simp only [add_plain] at hx221_0 | simp only [add_at] at hx221_0 | simp only [Addr.add,Nat.zero_add] at hx221_0 | skip)
                                     (first | simp only [add_plain] at hx221_1 | simp only [add_at] at hx221_1 | simp only [Addr.add,Nat.zero_add] at hx221_1 | skip)
                                     replace p221:=eq_true p221
                                     replace q221:=eq_true q221
                                     have p93:0≤(x12_6:Int):=dT (z1_)
                                     have q93:(x12_6:Int)<((x0_5.length:Int):Int):=dT (z1_)
                                     obtain ⟨ce93,hcl93,hM93,hcc93,hfr93⟩:=Kd.R_elem HO_0.out z77 (x12_6:Int) p93 q93
                                     obtain rfl:=k77_openM hM93
                                     have hx93_0:World.cell? _ ⟨go10,(x12_6:Int).toNat*2,none⟩=some (.int .i64 ((rd_T77 x0_5 x12_6).f0)):=hcc93 0 _ rfl
                                     have hx93_1:World.cell? _ ⟨go10,(x12_6:Int).toNat*2+1,none⟩=some (.int .i64 ((rd_T77 x0_5 x12_6).f1)):=hcc93 1 _ rfl
                                     have hf93_0:World.frozen? _ ⟨go10,(x12_6:Int).toNat*2,none⟩=false:=hfr93 0
                                     have hf93_1:World.frozen? _ ⟨go10,(x12_6:Int).toNat*2+1,none⟩=false:=hfr93 1
                                     clear hcl93 hcc93 hfr93 hM93
                                     replace p93:=eq_true p93
                                     replace q93:=eq_true q93
                                     obtain ⟨ce96,hcl96,hM96,hcc96,hfr96⟩:=Kd.R_elem HO_0.out z77 (x12_6:Int) (dT (z1_)) (by have h_:(x12_6:Int)<((x0_5.length:Int):Int):=dT (by first | (with_reducible assumption) | assumption);first | exact h_ | (have e_:=(Kd.R_reads' HO_0.out).1;omega) | simpa using h_)
                                     obtain rfl:=k77_openM hM96
                                     have HP96:=(Kd.R_seg HO_0.out (x12_6:Int) (dT (z1_)) (by have h_:(x12_6:Int)<((x0_5.length:Int):Int):=dT (by first | (with_reducible assumption) | assumption);first | exact h_ | (have e_:=(Kd.R_reads' HO_0.out).1;omega) | simpa using h_) (seg:=[.int .i64 ((rd_T77 x0_5 x13_8).f0),.int .i64 ((rd_T77 x0_5 x13_8).f1)]) (j:=0) hcl96 hcc96 (show 2≤2 from by decide) (x':=(⟨(rd_T77 x0_5 x13_8).f0,(rd_T77 x0_5 x13_8).f1⟩:S77)) (k77_mkM _ _ _ (⟨(rd_T77 x0_5 x13_8).f0,(rd_T77 x0_5 x13_8).f1⟩:S77) ) (fun _ hk=>hk)).1
                                     rw [← Ny222.out] at HP96
                                     have HQ96:=aM HP96
                                     clear hcl96 hcc96 hfr96 hM96 HP96
                                     have p94:0≤(x13_8:Int):=dT (z1_)
                                     have q94:(x13_8:Int)<((x0_5.length:Int):Int):=dT (z1_)
                                     obtain ⟨ce94,hcl94,hM94,hcc94,hfr94⟩:=Kd.R_elem HQ96.out z77 (x13_8:Int) p94 q94
                                     obtain rfl:=k77_openM hM94
                                     have hx94_0:World.cell? _ ⟨go10,(x13_8:Int).toNat*2,none⟩=some (.int .i64 ((rd_T77 y222 x13_8).f0)):=hcc94 0 _ rfl
                                     have hx94_1:World.cell? _ ⟨go10,(x13_8:Int).toNat*2+1,none⟩=some (.int .i64 ((rd_T77 y222 x13_8).f1)):=hcc94 1 _ rfl
                                     have hf94_0:World.frozen? _ ⟨go10,(x13_8:Int).toNat*2,none⟩=false:=hfr94 0
                                     have hf94_1:World.frozen? _ ⟨go10,(x13_8:Int).toNat*2+1,none⟩=false:=hfr94 1
                                     clear hcl94 hcc94 hfr94 hM94
                                     replace p94:=eq_true p94
                                     replace q94:=eq_true q94
                                     obtain ⟨ce97,hcl97,hM97,hcc97,hfr97⟩:=Kd.R_elem HQ96.out z77 (x13_8:Int) (dT (z1_)) (z34_ HO_0.out)
                                     obtain rfl:=k77_openM hM97
                                     have HP97:=(Kd.R_seg HQ96.out (x13_8:Int) (dT (z1_)) (z34_ HO_0.out) (seg:=[.int .i64 ((rd_T77 x0_5 x12_6).f0),.int .i64 ((rd_T77 x0_5 x12_6).f1)]) (j:=0) hcl97 hcc97 (show 2≤2 from by decide) (x':=(⟨(rd_T77 x0_5 x12_6).f0,(rd_T77 x0_5 x12_6).f1⟩:S77)) (k77_mkM _ _ _ (⟨(rd_T77 x0_5 x12_6).f0,(rd_T77 x0_5 x12_6).f1⟩:S77) ) (fun _ hk=>hk)).1
                                     rw [← Ny223.out] at HP97
                                     have HQ97:=aM HP97
                                     clear hcl97 hcc97 hfr97 hM97 HP97
                                     refine start_ (n:=16) (S:=fun w'=>w'.cell? ⟨go10,(x13_8).toNat*2,none⟩=some (.int .i64 ((rd_T77 x0_5 x13_8).f0))∧w'.cell? ⟨go10,(x13_8).toNat*2+1,none⟩=some (.int .i64 ((rd_T77 x0_5 x13_8).f1))∧w'.cell? ⟨go10,(x12_6).toNat*2,none⟩=some (.int .i64 ((rd_T77 x0_5 x12_6).f0))∧w'.cell? ⟨go10,(x12_6).toNat*2+1,none⟩=some (.int .i64 ((rd_T77 x0_5 x12_6).f1))) (ds:=[13,15]) Y0.q0 (by kernel_rfl) rfl rfl ⟨hx220_0,hx220_1,hx221_0,hx221_1⟩ (fun hHeld=>?_);refine with_tabW Y0.tab18 Y0.bits18 (fun HT_ HW_=>?_)
                                     generalize wc.drew=w95 at HO_0 HK HB HQ96 HQ97 hf93_0 hf93_1 hf94_0 hf94_1 hx220_0 hx220_1 hx221_0 hx221_1 hx93_0 hx93_1 hx94_0 hx94_1 hHeld ⊢
                                     have hz94_0:(w95.setCell ⟨go10,(x12_6:Int).toNat*2,none⟩ (.int .i64 ((rd_T77 x0_5 x13_8).f0))).cell? ⟨go10,(x13_8:Int).toNat*2,none⟩=some (.int .i64 ((rd_T77 y222 x13_8).f0)):=by have h_:=hx94_0;exact ((show ((w95.setCell ⟨go10,(x12_6:Int).toNat*2,none⟩ (.int .i64 ((rd_T77 x0_5 x13_8).f0))).setCell ⟨go10,(x12_6:Int).toNat*2+1,none⟩ (.int .i64 ((rd_T77 x0_5 x13_8).f1))).cell? ⟨go10,(x13_8:Int).toNat*2,none⟩=(w95.setCell ⟨go10,(x12_6:Int).toNat*2,none⟩ (.int .i64 ((rd_T77 x0_5 x13_8).f0))).cell? ⟨go10,(x13_8:Int).toNat*2,none⟩ from World.cell?_setCell_other _ _ _ _ (by intro e_;injection e_ with e1_ e2_;omega)).symm.trans h_)
                                     have hy94_0:w95.frozen? ⟨go10,(x13_8:Int).toNat*2,none⟩=false:=by have h_:=hf94_0;first | exact h_ | simpa only [World.frozen?_setCell] using h_ | simpa [World.setCells] using h_
                                     have hz94_1:((w95.setCell ⟨go10,(x12_6:Int).toNat*2,none⟩ (.int .i64 ((rd_T77 x0_5 x13_8).f0))).setCell ⟨go10,(x12_6:Int).toNat*2+1,none⟩ (.int .i64 ((rd_T77 x0_5 x13_8).f1))).cell? ⟨go10,(x13_8:Int).toNat*2+1,none⟩=some (.int .i64 ((rd_T77 y222 x13_8).f1)):=by have h_:=hx94_1;exact h_
                                     have hy94_1:w95.frozen? ⟨go10,(x13_8:Int).toNat*2+1,none⟩=false:=by have h_:=hf94_1;first | exact h_ | simpa only [World.frozen?_setCell] using h_ | simpa [World.setCells] using h_
                                     refine pu_ 0 145 Y0.q1 HT_.out ?_
                                     refine pu_ 1 146 Y0.q2 HT_.out ?_
                                     refine pu_ 2 147 Y0.q3 HT_.out ?_
                                     refine pu_ 3 148 Y0.q4 HT_.out ?_
                                     refine pu_ 4 149 Y0.q5 HT_.out ?_
                                     refine pu_ 5 150 Y0.q6 HT_.out ?_
                                     refine pu_ 6 151 Y0.q7 HT_.out ?_
                                     refine pu_ 8 153 Y0.q8 HT_.out ?_
                                     refine pu_ 9 154 Y0.q9 HT_.out ?_
                                     refine pu_ 10 155 Y0.q10 HT_.out ?_
                                     refine tk4_ 7 152 Y0.q11 HT_.out HW_.out hHeld ?_
                                     refine tk4_ 11 156 Y0.q12 HT_.out HW_.out hHeld ?_
                                     refine pu_ 12 157 Y0.q13 HT_.out ?_
                                     refine last_ (i:=13) (N:=none) Y0.q14 rfl rfl (one_of HT_.out (by kernel_rfl)) (by decide) (fun K hK=>?_)
                                     refine skip_ (w1:=?_) (by rfl) rfl ?_ ?_
                                     rotate_left
                                     ·go_simp
                                      rfl
                                     refine hK.out _ _ ?_
                                     clear hK K
                                     refine pu_ 14 158 Y0.q15 HT_.out ?_
                                     refine last_ (i:=15) (N:=none) Y0.q16 rfl rfl (one_of HT_.out (by kernel_rfl)) (by decide) (fun K hK=>?_)
                                     refine skip_ (w1:=?_) (by rfl) rfl ?_ ?_
                                     rotate_left
                                     ·go_simp
                                      rfl
                                     refine hK.out _ _ ?_
                                     clear hK K
                                     refine done_ (done_of HT_.out (by kernel_rfl)) ?_
                                     try go_wp2
                                     (try simp only [← hl0_5])
                                     go_roundg kj67
                                     case measure=>have:=HK1.out;have:=HJ15.out;have:=HK3.out;have:=HJ26.out;have:=HK5.out;have:=HK6.out;have:=HJ56.out;have:=HK8.out;have:=HJ67.out;omega
                                     case rel=>exact ⟨(y223),(wrap64 (x12_6+1)),(wrap64 (x13_8-1)),(z0_),(z0_),H',⟨by have:=HK1.out;have:=HJ15.out;have:=HK3.out;have:=HJ26.out;have:=HK5.out;have:=HK6.out;have:=HJ56.out;have:=HK8.out;have:=HJ67.out;omega⟩,⟨z20_ HQ97.out⟩,⟨z27_ HK.out HMgo10.out⟩,⟨z28_ HB.out GB10.out⟩⟩
                                    ·rw [if_neg c92] at H
                                     exact nO H
                                   ·rw [if_neg c91] at H
                                    exact nO H
                                  ·rw [if_neg c90] at H
                                   exact nO H
                                 ·rw [if_neg c89] at H
                                  exact nO H
                   ·rw [if_neg c51] at H
                    exact nO H
                  ·rw [if_neg c50] at H
                   exact nO H
                 ·rw [if_neg c49] at H
                  exact nO H
                ·rw [if_neg c48] at H
                 exact nO H
    ·rw [if_neg c9] at H
     exact nO H
   ·rw [if_neg c8] at H
    exact nO H
  ·rw [if_neg c7] at H
   exact nO H
 ·rw [if_neg c6] at H
  exact nO H


/-! ### Y1: function 107 -/
mutual
def Y1.l0:Nat→List (S77)→Int→Int→Int→Bool→Bool→Option ((List (S77)))
 | 0,_,_,_,_,_,_=>none
 | k+1,x0,x1,x2,x3,x10,x11=>if (wrap64 (x2-x1))≤12 then ((Y2.f k x0 x1 x2).bind fun t224=>(some t224)) else (if x3=0 then ((Y48.f x0 x1 x2).bind fun _=>(some x0)) else (if x10=true then (Y1.j1 k x0 x1 x2 x3 x10 x11 (wrap64 (x2-x1))) else ((Y35.f x0 x1 x2).bind fun _=>(Y1.j1 k x0 x1 x2 (wrap64 (x3-1)) x10 x11 (wrap64 (x2-x1))))))
def Y1.j1:Nat→List (S77)→Int→Int→Int→Bool→Bool→Int→Option ((List (S77)))
 | 0,_,_,_,_,_,_,_=>none
 | k+1,x0,x1,x2,x3,x10,x11,x12=>(Y3.f k x0 x1 x2).bind fun bt225=>(if bt225.2=2 then ((Y36.f x0 x1 x2).bind fun _=>(Y1.j2 k x0 x1 x2 x3 x10 x11 x12 (wrap64 ((wrap64 (x2-1))-(wrap64 (bt225.1-x1)))) 1)) else (Y1.j2 k x0 x1 x2 x3 x10 x11 x12 bt225.1 bt225.2))
def Y1.j2:Nat→List (S77)→Int→Int→Int→Bool→Bool→Int→Int→Int→Option ((List (S77)))
 | 0,_,_,_,_,_,_,_,_,_=>none
 | k+1,x0,x1,x2,x3,x10,x11,x12,x13,x14=>if x10=true then (if x11=true then (Y1.j3 k x0 x1 x2 x3 x10 x11 x12 x13 (x14 == 1)) else (Y1.j3 k x0 x1 x2 x3 x10 x11 x12 x13 false)) else (Y1.j3 k x0 x1 x2 x3 x10 x11 x12 x13 false)
def Y1.j3:Nat→List (S77)→Int→Int→Int→Bool→Bool→Int→Int→Bool→Option ((List (S77)))
 | 0,_,_,_,_,_,_,_,_,_=>none
 | k+1,x0,x1,x2,x3,x10,x11,x12,x13,x75=>if x75=true then ((Y21.f x0 x1 x2).bind fun t227=>(if t227=true then (some x0) else (Y1.j4 k x0 x1 x2 x3 x10 x11 x12 x13))) else (Y1.j4 k x0 x1 x2 x3 x10 x11 x12 x13)
def Y1.j4:Nat→List (S77)→Int→Int→Int→Bool→Bool→Int→Int→Option ((List (S77)))
 | 0,_,_,_,_,_,_,_,_=>none
 | k+1,x0,x1,x2,x3,x10,x11,x12,x13=>if x1>0 then (if 0≤(wrap64 (x1-1)) then (if (wrap64 (x1-1))<(x0.length:Int) then (if 0≤x13 then (if x13<(x0.length:Int) then ((Y14.f k ((rd_T77 x0 (wrap64 (x1-1))).f0) ((rd_T77 x0 (wrap64 (x1-1))).f1) ((rd_T77 x0 x13).f0) ((rd_T77 x0 x13).f1)).bind fun t230=>(Y1.j5 k x0 x1 x2 x3 x10 x11 x12 x13 (!(decide (t230<0))))) else (none)) else (none)) else (none)) else (none)) else (Y1.j5 k x0 x1 x2 x3 x10 x11 x12 x13 false)
def Y1.j5:Nat→List (S77)→Int→Int→Int→Bool→Bool→Int→Int→Bool→Option ((List (S77)))
 | 0,_,_,_,_,_,_,_,_,_=>none
 | k+1,x0,x1,x2,x3,x10,x11,x12,x13,x97=>if x97=true then ((Y32.f x0 x1 x2 x13).bind fun t231=>(Y1.l0 k x0 t231 x2 x3 x10 x11)) else ((Y0.f k x0 x1 x2 x13).bind fun bt232=>(if (wrap64 (bt232.1-x1))<(wrap64 (x2-bt232.1)) then ((Y1.f k bt232.2.2 x1 bt232.1 x3).bind fun t235=>(Y1.l0 k t235 (wrap64 (bt232.1+1)) x2 x3 (decide ((wrap64 (bt232.1-x1))≥(wrap64 (Int.tdiv x12 8)))) bt232.2.1)) else ((Y1.f k bt232.2.2 (wrap64 (bt232.1+1)) x2 x3).bind fun t236=>(Y1.l0 k t236 x1 bt232.1 x3 (decide ((wrap64 (x2-bt232.1))≥(wrap64 (Int.tdiv x12 8)))) bt232.2.1))))
def Y1.f:Nat→List (S77)→Int→Int→Int→Option ((List (S77)))
 | 0,_,_,_,_=>none
 | k+1,l0,a1,a2,a3=>Y1.l0 k l0 a1 a2 a3 true true
end
theorem Y1.mono_l:∀ k,(∀ y0 y1 y2 y3,LeO (Y1.f k y0 y1 y2 y3) (Y1.f (k+1) y0 y1 y2 y3))∧(∀ y0 y1 y2 y3 y4 y5,LeO (Y1.l0 k y0 y1 y2 y3 y4 y5) (Y1.l0 (k+1) y0 y1 y2 y3 y4 y5))∧(∀ y0 y1 y2 y3 y4 y5 y6,LeO (Y1.j1 k y0 y1 y2 y3 y4 y5 y6) (Y1.j1 (k+1) y0 y1 y2 y3 y4 y5 y6))∧(∀ y0 y1 y2 y3 y4 y5 y6 y7 y8,LeO (Y1.j2 k y0 y1 y2 y3 y4 y5 y6 y7 y8) (Y1.j2 (k+1) y0 y1 y2 y3 y4 y5 y6 y7 y8))∧(∀ y0 y1 y2 y3 y4 y5 y6 y7 y8,LeO (Y1.j3 k y0 y1 y2 y3 y4 y5 y6 y7 y8) (Y1.j3 (k+1) y0 y1 y2 y3 y4 y5 y6 y7 y8))∧(∀ y0 y1 y2 y3 y4 y5 y6 y7,LeO (Y1.j4 k y0 y1 y2 y3 y4 y5 y6 y7) (Y1.j4 (k+1) y0 y1 y2 y3 y4 y5 y6 y7))∧(∀ y0 y1 y2 y3 y4 y5 y6 y7 y8,LeO (Y1.j5 k y0 y1 y2 y3 y4 y5 y6 y7 y8) (Y1.j5 (k+1) y0 y1 y2 y3 y4 y5 y6 y7 y8))
 | 0=>by refine ⟨?_,?_,?_,?_,?_,?_,?_⟩ <;> intros <;> exact LeO.none _
 | k+1=>by
  obtain ⟨ih0,ih1,ih2,ih3,ih4,ih5,ih6⟩:=Y1.mono_l k
  have m0:=@Y14.mono
  have m1:=@Y3.mono
  have m2:=@Y2.mono
  have m3:=@Y0.mono
  refine ⟨?_,?_,?_,?_,?_,?_,?_⟩
  ·intros
   unfold Y1.f
   exact mO
  ·intros
   unfold Y1.l0
   exact mO
  ·intros
   unfold Y1.j1
   exact mO
  ·intros
   unfold Y1.j2
   exact mO
  ·intros
   unfold Y1.j3
   exact mO
  ·intros
   unfold Y1.j4
   exact mO
  ·intros
   unfold Y1.j5
   exact mO
theorem Y1.mono:∀ a0 a1 a2 a3 k,LeO (Y1.f k a0 a1 a2 a3) (Y1.f (k+1) a0 a1 a2 a3):=by
 intro a0 a1 a2 a3 k
 obtain ⟨ih0,ih1,ih2,ih3,ih4,ih5,ih6⟩:=Y1.mono_l k
 exact ih0 a0 a1 a2 a3
def Y1.T17:Bool × List (List Nat × List Nat):=(true,[([],[]),([0],[0]),([1],[1]),([2],[2]),([2],[2]),([2],[2]),([5,2],[2,5]),([4,6,2],[2,4,6]),([7,2],[2,7]),([2],[2]),([2],[2]),([9,10,2],[2,9,10]),([11,2],[2,11]),([3,8,12,2,2],[2,3,8,12]),([13,2],[2,13]),([14,2],[2,14]),([2,15],[2,15])])
def Y1.B17:List Nat:=[0,1,3,7,7,7,39,119,247,7,7,1543,3591,8191,16383,32767,65535]
theorem Y1.tab17:rtab .any (opsOf Tryd.f107 17)=Y1.T17:=by kernel_rfl
theorem Y1.bits17:waitsOk Y1.T17.2 Y1.B17=true:=by kernel_rfl
abbrev Y1.q0:Array Bool:=#[O,O,O,O,O,O,O,O,O,O,O,O,O,O,O,O,O]
abbrev Y1.q1:Array Bool:=#[I,O,O,O,O,O,O,O,O,O,O,O,O,O,O,O,O]
abbrev Y1.q2:Array Bool:=#[I,I,O,O,O,O,O,O,O,O,O,O,O,O,O,O,O]
abbrev Y1.q3:Array Bool:=#[I,I,I,O,O,O,O,O,O,O,O,O,O,O,O,O,O]
abbrev Y1.q4:Array Bool:=#[I,I,I,I,O,O,O,O,O,O,O,O,O,O,O,O,O]
abbrev Y1.q5:Array Bool:=#[I,I,I,I,I,O,O,O,O,O,O,O,O,O,O,O,O]
abbrev Y1.q6:Array Bool:=#[I,I,I,I,I,I,O,O,O,O,O,O,O,O,O,O,O]
abbrev Y1.q7:Array Bool:=#[I,I,I,I,I,I,I,O,O,O,O,O,O,O,O,O,O]
abbrev Y1.q8:Array Bool:=#[I,I,I,I,I,I,I,I,O,O,O,O,O,O,O,O,O]
abbrev Y1.q9:Array Bool:=#[I,I,I,I,I,I,I,I,I,I,I,I,O,O,O,O,O]
abbrev Y1.q10:Array Bool:=#[I,I,I,I,I,I,I,I,I,I,I,I,I,O,O,O,O]
abbrev Y1.q11:Array Bool:=#[I,I,I,I,I,I,I,I,I,I,I,I,I,I,O,O,O]
abbrev Y1.q12:Array Bool:=#[I,I,I,I,I,I,I,I,I,I,I,I,I,I,I,O,O]
abbrev Y1.q13:Array Bool:=#[I,I,I,I,I,I,I,I,I,I,I,I,I,I,I,I,O]
abbrev Y1.q14:Array Bool:=#[I,I,I,I,I,I,I,I,I,I,I,I,I,I,I,I,I]
theorem Y1.calls (k:Nat):∀ (P0_:Nat→Prop) (u9000_:Value) (l0:List (S77)) (a1:Int) (a2:Int) (a3:Int)  (r:List (S77)) (w0 w:World) (hB:Below w0.heap.size w0 w) (ho0:Kd.R k77 77 w w0.heap.size P0_ u9000_ l0) (h:Y1.f k l0 a1 a2 a3=some r),
  Calls Tryd.prog 107 #[u9000_,.int .i64 a1,.int .i64 a2,.int .i64 a3,.func (.func 78) #[] #[]] w fun e w'=>e = .returned (.tuple #[])∧Kd.R k77 77 w' w0.heap.size (fun k_=>(P0_ k_∨w.heap.size≤k_)) u9000_ r∧Below w0.heap.size w0 w'∧Kept w w' (fun k_=>P0_ k_):=by
 induction k using Nat.strongRecOn with
 | _ k ih =>
 intro P0_ u9000_ l0 a1 a2 a3 r w0 w hB ho0 h
 cases k with
 | zero=>exact absurd h (by simp [Y1.f])
 | succ k =>
 simp only [Y1.f] at h
 have hu77:=Tryd.underlying77
 have HO0:=aM (show Kd.R k77 77 w w0.heap.size (fun k_=>(P0_ k_∨w.heap.size≤k_)) u9000_ l0 from Kd.R_mono ho0 (fun k_ hk=>(.inl hk)))
 have HK:=aM (Kept.refl w (fun k_=>P0_ k_))
 have HW0:=aM hB.size
 have HB:=aM hB
 clear hB
 have H:(Y1.l0 k l0 a1 a2 a3 true true)=some r:=h
 clear h
 have H':=aM H
 clear H
 go_enter Tryd.func107,Tryd.ntmps107
 go_wp2
 go_loopg [1,2,3,10,11] k (fun kq v1 v2 v3 v10 v11 w'=>∃ (x0_1:List (S77)) (x1_1:Int) (x2_1:Int) (x3_1:Int) (x10_1:Bool) (x11_1:Bool),v1 = .int .i64 x1_1∧v2 = .int .i64 x2_1∧v3 = .int .i64 x3_1∧v10 = .bool x10_1∧v11 = .bool x11_1∧Aside0 (Y1.l0 kq x0_1 x1_1 x2_1 x3_1 x10_1 x11_1=some r)∧Aside0 (kq≤k)∧Aside0 (Kd.R k77 77 w' w0.heap.size (fun k_=>(P0_ k_∨w.heap.size≤k_)) u9000_ x0_1)∧Aside0 (Kept w w' (fun k_=>P0_ k_))∧Aside0 (Below w0.heap.size w0 w'))
 case atStart=>exact ⟨(l0),(a1),(a2),(a3),(true),(true),(z0_),(z0_),(z0_),(z0_),(z0_),H',⟨Nat.le_refl _⟩,⟨z2_ HO0.out⟩,⟨z5_ HK.out⟩,⟨z3_ HB.out⟩⟩
 case round =>
  clear H'
  try clear p2
  obtain ⟨x0_1,x1_1,x2_1,x3_1,x10_1,x11_1,rfl,rfl,rfl,rfl,rfl,HA,HK1,HO_0,HK,HB⟩:=hrel
  cases gk with
  | zero=>exact absurd HA.out (by simp [Y1.l0])
  | succ k1 =>
   have H:=HA.out
   clear HA
   simp only [Y1.l0] at H
   by_cases c6:(wrap64 (x2_1-x1_1))≤12
   ·rw [if_pos c6] at H
    have c6b0:decide ((wrap64 (x2_1-x1_1))≤12)=true:=dE c6
    clear c6
    replace H:=bS H
    obtain ⟨t224,A70,H⟩:=H
    replace H:(some t224)=some r:=H
    have A7:=aM A70
    clear A70
    obtain rfl:=sI H
    obtain ⟨Ao8,co8,eo8⟩:=Kd.R_slice HO_0.out
    subst eo8
    go_wp2_with (first | ((with_reducible refine gc_ 122 ?_);refine gl_ (some 30) Tryd.func122 #[.slice Ao8 x0_1.length co8,.int .i64 x1_1,.int .i64 x2_1,.func (.func 78) #[] #[]] ?_;(with_reducible refine (Y2.calls k1 (fun k_=>some k_=(.slice Ao8 x0_1.length co8:Value).ownBlock) (.slice Ao8 x0_1.length co8) x0_1 x1_1 x2_1  t224 w0 _ ?s1 ?s2 A7.out).mono ?_);(case s1=>repeat (first | (with_reducible first | exact HB.out | apply below_alloc | apply pw_below_drewN | apply below_drew1) | exact HB.out));(case s2=>exact Kd.R_tight rfl HO_0.out);rintro e w9 ⟨rfl,hy0,hb,hkp⟩;refine ⟨_,rfl,?_⟩;have n0_:=aM (Kd.R_reok rfl hy0 (fun k_ e_=>HO_0.out.1 k_ e_));have n1_:=aM (Kept.then_ (S:=(fun k_=>P0_ k_)) (z5_ HK.out) hkp (fun k_ hs_=>(fun e_=>(HO_0.out.1 k_ e_.symm)) hs_));have n2_:=aM (hb);clear HO_0;clear HK;clear HB;have HO_0:=n0_;have HK:=n1_;have HB:=n2_;clear n0_ n1_ n2_;(try clear hb);(try clear hkp);(try clear hy0)))
    first | go_end0 | ((try simp only [Exit.inBlock,Exit.then]);refine bodyPost_ret (results_none rfl _ _ _) rfl ?_)
    exact ⟨z9_,z2_ HO_0.out,z3_ HB.out,z5_ HK.out⟩
   ·rw [if_neg c6] at H
    have c6b0:decide ((wrap64 (x2_1-x1_1))≤12)=false:=dF c6
    clear c6
    by_cases c10:x3_1=0
    ·rw [if_pos c10] at H
     have c10b0:(x3_1 == 0)=true:=beq_iff_eq.mpr c10
     have c10b1:(x3_1 != 0)=false:=bne_eq_false_iff_eq.mpr c10
     clear c10
     replace H:=bS H
     obtain ⟨_,A110,H⟩:=H
     replace H:(some x0_1)=some r:=H
     have A11:=aM A110
     clear A110
     obtain rfl:=sI H
     obtain ⟨Ao12,co12,eo12⟩:=Kd.R_slice HO_0.out
     subst eo12
     go_wp2_with (first | ((with_reducible refine gc_ 123 ?_);refine gl_ (some 37) Tryd.func123 #[.slice Ao12 x0_1.length co12,.int .i64 x1_1,.int .i64 x2_1,.func (.func 78) #[] #[]] ?_;(with_reducible refine (Y48.calls _ _ x0_1 x1_1 x2_1   _ ?s1 ?s2 A11.out).mono ?_);(case s1=>repeat (first | exact (Kd.R_reads' HO_0.out).2.2 | (with_reducible refine Kd.C_alloc ?_ _) | (with_reducible refine Kd.C_drewN ?_ _) | (with_reducible refine Kd.C_drew ?_)));(case s2=>exact (Kd.R_reads' HO_0.out).2.1);rintro e w' ⟨rfl,⟨nd,rfl⟩⟩;refine ⟨_,rfl,?_⟩))
     first | go_end0 | ((try simp only [Exit.inBlock,Exit.then]);refine bodyPost_ret (results_none rfl _ _ _) rfl ?_)
     exact ⟨z9_,z2_ HO_0.out,z3_ HB.out,z5_ HK.out⟩
    ·rw [if_neg c10] at H
     have c10b0:(x3_1 == 0)=false:=beq_eq_false_iff_ne.mpr c10
     have c10b1:(x3_1 != 0)=true:=bne_iff_ne.mpr c10
     have HC13:=aM H
     clear H
     go_upto_if 39 with (fail)
     go_cut [3] (fun v3 wc=>∃ (kq:Nat) (x3_12:Int),v3 = .int .i64 x3_12∧Aside0 (Y1.j1 kq x0_1 x1_1 x2_1 x3_12 x10_1 x11_1 (wrap64 (x2_1-x1_1))=some r)∧Aside0 (kq≤k1)∧Aside0 (Kd.R k77 77 wc w0.heap.size (fun k_=>(P0_ k_∨w.heap.size≤k_)) u9000_ x0_1)∧Aside0 (Kept w wc (fun k_=>P0_ k_))∧Aside0 (Below w0.heap.size w0 wc))
     case first =>
      have H:=HC13.out
      clear HC13
      by_cases c14:x10_1=true
      ·subst c14
       have H1:(Y1.j1 k1 x0_1 x1_1 x2_1 x3_1 true x11_1 (wrap64 (x2_1-x1_1)))=some r:=by rw [if_pos rfl] at H;exact H
       clear H
       have H:=H1
       clear H1
       have H':=aM H
       clear H
       go_wp2
       go_meet
       case rel=>exact ⟨_,(x3_1),(z0_),H',⟨by have:=HK1.out;first | omega | exact Nat.le_refl _⟩,⟨z2_ HO_0.out⟩,⟨z5_ HK.out⟩,⟨z3_ HB.out⟩⟩
      ·replace c14:=Bool.eq_false_iff.mpr c14
       subst c14
       have H1:((Y35.f x0_1 x1_1 x2_1).bind fun _=>(Y1.j1 k1 x0_1 x1_1 x2_1 (wrap64 (x3_1-1)) false x11_1 (wrap64 (x2_1-x1_1))))=some r:=by rw [if_neg (show ¬ (false=true) by decide)] at H;exact H
       clear H
       have H:=H1
       clear H1
       replace H:=bS H
       obtain ⟨_,A150,H⟩:=H
       replace H:(Y1.j1 k1 x0_1 x1_1 x2_1 (wrap64 (x3_1-1)) false x11_1 (wrap64 (x2_1-x1_1)))=some r:=H
       have A15:=aM A150
       clear A150
       have H':=aM H
       clear H
       obtain ⟨Ao16,co16,eo16⟩:=Kd.R_slice HO_0.out
       subst eo16
       go_wp2_with (first | ((with_reducible refine gc_ 124 ?_);refine gl_ (some 44) Tryd.func124 #[.slice Ao16 x0_1.length co16,.int .i64 x1_1,.int .i64 x2_1,.func (.func 78) #[] #[]] ?_;(with_reducible refine (Y35.calls _ _ x0_1 x1_1 x2_1   _ ?s1 ?s2 A15.out).mono ?_);(case s1=>repeat (first | exact (Kd.R_reads' HO_0.out).2.2 | (with_reducible refine Kd.C_alloc ?_ _) | (with_reducible refine Kd.C_drewN ?_ _) | (with_reducible refine Kd.C_drew ?_)));(case s2=>exact (Kd.R_reads' HO_0.out).2.1);rintro e w' ⟨rfl,⟨nd,rfl⟩⟩;refine ⟨_,rfl,?_⟩))
       go_meet
       case rel=>exact ⟨_,(wrap64 (x3_1-1)),(z0_),H',⟨by have:=HK1.out;first | omega | exact Nat.le_refl _⟩,⟨z2_ HO_0.out⟩,⟨z5_ HK.out⟩,⟨z3_ HB.out⟩⟩
     case rest =>
      clear HC13
      try clear c1
      try clear p2
      try clear c6
      try clear c6b0
      try clear p6
      try clear c7
      try clear c10
      try clear c10b0
      try clear c10b1
      try clear c14
      try clear p2
      obtain ⟨kq,x3_12,rfl,HA,HJ12,HO_0,HK,HB⟩:=hcut
      cases kq with
      | zero=>exact absurd HA.out (by simp [Y1.j1])
      | succ kj12 =>
       have H:=HA.out
       clear HA
       simp only [Y1.j1] at H
       replace H:=bS H
       obtain ⟨⟨t225,t226⟩,A170,H⟩:=H
       replace H:(if t226=2 then ((Y36.f x0_1 x1_1 x2_1).bind fun _=>(Y1.j2 kj12 x0_1 x1_1 x2_1 x3_12 x10_1 x11_1 (wrap64 (x2_1-x1_1)) (wrap64 ((wrap64 (x2_1-1))-(wrap64 (t225-x1_1)))) 1)) else (Y1.j2 kj12 x0_1 x1_1 x2_1 x3_12 x10_1 x11_1 (wrap64 (x2_1-x1_1)) t225 t226))=some r:=H
       have A17:=aM A170
       clear A170
       have HC18:=aM H
       clear H
       obtain ⟨Ao19,co19,eo19⟩:=Kd.R_slice HO_0.out
       subst eo19
       go_upto_if 56 with (first | ((with_reducible refine gc_ 125 ?_);refine gl_ (some 52) Tryd.func125 #[.slice Ao19 x0_1.length co19,.int .i64 x1_1,.int .i64 x2_1,.func (.func 78) #[] #[]] ?_;(with_reducible refine (Y3.calls kj12 _ _ x0_1 x1_1 x2_1  t225 t226 _ ?s1 ?s2 A17.out).mono ?_);(case s1=>repeat (first | exact (Kd.R_reads' HO_0.out).2.2 | (with_reducible refine Kd.C_alloc ?_ _) | (with_reducible refine Kd.C_drewN ?_ _) | (with_reducible refine Kd.C_drew ?_)));(case s2=>exact (Kd.R_reads' HO_0.out).2.1);rintro e w20 ⟨rfl,hb⟩;refine ⟨_,rfl,?_⟩;have n0_:=aM (Kd.R_below (z2_ HO_0.out) hb);have n1_:=aM (Kept.below (S:=(fun k_=>P0_ k_)) (z5_ HK.out) hb);have n2_:=aM (below_step (z3_ HB.out) hb);clear HO_0;clear HK;clear HB;have HO_0:=n0_;have HK:=n1_;have HB:=n2_;clear n0_ n1_ n2_;(try clear hb)))
       (try simp only [Act.put,sa_,s0_,ss_])
       go_cut [13,14] (fun v13 v14 wc=>∃ (kq:Nat) (x13_17:Int) (x14_17:Int),v13 = .int .i64 x13_17∧v14 = .int .i64 x14_17∧Aside0 (Y1.j2 kq x0_1 x1_1 x2_1 x3_12 x10_1 x11_1 (wrap64 (x2_1-x1_1)) x13_17 x14_17=some r)∧Aside0 (kq≤kj12)∧Aside0 (Kd.R k77 77 wc w0.heap.size (fun k_=>(P0_ k_∨w.heap.size≤k_)) (.slice Ao19 x0_1.length co19) x0_1)∧Aside0 (Kept w wc (fun k_=>P0_ k_))∧Aside0 (Below w0.heap.size w0 wc))
       case first =>
        have H:=HC18.out
        clear HC18
        by_cases c21:t226=2
        ·rw [if_pos c21] at H
         have c21b0:(t226 == 2)=true:=beq_iff_eq.mpr c21
         have c21b1:(t226 != 2)=false:=bne_eq_false_iff_eq.mpr c21
         clear c21
         (first | rw [c21b0] | (simp only [i64_w,i32_w];rw [c21b0]) | skip)
         replace H:=bS H
         obtain ⟨_,A220,H⟩:=H
         replace H:(Y1.j2 kj12 x0_1 x1_1 x2_1 x3_12 x10_1 x11_1 (wrap64 (x2_1-x1_1)) (wrap64 ((wrap64 (x2_1-1))-(wrap64 (t225-x1_1)))) 1)=some r:=H
         have A22:=aM A220
         clear A220
         have H':=aM H
         clear H
         go_wp2_with (first | ((with_reducible refine gc_ 126 ?_);refine gl_ (some 61) Tryd.func126 #[.slice Ao19 x0_1.length co19,.int .i64 x1_1,.int .i64 x2_1,.func (.func 78) #[] #[]] ?_;(with_reducible refine (Y36.calls _ _ x0_1 x1_1 x2_1   _ ?s1 ?s2 A22.out).mono ?_);(case s1=>repeat (first | exact (Kd.R_reads' HO_0.out).2.2 | (with_reducible refine Kd.C_alloc ?_ _) | (with_reducible refine Kd.C_drewN ?_ _) | (with_reducible refine Kd.C_drew ?_)));(case s2=>exact (Kd.R_reads' HO_0.out).2.1);rintro e w' ⟨rfl,⟨nd,rfl⟩⟩;refine ⟨_,rfl,?_⟩))
         go_meet
         case rel=>exact ⟨_,(wrap64 ((wrap64 (x2_1-1))-(wrap64 (t225-x1_1)))),(1),(z0_),(z0_),H',⟨by have:=HK1.out;have:=HJ12.out;first | omega | exact Nat.le_refl _⟩,⟨z2_ HO_0.out⟩,⟨z5_ HK.out⟩,⟨z3_ HB.out⟩⟩
        ·rw [if_neg c21] at H
         have c21b0:(t226 == 2)=false:=beq_eq_false_iff_ne.mpr c21
         have c21b1:(t226 != 2)=true:=bne_iff_ne.mpr c21
         (first | rw [c21b0] | (simp only [i64_w,i32_w];rw [c21b0]) | skip)
         have H':=aM H
         clear H
         go_wp2
         go_meet
         case rel=>exact ⟨_,(t225),(t226),(z0_),(z0_),H',⟨by have:=HK1.out;have:=HJ12.out;first | omega | exact Nat.le_refl _⟩,⟨z2_ HO_0.out⟩,⟨z5_ HK.out⟩,⟨z3_ HB.out⟩⟩
       case rest =>
        clear HC18
        try clear c1
        try clear c2
        try clear p2
        try clear c6
        try clear c6b0
        try clear p6
        try clear c7
        try clear c10
        try clear c10b0
        try clear c10b1
        try clear c14
        try clear c21
        try clear c21b0
        try clear c21b1
        try clear p2
        try clear p6
        obtain ⟨kq,x13_17,x14_17,rfl,rfl,HA,HJ17,HO_0,HK,HB⟩:=hcut
        cases kq with
        | zero=>exact absurd HA.out (by simp [Y1.j2])
        | succ kj17 =>
         have H:=HA.out
         clear HA
         simp only [Y1.j2] at H
         have HC23:=aM H
         clear H
         go_upto_region 15 with (fail)
         go_cut [75] (fun v75 wc=>∃ (kq:Nat) (x75_22:Bool),v75 = .bool x75_22∧Aside0 (Y1.j3 kq x0_1 x1_1 x2_1 x3_12 x10_1 x11_1 (wrap64 (x2_1-x1_1)) x13_17 x75_22=some r)∧Aside0 (kq≤kj17)∧Aside0 (Kd.R k77 77 wc w0.heap.size (fun k_=>(P0_ k_∨w.heap.size≤k_)) (.slice Ao19 x0_1.length co19) x0_1)∧Aside0 (Kept w wc (fun k_=>P0_ k_))∧Aside0 (Below w0.heap.size w0 wc))
         case first =>
          have H:=HC23.out
          clear HC23
          by_cases c24:x10_1=true
          ·subst c24
           have H1:(if x11_1=true then (Y1.j3 kj17 x0_1 x1_1 x2_1 x3_12 true x11_1 (wrap64 (x2_1-x1_1)) x13_17 (x14_17 == 1)) else (Y1.j3 kj17 x0_1 x1_1 x2_1 x3_12 true x11_1 (wrap64 (x2_1-x1_1)) x13_17 false))=some r:=by rw [if_pos rfl] at H;exact H
           clear H
           have H:=H1
           clear H1
           by_cases c25:x11_1=true
           ·subst c25
            have H1:(Y1.j3 kj17 x0_1 x1_1 x2_1 x3_12 true true (wrap64 (x2_1-x1_1)) x13_17 (x14_17 == 1))=some r:=by rw [if_pos rfl] at H;exact H
            clear H
            have H:=H1
            clear H1
            have H':=aM H
            clear H
            go_wp2
            go_meet
            case rel=>exact ⟨_,((x14_17 == 1)),(z0_),H',⟨z18_ HK1.out HJ12.out HJ17.out⟩,⟨z2_ HO_0.out⟩,⟨z5_ HK.out⟩,⟨z3_ HB.out⟩⟩
           ·replace c25:=Bool.eq_false_iff.mpr c25
            subst c25
            have H1:(Y1.j3 kj17 x0_1 x1_1 x2_1 x3_12 true false (wrap64 (x2_1-x1_1)) x13_17 false)=some r:=by rw [if_neg (show ¬ (false=true) by decide)] at H;exact H
            clear H
            have H:=H1
            clear H1
            have H':=aM H
            clear H
            go_wp2
            go_meet
            case rel=>exact ⟨_,(false),(z0_),H',⟨z18_ HK1.out HJ12.out HJ17.out⟩,⟨z2_ HO_0.out⟩,⟨z5_ HK.out⟩,⟨z3_ HB.out⟩⟩
          ·replace c24:=Bool.eq_false_iff.mpr c24
           subst c24
           have H1:(Y1.j3 kj17 x0_1 x1_1 x2_1 x3_12 false x11_1 (wrap64 (x2_1-x1_1)) x13_17 false)=some r:=by rw [if_neg (show ¬ (false=true) by decide)] at H;exact H
           clear H
           have H:=H1
           clear H1
           have H':=aM H
           clear H
           go_wp2
           go_meet
           case rel=>exact ⟨_,(false),(z0_),H',⟨z18_ HK1.out HJ12.out HJ17.out⟩,⟨z2_ HO_0.out⟩,⟨z5_ HK.out⟩,⟨z3_ HB.out⟩⟩
         case rest =>
          clear HC23
          try clear c1
          try clear c2
          try clear p2
          try clear c6
          try clear c6b0
          try clear p6
          try clear c7
          try clear c10
          try clear c10b0
          try clear c10b1
          try clear c14
          try clear c21
          try clear c21b0
          try clear c21b1
          try clear c24
          try clear c25
          try clear p2
          try clear p6
          obtain ⟨kq,x75_22,rfl,HA,HJ22,HO_0,HK,HB⟩:=hcut
          cases kq with
          | zero=>exact absurd HA.out (by simp [Y1.j3])
          | succ kj22 =>
           have H:=HA.out
           clear HA
           simp only [Y1.j3] at H
           have HC26:=aM H
           clear H
           go_upto_if 75 with (fail)
           go_cut [] (fun wc=>∃ (kq:Nat),Aside0 (Y1.j4 kq x0_1 x1_1 x2_1 x3_12 x10_1 x11_1 (wrap64 (x2_1-x1_1)) x13_17=some r)∧Aside0 (kq≤kj22)∧Aside0 (Kd.R k77 77 wc w0.heap.size (fun k_=>(P0_ k_∨w.heap.size≤k_)) (.slice Ao19 x0_1.length co19) x0_1)∧Aside0 (Kept w wc (fun k_=>P0_ k_))∧Aside0 (Below w0.heap.size w0 wc))
           case first =>
            have H:=HC26.out
            clear HC26
            by_cases c27:x75_22=true
            ·subst c27
             have H1:((Y21.f x0_1 x1_1 x2_1).bind fun t227=>(if t227=true then (some x0_1) else (Y1.j4 kj22 x0_1 x1_1 x2_1 x3_12 x10_1 x11_1 (wrap64 (x2_1-x1_1)) x13_17)))=some r:=by rw [if_pos rfl] at H;exact H
             clear H
             have H:=H1
             clear H1
             replace H:=bS H
             obtain ⟨t227,A280,H⟩:=H
             replace H:(if t227=true then (some x0_1) else (Y1.j4 kj22 x0_1 x1_1 x2_1 x3_12 x10_1 x11_1 (wrap64 (x2_1-x1_1)) x13_17))=some r:=H
             have A28:=aM A280
             clear A280
             by_cases c29:t227=true
             ·subst c29
              have H1:(some x0_1)=some r:=by rw [if_pos rfl] at H;exact H
              clear H
              have H:=H1
              clear H1
              obtain rfl:=sI H
              go_wp2_with (first | ((with_reducible refine gc_ 127 ?_);refine gl_ (some 80) Tryd.func127 #[.slice Ao19 x0_1.length co19,.int .i64 x1_1,.int .i64 x2_1,.func (.func 78) #[] #[]] ?_;(with_reducible refine (Y21.calls _ _ x0_1 x1_1 x2_1  true _ ?s1 ?s2 A28.out).mono ?_);(case s1=>repeat (first | exact (Kd.R_reads' HO_0.out).2.2 | (with_reducible refine Kd.C_alloc ?_ _) | (with_reducible refine Kd.C_drewN ?_ _) | (with_reducible refine Kd.C_drew ?_)));(case s2=>exact (Kd.R_reads' HO_0.out).2.1);rintro e w' ⟨rfl,⟨nd,rfl⟩⟩;refine ⟨_,rfl,?_⟩))
              first | go_end0 | ((try simp only [Exit.inBlock,Exit.then]);refine bodyPost_ret (results_none rfl _ _ _) rfl ?_)
              exact ⟨z9_,z2_ HO_0.out,z3_ HB.out,z5_ HK.out⟩
             ·replace c29:=Bool.eq_false_iff.mpr c29
              subst c29
              have H1:(Y1.j4 kj22 x0_1 x1_1 x2_1 x3_12 x10_1 x11_1 (wrap64 (x2_1-x1_1)) x13_17)=some r:=by rw [if_neg (show ¬ (false=true) by decide)] at H;exact H
              clear H
              have H:=H1
              clear H1
              have H':=aM H
              clear H
              go_wp2_with (first | ((with_reducible refine gc_ 127 ?_);refine gl_ (some 80) Tryd.func127 #[.slice Ao19 x0_1.length co19,.int .i64 x1_1,.int .i64 x2_1,.func (.func 78) #[] #[]] ?_;(with_reducible refine (Y21.calls _ _ x0_1 x1_1 x2_1  false _ ?s1 ?s2 A28.out).mono ?_);(case s1=>repeat (first | exact (Kd.R_reads' HO_0.out).2.2 | (with_reducible refine Kd.C_alloc ?_ _) | (with_reducible refine Kd.C_drewN ?_ _) | (with_reducible refine Kd.C_drew ?_)));(case s2=>exact (Kd.R_reads' HO_0.out).2.1);rintro e w' ⟨rfl,⟨nd,rfl⟩⟩;refine ⟨_,rfl,?_⟩))
              go_meet
              case rel=>exact ⟨_,H',⟨by have:=HK1.out;have:=HJ12.out;have:=HJ17.out;have:=HJ22.out;first | omega | exact Nat.le_refl _⟩,⟨z2_ HO_0.out⟩,⟨z5_ HK.out⟩,⟨z3_ HB.out⟩⟩
            ·replace c27:=Bool.eq_false_iff.mpr c27
             subst c27
             have H1:(Y1.j4 kj22 x0_1 x1_1 x2_1 x3_12 x10_1 x11_1 (wrap64 (x2_1-x1_1)) x13_17)=some r:=by rw [if_neg (show ¬ (false=true) by decide)] at H;exact H
             clear H
             have H:=H1
             clear H1
             have H':=aM H
             clear H
             go_wp2
             go_meet
             case rel=>exact ⟨_,H',⟨by have:=HK1.out;have:=HJ12.out;have:=HJ17.out;have:=HJ22.out;first | omega | exact Nat.le_refl _⟩,⟨z2_ HO_0.out⟩,⟨z5_ HK.out⟩,⟨z3_ HB.out⟩⟩
           case rest =>
            clear HC26
            try clear c1
            try clear c2
            try clear p2
            try clear c6
            try clear c6b0
            try clear p6
            try clear c7
            try clear c10
            try clear c10b0
            try clear c10b1
            try clear c14
            try clear c21
            try clear c21b0
            try clear c21b1
            try clear c24
            try clear c25
            try clear c27
            try clear c29
            try clear p2
            try clear p6
            obtain ⟨kq,HA,HJ25,HO_0,HK,HB⟩:=hcut
            cases kq with
            | zero=>exact absurd HA.out (by simp [Y1.j4])
            | succ kj25 =>
             have H:=HA.out
             clear HA
             simp only [Y1.j4] at H
             have HC30:=aM H
             clear H
             go_upto_region 17 with (fail)
             go_cut [97] (fun v97 wc=>∃ (kq:Nat) (x97_29:Bool),v97 = .bool x97_29∧Aside0 (Y1.j5 kq x0_1 x1_1 x2_1 x3_12 x10_1 x11_1 (wrap64 (x2_1-x1_1)) x13_17 x97_29=some r)∧Aside0 (kq≤kj25)∧Aside0 (Kd.R k77 77 wc w0.heap.size (fun k_=>(P0_ k_∨w.heap.size≤k_)) (.slice Ao19 x0_1.length co19) x0_1)∧Aside0 (Kept w wc (fun k_=>P0_ k_))∧Aside0 (Below w0.heap.size w0 wc))
             case first =>
              have H:=HC30.out
              clear HC30
              by_cases c31:x1_1>0
              ·rw [if_pos c31] at H
               have c31b0:decide (0<x1_1)=true:=dE c31
               clear c31
               (first | rw [c31b0] | (simp only [i64_w,i32_w];rw [c31b0]) | skip)
               obtain ⟨ji32,hji32⟩:∃ j_:Int,(wrap64 (x1_1-1))=j_:=⟨_,rfl⟩
               replace H:(if 0≤(ji32) then (if (ji32)<(x0_1.length:Int) then (if 0≤x13_17 then (if x13_17<(x0_1.length:Int) then ((Y14.f kj25 ((rd_T77 x0_1 (ji32)).f0) ((rd_T77 x0_1 (ji32)).f1) ((rd_T77 x0_1 x13_17).f0) ((rd_T77 x0_1 x13_17).f1)).bind fun t230=>(Y1.j5 kj25 x0_1 x1_1 x2_1 x3_12 x10_1 x11_1 (wrap64 (x2_1-x1_1)) x13_17 (!(decide (t230<0))))) else (none)) else (none)) else (none)) else (none))=some r:=by first | (rw [hji32] at H;exact H) | (simp only [hji32] at H ⊢;exact H)
               have hji32w:(IntKind.i64.wrap (x1_1-1))=ji32:=(i64_w _).trans hji32
               by_cases c33:0≤(ji32)
               ·rw [if_pos c33] at H
                have c33b0:decide (0≤(ji32))=true:=dE c33
                clear c33
                by_cases c34:(ji32)<(x0_1.length:Int)
                ·rw [if_pos c34] at H
                 have c34b0:decide ((ji32)<(x0_1.length:Int))=true:=dE c34
                 clear c34
                 by_cases c35:0≤x13_17
                 ·rw [if_pos c35] at H
                  have c35b0:decide (0≤x13_17)=true:=dE c35
                  clear c35
                  by_cases c36:x13_17<(x0_1.length:Int)
                  ·rw [if_pos c36] at H
                   have c36b0:decide (x13_17<(x0_1.length:Int))=true:=dE c36
                   clear c36
                   replace H:=bS H
                   obtain ⟨t230,A370,H⟩:=H
                   replace H:(Y1.j5 kj25 x0_1 x1_1 x2_1 x3_12 x10_1 x11_1 (wrap64 (x2_1-x1_1)) x13_17 (!(decide (t230<0))))=some r:=H
                   have A37:=aM A370
                   clear A370
                   have H':=aM H
                   clear H
                   try go_wp2
                   have n0_:=aM (Kd.R_drew HO_0.out)
                   have n1_:=aM (Kept.drew HK.out)
                   have n2_:=aM (below_drew1 HB.out)
                   clear HO_0
                   clear HK
                   clear HB
                   have HO_0:=n0_
                   have HK:=n1_
                   have HB:=n2_
                   clear n0_ n1_ n2_
                   have p228:0≤((ji32):Int):=dT (z1_)
                   have q228:(ji32)<(x0_1.length:Int):=dT (z1_)
                   obtain ⟨ad228,e228,hx228_0,hx228_1⟩:=at_T77 (Kd.R_reads' HO_0.out).2.2 (ji32) p228 q228
                   cases e228
                   replace p228:=eq_true p228
                   replace q228:=eq_true q228
                   have p229:0≤(x13_17:Int):=dT (z1_)
                   have q229:x13_17<(x0_1.length:Int):=dT (z1_)
                   obtain ⟨ad229,e229,hx229_0,hx229_1⟩:=at_T77 (Kd.R_reads' HO_0.out).2.2 x13_17 p229 q229
                   obtain rfl:ad228=ad229:=(by injection e229)
                   replace p229:=eq_true p229
                   replace q229:=eq_true q229
                   refine start_ (n:=17) (S:=fun w'=>w'.cell? (ad228.add (((ji32)).toNat*2))=some (.int .i64 ((rd_T77 x0_1 (ji32)).f0))∧w'.cell? ⟨(ad228.add (((ji32)).toNat*2)).block,(ad228.add (((ji32)).toNat*2)).off+1,none⟩=some (.int .i64 ((rd_T77 x0_1 (ji32)).f1))∧w'.cell? (ad228.add ((x13_17).toNat*2))=some (.int .i64 ((rd_T77 x0_1 x13_17).f0))∧w'.cell? ⟨(ad228.add ((x13_17).toNat*2)).block,(ad228.add ((x13_17).toNat*2)).off+1,none⟩=some (.int .i64 ((rd_T77 x0_1 x13_17).f1))) (ds:=[]) Y1.q0 (by kernel_rfl) rfl rfl ⟨hx228_0,hx228_1,hx229_0,hx229_1⟩ (fun hHeld=>?_);refine with_tabW Y1.tab17 Y1.bits17 (fun HT_ HW_=>?_)
                   generalize wc.drew=w38 at HO_0 HK HB hx228_0 hx228_1 hx229_0 hx229_1 hHeld ⊢
                   refine pu_ 0 81 Y1.q1 HT_.out ?_
                   refine pu_ 1 82 Y1.q2 HT_.out ?_
                   refine pu_ 2 83 Y1.q3 HT_.out ?_
                   refine pu_ 3 84 Y1.q4 HT_.out ?_
                   refine pu_ 4 85 Y1.q5 HT_.out ?_
                   refine pu_ 5 86 Y1.q6 HT_.out ?_
                   refine pu_ 6 87 Y1.q7 HT_.out ?_
                   refine pu_ 7 88 Y1.q8 HT_.out ?_
                   refine pu_ 9 90 #[I,I,I,I,I,I,I,I,O,I,O,O,O,O,O,O,O] HT_.out ?_
                   refine pu_ 10 91 #[I,I,I,I,I,I,I,I,O,I,I,O,O,O,O,O,O] HT_.out ?_
                   refine pu_ 11 92 #[I,I,I,I,I,I,I,I,O,I,I,I,O,O,O,O,O] HT_.out ?_
                   refine tk4_ 8 89 Y1.q9 HT_.out HW_.out hHeld ?_
                   refine tk4_ 12 93 Y1.q10 HT_.out HW_.out hHeld ?_
                   refine o1_ 13 94 Y1.q11 HT_.out (fun K hK=>?_)
                   refine goesD_ Tryd.func78 (by kernel_rfl) rfl #[.agg #[.int .i64 ((rd_T77 x0_1 (ji32)).f0),.int .i64 ((rd_T77 x0_1 (ji32)).f1)],.agg #[.int .i64 ((rd_T77 x0_1 x13_17).f0),.int .i64 ((rd_T77 x0_1 x13_17).f1)]] (by rfl) rfl rfl (by rfl) (by (try simp only [List.map_toArray,List.map_cons,List.map_nil]);first | done | (simp only [hji32];rfl) | rfl | (simp only [List.length_drop,List.length_take];rfl)) ?_
                   with_reducible refine (Y14.calls kj25 ((rd_T77 x0_1 (ji32)).f0) ((rd_T77 x0_1 (ji32)).f1) ((rd_T77 x0_1 x13_17).f0) ((rd_T77 x0_1 x13_17).f1) t230 _ A37.out).mono ?_
                   rintro e w39 ⟨rfl,hb⟩
                   have HS0_:=(hb.cell (World.block_lt_of_cell? _ _ (hHeld.1))).trans (hHeld.1)
                   have HS1_:=(hb.cell (World.block_lt_of_cell? _ _ (hHeld.2.1))).trans (hHeld.2.1)
                   have HS2_:=(hb.cell (World.block_lt_of_cell? _ _ (hHeld.2.2.1))).trans (hHeld.2.2.1)
                   have HS3_:=(hb.cell (World.block_lt_of_cell? _ _ (hHeld.2.2.2))).trans (hHeld.2.2.2)
                   refine ⟨_,rfl,?_⟩
                   have n0_:=aM (Kd.R_below (z2_ HO_0.out) hb)
                   have n1_:=aM (Kept.below (S:=(fun k_=>P0_ k_)) (z5_ HK.out) hb)
                   have n2_:=aM (below_step (z3_ HB.out) hb)
                   clear HO_0
                   clear HK
                   clear HB
                   have HO_0:=n0_
                   have HK:=n1_
                   have HB:=n2_
                   clear n0_ n1_ n2_
                   (try clear hb)
                   refine hK.out _ _ ⟨HS0_,HS1_,HS2_,HS3_⟩ (fun hHeld=>?_)
                   clear hK K
                   refine nm_ 94 ?_
                   refine pu_ 14 95 Y1.q12 HT_.out ?_
                   refine pu_ 15 96 Y1.q13 HT_.out ?_
                   refine pu_ 16 97 Y1.q14 HT_.out ?_
                   refine done_ (done_of HT_.out (by kernel_rfl)) ?_
                   try go_wp2
                   go_meet
                   case rel=>exact ⟨_,(!(decide (t230<0))),(z0_),H',⟨by have:=HK1.out;have:=HJ12.out;have:=HJ17.out;have:=HJ22.out;have:=HJ25.out;first | omega | exact Nat.le_refl _⟩,⟨z2_ HO_0.out⟩,⟨z5_ HK.out⟩,⟨z3_ HB.out⟩⟩
                  ·rw [if_neg c36] at H
                   exact nO H
                 ·rw [if_neg c35] at H
                  exact nO H
                ·rw [if_neg c34] at H
                 exact nO H
               ·rw [if_neg c33] at H
                exact nO H
              ·rw [if_neg c31] at H
               have c31b0:decide (0<x1_1)=false:=dF c31
               clear c31
               (first | rw [c31b0] | (simp only [i64_w,i32_w];rw [c31b0]) | skip)
               have H':=aM H
               clear H
               try go_wp2
               have n0_:=aM (Kd.R_drew HO_0.out)
               have n1_:=aM (Kept.drew HK.out)
               have n2_:=aM (below_drew1 HB.out)
               clear HO_0
               clear HK
               clear HB
               have HO_0:=n0_
               have HK:=n1_
               have HB:=n2_
               clear n0_ n1_ n2_
               refine start_ (n:=17) (S:=fun w'=>True) (ds:=[]) Y1.q0 (by kernel_rfl) rfl rfl trivial (fun hHeld=>?_);refine with_tabW Y1.tab17 Y1.bits17 (fun HT_ HW_=>?_)
               generalize wc.drew=w40 at HO_0 HK HB hHeld ⊢
               refine pu_ 0 81 Y1.q1 HT_.out ?_
               refine pu_ 1 82 Y1.q2 HT_.out ?_
               refine pu_ 2 83 Y1.q3 HT_.out ?_
               refine pn_ 3 84 Y1.q4 HT_.out ?_
               refine pn_ 4 85 Y1.q5 HT_.out ?_
               refine pn_ 5 86 Y1.q6 HT_.out ?_
               refine pn_ 6 87 Y1.q7 HT_.out ?_
               refine pn_ 7 88 Y1.q8 HT_.out ?_
               refine pn_ 8 89 #[I,I,I,I,I,I,I,I,I,O,O,O,O,O,O,O,O] HT_.out ?_
               refine pn_ 9 90 #[I,I,I,I,I,I,I,I,I,I,O,O,O,O,O,O,O] HT_.out ?_
               refine pn_ 10 91 #[I,I,I,I,I,I,I,I,I,I,I,O,O,O,O,O,O] HT_.out ?_
               refine pn_ 11 92 Y1.q9 HT_.out ?_
               refine pn_ 12 93 Y1.q10 HT_.out ?_
               refine pn_ 13 94 Y1.q11 HT_.out ?_
               refine pn_ 14 95 Y1.q12 HT_.out ?_
               refine pn_ 15 96 Y1.q13 HT_.out ?_
               refine pu_ 16 97 Y1.q14 HT_.out ?_
               refine done_ (done_of HT_.out (by kernel_rfl)) ?_
               try go_wp2
               go_meet
               case rel=>exact ⟨_,(false),(z0_),H',⟨by have:=HK1.out;have:=HJ12.out;have:=HJ17.out;have:=HJ22.out;have:=HJ25.out;first | omega | exact Nat.le_refl _⟩,⟨z2_ HO_0.out⟩,⟨z5_ HK.out⟩,⟨z3_ HB.out⟩⟩
             case rest =>
              clear HC30
              try clear c1
              try clear c2
              try clear p2
              try clear q2
              try clear hx2
              try clear c3
              try clear c6
              try clear c6b0
              try clear p6
              try clear c7
              try clear c10
              try clear c10b0
              try clear c10b1
              try clear c14
              try clear c21
              try clear c21b0
              try clear c21b1
              try clear p22
              try clear q22
              try clear hx22
              try clear c24
              try clear c25
              try clear c27
              try clear c29
              try clear c31
              try clear c31b0
              try clear c33
              try clear c33b0
              try clear c34
              try clear c34b0
              try clear c35
              try clear c35b0
              try clear c36
              try clear c36b0
              try clear hx228_0
              try clear hx228_1
              try clear hx229_0
              try clear hx229_1
              try clear p2
              try clear p228
              try clear p229
              try clear p6
              try clear q228
              try clear q229
              obtain ⟨kq,x97_29,rfl,HA,HJ29,HO_0,HK,HB⟩:=hcut
              cases kq with
              | zero=>exact absurd HA.out (by simp [Y1.j5])
              | succ kj29 =>
               have H:=HA.out
               clear HA
               simp only [Y1.j5] at H
               by_cases c41:x97_29=true
               ·subst c41
                have H1:((Y32.f x0_1 x1_1 x2_1 x13_17).bind fun t231=>(Y1.l0 kj29 x0_1 t231 x2_1 x3_12 x10_1 x11_1))=some r:=by rw [if_pos rfl] at H;exact H
                clear H
                have H:=H1
                clear H1
                replace H:=bS H
                obtain ⟨t231,A420,H⟩:=H
                replace H:(Y1.l0 kj29 x0_1 t231 x2_1 x3_12 x10_1 x11_1)=some r:=H
                have A42:=aM A420
                clear A420
                have H':=aM H
                clear H
                go_wp2_with (first | ((with_reducible refine gc_ 128 ?_);refine gl_ (some 103) Tryd.func128 #[.slice Ao19 x0_1.length co19,.int .i64 x1_1,.int .i64 x2_1,.int .i64 x13_17,.func (.func 78) #[] #[]] ?_;(with_reducible refine (Y32.calls _ _ x0_1 x1_1 x2_1 x13_17  t231 _ ?s1 ?s2 A42.out).mono ?_);(case s1=>repeat (first | exact (Kd.R_reads' HO_0.out).2.2 | (with_reducible refine Kd.C_alloc ?_ _) | (with_reducible refine Kd.C_drewN ?_ _) | (with_reducible refine Kd.C_drew ?_)));(case s2=>exact (Kd.R_reads' HO_0.out).2.1);rintro e w' ⟨rfl,⟨nd,rfl⟩⟩;refine ⟨_,rfl,?_⟩))
                go_roundg kj29
                case measure=>have:=HK1.out;have:=HJ12.out;have:=HJ17.out;have:=HJ22.out;have:=HJ25.out;have:=HJ29.out;omega
                case rel=>exact ⟨(x0_1),(t231),(x2_1),(x3_12),(x10_1),(x11_1),(z0_),(z0_),(z0_),(z0_),(z0_),H',⟨by have:=HK1.out;have:=HJ12.out;have:=HJ17.out;have:=HJ22.out;have:=HJ25.out;have:=HJ29.out;omega⟩,⟨z2_ HO_0.out⟩,⟨z5_ HK.out⟩,⟨z3_ HB.out⟩⟩
               ·replace c41:=Bool.eq_false_iff.mpr c41
                subst c41
                have H1:((Y0.f kj29 x0_1 x1_1 x2_1 x13_17).bind fun bt232=>(if (wrap64 (bt232.1-x1_1))<(wrap64 (x2_1-bt232.1)) then ((Y1.f kj29 bt232.2.2 x1_1 bt232.1 x3_12).bind fun t235=>(Y1.l0 kj29 t235 (wrap64 (bt232.1+1)) x2_1 x3_12 (decide ((wrap64 (bt232.1-x1_1))≥(wrap64 (Int.tdiv (wrap64 (x2_1-x1_1)) 8)))) bt232.2.1)) else ((Y1.f kj29 bt232.2.2 (wrap64 (bt232.1+1)) x2_1 x3_12).bind fun t236=>(Y1.l0 kj29 t236 x1_1 bt232.1 x3_12 (decide ((wrap64 (x2_1-bt232.1))≥(wrap64 (Int.tdiv (wrap64 (x2_1-x1_1)) 8)))) bt232.2.1))))=some r:=by rw [if_neg (show ¬ (false=true) by decide)] at H;exact H
                clear H
                have H:=H1
                clear H1
                replace H:=bS H
                obtain ⟨⟨t232,t233,t234⟩,A430,H⟩:=H
                replace H:(if (wrap64 (t232-x1_1))<(wrap64 (x2_1-t232)) then ((Y1.f kj29 t234 x1_1 t232 x3_12).bind fun t235=>(Y1.l0 kj29 t235 (wrap64 (t232+1)) x2_1 x3_12 (decide ((wrap64 (t232-x1_1))≥(wrap64 (Int.tdiv (wrap64 (x2_1-x1_1)) 8)))) t233)) else ((Y1.f kj29 t234 (wrap64 (t232+1)) x2_1 x3_12).bind fun t236=>(Y1.l0 kj29 t236 x1_1 t232 x3_12 (decide ((wrap64 (x2_1-t232))≥(wrap64 (Int.tdiv (wrap64 (x2_1-x1_1)) 8)))) t233)))=some r:=H
                have A43:=aM A430
                clear A430
                by_cases c44:(wrap64 (t232-x1_1))<(wrap64 (x2_1-t232))
                ·rw [if_pos c44] at H
                 have c44b0:decide ((wrap64 (t232-x1_1))<(wrap64 (x2_1-t232)))=true:=dE c44
                 clear c44
                 replace H:=bS H
                 obtain ⟨t235,A450,H⟩:=H
                 replace H:(Y1.l0 kj29 t235 (wrap64 (t232+1)) x2_1 x3_12 (decide ((wrap64 (t232-x1_1))≥(wrap64 (Int.tdiv (wrap64 (x2_1-x1_1)) 8)))) t233)=some r:=H
                 have A45:=aM A450
                 clear A450
                 have H':=aM H
                 clear H
                 go_wp2_with (first | ((with_reducible refine gc_ 129 ?_);refine gl_ (some 111) Tryd.func129 #[.slice Ao19 x0_1.length co19,.int .i64 x1_1,.int .i64 x2_1,.int .i64 x13_17,.func (.func 78) #[] #[]] ?_;(with_reducible refine (Y0.calls kj29 (fun k_=>some k_=(.slice Ao19 x0_1.length co19:Value).ownBlock) (.slice Ao19 x0_1.length co19) x0_1 x1_1 x2_1 x13_17  t232 t233 t234 w0 _ ?s1 ?s2 A43.out).mono ?_);(case s1=>repeat (first | (with_reducible first | exact HB.out | apply below_alloc | apply pw_below_drewN | apply below_drew1) | exact HB.out));(case s2=>exact Kd.R_tight rfl HO_0.out);rintro e w46 ⟨rfl,hy0,hb,hkp⟩;refine ⟨_,rfl,?_⟩;have n0_:=aM (Kd.R_reok rfl hy0 (fun k_ e_=>HO_0.out.1 k_ e_));have n1_:=aM (Kept.then_ (S:=(fun k_=>P0_ k_)) (z5_ HK.out) hkp (fun k_ hs_=>(fun e_=>(HO_0.out.1 k_ e_.symm)) hs_));have n2_:=aM (hb);clear HO_0;clear HK;clear HB;have HO_0:=n0_;have HK:=n1_;have HB:=n2_;clear n0_ n1_ n2_;(try clear hb);(try clear hkp);(try clear hy0)) | ((with_reducible refine gc_ 107 ?_);refine gl_ (some 134) Tryd.func107 #[.slice Ao19 x0_1.length co19,.int .i64 x1_1,.int .i64 t232,.int .i64 x3_12,.func (.func 78) #[] #[]] ?_;(with_reducible refine (ih kj29 (by have:=HK1.out;have:=HJ12.out;have:=HJ17.out;have:=HJ22.out;have:=HJ25.out;have:=HJ29.out;omega) (fun k_=>some k_=(.slice Ao19 x0_1.length co19:Value).ownBlock) (.slice Ao19 x0_1.length co19) t234 x1_1 t232 x3_12  t235 w0 _ ?s1 ?s2 A45.out).mono ?_);(case s1=>repeat (first | (with_reducible first | exact HB.out | apply below_alloc | apply pw_below_drewN | apply below_drew1) | exact HB.out));(case s2=>exact Kd.R_tight rfl HO_0.out);rintro e w47 ⟨rfl,hy0,hb,hkp⟩;refine ⟨_,rfl,?_⟩;have n0_:=aM (Kd.R_reok rfl hy0 (fun k_ e_=>HO_0.out.1 k_ e_));have n1_:=aM (Kept.then_ (S:=(fun k_=>P0_ k_)) (z5_ HK.out) hkp (fun k_ hs_=>(fun e_=>(HO_0.out.1 k_ e_.symm)) hs_));have n2_:=aM (hb);clear HO_0;clear HK;clear HB;have HO_0:=n0_;have HK:=n1_;have HB:=n2_;clear n0_ n1_ n2_;(try clear hb);(try clear hkp);(try clear hy0)))
                 go_roundg kj29
                 case measure=>have:=HK1.out;have:=HJ12.out;have:=HJ17.out;have:=HJ22.out;have:=HJ25.out;have:=HJ29.out;omega
                 case rel=>exact ⟨(t235),(wrap64 (t232+1)),(x2_1),(x3_12),(decide ((wrap64 (t232-x1_1))≥(wrap64 (Int.tdiv (wrap64 (x2_1-x1_1)) 8)))),(t233),(z0_),(z0_),(z0_),(z0_),(z0_),H',⟨by have:=HK1.out;have:=HJ12.out;have:=HJ17.out;have:=HJ22.out;have:=HJ25.out;have:=HJ29.out;omega⟩,⟨z2_ HO_0.out⟩,⟨z5_ HK.out⟩,⟨z3_ HB.out⟩⟩
                ·rw [if_neg c44] at H
                 have c44b0:decide ((wrap64 (t232-x1_1))<(wrap64 (x2_1-t232)))=false:=dF c44
                 clear c44
                 replace H:=bS H
                 obtain ⟨t236,A480,H⟩:=H
                 replace H:(Y1.l0 kj29 t236 x1_1 t232 x3_12 (decide ((wrap64 (x2_1-t232))≥(wrap64 (Int.tdiv (wrap64 (x2_1-x1_1)) 8)))) t233)=some r:=H
                 have A48:=aM A480
                 clear A480
                 have H':=aM H
                 clear H
                 go_wp2_with (first | ((with_reducible refine gc_ 129 ?_);refine gl_ (some 111) Tryd.func129 #[.slice Ao19 x0_1.length co19,.int .i64 x1_1,.int .i64 x2_1,.int .i64 x13_17,.func (.func 78) #[] #[]] ?_;(with_reducible refine (Y0.calls kj29 (fun k_=>some k_=(.slice Ao19 x0_1.length co19:Value).ownBlock) (.slice Ao19 x0_1.length co19) x0_1 x1_1 x2_1 x13_17  t232 t233 t234 w0 _ ?s1 ?s2 A43.out).mono ?_);(case s1=>repeat (first | (with_reducible first | exact HB.out | apply below_alloc | apply pw_below_drewN | apply below_drew1) | exact HB.out));(case s2=>exact Kd.R_tight rfl HO_0.out);rintro e w49 ⟨rfl,hy0,hb,hkp⟩;refine ⟨_,rfl,?_⟩;have n0_:=aM (Kd.R_reok rfl hy0 (fun k_ e_=>HO_0.out.1 k_ e_));have n1_:=aM (Kept.then_ (S:=(fun k_=>P0_ k_)) (z5_ HK.out) hkp (fun k_ hs_=>(fun e_=>(HO_0.out.1 k_ e_.symm)) hs_));have n2_:=aM (hb);clear HO_0;clear HK;clear HB;have HO_0:=n0_;have HK:=n1_;have HB:=n2_;clear n0_ n1_ n2_;(try clear hb);(try clear hkp);(try clear hy0)) | ((with_reducible refine gc_ 107 ?_);refine gl_ (some 146) Tryd.func107 #[.slice Ao19 x0_1.length co19,.int .i64 (wrap64 (t232+1)),.int .i64 x2_1,.int .i64 x3_12,.func (.func 78) #[] #[]] ?_;(with_reducible refine (ih kj29 (by have:=HK1.out;have:=HJ12.out;have:=HJ17.out;have:=HJ22.out;have:=HJ25.out;have:=HJ29.out;omega) (fun k_=>some k_=(.slice Ao19 x0_1.length co19:Value).ownBlock) (.slice Ao19 x0_1.length co19) t234 (wrap64 (t232+1)) x2_1 x3_12  t236 w0 _ ?s1 ?s2 A48.out).mono ?_);(case s1=>repeat (first | (with_reducible first | exact HB.out | apply below_alloc | apply pw_below_drewN | apply below_drew1) | exact HB.out));(case s2=>exact Kd.R_tight rfl HO_0.out);rintro e w50 ⟨rfl,hy0,hb,hkp⟩;refine ⟨_,rfl,?_⟩;have n0_:=aM (Kd.R_reok rfl hy0 (fun k_ e_=>HO_0.out.1 k_ e_));have n1_:=aM (Kept.then_ (S:=(fun k_=>P0_ k_)) (z5_ HK.out) hkp (fun k_ hs_=>(fun e_=>(HO_0.out.1 k_ e_.symm)) hs_));have n2_:=aM (hb);clear HO_0;clear HK;clear HB;have HO_0:=n0_;have HK:=n1_;have HB:=n2_;clear n0_ n1_ n2_;(try clear hb);(try clear hkp);(try clear hy0)))
                 go_roundg kj29
                 case measure=>have:=HK1.out;have:=HJ12.out;have:=HJ17.out;have:=HJ22.out;have:=HJ25.out;have:=HJ29.out;omega
                 case rel=>exact ⟨(t236),(x1_1),(t232),(x3_12),(decide ((wrap64 (x2_1-t232))≥(wrap64 (Int.tdiv (wrap64 (x2_1-x1_1)) 8)))),(t233),(z0_),(z0_),(z0_),(z0_),(z0_),H',⟨by have:=HK1.out;have:=HJ12.out;have:=HJ17.out;have:=HJ22.out;have:=HJ25.out;have:=HJ29.out;omega⟩,⟨z2_ HO_0.out⟩,⟨z5_ HK.out⟩,⟨z3_ HB.out⟩⟩


/-! ### Y12: function 77 -/
def Y12.f (k:Nat) (l0:List (S77))  : Option ((List (S77))):=(Y72.f k (IntKind.u64.wrap ((l0.length:Int)))).bind fun t237=>((Y1.f k l0 0 (l0.length:Int) t237).bind fun t238=>(some t238))
theorem Y12.mono:∀ a0 k,LeO (Y12.f k a0) (Y12.f (k+1) a0):=by
 intro a0 k
 have m0:=@Y72.mono
 have m1:=@Y1.mono
 unfold Y12.f
 exact mO
theorem Y12.calls (k:Nat) (P0_:Nat→Prop) (u9000_:Value) (l0:List (S77))  (r:List (S77)) (w0 w:World) (hB:Below w0.heap.size w0 w) (ho0:Kd.R k77 77 w w0.heap.size P0_ u9000_ l0) (h:Y12.f k l0=some r) :
  Calls Tryd.prog 77 #[u9000_,.func (.func 78) #[] #[]] w fun e w'=>e = .returned (.tuple #[])∧Kd.R k77 77 w' w0.heap.size (fun k_=>(P0_ k_∨w.heap.size≤k_)) u9000_ r∧Below w0.heap.size w0 w'∧Kept w w' (fun k_=>P0_ k_):=by
 have HO0:=aM (show Kd.R k77 77 w w0.heap.size (fun k_=>(P0_ k_∨w.heap.size≤k_)) u9000_ l0 from Kd.R_mono ho0 (fun k_ hk=>(.inl hk)))
 have HK:=aM (Kept.refl w (fun k_=>P0_ k_))
 have HW0:=aM hB.size
 have HB:=aM hB
 clear hB
 have H:((Y72.f k (IntKind.u64.wrap ((l0.length:Int)))).bind fun t237=>((Y1.f k l0 0 (l0.length:Int) t237).bind fun t238=>(some t238)))=some r:=h
 clear h
 replace H:=bS H
 obtain ⟨t237,A30,H⟩:=H
 replace H:((Y1.f k l0 0 (l0.length:Int) t237).bind fun t238=>(some t238))=some r:=H
 have A3:=aM A30
 clear A30
 replace H:=bS H
 obtain ⟨t238,A40,H⟩:=H
 replace H:(some t238)=some r:=H
 have A4:=aM A40
 clear A40
 obtain rfl:=sI H
 obtain ⟨Ao5,co5,eo5⟩:=Kd.R_slice HO0.out
 subst eo5
 go_enter Tryd.func77,Tryd.ntmps77
 go_wp2_with (first | ((with_reducible refine gc_ 108 ?_);refine gl_ (some 11) Tryd.func108 #[.int .u64 (IntKind.u64.wrap ((l0.length:Int)))] ?_;(with_reducible refine (Y72.calls k (IntKind.u64.wrap ((l0.length:Int))) t237 _ A3.out).mono ?_);rintro e w' ⟨rfl,⟨nd,rfl⟩⟩;refine ⟨_,rfl,?_⟩) | ((with_reducible refine gc_ 107 ?_);refine gl_ (some 13) Tryd.func107 #[.slice Ao5 l0.length co5,.int .i64 0,.int .i64 (l0.length:Int),.int .i64 t237,.func (.func 78) #[] #[]] ?_;(with_reducible refine (Y1.calls k (fun k_=>some k_=(.slice Ao5 l0.length co5:Value).ownBlock) (.slice Ao5 l0.length co5) l0 0 (l0.length:Int) t237  t238 w0 _ ?s1 ?s2 A4.out).mono ?_);(case s1=>repeat (first | (with_reducible first | exact HB.out | apply below_alloc | apply pw_below_drewN | apply below_drew1) | exact HB.out));(case s2=>exact Kd.R_tight rfl HO0.out);rintro e w6 ⟨rfl,hy0,hb,hkp⟩;refine ⟨_,rfl,?_⟩;have n0_:=aM (Kd.R_reok rfl hy0 (fun k_ e_=>HO0.out.1 k_ e_));have n1_:=aM (Kept.then_ (S:=(fun k_=>P0_ k_)) (z5_ HK.out) hkp (fun k_ hs_=>(fun e_=>(HO0.out.1 k_ e_.symm)) hs_));have n2_:=aM (hb);clear HO0;clear HK;clear HB;have HO0:=n0_;have HK:=n1_;have HB:=n2_;clear n0_ n1_ n2_;(try clear hb);(try clear hkp);(try clear hy0)))
 first | go_end0 | ((try simp only [Exit.inBlock,Exit.then]);refine bodyPost_ret (results_none rfl _ _ _) rfl ?_)
 exact ⟨z9_,z2_ HO0.out,z3_ HB.out,z5_ HK.out⟩


/-! ### Y10: function 43 -/
mutual
def Y10.l0:Nat→Int→Int→Int→Int→List (S77)→Option (Int × (List (S77)))
 | 0,_,_,_,_,_=>none
 | k+1,x0,x1,x6,x241000,x241001=>if x6≤x0 then (Y10.l1 k x0 x1 x6 1 x241000 x241001) else ((Y12.f k x241001).bind fun t241=>(some (x241000,t241)))
def Y10.l1:Nat→Int→Int→Int→Int→Int→List (S77)→Option (Int × (List (S77)))
 | 0,_,_,_,_,_,_=>none
 | k+1,x0,x1,x6,x7,x241000,x241001=>if x7≤x1 then ((Y62.f k x6).bind fun t242=>(if t242.size+1≤9223372036854775807 then ((Y62.f k x7).bind fun t243=>(if (t242.size+1)+t243.size≤9223372036854775807 then ((Y54.f k ((t242 ++ (⟨#[45]⟩:ByteArray)) ++ t243)).bind fun t244=>(if x241001.length<8796093022208 then (Y10.l1 k x0 x1 x6 (wrap64 (x7+1)) x241000 (x241001 ++ [(⟨t244,x6⟩:S77)])) else (none))) else (none))) else (none))) else (Y10.l0 k x0 x1 (wrap64 (x6+1)) x241000 x241001)
end
def Y10.f (k:Nat) (a0:Int) (a1:Int):Option (Int × (List (S77))):=Y10.l0 k a0 a1 1 a0 ([]:List (S77))
theorem Y10.mono_l:∀ k,(∀ y0 y1 y2 y3 y4,LeO (Y10.l0 k y0 y1 y2 y3 y4) (Y10.l0 (k+1) y0 y1 y2 y3 y4))∧(∀ y0 y1 y2 y3 y4 y5,LeO (Y10.l1 k y0 y1 y2 y3 y4 y5) (Y10.l1 (k+1) y0 y1 y2 y3 y4 y5))
 | 0=>by refine ⟨?_,?_⟩ <;> intros <;> exact LeO.none _
 | k+1=>by
  obtain ⟨ih0,ih1⟩:=Y10.mono_l k
  have m0:=@Y62.mono
  have m1:=@Y54.mono
  have m2:=@Y12.mono
  refine ⟨?_,?_⟩
  ·intros
   unfold Y10.l0
   exact mO
  ·intros
   unfold Y10.l1
   exact mO
theorem Y10.mono:∀ a0 a1 k,LeO (Y10.f k a0 a1) (Y10.f (k+1) a0 a1):=by
 intro a0 a1 k
 have m0:=@Y62.mono
 have m1:=@Y54.mono
 have m2:=@Y12.mono
 obtain ⟨ih0,ih1⟩:=Y10.mono_l k
 unfold Y10.f
 exact mO
def Y10.T8:Bool × List (List Nat × List Nat):=(true,[([],[]),([0],[0]),([],[]),([2],[2]),([3],[3]),([],[]),([5,3],[5]),([4,6],[4,6]),([7,6],[7]),([],[]),([8,9],[8,9]),([10],[10]),([1,11,8],[1,11]),([0,1,2,3,4,5,6,7,8,9,10,11,12],[]),([13,12,12,0,1,2,3,4,5,6,7,8,9,10,11,12],[12,13])])
def Y10.B8:List Nat:=[0,1,0,4,12,0,44,124,252,0,1020,2044,4095,8191,16383]
theorem Y10.tab8:rtab .any (opsOf Tryd.f43 8)=Y10.T8:=by kernel_rfl
theorem Y10.bits8:waitsOk Y10.T8.2 Y10.B8=true:=by kernel_rfl
theorem Y10.calls (k:Nat) (a0:Int) (a1:Int) (r1:Int) (r2:List (S77)) (w:World) (h:Y10.f k a0 a1=some (r1,r2)) :
  Calls Tryd.prog 43 #[.int .i64 a0,.int .i64 a1] w fun e w'=>∃ v1_:Value,e = .returned (.agg #[.int .i64 r1,v1_])∧Kd.R k77 77 w' w.heap.size (fun _=>True) v1_ r2∧Below w.heap.size w w':=by
 have hu24:=Tryd.underlying24
 have hu77:=Tryd.underlying77
 have HB:=aM (Below.refl w.heap.size w)
 have H:(Y10.l0 k a0 a1 1 a0 ([]:List (S77)))=some (r1,r2):=h
 clear h
 have H':=aM H
 clear H
 go_enter Tryd.func43,Tryd.ntmps43
 go_wp2_with (first | ((with_reducible refine gd_ 4 ?_);refine be_ 4 #[.int .i64 0,.slice none 0 0] 24 ?_;intro gb239 hg w3 hbox hb;have n0_:=aM (below_step (z3_ HB.out) hb);have n1_:=aM (hbox);have n2_:=aM ((z10_ HB.out:w.heap.size≤gb239));have n3_:=aM ((z10_ HB.out:w.heap.size≤gb239));clear HB;have HB:=n0_;have BK239:=n1_;have GW239:=n2_;have GE239:=n3_;clear n0_ n1_ n2_ n3_;clear hb hbox hg) | ((with_reducible refine gd_ 5 ?_);refine be_ 5 #[.int .i64 0,.slice none 0 0] 24 ?_;intro gb240 hg w4 hbox hb;have n0_:=aM (blkB_ BK239.out hb);have n1_:=aM (below_step (z8_ HB.out GE239.out) hb);have n2_:=aM (hbox);have n3_:=aM ((z13_ HB.out GE239.out:w.heap.size≤gb240));have n4_:=aM ((z13_ HB.out GE239.out:w.heap.size≤gb240));have n5_:=aM (neL_ BK239.out hg);have n6_:=aM (neG_ BK239.out hg);clear BK239;clear HB;have BK239:=n0_;have HB:=n1_;have BK240:=n2_;have GW240:=n3_;have GE240:=n4_;have NB239_240:=n5_;have NB240_239:=n6_;clear n0_ n1_ n2_ n3_ n4_ n5_ n6_;clear hb hbox hg;have hnb5:=NB240_239.out;have hnc5:=NB239_240.out;have ⟨hcz6_0,hcz6_1,hfz6_0,hfz6_1⟩:=cz2_ BK240.out))
 go_loopg [6] k (fun kq v6 w'=>∃ (x6_1:Int) (x241001_1:List (S77)) (u241001:Value),v6 = .int .i64 x6_1∧Aside0 (Y10.l0 kq a0 a1 x6_1 a0 x241001_1=some (r1,r2))∧Aside0 (kq≤k)∧Aside0 (Kd.R k77 77 w' w.heap.size (fun _=>True) u241001 x241001_1)∧Aside0 (w'.heap[gb239]? = some (.cells #[.int .i64 0,(.slice none 0 0)] 24 (0,0)))∧Aside0 (w'.heap[gb240]? = some (.cells #[.int .i64 a0,u241001] 24 (0,0)))∧Aside0 (Below w.heap.size w w'))
 case atStart=>exact ⟨(1),(([]:List (S77))),(.slice none 0 0),(z0_),H',⟨Nat.le_refl _⟩,⟨z16_⟩,⟨z31_ NB239_240.out BK239.out⟩,⟨z30_ BK240.out⟩,⟨z7_ HB.out GE239.out GE240.out⟩⟩
 case round =>
  clear H'
  try clear p2
  try clear c4
  try clear c5
  try clear hcz6_0
  try clear hcz6_1
  try clear hfz6_0
  try clear hfz6_1
  obtain ⟨x6_1,x241001_1,u241001,rfl,HA,HK1,HO_241001,BK239,BK240,HB⟩:=hrel
  cases gk with
  | zero=>exact absurd HA.out (by simp [Y10.l0])
  | succ k1 =>
   have H:=HA.out
   clear HA
   simp only [Y10.l0] at H
   by_cases c7:x6_1≤a0
   ·rw [if_pos c7] at H
    have c7b0:decide (x6_1≤a0)=true:=dE c7
    clear c7
    have H':=aM H
    clear H
    go_wp2
    go_loopg [7] k1 (fun kq v7 w'=>∃ (x7_2:Int) (x241001_2:List (S77)) (u241001:Value),v7 = .int .i64 x7_2∧Aside0 (Y10.l1 kq a0 a1 x6_1 x7_2 a0 x241001_2=some (r1,r2))∧Aside0 (kq≤k1)∧Aside0 (Kd.R k77 77 w' w.heap.size (fun _=>True) u241001 x241001_2)∧Aside0 (w'.heap[gb239]? = some (.cells #[.int .i64 0,(.slice none 0 0)] 24 (0,0)))∧Aside0 (w'.heap[gb240]? = some (.cells #[.int .i64 a0,u241001] 24 (0,0)))∧Aside0 (Below w.heap.size w w'))
    case atStart=>exact ⟨(1),(x241001_1),(u241001),(z0_),H',⟨Nat.le_refl _⟩,⟨z2_ HO_241001.out⟩,⟨z4_ BK239.out⟩,⟨z4_ BK240.out⟩,⟨z7_ HB.out GE239.out GE240.out⟩⟩
    case round =>
     clear H'
     try clear p2
     try clear c4
     try clear c5
     try clear c7
     try clear c7b0
     try clear hcz6_0
     try clear hcz6_1
     try clear hfz6_0
     try clear hfz6_1
     try clear p2
     obtain ⟨x7_2,x241001_2,u241001,rfl,HA,HK2,HO_241001,BK239,BK240,HB⟩:=hrel
     cases gk with
     | zero=>exact absurd HA.out (by simp [Y10.l1])
     | succ k2 =>
      have H:=HA.out
      clear HA
      simp only [Y10.l1] at H
      by_cases c8:x7_2≤a1
      ·rw [if_pos c8] at H
       have c8b0:decide (x7_2≤a1)=true:=dE c8
       clear c8
       replace H:=bS H
       obtain ⟨t242,A90,H⟩:=H
       replace H:(if t242.size+1≤9223372036854775807 then ((Y62.f k2 x7_2).bind fun t243=>(if (t242.size+1)+t243.size≤9223372036854775807 then ((Y54.f k2 ((t242 ++ (⟨#[45]⟩:ByteArray)) ++ t243)).bind fun t244=>(if x241001_2.length<8796093022208 then (Y10.l1 k2 a0 a1 x6_1 (wrap64 (x7_2+1)) a0 (x241001_2 ++ [(⟨t244,x6_1⟩:S77)])) else (none))) else (none))) else (none))=some (r1,r2):=H
       have A9:=aM A90
       clear A90
       by_cases c10:t242.size+1≤9223372036854775807
       ·rw [if_pos c10] at H
        have c10b0:=eq_true c10
        have c10b1:decide (t242.size+1≤9223372036854775807)=true:=dE c10
        try have c10b2:(9223372036854775807<t242.size+1)=False:=eq_false (Nat.not_lt.2 c10)
        replace H:=bS H
        obtain ⟨t243,A110,H⟩:=H
        replace H:(if (t242.size+1)+t243.size≤9223372036854775807 then ((Y54.f k2 ((t242 ++ (⟨#[45]⟩:ByteArray)) ++ t243)).bind fun t244=>(if x241001_2.length<8796093022208 then (Y10.l1 k2 a0 a1 x6_1 (wrap64 (x7_2+1)) a0 (x241001_2 ++ [(⟨t244,x6_1⟩:S77)])) else (none))) else (none))=some (r1,r2):=H
        have A11:=aM A110
        clear A110
        by_cases c12:(t242.size+1)+t243.size≤9223372036854775807
        ·rw [if_pos c12] at H
         have c12b0:=eq_true c12
         have c12b1:decide ((t242.size+1)+t243.size≤9223372036854775807)=true:=dE c12
         try have c12b2:(9223372036854775807<(t242.size+1)+t243.size)=False:=eq_false (Nat.not_lt.2 c12)
         replace H:=bS H
         obtain ⟨t244,A130,H⟩:=H
         replace H:(if x241001_2.length<8796093022208 then (Y10.l1 k2 a0 a1 x6_1 (wrap64 (x7_2+1)) a0 (x241001_2 ++ [(⟨t244,x6_1⟩:S77)])) else (none))=some (r1,r2):=H
         have A13:=aM A130
         clear A130
         by_cases c14:x241001_2.length<8796093022208
         ·rw [if_pos c14] at H
          have LMc14:=aM c14
          clear c14
          obtain ⟨y245,hy245⟩:∃ y_:List (S77),y_=(x241001_2 ++ [(⟨t244,x6_1⟩:S77)]):=⟨_,rfl⟩
          replace H:(Y10.l1 k2 a0 a1 x6_1 (wrap64 (x7_2+1)) a0 y245)=some (r1,r2):=by first | (rw [hy245];with_reducible exact H) | (have H2_:=(Option.bind_some _ _).symm.trans H;rw [hy245];with_reducible exact H2_) | (have H2_:=(Option.bind_some _ _).symm.trans H;with_reducible exact H2_) | with_reducible exact H | (rw [hy245];exact H) | exact H
          have Ny245:=aM hy245
          clear hy245
          have H':=aM H
          clear H
          try go_wp2
          have n0_:=aM (Kd.R_drew HO_241001.out)
          have n1_:=aM (blk_drew BK239.out)
          have n2_:=aM (blk_drew BK240.out)
          have n3_:=aM (below_drew1 HB.out)
          clear HO_241001
          clear BK239
          clear BK240
          clear HB
          have HO_241001:=n0_
          have BK239:=n1_
          have BK240:=n2_
          have HB:=n3_
          clear n0_ n1_ n2_ n3_
          refine start_ (n:=15) (S:=fun w'=>w'.cell? ⟨gb240,0,none⟩=some (.int .i64 a0)∧w'.cell? ⟨gb240,1,none⟩=some (u241001)) (ds:=[14]) #[O,O,O,O,O,O,O,O,O,O,O,O,O,O,O] (by kernel_rfl) rfl rfl (cc2_ BK240.out) (fun hHeld=>?_);refine with_tabW Y10.tab8 Y10.bits8 (fun HT_ HW_=>?_)
          generalize wr.drew=w15 at HO_241001 BK239 BK240 HB hHeld ⊢
          refine pu_ 0 20 #[I,O,O,O,O,O,O,O,O,O,O,O,O,O,O] HT_.out ?_
          refine pu_ 2 22 #[I,O,I,O,O,O,O,O,O,O,O,O,O,O,O] HT_.out ?_
          refine pu_ 5 25 #[I,O,I,O,O,I,O,O,O,O,O,O,O,O,O] HT_.out ?_
          refine pu_ 9 29 #[I,O,I,O,O,I,O,O,O,I,O,O,O,O,O] HT_.out ?_
          refine tk2_ 1 21 #[I,I,I,O,O,I,O,O,O,I,O,O,O,O,O] HT_.out HW_.out hHeld ?_
          refine o1_ 3 23 #[I,I,I,I,O,I,O,O,O,I,O,O,O,O,O] HT_.out (fun K hK=>?_)
          refine gs_ Tryd.func76 #[.int .i64 x6_1] ?_
          with_reducible refine (Y62.calls k2 x6_1 t242 _ A9.out).mono ?_
          rintro e w' ⟨rfl,⟨nd,rfl⟩⟩
          refine ⟨_,rfl,?_⟩
          refine hK.out _ _ (cc2_ BK240.out) (fun hHeld=>?_)
          clear hK K
          refine nm_ 23 ?_
          refine pu_ 4 24 #[I,I,I,I,I,I,O,O,O,I,O,O,O,O,O] HT_.out ?_
          refine o1_ 6 26 #[I,I,I,I,I,I,I,O,O,I,O,O,O,O,O] HT_.out (fun K hK=>?_)
          refine gs_ Tryd.func76 #[.int .i64 x7_2] ?_
          with_reducible refine (Y62.calls k2 x7_2 t243 _ A11.out).mono ?_
          rintro e w' ⟨rfl,⟨nd,rfl⟩⟩
          refine ⟨_,rfl,?_⟩
          refine hK.out _ _ (cc2_ BK240.out) (fun hHeld=>?_)
          clear hK K
          refine nm_ 26 ?_
          refine pu_ 7 27 #[I,I,I,I,I,I,I,I,O,I,O,O,O,O,O] HT_.out ?_
          refine o1_ 8 28 #[I,I,I,I,I,I,I,I,I,I,O,O,O,O,O] HT_.out (fun K hK=>?_)
          refine gs_ Tryd.func75 #[.string ((t242 ++ (⟨#[45]⟩:ByteArray)) ++ t243)] ?_
          with_reducible refine (Y54.calls k2 ((t242 ++ (⟨#[45]⟩:ByteArray)) ++ t243) t244 _ A13.out).mono ?_
          rintro e w' ⟨rfl,⟨nd,rfl⟩⟩
          refine ⟨_,rfl,?_⟩
          refine hK.out _ _ (cc2_ BK240.out) (fun hHeld=>?_)
          clear hK K
          refine nm_ 28 ?_
          refine pu_ 10 30 #[I,I,I,I,I,I,I,I,I,I,I,O,O,O,O] HT_.out ?_
          refine o1_ 11 31 #[I,I,I,I,I,I,I,I,I,I,I,I,O,O,O] HT_.out (fun K hK=>?_)
          refine value_ (w1:=?_) (v:=?_) (by rfl) rfl ?_ ?_
          rotate_left 2
          ·go_simp
           constructor
           ·rfl
           ·rfl
          refine hK.out _ _ (cc2_ (blk_alloc BK240.out _)) (fun hHeld=>?_)
          clear hK K
          refine nm_ 31 ?_
          refine o1_ 12 32 #[I,I,I,I,I,I,I,I,I,I,I,I,I,O,O] HT_.out (fun K hK=>?_)
          refine Kd.R_append_step k77 (w0:=w) w.heap.size (by rfl) (.tmp 21) (.tmp 31) 22 77 (.agg #[(.int .i64 0),(.int .i64 0)]) 16 rfl Tryd.underlying22 info77 rfl (by decide) (by omega) u241001 x241001_2 (⟨t244,x6_1⟩:S77) [.int .i64 t244,.int .i64 x6_1] (fun _=>True) (fun _=>False) rfl rfl ?aP (fun _ hk=>hk.elim) ?aF ?aO ?aB ?aS ?aL ?_
          (case aP=>exact k77_mkM _ _ _ (⟨t244,x6_1⟩:S77))
          (case aB=>exact (z7_ HB.out GE239.out GE240.out))
          (case aF=>exact (fun _ _=>trivial))
          (case aO=>exact (z2_ HO_241001.out))
          (case aS=>exact (below_size (z7_ HB.out GE239.out GE240.out)))
          (case aL=>have:=LMc14.out;omega)
          intro v246 w16 ho hb hg hat
          rw [← Ny245.out] at ho
          have n0_:=aM (blk_grown (g:=gb239) (o:=.cells #[.int .i64 0,.slice none 0 0] 24 (0,0)) (z4_ BK239.out) hg (Kd.R_ne HO_241001.out BK239.out (by decide)))
          have n1_:=aM (blk_grown (g:=gb240) (o:=.cells #[.int .i64 a0,u241001] 24 (0,0)) (z4_ BK240.out) hg (Kd.R_ne HO_241001.out BK240.out (by decide)))
          have n2_:=aM (hb)
          have n3_:=aM (ho)
          clear BK239
          clear BK240
          clear HB
          clear HO_241001
          have BK239:=n0_
          have BK240:=n1_
          have HB:=n2_
          have HO247:=n3_
          clear n0_ n1_ n2_ n3_
          clear ho hb hg hat
          obtain ⟨Ao17,co17,eo17⟩:=Kd.R_slice HO247.out
          (first | subst eo17 | (injection eo17 with f1_ f2_ f3_;have f4_:=f1_.symm;have f5_:=f3_.symm;clear f1_ f2_ f3_;subst f4_;subst f5_))
          refine hK.out _ _ (cc2_ BK240.out) (fun hHeld=>?_)
          clear hK K
          refine nm_ 32 ?_
          refine pu_ 13 33 #[I,I,I,I,I,I,I,I,I,I,I,I,I,I,O] HT_.out ?_
          refine last_ (i:=14) (N:=none) #[I,I,I,I,I,I,I,I,I,I,I,I,I,I,I] rfl rfl (one_of HT_.out (by kernel_rfl)) (by decide) (fun K hK=>?_)
          have hs18:w16.cell? ⟨gb240,1,none⟩=some (u241001):=(blk_cell BK240.out 1).trans rfl
          have hfs18:=blk_frozen BK240.out 1
          have hns18_0:=NB239_240.out
          have hms18_0:=NB240_239.out
          refine skip_ (w1:=?_) (by rfl) rfl ?_ ?_
          rotate_left
          ·go_simp
           rfl
          refine hK.out _ _ ?_
          clear hK K
          refine done_ (done_of HT_.out (by kernel_rfl)) ?_
          try go_wp2
          go_roundg k2
          case measure=>have:=HK1.out;have:=HK2.out;omega
          case rel=>exact ⟨(wrap64 (x7_2+1)),(y245),(.slice Ao17 y245.length co17),(z0_),H',⟨by have:=HK1.out;have:=HK2.out;omega⟩,⟨by (with_reducible repeat (first | apply Kd.R_alloc | apply Kd.R_drewN | apply Kd.R_drew));exact Kd.R_mono (Kd.R_far (p:=⟨gb240,1,none⟩) (Kd.R_types HO247.out BK240.out (by decide)) (fun _ hk=>hk.2) (.slice Ao17 y245.length co17)) (fun _ hk=>trivial)⟩,⟨z32_ NB239_240.out BK239.out⟩,⟨by (with_reducible repeat (first | refine blk_drewN ?_ _ | refine blk_drew ?_ | refine blk_alloc ?_ _));refine blk_put (cs:=#[.int .i64 a0,u241001]) ?_ 1 _ rfl;(with_reducible repeat (first | refine blk_drewN ?_ _ | refine blk_drew ?_ | refine blk_alloc ?_ _));exact BK240.out⟩,⟨z7_ HB.out GE239.out GE240.out⟩⟩
         ·rw [if_neg c14] at H
          exact nO H
        ·rw [if_neg c12] at H
         exact nO H
       ·rw [if_neg c10] at H
        exact nO H
      ·rw [if_neg c8] at H
       have c8b0:decide (x7_2≤a1)=false:=dF c8
       clear c8
       have H':=aM H
       clear H
       go_wp2
       go_roundg k2
       case measure=>have:=HK1.out;have:=HK2.out;omega
       case rel=>exact ⟨(wrap64 (x6_1+1)),(x241001_2),(u241001),(z0_),H',⟨by have:=HK1.out;have:=HK2.out;omega⟩,⟨z2_ HO_241001.out⟩,⟨z4_ BK239.out⟩,⟨z4_ BK240.out⟩,⟨z7_ HB.out GE239.out GE240.out⟩⟩
   ·rw [if_neg c7] at H
    have c7b0:decide (x6_1≤a0)=false:=dF c7
    clear c7
    replace H:=bS H
    obtain ⟨t241,A190,H⟩:=H
    replace H:(some (a0,t241))=some (r1,r2):=H
    have A19:=aM A190
    clear A190
    simp only [Option.some.injEq,Prod.mk.injEq] at H
    obtain ⟨rfl,rfl⟩:=H
    have hnb20:=NB240_239.out
    have hnc20:=NB239_240.out
    have ⟨hcz21_0,hcz21_1,hfz21_0,hfz21_1⟩:=cz2_ BK240.out
    obtain ⟨Ao22,co22,eo22⟩:=Kd.R_slice HO_241001.out
    subst eo22
    go_wp2_with (first | ((with_reducible refine gc_ 77 ?_);refine gl_ (some 36) Tryd.func77 #[.slice Ao22 x241001_1.length co22,.func (.func 78) #[] #[]] ?_;(with_reducible refine (Y12.calls k1 (fun k_=>some k_=(.slice Ao22 x241001_1.length co22:Value).ownBlock) (.slice Ao22 x241001_1.length co22) x241001_1  t241 w _ ?s1 ?s2 A19.out).mono ?_);(case s1=>repeat (first | (with_reducible first | exact HB.out | apply below_alloc | apply pw_below_drewN | apply below_drew1 | refine below_set ?_ GE239.out | refine below_set ?_ GE240.out) | exact HB.out));(case s2=>exact Kd.R_tight rfl HO_241001.out);rintro e w23 ⟨rfl,hy0,hb,hkp⟩;refine ⟨_,rfl,?_⟩;have n0_:=aM (Kd.R_reok rfl hy0 (fun k_ e_=>HO_241001.out.1 k_ e_));have n1_:=aM (blk_kept (z4_ BK239.out) hkp (fun hs_=>(fun e_=>(Kd.R_ne HO_241001.out BK239.out (by decide)) e_) hs_));have n2_:=aM (blk_kept (z4_ BK240.out) hkp (fun hs_=>(fun e_=>(Kd.R_ne HO_241001.out BK240.out (by decide)) e_) hs_));have n3_:=aM (hb);clear HO_241001;clear BK239;clear BK240;clear HB;have HO_241001:=n0_;have BK239:=n1_;have BK240:=n2_;have HB:=n3_;clear n0_ n1_ n2_ n3_;(try clear hb);(try clear hkp);(try clear hy0);have ⟨hcz24_0,hcz24_1,hfz24_0,hfz24_1⟩:=cz2_ BK240.out;have ⟨hcz25_0,hcz25_1,hfz25_0,hfz25_1⟩:=cz2_ BK239.out))
    refine bodyPost_ret (results_cell_row rfl _ _ gb239 24 #[.int .i64 a0,.slice Ao22 x241001_1.length co22] (0,0) _ rfl (z30_ BK239.out) Tryd.underlying24 rfl (by kernel_rfl)) rfl ?_
    exact ⟨_,z9_,by (with_reducible repeat (first | apply Kd.R_alloc | apply Kd.R_drewN | apply Kd.R_drew));exact Kd.R_mono (rf2_ (Kd.R_types HO_241001.out BK239.out (by decide)) (fun _ hk=>hk.2)) (fun _ hk=>trivial),z7_ HB.out GE239.out GE240.out⟩


/-! ### Y6: function 34 -/
mutual
def Y6.j0:Nat→Int→Int→Int→Int→Bool→Option (Int × (List (S77)) × (List (S95)) × List Int × Int × Int × Int × Int × Int × Int)
 | 0,_,_,_,_,_=>none
 | k+1,x0,x1,x2,x3,x31=>if x31=true then (some (0,([]:List (S77)),([]:List (S95)),([]:List Int),0,0,0,0,0,1)) else ((Y10.f k x0 4).bind fun bt889=>(Y6.l0 k x0 1 bt889.1 bt889.2 ([]:List (S95)) x1 x2 x3))
def Y6.l0:Nat→Int→Int→Int→List (S77)→List (S95)→Int→Int→Int→Option (Int × (List (S77)) × (List (S95)) × List Int × Int × Int × Int × Int × Int × Int)
 | 0,_,_,_,_,_,_,_,_=>none
 | k+1,x0,x10,x894000,x894001,x894002,x894004,x894005,x894006=>if x10≤x0 then (if x894002.length<2513169434916 then (Y6.l0 k x0 (wrap64 (x10+1)) x894000 x894001 (x894002 ++ [(⟨x10,0,(⟨#[]⟩:ByteArray),0⟩:S95)]) x894004 x894005 x894006) else (none)) else (some (x894000,x894001,x894002,([]:List Int),x894004,x894005,x894006,0,0,0))
end
def Y6.f (k:Nat) (a0:Int) (a1:Int) (a2:Int) (a3:Int):Option (Int × (List (S77)) × (List (S95)) × List Int × Int × Int × Int × Int × Int × Int):=(Y70.f a0).bind fun t885=>(if t885=true then ((Y31.f a1 1 a0).bind fun t886=>(if t886=true then ((Y31.f a2 1 a1).bind fun t887=>(if t887=true then ((Y31.f a3 1 a1).bind fun t888=>(Y6.j0 k a0 a1 a2 a3 (!t888))) else (Y6.j0 k a0 a1 a2 a3 true))) else (Y6.j0 k a0 a1 a2 a3 true))) else (Y6.j0 k a0 a1 a2 a3 true))
theorem Y6.mono_l:∀ k,(∀ y0 y1 y2 y3 y4,LeO (Y6.j0 k y0 y1 y2 y3 y4) (Y6.j0 (k+1) y0 y1 y2 y3 y4))∧(∀ y0 y1 y2 y3 y4 y5 y6 y7,LeO (Y6.l0 k y0 y1 y2 y3 y4 y5 y6 y7) (Y6.l0 (k+1) y0 y1 y2 y3 y4 y5 y6 y7))
 | 0=>by refine ⟨?_,?_⟩ <;> intros <;> exact LeO.none _
 | k+1=>by
  obtain ⟨ih0,ih1⟩:=Y6.mono_l k
  have m0:=@Y10.mono
  refine ⟨?_,?_⟩
  ·intros
   unfold Y6.j0
   exact mO
  ·intros
   unfold Y6.l0
   exact mO
theorem Y6.mono:∀ a0 a1 a2 a3 k,LeO (Y6.f k a0 a1 a2 a3) (Y6.f (k+1) a0 a1 a2 a3):=by
 intro a0 a1 a2 a3 k
 have m0:=@Y10.mono
 obtain ⟨ih0,ih1⟩:=Y6.mono_l k
 unfold Y6.f
 exact mO
theorem Y6.calls (k:Nat) (a0:Int) (a1:Int) (a2:Int) (a3:Int) (r1:Int) (r2:List (S77)) (r3:List (S95)) (r4:List Int) (r5:Int) (r6:Int) (r7:Int) (r8:Int) (r9:Int) (r10:Int) (w:World) (h:Y6.f k a0 a1 a2 a3=some (r1,r2,r3,r4,r5,r6,r7,r8,r9,r10)) :
  Calls Tryd.prog 34 #[.int .i64 a0,.int .i64 a1,.int .i64 a2,.int .i64 a3] w fun e w'=>∃ v1_ v2_ v3_:Value,e = .returned (.agg #[.int .i64 r1,v1_,v2_,v3_,.int .i64 r5,.int .i64 r6,.int .i64 r7,.slice none 0 0,.slice none 0 0,.int .i64 r10])∧Kd.R k77 77 w' w.heap.size (fun _=>True) v1_ r2∧Kd.R k95 95 w' w.heap.size (fun _=>True) v2_ r3∧Kd.R (Kd.int .i64) 2 w' w.heap.size (fun _=>True) v3_ r4∧Below w.heap.size w w':=by
 have hu62:=Tryd.underlying62
 have hu56:=Tryd.underlying56
 have hu95:=Tryd.underlying95
 have HB:=aM (Below.refl w.heap.size w)
 have H:((Y70.f a0).bind fun t885=>(if t885=true then ((Y31.f a1 1 a0).bind fun t886=>(if t886=true then ((Y31.f a2 1 a1).bind fun t887=>(if t887=true then ((Y31.f a3 1 a1).bind fun t888=>(Y6.j0 k a0 a1 a2 a3 (!t888))) else (Y6.j0 k a0 a1 a2 a3 true))) else (Y6.j0 k a0 a1 a2 a3 true))) else (Y6.j0 k a0 a1 a2 a3 true)))=some (r1,r2,r3,r4,r5,r6,r7,r8,r9,r10):=h
 clear h
 have HC5:=aM H
 clear H
 go_enter Tryd.func34,Tryd.ntmps34
 go_upto_region 1 with (first | ((with_reducible refine gd_ 8 ?_);refine be_ 8 #[.int .i64 0,.slice none 0 0,.slice none 0 0,.slice none 0 0,.int .i64 0,.int .i64 0,.int .i64 0,.slice none 0 0,.slice none 0 0,.int .i64 0] 62 ?_;intro gb884 hg w6 hbox hb;have n0_:=aM (below_step (z3_ HB.out) hb);have n1_:=aM (hbox);have n2_:=aM ((z10_ HB.out:w.heap.size≤gb884));have n3_:=aM ((z10_ HB.out:w.heap.size≤gb884));clear HB;have HB:=n0_;have BK884:=n1_;have GW884:=n2_;have GE884:=n3_;clear n0_ n1_ n2_ n3_;clear hb hbox hg))
 (try simp only [Act.put,sa_,s0_,ss_])
 go_cut [31] (fun v31 wc=>∃ (kq:Nat) (x31_4:Bool),v31 = .bool x31_4∧Aside0 (Y6.j0 kq a0 a1 a2 a3 x31_4=some (r1,r2,r3,r4,r5,r6,r7,r8,r9,r10))∧Aside0 (kq≤k)∧Aside0 (wc.heap[gb884]? = some (.cells #[.int .i64 0,(.slice none 0 0),(.slice none 0 0),(.slice none 0 0),.int .i64 0,.int .i64 0,.int .i64 0,.slice none 0 0,.slice none 0 0,.int .i64 0] 62 (0,0)))∧Aside0 (Below w.heap.size w wc))
 case first =>
  have H:=HC5.out
  clear HC5
  replace H:=bS H
  obtain ⟨t885,A70,H⟩:=H
  replace H:(if t885=true then ((Y31.f a1 1 a0).bind fun t886=>(if t886=true then ((Y31.f a2 1 a1).bind fun t887=>(if t887=true then ((Y31.f a3 1 a1).bind fun t888=>(Y6.j0 k a0 a1 a2 a3 (!t888))) else (Y6.j0 k a0 a1 a2 a3 true))) else (Y6.j0 k a0 a1 a2 a3 true))) else (Y6.j0 k a0 a1 a2 a3 true))=some (r1,r2,r3,r4,r5,r6,r7,r8,r9,r10):=H
  have A7:=aM A70
  clear A70
  by_cases c8:t885=true
  ·subst c8
   have H1:((Y31.f a1 1 a0).bind fun t886=>(if t886=true then ((Y31.f a2 1 a1).bind fun t887=>(if t887=true then ((Y31.f a3 1 a1).bind fun t888=>(Y6.j0 k a0 a1 a2 a3 (!t888))) else (Y6.j0 k a0 a1 a2 a3 true))) else (Y6.j0 k a0 a1 a2 a3 true)))=some (r1,r2,r3,r4,r5,r6,r7,r8,r9,r10):=by rw [if_pos rfl] at H;exact H
   clear H
   have H:=H1
   clear H1
   replace H:=bS H
   obtain ⟨t886,A90,H⟩:=H
   replace H:(if t886=true then ((Y31.f a2 1 a1).bind fun t887=>(if t887=true then ((Y31.f a3 1 a1).bind fun t888=>(Y6.j0 k a0 a1 a2 a3 (!t888))) else (Y6.j0 k a0 a1 a2 a3 true))) else (Y6.j0 k a0 a1 a2 a3 true))=some (r1,r2,r3,r4,r5,r6,r7,r8,r9,r10):=H
   have A9:=aM A90
   clear A90
   by_cases c10:t886=true
   ·subst c10
    have H1:((Y31.f a2 1 a1).bind fun t887=>(if t887=true then ((Y31.f a3 1 a1).bind fun t888=>(Y6.j0 k a0 a1 a2 a3 (!t888))) else (Y6.j0 k a0 a1 a2 a3 true)))=some (r1,r2,r3,r4,r5,r6,r7,r8,r9,r10):=by rw [if_pos rfl] at H;exact H
    clear H
    have H:=H1
    clear H1
    replace H:=bS H
    obtain ⟨t887,A110,H⟩:=H
    replace H:(if t887=true then ((Y31.f a3 1 a1).bind fun t888=>(Y6.j0 k a0 a1 a2 a3 (!t888))) else (Y6.j0 k a0 a1 a2 a3 true))=some (r1,r2,r3,r4,r5,r6,r7,r8,r9,r10):=H
    have A11:=aM A110
    clear A110
    by_cases c12:t887=true
    ·subst c12
     have H1:((Y31.f a3 1 a1).bind fun t888=>(Y6.j0 k a0 a1 a2 a3 (!t888)))=some (r1,r2,r3,r4,r5,r6,r7,r8,r9,r10):=by rw [if_pos rfl] at H;exact H
     clear H
     have H:=H1
     clear H1
     replace H:=bS H
     obtain ⟨t888,A130,H⟩:=H
     replace H:(Y6.j0 k a0 a1 a2 a3 (!t888))=some (r1,r2,r3,r4,r5,r6,r7,r8,r9,r10):=H
     have A13:=aM A130
     clear A130
     have H':=aM H
     clear H
     go_wp2_with (first | ((with_reducible refine gc_ 41 ?_);refine gl_ (some 12) Tryd.func41 #[.int .i64 a0] ?_;(with_reducible refine (Y70.calls a0 true _ A7.out).mono ?_);rintro e w' ⟨rfl,⟨nd,rfl⟩⟩;refine ⟨_,rfl,?_⟩) | (go_at_call 42;(with_reducible refine (Y31.calls a1 1 a0 true _ A9.out).mono ?_);rintro e w' ⟨rfl,⟨nd,rfl⟩⟩) | (go_at_call 42;(with_reducible refine (Y31.calls a2 1 a1 true _ A11.out).mono ?_);rintro e w' ⟨rfl,⟨nd,rfl⟩⟩) | (go_at_call 42;(with_reducible refine (Y31.calls a3 1 a1 t888 _ A13.out).mono ?_);rintro e w' ⟨rfl,⟨nd,rfl⟩⟩))
     go_meet
     case rel=>exact ⟨_,(!t888),(z0_),H',⟨by first | omega | exact Nat.le_refl _⟩,⟨z4_ BK884.out⟩,⟨z8_ HB.out GE884.out⟩⟩
    ·replace c12:=Bool.eq_false_iff.mpr c12
     subst c12
     have H1:(Y6.j0 k a0 a1 a2 a3 true)=some (r1,r2,r3,r4,r5,r6,r7,r8,r9,r10):=by rw [if_neg (show ¬ (false=true) by decide)] at H;exact H
     clear H
     have H:=H1
     clear H1
     have H':=aM H
     clear H
     go_wp2_with (first | ((with_reducible refine gc_ 41 ?_);refine gl_ (some 12) Tryd.func41 #[.int .i64 a0] ?_;(with_reducible refine (Y70.calls a0 true _ A7.out).mono ?_);rintro e w' ⟨rfl,⟨nd,rfl⟩⟩;refine ⟨_,rfl,?_⟩) | (go_at_call 42;(with_reducible refine (Y31.calls a1 1 a0 true _ A9.out).mono ?_);rintro e w' ⟨rfl,⟨nd,rfl⟩⟩) | (go_at_call 42;(with_reducible refine (Y31.calls a2 1 a1 false _ A11.out).mono ?_);rintro e w' ⟨rfl,⟨nd,rfl⟩⟩))
     go_meet
     case rel=>exact ⟨_,(true),(z0_),H',⟨by first | omega | exact Nat.le_refl _⟩,⟨z4_ BK884.out⟩,⟨z8_ HB.out GE884.out⟩⟩
   ·replace c10:=Bool.eq_false_iff.mpr c10
    subst c10
    have H1:(Y6.j0 k a0 a1 a2 a3 true)=some (r1,r2,r3,r4,r5,r6,r7,r8,r9,r10):=by rw [if_neg (show ¬ (false=true) by decide)] at H;exact H
    clear H
    have H:=H1
    clear H1
    have H':=aM H
    clear H
    go_wp2_with (first | ((with_reducible refine gc_ 41 ?_);refine gl_ (some 12) Tryd.func41 #[.int .i64 a0] ?_;(with_reducible refine (Y70.calls a0 true _ A7.out).mono ?_);rintro e w' ⟨rfl,⟨nd,rfl⟩⟩;refine ⟨_,rfl,?_⟩) | (go_at_call 42;(with_reducible refine (Y31.calls a1 1 a0 false _ A9.out).mono ?_);rintro e w' ⟨rfl,⟨nd,rfl⟩⟩))
    go_meet
    case rel=>exact ⟨_,(true),(z0_),H',⟨by first | omega | exact Nat.le_refl _⟩,⟨z4_ BK884.out⟩,⟨z8_ HB.out GE884.out⟩⟩
  ·replace c8:=Bool.eq_false_iff.mpr c8
   subst c8
   have H1:(Y6.j0 k a0 a1 a2 a3 true)=some (r1,r2,r3,r4,r5,r6,r7,r8,r9,r10):=by rw [if_neg (show ¬ (false=true) by decide)] at H;exact H
   clear H
   have H:=H1
   clear H1
   have H':=aM H
   clear H
   go_wp2_with (first | ((with_reducible refine gc_ 41 ?_);refine gl_ (some 12) Tryd.func41 #[.int .i64 a0] ?_;(with_reducible refine (Y70.calls a0 false _ A7.out).mono ?_);rintro e w' ⟨rfl,⟨nd,rfl⟩⟩;refine ⟨_,rfl,?_⟩))
   go_meet
   case rel=>exact ⟨_,(true),(z0_),H',⟨by first | omega | exact Nat.le_refl _⟩,⟨z4_ BK884.out⟩,⟨z8_ HB.out GE884.out⟩⟩
 case rest =>
  clear HC5
  try clear c1
  try clear p2
  try clear c3
  try clear c4
  try clear c8
  try clear c10
  try clear c12
  obtain ⟨kq,x31_4,rfl,HA,HJ4,BK884,HB⟩:=hcut
  cases kq with
  | zero=>exact absurd HA.out (by simp [Y6.j0])
  | succ kj4 =>
   have H:=HA.out
   clear HA
   simp only [Y6.j0] at H
   by_cases c14:x31_4=true
   ·subst c14
    have H1:(some (0,([]:List (S77)),([]:List (S95)),([]:List Int),0,0,0,0,0,1))=some (r1,r2,r3,r4,r5,r6,r7,r8,r9,r10):=by rw [if_pos rfl] at H;exact H
    clear H
    have H:=H1
    clear H1
    simp only [Option.some.injEq,Prod.mk.injEq] at H
    obtain ⟨rfl,rfl,rfl,rfl,rfl,rfl,rfl,rfl,rfl,rfl⟩:=H
    have ⟨hcz15_0,hcz15_1,hcz15_2,hcz15_3,hcz15_4,hcz15_5,hcz15_6,hcz15_7,hcz15_8,hcz15_9,hfz15_0,hfz15_1,hfz15_2,hfz15_3,hfz15_4,hfz15_5,hfz15_6,hfz15_7,hfz15_8,hfz15_9⟩:=cz10_ BK884.out
    go_wp2
    refine bodyPost_ret (results_cell_row rfl _ _ gb884 62 #[.int .i64 0,.slice none 0 0,.slice none 0 0,.slice none 0 0,.int .i64 0,.int .i64 0,.int .i64 0,.slice none 0 0,.slice none 0 0,.int .i64 1] (0,0) _ rfl (z23_ BK884.out) Tryd.underlying62 rfl (by kernel_rfl)) rfl ?_
    exact ⟨_,_,_,z9_,z16_,z16_,z16_,z8_ HB.out GE884.out⟩
   ·replace c14:=Bool.eq_false_iff.mpr c14
    subst c14
    have H1:((Y10.f kj4 a0 4).bind fun bt889=>(Y6.l0 kj4 a0 1 bt889.1 bt889.2 ([]:List (S95)) a1 a2 a3))=some (r1,r2,r3,r4,r5,r6,r7,r8,r9,r10):=by rw [if_neg (show ¬ (false=true) by decide)] at H;exact H
    clear H
    have H:=H1
    clear H1
    replace H:=bS H
    obtain ⟨⟨t889,t890⟩,A160,H⟩:=H
    replace H:(Y6.l0 kj4 a0 1 t889 t890 ([]:List (S95)) a1 a2 a3)=some (r1,r2,r3,r4,r5,r6,r7,r8,r9,r10):=H
    have A16:=aM A160
    clear A160
    have H':=aM H
    clear H
    go_wp2_with (first | ((with_reducible refine gc_ 43 ?_);refine gl_ (some 34) Tryd.func43 #[.int .i64 a0,.int .i64 4] ?_;(with_reducible refine (Y10.calls kj4 a0 4 t889 t890 _ A16.out).mono ?_);rintro e w17 ⟨v891,rfl,ho0,hb⟩;refine ⟨_,rfl,?_⟩;have n0_:=aM (Kd.R_lower ho0 (below_size (z8_ HB.out GE884.out)));have n1_:=aM (blkB_ BK884.out hb);have n2_:=aM (below_step (z8_ HB.out GE884.out) hb);clear BK884;clear HB;have HO892:=n0_;have BK884:=n1_;have HB:=n2_;clear n0_ n1_ n2_;(try clear hb);(try clear ho0);obtain ⟨Ao18,co18,eo18⟩:=Kd.R_slice HO892.out;subst eo18) | ((with_reducible refine gd_ 9 ?_);refine be_ 9 #[.int .i64 0,.slice none 0 0,.slice none 0 0,.slice none 0 0,.int .i64 0,.int .i64 0,.int .i64 0] 56 ?_;intro gb893 hg w19 hbox hb;have n0_:=aM (Kd.R_below (z2_ HO892.out) hb);have n1_:=aM (blkB_ BK884.out hb);have n2_:=aM (below_step (z8_ HB.out GE884.out) hb);have n3_:=aM (hbox);have n4_:=aM ((z13_ HB.out GE884.out:w.heap.size≤gb893));have n5_:=aM ((z13_ HB.out GE884.out:w.heap.size≤gb893));have n6_:=aM (neL_ BK884.out hg);have n7_:=aM (neG_ BK884.out hg);clear HO892;clear BK884;clear HB;have HO892:=n0_;have BK884:=n1_;have HB:=n2_;have BK893:=n3_;have GW893:=n4_;have GE893:=n5_;have NB884_893:=n6_;have NB893_884:=n7_;clear n0_ n1_ n2_ n3_ n4_ n5_ n6_ n7_;clear hb hbox hg;have hnb20:=NB893_884.out;have hnc20:=NB884_893.out;have ⟨hcz21_0,hcz21_1,hcz21_2,hcz21_3,hcz21_4,hcz21_5,hcz21_6,hfz21_0,hfz21_1,hfz21_2,hfz21_3,hfz21_4,hfz21_5,hfz21_6⟩:=cz7_ BK893.out))
    go_loopg [10] kj4 (fun kq v10 w'=>∃ (x10_2:Int) (x894002_2:List (S95)) (u894002:Value),v10 = .int .i64 x10_2∧Aside0 (Y6.l0 kq a0 x10_2 t889 t890 x894002_2 a1 a2 a3=some (r1,r2,r3,r4,r5,r6,r7,r8,r9,r10))∧Aside0 (kq≤kj4)∧Aside0 (Kd.R k77 77 w' w.heap.size (fun _=>True) (.slice Ao18 t890.length co18) t890)∧Aside0 (Kd.R k95 95 w' w.heap.size (fun _=>True) u894002 x894002_2)∧Aside0 (w'.heap[gb884]? = some (.cells #[.int .i64 0,(.slice none 0 0),(.slice none 0 0),(.slice none 0 0),.int .i64 0,.int .i64 0,.int .i64 0,.slice none 0 0,.slice none 0 0,.int .i64 0] 62 (0,0)))∧Aside0 (w'.heap[gb893]? = some (.cells #[.int .i64 t889,(.slice Ao18 t890.length co18),u894002,(.slice none 0 0),.int .i64 a1,.int .i64 a2,.int .i64 a3] 56 (0,0)))∧Aside0 (Below w.heap.size w w'))
    case atStart=>exact ⟨(1),(([]:List (S95))),(.slice none 0 0),(z0_),H',⟨Nat.le_refl _⟩,⟨by (with_reducible repeat (first | apply Kd.R_alloc | apply Kd.R_drewN | apply Kd.R_drew));exact Kd.R_mono (rf7_ (Kd.R_types HO892.out BK893.out (by decide)) (fun _ hk=>hk.2)) (fun _ hk=>trivial)⟩,⟨z16_⟩,⟨by (with_reducible repeat (first | refine blk_drewN ?_ _ | refine blk_drew ?_ | refine blk_alloc ?_ _));refine blk_far ?_ NB884_893.out _;(with_reducible repeat (first | refine blk_drewN ?_ _ | refine blk_drew ?_ | refine blk_alloc ?_ _));refine blk_far ?_ NB884_893.out _;(with_reducible repeat (first | refine blk_drewN ?_ _ | refine blk_drew ?_ | refine blk_alloc ?_ _));refine blk_far ?_ NB884_893.out _;(with_reducible repeat (first | refine blk_drewN ?_ _ | refine blk_drew ?_ | refine blk_alloc ?_ _));refine blk_far ?_ NB884_893.out _;(with_reducible repeat (first | refine blk_drewN ?_ _ | refine blk_drew ?_ | refine blk_alloc ?_ _));refine blk_far ?_ NB884_893.out _;(with_reducible repeat (first | refine blk_drewN ?_ _ | refine blk_drew ?_ | refine blk_alloc ?_ _));refine blk_far ?_ NB884_893.out _;(with_reducible repeat (first | refine blk_drewN ?_ _ | refine blk_drew ?_ | refine blk_alloc ?_ _));refine blk_far ?_ NB884_893.out _;(with_reducible repeat (first | refine blk_drewN ?_ _ | refine blk_drew ?_ | refine blk_alloc ?_ _));exact BK884.out⟩,⟨by (with_reducible repeat (first | refine blk_drewN ?_ _ | refine blk_drew ?_ | refine blk_alloc ?_ _));apply put7_;(with_reducible repeat (first | refine blk_drewN ?_ _ | refine blk_drew ?_ | refine blk_alloc ?_ _));exact BK893.out⟩,⟨z7_ HB.out GE884.out GE893.out⟩⟩
    case round =>
     clear H'
     try clear c1
     try clear c2
     try clear p2
     try clear c3
     try clear c4
     try clear c8
     try clear c10
     try clear c12
     try clear c14
     try clear c20
     try clear hcz15_0
     try clear hcz15_1
     try clear hcz15_2
     try clear hcz15_3
     try clear hcz15_4
     try clear hcz15_5
     try clear hcz15_6
     try clear hcz15_7
     try clear hcz15_8
     try clear hcz15_9
     try clear hcz21_0
     try clear hcz21_1
     try clear hcz21_2
     try clear hcz21_3
     try clear hcz21_4
     try clear hcz21_5
     try clear hcz21_6
     try clear hfz15_0
     try clear hfz15_1
     try clear hfz15_2
     try clear hfz15_3
     try clear hfz15_4
     try clear hfz15_5
     try clear hfz15_6
     try clear hfz15_7
     try clear hfz15_8
     try clear hfz15_9
     try clear hfz21_0
     try clear hfz21_1
     try clear hfz21_2
     try clear hfz21_3
     try clear hfz21_4
     try clear hfz21_5
     try clear hfz21_6
     try clear p2
     obtain ⟨x10_2,x894002_2,u894002,rfl,HA,HK2,HO_894001,HO_894002,BK884,BK893,HB⟩:=hrel
     cases gk with
     | zero=>exact absurd HA.out (by simp [Y6.l0])
     | succ k2 =>
      have H:=HA.out
      clear HA
      simp only [Y6.l0] at H
      by_cases c22:x10_2≤a0
      ·rw [if_pos c22] at H
       have c22b0:decide (x10_2≤a0)=true:=dE c22
       clear c22
       by_cases c23:x894002_2.length<2513169434916
       ·rw [if_pos c23] at H
        have LMc23:=aM c23
        clear c23
        obtain ⟨y894,hy894⟩:∃ y_:List (S95),y_=(x894002_2 ++ [(⟨x10_2,0,(⟨#[]⟩:ByteArray),0⟩:S95)]):=⟨_,rfl⟩
        replace H:(Y6.l0 k2 a0 (wrap64 (x10_2+1)) t889 t890 y894 a1 a2 a3)=some (r1,r2,r3,r4,r5,r6,r7,r8,r9,r10):=by first | (rw [hy894];with_reducible exact H) | (have H2_:=(Option.bind_some _ _).symm.trans H;rw [hy894];with_reducible exact H2_) | (have H2_:=(Option.bind_some _ _).symm.trans H;with_reducible exact H2_) | with_reducible exact H | (rw [hy894];exact H) | exact H
        have Ny894:=aM hy894
        clear hy894
        have H':=aM H
        clear H
        have hnb24:=NB893_884.out
        have hnc24:=NB884_893.out
        have ⟨hcz25_0,hcz25_1,hcz25_2,hcz25_3,hcz25_4,hcz25_5,hcz25_6,hfz25_0,hfz25_1,hfz25_2,hfz25_3,hfz25_4,hfz25_5,hfz25_6⟩:=cz7_ BK893.out
        go_wp2_with (first | ((with_reducible refine gate_builtin (b:=.append) (xs:=#[.tmp 45,.tmp 48]) rfl ?_);at_builtin;refine Kd.R_append k95 (w0:=w) w.heap.size rfl (.tmp 45) (.tmp 48) 54 95 (.agg #[(.int .i64 0),(.slice none 0 0),(.string ⟨#[]⟩),(.int .i64 0)]) 56 rfl Tryd.underlying54 info95 rfl (by decide) (by omega) u894002 x894002_2 (⟨x10_2,0,(⟨#[]⟩:ByteArray),0⟩:S95) [.int .i64 x10_2,.slice none 0 0,.string (⟨#[]⟩:ByteArray),.int .i64 0] (fun _=>True) (fun _=>False) rfl rfl ?aP (fun _ hk=>hk.elim) ?aF ?aO ?aB ?aS ?aL ?_;(case aP=>exact k95_mkM _ _ _ (⟨x10_2,0,(⟨#[]⟩:ByteArray),0⟩:S95));(case aB=>exact (z7_ HB.out GE884.out GE893.out));(case aF=>exact (fun _ _=>trivial));(case aO=>exact (z2_ HO_894002.out));(case aS=>exact (below_size (z7_ HB.out GE884.out GE893.out)));(case aL=>have:=LMc23.out;omega);intro v895 w26 ho hb hg hat;rw [← Ny894.out] at ho;have n0_:=aM (Kd.R_over' (z2_ HO_894001.out) (Kd.R_typed (z2_ HO_894002.out)) (by decide) hg);have n1_:=aM (blk_grown (g:=gb884) (o:=.cells #[.int .i64 0,.slice none 0 0,.slice none 0 0,.slice none 0 0,.int .i64 0,.int .i64 0,.int .i64 0,.slice none 0 0,.slice none 0 0,.int .i64 0] 62 (0,0)) (z4_ BK884.out) hg (Kd.R_ne HO_894002.out BK884.out (by decide)));have n2_:=aM (blk_grown (g:=gb893) (o:=.cells #[.int .i64 t889,.slice Ao18 t890.length co18,u894002,.slice none 0 0,.int .i64 a1,.int .i64 a2,.int .i64 a3] 56 (0,0)) (z4_ BK893.out) hg (Kd.R_ne HO_894002.out BK893.out (by decide)));have n3_:=aM (hb);have n4_:=aM (ho);clear HO_894001;clear BK884;clear BK893;clear HB;clear HO_894002;have HO_894001:=n0_;have BK884:=n1_;have BK893:=n2_;have HB:=n3_;have HO896:=n4_;clear n0_ n1_ n2_ n3_ n4_;clear ho hb hg hat;obtain ⟨Ao27,co27,eo27⟩:=Kd.R_slice HO896.out;subst eo27;have ⟨hcz28_0,hcz28_1,hcz28_2,hcz28_3,hcz28_4,hcz28_5,hcz28_6,hfz28_0,hfz28_1,hfz28_2,hfz28_3,hfz28_4,hfz28_5,hfz28_6⟩:=cz7_ BK893.out))
        go_roundg k2
        case measure=>have:=HJ4.out;have:=HK2.out;omega
        case rel=>exact ⟨(wrap64 (x10_2+1)),(y894),(.slice Ao27 y894.length co27),(z0_),H',⟨by have:=HJ4.out;have:=HK2.out;omega⟩,⟨by (with_reducible repeat (first | apply Kd.R_alloc | apply Kd.R_drewN | apply Kd.R_drew));exact Kd.R_mono (Kd.R_far (p:=⟨gb893,2,none⟩) (Kd.R_types HO_894001.out BK893.out (by decide)) (fun _ hk=>hk.2) (.slice Ao27 y894.length co27)) (fun _ hk=>trivial)⟩,⟨by (with_reducible repeat (first | apply Kd.R_alloc | apply Kd.R_drewN | apply Kd.R_drew));exact Kd.R_mono (Kd.R_far (p:=⟨gb893,2,none⟩) (Kd.R_types HO896.out BK893.out (by decide)) (fun _ hk=>hk.2) (.slice Ao27 y894.length co27)) (fun _ hk=>trivial)⟩,⟨z32_ NB884_893.out BK884.out⟩,⟨by (with_reducible repeat (first | refine blk_drewN ?_ _ | refine blk_drew ?_ | refine blk_alloc ?_ _));refine blk_put (cs:=#[.int .i64 t889,.slice Ao18 t890.length co18,u894002,.slice none 0 0,.int .i64 a1,.int .i64 a2,.int .i64 a3]) ?_ 2 _ rfl;(with_reducible repeat (first | refine blk_drewN ?_ _ | refine blk_drew ?_ | refine blk_alloc ?_ _));exact BK893.out⟩,⟨z7_ HB.out GE884.out GE893.out⟩⟩
       ·rw [if_neg c23] at H
        exact nO H
      ·rw [if_neg c22] at H
       have c22b0:decide (x10_2≤a0)=false:=dF c22
       clear c22
       simp only [Option.some.injEq,Prod.mk.injEq] at H
       obtain ⟨rfl,rfl,rfl,rfl,rfl,rfl,rfl,rfl,rfl,rfl⟩:=H
       have hnb29:=NB893_884.out
       have hnc29:=NB884_893.out
       have ⟨hcz30_0,hcz30_1,hcz30_2,hcz30_3,hcz30_4,hcz30_5,hcz30_6,hfz30_0,hfz30_1,hfz30_2,hfz30_3,hfz30_4,hfz30_5,hfz30_6⟩:=cz7_ BK893.out
       obtain ⟨Ao31,co31,eo31⟩:=Kd.R_slice HO_894002.out
       subst eo31
       have ⟨hcz32_0,hcz32_1,hcz32_2,hcz32_3,hcz32_4,hcz32_5,hcz32_6,hcz32_7,hcz32_8,hcz32_9,hfz32_0,hfz32_1,hfz32_2,hfz32_3,hfz32_4,hfz32_5,hfz32_6,hfz32_7,hfz32_8,hfz32_9⟩:=cz10_ BK884.out
       go_wp2
       refine bodyPost_ret (results_cell_row rfl _ _ gb884 62 #[.int .i64 t889,.slice Ao18 t890.length co18,.slice Ao31 x894002_2.length co31,.slice none 0 0,.int .i64 a1,.int .i64 a2,.int .i64 a3,.slice none 0 0,.slice none 0 0,.int .i64 0] (0,0) _ rfl (z23_ BK884.out) Tryd.underlying62 rfl (by kernel_rfl)) rfl ?_
       exact ⟨_,_,_,z9_,z25_ HO_894001.out BK884.out,z25_ HO_894002.out BK884.out,z16_,z7_ HB.out GE884.out GE893.out⟩


/-! ### Y73: function 95 -/
def Y73.f (a0_0:Int) (a0_1:Int) (a1_0:Int) (a1_1:Int):Option (Bool):=if a0_0=a1_0 then (if a0_1=a1_1 then (some true) else (none)) else (none)
theorem Y73.calls (a0_0:Int) (a0_1:Int) (a1_0:Int) (a1_1:Int) (r:Bool) (w:World) (h:Y73.f a0_0 a0_1 a1_0 a1_1=some r) :
  Calls Tryd.prog 95 #[.agg #[.int .i64 a0_0,.int .i64 a0_1],.agg #[.int .i64 a1_0,.int .i64 a1_1]] w fun e w'=>e = .returned (.bool r)∧Below w.heap.size w w':=by
 have hu77:=Tryd.underlying77
 have HB:=aM (Below.refl w.heap.size w)
 have H:(if a0_0=a1_0 then (if a0_1=a1_1 then (some true) else (none)) else (none))=some r:=h
 clear h
 by_cases c3:a0_0=a1_0
 ·rw [if_pos c3] at H
  have c3b0:(a0_0 == a1_0)=true:=beq_iff_eq.mpr c3
  have c3b1:(a0_0 != a1_0)=false:=bne_eq_false_iff_eq.mpr c3
  clear c3
  by_cases c4:a0_1=a1_1
  ·rw [if_pos c4] at H
   have c4b0:(a0_1 == a1_1)=true:=beq_iff_eq.mpr c4
   have c4b1:(a0_1 != a1_1)=false:=bne_eq_false_iff_eq.mpr c4
   clear c4
   obtain rfl:=sI H
   go_enter Tryd.func95,Tryd.ntmps95
   go_wp2_with (first | ((with_reducible refine gd_ 2 ?_);refine be_ 2 #[.int .i64 a0_0,.int .i64 a0_1] 77 ?_;intro gb255 hg w5 hbox hb;have n0_:=aM (below_step (z3_ HB.out) hb);have n1_:=aM (hbox);have n2_:=aM ((z10_ HB.out:w.heap.size≤gb255));have n3_:=aM ((z10_ HB.out:w.heap.size≤gb255));clear HB;have HB:=n0_;have BK255:=n1_;have GW255:=n2_;have GE255:=n3_;clear n0_ n1_ n2_ n3_;clear hb hbox hg) | ((with_reducible refine gd_ 3 ?_);refine be_ 3 #[.int .i64 a1_0,.int .i64 a1_1] 77 ?_;intro gb256 hg w6 hbox hb;have n0_:=aM (blkB_ BK255.out hb);have n1_:=aM (below_step (z8_ HB.out GE255.out) hb);have n2_:=aM (hbox);have n3_:=aM ((z13_ HB.out GE255.out:w.heap.size≤gb256));have n4_:=aM ((z13_ HB.out GE255.out:w.heap.size≤gb256));have n5_:=aM (neL_ BK255.out hg);have n6_:=aM (neG_ BK255.out hg);clear BK255;clear HB;have BK255:=n0_;have HB:=n1_;have BK256:=n2_;have GW256:=n3_;have GE256:=n4_;have NB255_256:=n5_;have NB256_255:=n6_;clear n0_ n1_ n2_ n3_ n4_ n5_ n6_;clear hb hbox hg;have hnb7:=NB255_256.out;have hnc7:=NB256_255.out;have ⟨hcz8_0,hcz8_1,hfz8_0,hfz8_1⟩:=cz2_ BK255.out;have ⟨hcz9_0,hcz9_1,hfz9_0,hfz9_1⟩:=cz2_ BK256.out))
   go_ret
   exact ⟨z9_,z7_ HB.out GE255.out GE256.out⟩
  ·rw [if_neg c4] at H
   exact nO H
 ·rw [if_neg c3] at H
  exact nO H


/-! ### Y20: function 59 -/
def Y20.l0:Nat→List (S77)→List (S77)→Int→Option (Bool)
 | 0,_,_,_=>none
 | k+1,x0,x1,x5=>if x5<(x0.length:Int) then (if 0≤x5 then (if x5<(x1.length:Int) then ((Y73.f ((rd_T77 x0 x5).f0) ((rd_T77 x0 x5).f1) ((rd_T77 x1 x5).f0) ((rd_T77 x1 x5).f1)).bind fun t259=>(if t259=true then (Y20.l0 k x0 x1 (wrap64 (x5+1))) else (none))) else (none)) else (none)) else (some true)
def Y20.f (k:Nat) (l0:List (S77)) (l1:List (S77)):Option (Bool):=if (l0.length:Int)=(l1.length:Int) then (Y20.l0 k l0 l1 0) else (none)
theorem Y20.mono_l:∀ k,(∀ y0 y1 y2,LeO (Y20.l0 k y0 y1 y2) (Y20.l0 (k+1) y0 y1 y2))
 | 0=>by intros <;> exact LeO.none _
 | k+1=>by
  have ih0:=Y20.mono_l k
  ·intros
   unfold Y20.l0
   exact mO
theorem Y20.mono:∀ a0 a1 k,LeO (Y20.f k a0 a1) (Y20.f (k+1) a0 a1):=by
 intro a0 a1 k
 have ih0:=Y20.mono_l k
 unfold Y20.f
 exact mO
def Y20.T6:Bool × List (List Nat × List Nat):=(true,[([],[]),([],[]),([0,1],[0,1]),([2],[2]),([],[]),([],[]),([4,5],[4,5]),([6],[6]),([3,7],[3,7]),([8],[8])])
def Y20.B6:List Nat:=[0,0,3,7,0,0,48,112,255,511]
theorem Y20.tab6:rtab .any (opsOf Tryd.f59 6)=Y20.T6:=by kernel_rfl
theorem Y20.bits6:waitsOk Y20.T6.2 Y20.B6=true:=by kernel_rfl
theorem Y20.calls (k:Nat) (A0:Option Addr) (c0:Nat) (l0:List (S77)) (A1:Option Addr) (c1:Nat) (l1:List (S77)) (r:Bool) (w:World) (hr0:Kd.C k77 w A0 l0.length l0) (hc0:l0.length≤c0) (hr1:Kd.C k77 w A1 l1.length l1) (hc1:l1.length≤c1) (h:Y20.f k l0 l1=some r) :
  Calls Tryd.prog 59 #[.slice A0 l0.length c0,.slice A1 l1.length c1] w fun e w'=>e = .returned (.bool r)∧Below w.heap.size w w':=by
 have hu77:=Tryd.underlying77
 have HR0:=aM hr0
 have HC0:=aM hc0
 clear hr0 hc0
 have HR1:=aM hr1
 have HC1:=aM hc1
 clear hr1 hc1
 have HB:=aM (Below.refl w.heap.size w)
 have H:(if (l0.length:Int)=(l1.length:Int) then (Y20.l0 k l0 l1 0) else (none))=some r:=h
 clear h
 by_cases c3:(l0.length:Int)=(l1.length:Int)
 ·rw [if_pos c3] at H
  have c3b0:((l0.length:Int) == (l1.length:Int))=true:=beq_iff_eq.mpr c3
  have c3b1:((l0.length:Int) != (l1.length:Int))=false:=bne_eq_false_iff_eq.mpr c3
  have c3b2:(l0.length == l1.length)=true:=by first | simpa using c3 | (simp at c3 ⊢;omega)
  clear c3
  have H':=aM H
  clear H
  go_enter Tryd.func59,Tryd.ntmps59
  go_wp2
  go_loopg [5] k (fun kq v5 w'=>∃ (x5_1:Int),v5 = .int .i64 x5_1∧Aside0 (Y20.l0 kq l0 l1 x5_1=some r)∧Aside0 (kq≤k)∧Aside0 (Below w.heap.size w w'))
  case atStart=>exact ⟨(0),(z0_),H',⟨Nat.le_refl _⟩,⟨z3_ HB.out⟩⟩
  case round =>
   clear H'
   try clear c1
   try clear p2
   try clear c3
   try clear c3b0
   try clear c3b1
   try clear c3b2
   obtain ⟨x5_1,rfl,HA,HK1,HB⟩:=hrel
   cases gk with
   | zero=>exact absurd HA.out (by simp [Y20.l0])
   | succ k1 =>
    have H:=HA.out
    clear HA
    simp only [Y20.l0] at H
    by_cases c4:x5_1<(l0.length:Int)
    ·rw [if_pos c4] at H
     have c4b0:decide (x5_1<(l0.length:Int))=true:=dE c4
     clear c4
     by_cases c5:0≤x5_1
     ·rw [if_pos c5] at H
      have c5b0:decide (0≤x5_1)=true:=dE c5
      clear c5
      by_cases c6:x5_1<(l1.length:Int)
      ·rw [if_pos c6] at H
       have c6b0:decide (x5_1<(l1.length:Int))=true:=dE c6
       clear c6
       replace H:=bS H
       obtain ⟨t259,A70,H⟩:=H
       replace H:(if t259=true then (Y20.l0 k1 l0 l1 (wrap64 (x5_1+1))) else (none))=some r:=H
       have A7:=aM A70
       clear A70
       by_cases c8:t259=true
       ·subst c8
        have H1:(Y20.l0 k1 l0 l1 (wrap64 (x5_1+1)))=some r:=by rw [if_pos rfl] at H;exact H
        clear H
        have H:=H1
        clear H1
        have H':=aM H
        clear H
        try go_wp2
        have n0_:=aM (below_drew1 HB.out)
        clear HB
        have HB:=n0_
        clear n0_
        have p257:0≤(x5_1:Int):=dT (z1_)
        have q257:x5_1<(l0.length:Int):=dT (z1_)
        obtain ⟨ad257,e257,hx257_0,hx257_1⟩:=at_T77 HR0.out x5_1 p257 q257
        have hw257_1:=hx257_1
        have hw257_0:=hx257_0
        cases e257
        replace hx257_0:=(HB.out.cell (World.block_lt_of_cell? w _ hx257_0)).trans hx257_0
        replace hx257_1:=(HB.out.cell (World.block_lt_of_cell? w _ hx257_1)).trans hx257_1
        replace p257:=eq_true p257
        replace q257:=eq_true q257
        have p258:0≤(x5_1:Int):=dT (z1_)
        have q258:x5_1<(l1.length:Int):=dT (z1_)
        obtain ⟨ad258,e258,hx258_0,hx258_1⟩:=at_T77 HR1.out x5_1 p258 q258
        have hw258_1:=hx258_1
        have hw258_0:=hx258_0
        cases e258
        replace hx258_0:=(HB.out.cell (World.block_lt_of_cell? w _ hx258_0)).trans hx258_0
        replace hx258_1:=(HB.out.cell (World.block_lt_of_cell? w _ hx258_1)).trans hx258_1
        replace p258:=eq_true p258
        replace q258:=eq_true q258
        refine start_ (n:=10) (S:=fun w'=>w'.cell? (ad257.add ((x5_1).toNat*2))=some (.int .i64 ((rd_T77 l0 x5_1).f0))∧w'.cell? ⟨(ad257.add ((x5_1).toNat*2)).block,(ad257.add ((x5_1).toNat*2)).off+1,none⟩=some (.int .i64 ((rd_T77 l0 x5_1).f1))∧w'.cell? (ad258.add ((x5_1).toNat*2))=some (.int .i64 ((rd_T77 l1 x5_1).f0))∧w'.cell? ⟨(ad258.add ((x5_1).toNat*2)).block,(ad258.add ((x5_1).toNat*2)).off+1,none⟩=some (.int .i64 ((rd_T77 l1 x5_1).f1))) (ds:=[]) #[O,O,O,O,O,O,O,O,O,O] (by kernel_rfl) rfl rfl ⟨((HB.out.cell (World.block_lt_of_cell? w _ hw257_0)).trans hw257_0),((HB.out.cell (World.block_lt_of_cell? w _ hw257_1)).trans hw257_1),((HB.out.cell (World.block_lt_of_cell? w _ hw258_0)).trans hw258_0),((HB.out.cell (World.block_lt_of_cell? w _ hw258_1)).trans hw258_1)⟩ (fun hHeld=>?_);refine with_tabW Y20.tab6 Y20.bits6 (fun HT_ HW_=>?_)
        generalize wr.drew=w9 at HB hx257_0 hx257_1 hx258_0 hx258_1 hHeld ⊢
        refine pu_ 0 17 #[I,O,O,O,O,O,O,O,O,O] HT_.out ?_
        refine pu_ 1 18 #[I,I,O,O,O,O,O,O,O,O] HT_.out ?_
        refine pu_ 2 19 #[I,I,I,O,O,O,O,O,O,O] HT_.out ?_
        refine pu_ 4 21 #[I,I,I,O,I,O,O,O,O,O] HT_.out ?_
        refine pu_ 5 22 #[I,I,I,O,I,I,O,O,O,O] HT_.out ?_
        refine pu_ 6 23 #[I,I,I,O,I,I,I,O,O,O] HT_.out ?_
        refine tk4_ 3 20 #[I,I,I,I,I,I,I,O,O,O] HT_.out HW_.out hHeld ?_
        refine tk4_ 7 24 #[I,I,I,I,I,I,I,I,O,O] HT_.out HW_.out hHeld ?_
        refine o1_ 8 25 #[I,I,I,I,I,I,I,I,I,O] HT_.out (fun K hK=>?_)
        refine gs_ Tryd.func95 #[.agg #[.int .i64 ((rd_T77 l0 x5_1).f0),.int .i64 ((rd_T77 l0 x5_1).f1)],.agg #[.int .i64 ((rd_T77 l1 x5_1).f0),.int .i64 ((rd_T77 l1 x5_1).f1)]] ?_
        with_reducible refine (Y73.calls ((rd_T77 l0 x5_1).f0) ((rd_T77 l0 x5_1).f1) ((rd_T77 l1 x5_1).f0) ((rd_T77 l1 x5_1).f1) true _ A7.out).mono ?_
        rintro e w10 ⟨rfl,hb⟩
        refine ⟨_,rfl,?_⟩
        have n0_:=aM (below_step (z3_ HB.out) hb)
        clear HB
        have HB:=n0_
        clear n0_
        (try clear hb)
        refine hK.out _ _ ⟨((HB.out.cell (World.block_lt_of_cell? w _ hw257_0)).trans hw257_0),((HB.out.cell (World.block_lt_of_cell? w _ hw257_1)).trans hw257_1),((HB.out.cell (World.block_lt_of_cell? w _ hw258_0)).trans hw258_0),((HB.out.cell (World.block_lt_of_cell? w _ hw258_1)).trans hw258_1)⟩ (fun hHeld=>?_)
        clear hK K
        refine nm_ 25 ?_
        refine pu_ 9 26 #[I,I,I,I,I,I,I,I,I,I] HT_.out ?_
        refine done_ (done_of HT_.out (by kernel_rfl)) ?_
        try go_wp2
        go_roundg k1
        case measure=>have:=HK1.out;omega
        case rel=>exact ⟨(wrap64 (x5_1+1)),(z0_),H',⟨by have:=HK1.out;omega⟩,⟨z3_ HB.out⟩⟩
       ·replace c8:=Bool.eq_false_iff.mpr c8
        subst c8
        have H1:(none)=some r:=by rw [if_neg (show ¬ (false=true) by decide)] at H;exact H
        clear H
        have H:=H1
        clear H1
        exact nO H
      ·rw [if_neg c6] at H
       exact nO H
     ·rw [if_neg c5] at H
      exact nO H
    ·rw [if_neg c4] at H
     have c4b0:decide (x5_1<(l0.length:Int))=false:=dF c4
     clear c4
     obtain rfl:=sI H
     go_wp2
     go_ret
     exact ⟨z9_,z3_ HB.out⟩
 ·rw [if_neg c3] at H
  exact nO H


/-! ### Y68: function 26 -/
def Y68.f (k:Nat) (a0_0:Int) (l0_1:List (S77)) (a1_0:Int) (l1_1:List (S77)):Option (Bool):=if a0_0=a1_0 then ((Y20.f k l0_1 l1_1).bind fun t262=>(if t262=true then (some true) else (none))) else (none)
theorem Y68.mono:∀ a0 a1 a2 a3 k,LeO (Y68.f k a0 a1 a2 a3) (Y68.f (k+1) a0 a1 a2 a3):=by
 intro a0 a1 a2 a3 k
 have m0:=@Y20.mono
 unfold Y68.f
 exact mO
theorem Y68.calls (k:Nat) (a0_0:Int) (A0_1:Option Addr) (c0_1:Nat) (l0_1:List (S77)) (a1_0:Int) (A1_1:Option Addr) (c1_1:Nat) (l1_1:List (S77)) (r:Bool) (w:World) (hr0_1:Kd.C k77 w A0_1 l0_1.length l0_1) (hc0_1:l0_1.length≤c0_1) (hr1_1:Kd.C k77 w A1_1 l1_1.length l1_1) (hc1_1:l1_1.length≤c1_1) (h:Y68.f k a0_0 l0_1 a1_0 l1_1=some r) :
  Calls Tryd.prog 26 #[.agg #[.int .i64 a0_0,.slice A0_1 l0_1.length c0_1],.agg #[.int .i64 a1_0,.slice A1_1 l1_1.length c1_1]] w fun e w'=>e = .returned (.bool r)∧Below w.heap.size w w':=by
 have hu24:=Tryd.underlying24
 have HR0_1:=aM hr0_1
 have HC0_1:=aM hc0_1
 clear hr0_1 hc0_1
 have HR1_1:=aM hr1_1
 have HC1_1:=aM hc1_1
 clear hr1_1 hc1_1
 have HB:=aM (Below.refl w.heap.size w)
 have H:(if a0_0=a1_0 then ((Y20.f k l0_1 l1_1).bind fun t262=>(if t262=true then (some true) else (none))) else (none))=some r:=h
 clear h
 by_cases c3:a0_0=a1_0
 ·rw [if_pos c3] at H
  have c3b0:(a0_0 == a1_0)=true:=beq_iff_eq.mpr c3
  have c3b1:(a0_0 != a1_0)=false:=bne_eq_false_iff_eq.mpr c3
  clear c3
  replace H:=bS H
  obtain ⟨t262,A40,H⟩:=H
  replace H:(if t262=true then (some true) else (none))=some r:=H
  have A4:=aM A40
  clear A40
  by_cases c5:t262=true
  ·subst c5
   have H1:(some true)=some r:=by rw [if_pos rfl] at H;exact H
   clear H
   have H:=H1
   clear H1
   obtain rfl:=sI H
   go_enter Tryd.func26,Tryd.ntmps26
   go_wp2_with (first | ((with_reducible refine gd_ 2 ?_);refine be_ 2 #[.int .i64 a0_0,.slice A0_1 l0_1.length c0_1] 24 ?_;intro gb260 hg w6 hbox hb;have n0_:=aM (below_step (z3_ HB.out) hb);have n1_:=aM (hbox);have n2_:=aM ((z10_ HB.out:w.heap.size≤gb260));have n3_:=aM ((z10_ HB.out:w.heap.size≤gb260));clear HB;have HB:=n0_;have BK260:=n1_;have GW260:=n2_;have GE260:=n3_;clear n0_ n1_ n2_ n3_;clear hb hbox hg) | ((with_reducible refine gd_ 3 ?_);refine be_ 3 #[.int .i64 a1_0,.slice A1_1 l1_1.length c1_1] 24 ?_;intro gb261 hg w7 hbox hb;have n0_:=aM (blkB_ BK260.out hb);have n1_:=aM (below_step (z8_ HB.out GE260.out) hb);have n2_:=aM (hbox);have n3_:=aM ((z13_ HB.out GE260.out:w.heap.size≤gb261));have n4_:=aM ((z13_ HB.out GE260.out:w.heap.size≤gb261));have n5_:=aM (neL_ BK260.out hg);have n6_:=aM (neG_ BK260.out hg);clear BK260;clear HB;have BK260:=n0_;have HB:=n1_;have BK261:=n2_;have GW261:=n3_;have GE261:=n4_;have NB260_261:=n5_;have NB261_260:=n6_;clear n0_ n1_ n2_ n3_ n4_ n5_ n6_;clear hb hbox hg;have hnb8:=NB260_261.out;have hnc8:=NB261_260.out;have ⟨hcz9_0,hcz9_1,hfz9_0,hfz9_1⟩:=cz2_ BK260.out;have ⟨hcz10_0,hcz10_1,hfz10_0,hfz10_1⟩:=cz2_ BK261.out) | ((with_reducible refine gc_ 59 ?_);refine gl_ (some 14) Tryd.func59 #[.slice A0_1 l0_1.length c0_1,.slice A1_1 l1_1.length c1_1] ?_;(with_reducible refine (Y20.calls k _ _ l0_1 _ _ l1_1 true _ ?s1 ?s2 ?s3 ?s4 A4.out).mono ?_);(case s1=>repeat (first | exact (Kd.C_below HR0_1.out HB.out) | (with_reducible refine Kd.C_alloc ?_ _) | (with_reducible refine Kd.C_drewN ?_ _) | (with_reducible refine Kd.C_drew ?_)));(case s2=>exact HC0_1.out);(case s3=>repeat (first | exact (Kd.C_below HR1_1.out HB.out) | (with_reducible refine Kd.C_alloc ?_ _) | (with_reducible refine Kd.C_drewN ?_ _) | (with_reducible refine Kd.C_drew ?_)));(case s4=>exact HC1_1.out);rintro e w11 ⟨rfl,hb⟩;refine ⟨_,rfl,?_⟩;have n0_:=aM (blkB_ BK260.out hb);have n1_:=aM (blkB_ BK261.out hb);have n2_:=aM (below_step (z7_ HB.out GE260.out GE261.out) hb);clear BK260;clear BK261;clear HB;have BK260:=n0_;have BK261:=n1_;have HB:=n2_;clear n0_ n1_ n2_;(try clear hb)))
   go_ret
   exact ⟨z9_,z7_ HB.out GE260.out GE261.out⟩
  ·replace c5:=Bool.eq_false_iff.mpr c5
   subst c5
   have H1:(none)=some r:=by rw [if_neg (show ¬ (false=true) by decide)] at H;exact H
   clear H
   have H:=H1
   clear H1
   exact nO H
 ·rw [if_neg c3] at H
  exact nO H

end Go.Proofs.YtelecnmflodkkaaDoor.P
