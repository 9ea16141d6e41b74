/- A drawn key's order holds each node once; its first owner is the first of these; drawn stand-ins are not down and all different; and the program's rings, orders, owners, stand-ins and hashes are the reference's. No condition. (Part 5 of 5: written by programs of this workplace and by hand, merged.) -/
import Derived.Test.YtelecnmflodkkaaGreatDoorMFnRinga
import Derived.Test.YtelecnmflodkkaaGreatDoorMFnRingc
import Derived.Test.YtelecnmflodkkaaGreatDoorMFnRingd
import Derived.Test.YtelecnmflodkkaaGreatDoorMFnRingWWords
import Derived.Test.YtelecnmflodkkaaGreatDoorMFnRingWMore
import Derived.Laws.BitsLemmas
import Derived.Test.YtelecnmflodkkaaGreatDoorRows
import Derived.Test.YtelecnmflodkkaaGreatDoorTie
import Derived.Test.YtelecnmflodkkaaGreatDoorCards
import Derived.WalkKit
import Derived.ProofKit
import Derived.OpenShut
import Derived.ShutString
import Derived.ChangeOld
import Derived.Below
import Derived.SizedLaws
import Derived.LaidMore
import Derived.Lay
import Derived.LaidOnce
import Derived.SevenTiedAt
import Derived.LaidLaws
import Derived.ChangeSame
import Derived.ChangeVars
import Derived.JoinedOf
set_option linter.unusedVariables false
set_option linter.unusedSimpArgs false
set_option maxHeartbeats 8000000
set_option maxRecDepth 100000

namespace Go.Proofs.YtelecnmflodkkaaGreatDoor.P
open Go.RowKit Go.Proofs.YtelecnmflodkkaaGreatDoorW.PrintWords Go.Proofs.YtelecnmflodkkaaGreatDoorW.PrintLast Go.Proofs.YtelecnmflodkkaaGreatDoorW.PrintMore
attribute [local go_sem] max2_int min2_int max_two min_two max_three min_three max_four min_four   -- for this text's walks alone
set_option linter.unusedVariables false
set_option linter.unusedSimpArgs false

/-! ### Y3: function 3 -/
mutual
def Y3.j0:Nat→List Int→List Int→Bool→Option (Bool)
 | 0,_,_,_=>none
 | k+1,x0,x1,x31=>if x31=true then (some true) else ((Y77.f k x0).bind fun AY9=>((Y79.f k x1).bind fun L1=>((Y83.f k L1.1 L1.2.1 L1.2.2).bind fun G3=>((Y70.f k x0).bind fun K6=>((Y22.f k x1).bind fun G2=>((Y21.f k G2.1 G2.2.1 G2.2.2.1 G2.2.2.2.1 G2.2.2.2.2).bind fun F0=>((Y74.f k x0).bind fun L5=>((Y41.f k AY9.1 AY9.2).bind fun N7=>((Y40.f k AY9.1 AY9.2).bind fun M1=>((Y48.f k N7.1 N7.2.1 N7.2.2 M1.1 M1.2.1 M1.2.2).bind fun AA0=>(if AA0=true then ((Y46.f k L1.1 L1.2.1 L1.2.2).bind fun e9=>((Y18.f k G3 e9).bind fun f4=>(if f4=true then ((Y33.f k K6.1 K6.2.1 K6.2.2.1 K6.2.2.2).bind fun W4=>((Y32.f k K6.1 K6.2.1 K6.2.2.1 K6.2.2.2).bind fun V9=>((Y18.f k W4 V9).bind fun W3=>(if W3=true then ((Y24.f k G2.1 G2.2.1 G2.2.2.1 G2.2.2.2.1 G2.2.2.2.2).bind fun R7=>((Y18.f k F0 R7).bind fun R8=>(if R8=true then ((Y67.f k L5).bind fun O1=>((Y64.f k L5).bind fun N8=>(if O1=N8 then ((Y12.f k L1.1 L1.2.1).bind fun M5=>((Y6.f k L1.1 L1.2.1).bind fun M3=>(if (M5 != M3)=true then (none) else (Y3.l0 k L1.2.2 G3 G2.2.2.2.2 F0 0 L1.1 L1.2.1)))) else (none)))) else (none)))) else (none))))) else (none)))) else (none))))))))))))
def Y3.l0:Nat→ByteArray→List Int→List Int→List Int→Int→Int→List (S78)→Option (Bool)
 | 0,_,_,_,_,_,_,_=>none
 | k+1,x8,x9,x16,x17,x19,AI9,AP0=>if x19<(x9.length:Int) then (Y3.l1 k x8 x9 x16 x17 x19 0 AI9 AP0) else ((Y6.f k AI9 AP0).bind fun B25=>(if B25=true then ((Y15.f k x8).bind fun BB5=>(if BB5=true then (if (x9.length:Int)=AI9 then ((Y33.f k AI9 AP0 x8 1).bind fun AS1=>(if 1≤(x9.length:Int) then ((Y18.f k AS1 (x9.take 1)).bind fun AN0=>(Y3.j3 k x16 x17 (!AN0))) else (none))) else (Y3.j3 k x16 x17 true)) else (Y3.j3 k x16 x17 false))) else (Y3.j3 k x16 x17 false)))
def Y3.l1:Nat→ByteArray→List Int→List Int→List Int→Int→Int→Int→List (S78)→Option (Bool)
 | 0,_,_,_,_,_,_,_,_=>none
 | k+1,x8,x9,x16,x17,x19,x20,AI9,AP0=>if x20<x19 then (if 0≤x20 then (if x20<(x9.length:Int) then (if 0≤x19 then (if x19<(x9.length:Int) then (if (rd x9 x20)=(rd x9 x19) then (none) else (Y3.l1 k x8 x9 x16 x17 x19 (wrap64 (x20+1)) AI9 AP0)) else (none)) else (none)) else (none)) else (none)) else (Y3.l0 k x8 x9 x16 x17 (wrap64 (x19+1)) AI9 AP0)
def Y3.j3:Nat→List Int→List Int→Bool→Option (Bool)
 | 0,_,_,_=>none
 | k+1,x16,x17,x158=>if x158=true then (none) else (Y3.l2 k x16 x17 0)
def Y3.l2:Nat→List Int→List Int→Int→Option (Bool)
 | 0,_,_,_=>none
 | k+1,x16,x17,x21=>if x21<(x17.length:Int) then (Y3.l3 k x16 x17 x21 0) else (some true)
def Y3.l3:Nat→List Int→List Int→Int→Int→Option (Bool)
 | 0,_,_,_,_=>none
 | k+1,x16,x17,x21,x22=>if x22<(x16.length:Int) then (if 0≤x22 then (if 0≤x21 then (if x21<(x17.length:Int) then (if (rd x16 x22)=(rd x17 x21) then (none) else (Y3.l3 k x16 x17 x21 (wrap64 (x22+1)))) else (none)) else (none)) else (none)) else (Y3.l4 k x16 x17 x21 0)
def Y3.l4:Nat→List Int→List Int→Int→Int→Option (Bool)
 | 0,_,_,_,_=>none
 | k+1,x16,x17,x21,x23=>if x23<x21 then (if 0≤x23 then (if x23<(x17.length:Int) then (if 0≤x21 then (if x21<(x17.length:Int) then (if (rd x17 x23)=(rd x17 x21) then (none) else (Y3.l4 k x16 x17 x21 (wrap64 (x23+1)))) else (none)) else (none)) else (none)) else (none)) else (Y3.l2 k x16 x17 (wrap64 (x21+1)))
end
def Y3.f (k:Nat) (l0:List Int) (l1:List Int):Option (Bool):=if (l0.length:Int)>1048576 then (Y3.j0 k l0 l1 true) else (Y3.j0 k l0 l1 (decide ((l1.length:Int)>1048576)))
theorem Y3.mono_l:∀ k,(∀ y0 y1 y2,LeO (Y3.j0 k y0 y1 y2) (Y3.j0 (k+1) y0 y1 y2))∧(∀ y0 y1 y2 y3 y4 y5 y6,LeO (Y3.l0 k y0 y1 y2 y3 y4 y5 y6) (Y3.l0 (k+1) y0 y1 y2 y3 y4 y5 y6))∧(∀ y0 y1 y2 y3 y4 y5 y6 y7,LeO (Y3.l1 k y0 y1 y2 y3 y4 y5 y6 y7) (Y3.l1 (k+1) y0 y1 y2 y3 y4 y5 y6 y7))∧(∀ y0 y1 y2,LeO (Y3.j3 k y0 y1 y2) (Y3.j3 (k+1) y0 y1 y2))∧(∀ y0 y1 y2,LeO (Y3.l2 k y0 y1 y2) (Y3.l2 (k+1) y0 y1 y2))∧(∀ y0 y1 y2 y3,LeO (Y3.l3 k y0 y1 y2 y3) (Y3.l3 (k+1) y0 y1 y2 y3))∧(∀ y0 y1 y2 y3,LeO (Y3.l4 k y0 y1 y2 y3) (Y3.l4 (k+1) y0 y1 y2 y3))
 | 0=>by refine ⟨?_,?_,?_,?_,?_,?_,?_⟩ <;> intros <;> exact LeO.none _
 | k+1=>by
  obtain ⟨ih0,ih1,ih2,ih3,ih4,ih5,ih6⟩:=Y3.mono_l k
  have m0:=@Y67.mono
  have m1:=@Y83.mono
  have m2:=@Y33.mono
  have m3:=@Y41.mono
  have m4:=@Y12.mono
  have m5:=@Y21.mono
  have m6:=@Y18.mono
  have m7:=@Y48.mono
  have m8:=@Y74.mono
  have m9:=@Y79.mono
  have m10:=@Y70.mono
  have m11:=@Y77.mono
  have m12:=@Y22.mono
  have m13:=@Y64.mono
  have m14:=@Y15.mono
  have m15:=@Y46.mono
  have m16:=@Y32.mono
  have m17:=@Y40.mono
  have m18:=@Y6.mono
  have m19:=@Y24.mono
  refine ⟨?_,?_,?_,?_,?_,?_,?_⟩
  ·intros
   unfold Y3.j0
   exact mO
  ·intros
   unfold Y3.l0
   exact mO
  ·intros
   unfold Y3.l1
   exact mO
  ·intros
   unfold Y3.j3
   exact mO
  ·intros
   unfold Y3.l2
   exact mO
  ·intros
   unfold Y3.l3
   exact mO
  ·intros
   unfold Y3.l4
   exact mO
theorem Y3.mono:∀ a0 a1 k,LeO (Y3.f k a0 a1) (Y3.f (k+1) a0 a1):=by
 intro a0 a1 k
 have m0:=@Y67.mono
 have m1:=@Y83.mono
 have m2:=@Y33.mono
 have m3:=@Y41.mono
 have m4:=@Y12.mono
 have m5:=@Y21.mono
 have m6:=@Y18.mono
 have m7:=@Y48.mono
 have m8:=@Y74.mono
 have m9:=@Y79.mono
 have m10:=@Y70.mono
 have m11:=@Y77.mono
 have m12:=@Y22.mono
 have m13:=@Y64.mono
 have m14:=@Y15.mono
 have m15:=@Y46.mono
 have m16:=@Y32.mono
 have m17:=@Y40.mono
 have m18:=@Y6.mono
 have m19:=@Y24.mono
 obtain ⟨ih0,ih1,ih2,ih3,ih4,ih5,ih6⟩:=Y3.mono_l k
 unfold Y3.f
 exact mO
def Y3.T10:Bool × List (List Nat × List Nat):=(true,[([],[]),([],[]),([0,1],[0,1]),([],[]),([],[]),([3,4,2],[3,4]),([2,5,5],[2,5]),([6],[6]),([7,6],[7]),([8],[8]),([8],[8]),([8],[8]),([10,11,8,8],[8,10,11]),([9,12,12,8],[8,9,12]),([13,8],[8,13]),([8,14],[8,14]),([15,13],[15]),([16],[16]),([16],[16]),([16],[16]),([17,18,19,16,16],[16,17,18,19]),([16],[16]),([16],[16]),([16],[16]),([21,22,23,20,16],[16,21,22,23]),([20,24,24,16],[16,20,24]),([25,16],[16,25]),([16,26],[16,26]),([27,25],[27]),([28],[28]),([28],[28]),([28],[28]),([28],[28]),([28],[28]),([30,31,32,33,28,28],[28,30,31,32,33]),([29,34,34,28],[28,29,34]),([35,28],[28,35]),([28,36],[28,36]),([37,35],[37]),([38],[38]),([39,38,38],[38,39]),([38],[38]),([41,40,38],[38,41]),([40,42,38],[38,40,42]),([38,43],[38,43]),([44,42],[44]),([45],[45]),([46,45,45],[45,46]),([45],[45]),([48,47,45],[45,48]),([47,49,45],[45,47,49]),([45,50],[45,50])])
def Y3.B10:List Nat:=[0,0,3,0,0,31,63,127,255,511,511,511,3583,8191,16383,32767,65535,131071,131071,131071,1048575,131071,131071,131071,16777215,33554431,67108863,134217727,268435455,536870911,536870911,536870911,536870911,536870911,16642998271,34359738367,68719476735,137438953471,274877906943,549755813887,1099511627775,549755813887,4398046511103,8796093022207,17592186044415,35184372088831,70368744177663,140737488355327,70368744177663,562949953421311,1125899906842623,2251799813685247]
theorem Y3.tab10:rtab .any (opsOf Tryz.f3 10)=Y3.T10:=by kernel_rfl
theorem Y3.bits10:waitsOk Y3.T10.2 Y3.B10=true:=by kernel_rfl
def Y3.T18:Bool × List (List Nat × List Nat):=(true,[([],[]),([],[]),([0,1],[0,1]),([2],[2]),([],[]),([],[]),([4,5],[4,5]),([6],[6]),([3,7],[3,7])])
def Y3.B18:List Nat:=[0,0,3,7,0,0,48,112,255]
theorem Y3.tab18:rtab .any (opsOf Tryz.f3 18)=Y3.T18:=by kernel_rfl
theorem Y3.bits18:waitsOk Y3.T18.2 Y3.B18=true:=by kernel_rfl
def Y3.T20:Bool × List (List Nat × List Nat):=(true,[([],[]),([0],[0]),([1,1],[1]),([2],[2]),([3,2,2],[2,3]),([2,4],[2,4]),([5,4],[5]),([6],[6]),([7,6],[6,7]),([6],[6]),([9,6],[6,9]),([8,10,6],[6,8,10]),([11,6,6],[6,11]),([12],[12]),([12],[12]),([13,14,12,12],[12,13,14]),([12],[12]),([16,12],[12,16]),([15,17,15,12],[12,15,17]),([18,12],[12,18]),([12,19,6],[6,12,19]),([6,20],[6,20])])
def Y3.B20:List Nat:=[0,1,3,7,15,31,63,127,255,127,639,2047,4095,8191,8191,32767,8191,73727,262143,524287,1048575,2097151]
theorem Y3.tab20:rtab .any (opsOf Tryz.f3 20)=Y3.T20:=by kernel_rfl
theorem Y3.bits20:waitsOk Y3.T20.2 Y3.B20=true:=by kernel_rfl
def Y3.T28:Bool × List (List Nat × List Nat):=(true,[([],[]),([],[]),([0,1],[0,1]),([2],[2]),([],[]),([],[]),([4,5],[4,5]),([6],[6]),([3,7],[3,7])])
def Y3.B28:List Nat:=[0,0,3,7,0,0,48,112,255]
theorem Y3.tab28:rtab .any (opsOf Tryz.f3 28)=Y3.T28:=by kernel_rfl
theorem Y3.bits28:waitsOk Y3.T28.2 Y3.B28=true:=by kernel_rfl
def Y3.T33:Bool × List (List Nat × List Nat):=(true,[([],[]),([],[]),([0,1],[0,1]),([2],[2]),([],[]),([],[]),([4,5],[4,5]),([6],[6]),([3,7],[3,7])])
def Y3.B33:List Nat:=[0,0,3,7,0,0,48,112,255]
theorem Y3.tab33:rtab .any (opsOf Tryz.f3 33)=Y3.T33:=by kernel_rfl
theorem Y3.bits33:waitsOk Y3.T33.2 Y3.B33=true:=by kernel_rfl
abbrev Y3.q0:Array Bool:=#[O,O,O,O,O,O,O,O,O,O,O,O,O,O,O,O,O,O,O,O,O,O]
abbrev Y3.q1:Array Bool:=#[I,O,O,O,O,O,O,O,O,O,O,O,O,O,O,O,O,O,O,O,O,O]
abbrev Y3.q2:Array Bool:=#[I,I,O,O,O,O,O,O,O,O,O,O,O,O,O,O,O,O,O,O,O,O]
abbrev Y3.q3:Array Bool:=#[I,I,I,O,O,O,O,O,O,O,O,O,O,O,O,O,O,O,O,O,O,O]
abbrev Y3.q4:Array Bool:=#[I,I,I,I,O,O,O,O,O,O,O,O,O,O,O,O,O,O,O,O,O,O]
abbrev Y3.q5:Array Bool:=#[I,I,I,I,I,O,O,O,O,O,O,O,O,O,O,O,O,O,O,O,O,O]
abbrev Y3.q6:Array Bool:=#[I,I,I,I,I,I,O,O,O,O,O,O,O,O,O,O,O,O,O,O,O,O]
abbrev Y3.q7:Array Bool:=#[I,I,I,I,I,I,I,O,O,O,O,O,O,O,O,O,O,O,O,O,O,O]
abbrev Y3.q8:Array Bool:=#[I,I,I,I,I,I,I,I,O,O,O,O,O,O,O,O,O,O,O,O,O,O]
abbrev Y3.q9:Array Bool:=#[I,I,I,I,I,I,I,I,I,O,O,O,O,O,O,O,O,O,O,O,O,O]
abbrev Y3.q10:Array Bool:=#[I,I,I,I,I,I,I,I,I,I,O,O,O,O,O,O,O,O,O,O,O,O]
abbrev Y3.q11:Array Bool:=#[I,I,I,I,I,I,I,I,I,I,I,O,O,O,O,O,O,O,O,O,O,O]
abbrev Y3.q12:Array Bool:=#[I,I,I,I,I,I,I,I,I,I,I,I,O,O,O,O,O,O,O,O,O,O]
abbrev Y3.q13:Array Bool:=#[I,I,I,I,I,I,I,I,I,I,I,I,I,O,O,O,O,O,O,O,O,O]
abbrev Y3.q14:Array Bool:=#[I,I,I,I,I,I,I,I,I,I,I,I,I,I,I,I,I,I,O,O,O,O]
abbrev Y3.q15:Array Bool:=#[I,I,I,I,I,I,I,I,I,I,I,I,I,I,I,I,I,I,I,O,O,O]
abbrev Y3.q16:Array Bool:=#[I,I,I,I,I,I,I,I,I,I,I,I,I,I,I,I,I,I,I,I,O,O]
abbrev Y3.q17:Array Bool:=#[I,I,I,I,I,I,I,I,I,I,I,I,I,I,I,I,I,I,I,I,I,O]
abbrev Y3.q18:Array Bool:=#[I,I,I,I,I,I,I,I,I,I,I,I,I,I,I,I,I,I,I,I,I,I]
abbrev Y3.q19:Array Bool:=#[I,I,I,I,I,I,I,I,I,I,I,I,I,I,O,O,O,O,O,O,O,O]
abbrev Y3.q20:Array Bool:=#[I,I,I,I,I,I,I,I,I,I,I,I,I,I,I,O,O,O,O,O,O,O]
abbrev Y3.q21:Array Bool:=#[I,I,I,I,I,I,I,I,I,I,I,I,I,I,I,I,O,O,O,O,O,O]
abbrev Y3.q22:Array Bool:=#[I,I,I,I,I,I,I,I,I,I,I,I,I,I,I,I,I,O,O,O,O,O]
theorem Y3.calls (k:Nat) (A0:Option Addr) (c0:Nat) (l0:List Int) (A1:Option Addr) (c1:Nat) (l1:List Int) (r:Bool) (w:World) (hr0:Kd.C (Kd.int .u8) w A0 l0.length l0) (hc0:l0.length≤c0) (hr1:Kd.C (Kd.int .u8) w A1 l1.length l1) (hc1:l1.length≤c1) (h:Y3.f k l0 l1=some r) :
  Calls Tryz.prog 3 #[.slice A0 l0.length c0,.slice A1 l1.length c1] w fun e w'=>e = .returned (.bool r)∧Below w.heap.size w w':=by
 have AD7:=Tryz.underlying27
 have HR0:=aM hr0
 have HC0:=aM hc0
 clear hr0 hc0
 have HR1:=aM hr1
 have HC1:=aM hc1
 clear hr1 hc1
 have HB:=aM (Below.refl w.heap.size w)
 have H:(if (l0.length:Int)>1048576 then (Y3.j0 k l0 l1 true) else (Y3.j0 k l0 l1 (decide ((l1.length:Int)>1048576))))=some r:=h
 clear h
 have HC3:=aM H
 clear H
 go_enter Tryz.func3,Tryz.ntmps3
 go_upto_region 1 with (fail)
 go_cut [31] (fun v31 wc=>∃ (kq:Nat) (AY7:Bool),v31 = .bool AY7∧Aside0 (Y3.j0 kq l0 l1 AY7=some r)∧Aside0 (kq≤k)∧Aside0 (Below w.heap.size w wc))
 case first=>as_aux_lemma =>
  have H:=HC3.out
  clear HC3
  by_cases c4:(l0.length:Int)>1048576
  ·rw [if_pos c4] at H
   have c4b0:decide (1048576<(l0.length:Int))=true:=dE c4
   have c4b1:decide (1048576<l0.length)=true:=dE (by omega)
   clear c4
   (first | rw [c4b0] | (simp only [i64_w,i32_w];rw [c4b0]) | skip)
   have H':=aM H
   clear H
   go_wp2
   go_meet
   case rel=>exact ⟨_,(true),(z2_),H',⟨by first | omega | exact Nat.le_refl _⟩,⟨z6_ HB.out⟩⟩
  ·rw [if_neg c4] at H
   have c4b0:decide (1048576<(l0.length:Int))=false:=dF c4
   have c4b1:decide (1048576<l0.length)=false:=dF (by omega)
   clear c4
   (first | rw [c4b0] | (simp only [i64_w,i32_w];rw [c4b0]) | skip)
   have H':=aM H
   clear H
   go_wp2
   go_meet
   case rel=>exact ⟨_,(decide ((l1.length:Int)>1048576)),(z2_),H',⟨by first | omega | exact Nat.le_refl _⟩,⟨z6_ HB.out⟩⟩
 case rest=>as_aux_lemma =>
  clear HC3
  try clear c1
  try clear p2
  try clear c3
  try clear c4
  try clear c4b0
  try clear c4b1
  obtain ⟨kq,AY7,rfl,HA,HJ2,HB⟩:=hcut
  cases kq with
  | zero=>exact absurd HA.out (by simp [Y3.j0])
  | succ kj2 =>
   have H:=HA.out
   clear HA
   simp only [Y3.j0] at H
   by_cases c5:AY7=true
   ·subst c5
    have H1:(some true)=some r:=by rw [if_pos rfl] at H;exact H
    clear H
    have H:=H1
    clear H1
    obtain rfl:=sI H
    go_wp2
    go_ret
    exact ⟨z8_,z6_ HB.out⟩
   ·replace c5:=Bool.eq_false_iff.mpr c5
    subst c5
    have H1:((Y77.f kj2 l0).bind fun AY9=>((Y79.f kj2 l1).bind fun L1=>((Y83.f kj2 L1.1 L1.2.1 L1.2.2).bind fun G3=>((Y70.f kj2 l0).bind fun K6=>((Y22.f kj2 l1).bind fun G2=>((Y21.f kj2 G2.1 G2.2.1 G2.2.2.1 G2.2.2.2.1 G2.2.2.2.2).bind fun F0=>((Y74.f kj2 l0).bind fun L5=>((Y41.f kj2 AY9.1 AY9.2).bind fun N7=>((Y40.f kj2 AY9.1 AY9.2).bind fun M1=>((Y48.f kj2 N7.1 N7.2.1 N7.2.2 M1.1 M1.2.1 M1.2.2).bind fun AA0=>(if AA0=true then ((Y46.f kj2 L1.1 L1.2.1 L1.2.2).bind fun e9=>((Y18.f kj2 G3 e9).bind fun f4=>(if f4=true then ((Y33.f kj2 K6.1 K6.2.1 K6.2.2.1 K6.2.2.2).bind fun W4=>((Y32.f kj2 K6.1 K6.2.1 K6.2.2.1 K6.2.2.2).bind fun V9=>((Y18.f kj2 W4 V9).bind fun W3=>(if W3=true then ((Y24.f kj2 G2.1 G2.2.1 G2.2.2.1 G2.2.2.2.1 G2.2.2.2.2).bind fun R7=>((Y18.f kj2 F0 R7).bind fun R8=>(if R8=true then ((Y67.f kj2 L5).bind fun O1=>((Y64.f kj2 L5).bind fun N8=>(if O1=N8 then ((Y12.f kj2 L1.1 L1.2.1).bind fun M5=>((Y6.f kj2 L1.1 L1.2.1).bind fun M3=>(if (M5 != M3)=true then (none) else (Y3.l0 kj2 L1.2.2 G3 G2.2.2.2.2 F0 0 L1.1 L1.2.1)))) else (none)))) else (none)))) else (none))))) else (none)))) else (none))))))))))))=some r:=by rw [if_neg (show ¬ (false=true) by decide)] at H;exact H
    clear H
    have H:=H1
    clear H1
    replace H:=bS H
    obtain ⟨⟨AG2,AG3⟩,A60,H⟩:=H
    replace H:((Y79.f kj2 l1).bind fun L1=>((Y83.f kj2 L1.1 L1.2.1 L1.2.2).bind fun G3=>((Y70.f kj2 l0).bind fun K6=>((Y22.f kj2 l1).bind fun G2=>((Y21.f kj2 G2.1 G2.2.1 G2.2.2.1 G2.2.2.2.1 G2.2.2.2.2).bind fun F0=>((Y74.f kj2 l0).bind fun L5=>((Y41.f kj2 AG2 AG3).bind fun N7=>((Y40.f kj2 AG2 AG3).bind fun M1=>((Y48.f kj2 N7.1 N7.2.1 N7.2.2 M1.1 M1.2.1 M1.2.2).bind fun AA0=>(if AA0=true then ((Y46.f kj2 L1.1 L1.2.1 L1.2.2).bind fun e9=>((Y18.f kj2 G3 e9).bind fun f4=>(if f4=true then ((Y33.f kj2 K6.1 K6.2.1 K6.2.2.1 K6.2.2.2).bind fun W4=>((Y32.f kj2 K6.1 K6.2.1 K6.2.2.1 K6.2.2.2).bind fun V9=>((Y18.f kj2 W4 V9).bind fun W3=>(if W3=true then ((Y24.f kj2 G2.1 G2.2.1 G2.2.2.1 G2.2.2.2.1 G2.2.2.2.2).bind fun R7=>((Y18.f kj2 F0 R7).bind fun R8=>(if R8=true then ((Y67.f kj2 L5).bind fun O1=>((Y64.f kj2 L5).bind fun N8=>(if O1=N8 then ((Y12.f kj2 L1.1 L1.2.1).bind fun M5=>((Y6.f kj2 L1.1 L1.2.1).bind fun M3=>(if (M5 != M3)=true then (none) else (Y3.l0 kj2 L1.2.2 G3 G2.2.2.2.2 F0 0 L1.1 L1.2.1)))) else (none)))) else (none)))) else (none))))) else (none)))) else (none)))))))))))=some r:=H
    have A6:=aM A60
    clear A60
    replace H:=bS H
    obtain ⟨⟨E9,E3,M7⟩,A70,H⟩:=H
    replace H:((Y83.f kj2 E9 E3 M7).bind fun G3=>((Y70.f kj2 l0).bind fun K6=>((Y22.f kj2 l1).bind fun G2=>((Y21.f kj2 G2.1 G2.2.1 G2.2.2.1 G2.2.2.2.1 G2.2.2.2.2).bind fun F0=>((Y74.f kj2 l0).bind fun L5=>((Y41.f kj2 AG2 AG3).bind fun N7=>((Y40.f kj2 AG2 AG3).bind fun M1=>((Y48.f kj2 N7.1 N7.2.1 N7.2.2 M1.1 M1.2.1 M1.2.2).bind fun AA0=>(if AA0=true then ((Y46.f kj2 E9 E3 M7).bind fun e9=>((Y18.f kj2 G3 e9).bind fun f4=>(if f4=true then ((Y33.f kj2 K6.1 K6.2.1 K6.2.2.1 K6.2.2.2).bind fun W4=>((Y32.f kj2 K6.1 K6.2.1 K6.2.2.1 K6.2.2.2).bind fun V9=>((Y18.f kj2 W4 V9).bind fun W3=>(if W3=true then ((Y24.f kj2 G2.1 G2.2.1 G2.2.2.1 G2.2.2.2.1 G2.2.2.2.2).bind fun R7=>((Y18.f kj2 F0 R7).bind fun R8=>(if R8=true then ((Y67.f kj2 L5).bind fun O1=>((Y64.f kj2 L5).bind fun N8=>(if O1=N8 then ((Y12.f kj2 E9 E3).bind fun M5=>((Y6.f kj2 E9 E3).bind fun M3=>(if (M5 != M3)=true then (none) else (Y3.l0 kj2 M7 G3 G2.2.2.2.2 F0 0 E9 E3)))) else (none)))) else (none)))) else (none))))) else (none)))) else (none))))))))))=some r:=H
    have A7:=aM A70
    clear A70
    replace H:=bS H
    obtain ⟨G3,A80,H⟩:=H
    replace H:((Y70.f kj2 l0).bind fun K6=>((Y22.f kj2 l1).bind fun G2=>((Y21.f kj2 G2.1 G2.2.1 G2.2.2.1 G2.2.2.2.1 G2.2.2.2.2).bind fun F0=>((Y74.f kj2 l0).bind fun L5=>((Y41.f kj2 AG2 AG3).bind fun N7=>((Y40.f kj2 AG2 AG3).bind fun M1=>((Y48.f kj2 N7.1 N7.2.1 N7.2.2 M1.1 M1.2.1 M1.2.2).bind fun AA0=>(if AA0=true then ((Y46.f kj2 E9 E3 M7).bind fun e9=>((Y18.f kj2 G3 e9).bind fun f4=>(if f4=true then ((Y33.f kj2 K6.1 K6.2.1 K6.2.2.1 K6.2.2.2).bind fun W4=>((Y32.f kj2 K6.1 K6.2.1 K6.2.2.1 K6.2.2.2).bind fun V9=>((Y18.f kj2 W4 V9).bind fun W3=>(if W3=true then ((Y24.f kj2 G2.1 G2.2.1 G2.2.2.1 G2.2.2.2.1 G2.2.2.2.2).bind fun R7=>((Y18.f kj2 F0 R7).bind fun R8=>(if R8=true then ((Y67.f kj2 L5).bind fun O1=>((Y64.f kj2 L5).bind fun N8=>(if O1=N8 then ((Y12.f kj2 E9 E3).bind fun M5=>((Y6.f kj2 E9 E3).bind fun M3=>(if (M5 != M3)=true then (none) else (Y3.l0 kj2 M7 G3 G2.2.2.2.2 F0 0 E9 E3)))) else (none)))) else (none)))) else (none))))) else (none)))) else (none)))))))))=some r:=H
    have A8:=aM A80
    clear A80
    replace H:=bS H
    obtain ⟨⟨W5,L2,l7,l8⟩,A90,H⟩:=H
    replace H:((Y22.f kj2 l1).bind fun G2=>((Y21.f kj2 G2.1 G2.2.1 G2.2.2.1 G2.2.2.2.1 G2.2.2.2.2).bind fun F0=>((Y74.f kj2 l0).bind fun L5=>((Y41.f kj2 AG2 AG3).bind fun N7=>((Y40.f kj2 AG2 AG3).bind fun M1=>((Y48.f kj2 N7.1 N7.2.1 N7.2.2 M1.1 M1.2.1 M1.2.2).bind fun AA0=>(if AA0=true then ((Y46.f kj2 E9 E3 M7).bind fun e9=>((Y18.f kj2 G3 e9).bind fun f4=>(if f4=true then ((Y33.f kj2 W5 L2 l7 l8).bind fun W4=>((Y32.f kj2 W5 L2 l7 l8).bind fun V9=>((Y18.f kj2 W4 V9).bind fun W3=>(if W3=true then ((Y24.f kj2 G2.1 G2.2.1 G2.2.2.1 G2.2.2.2.1 G2.2.2.2.2).bind fun R7=>((Y18.f kj2 F0 R7).bind fun R8=>(if R8=true then ((Y67.f kj2 L5).bind fun O1=>((Y64.f kj2 L5).bind fun N8=>(if O1=N8 then ((Y12.f kj2 E9 E3).bind fun M5=>((Y6.f kj2 E9 E3).bind fun M3=>(if (M5 != M3)=true then (none) else (Y3.l0 kj2 M7 G3 G2.2.2.2.2 F0 0 E9 E3)))) else (none)))) else (none)))) else (none))))) else (none)))) else (none))))))))=some r:=H
    have A9:=aM A90
    clear A90
    replace H:=bS H
    obtain ⟨⟨l9,N9,AG4,AG5,H2⟩,AF2,H⟩:=H
    replace H:((Y21.f kj2 l9 N9 AG4 AG5 H2).bind fun F0=>((Y74.f kj2 l0).bind fun L5=>((Y41.f kj2 AG2 AG3).bind fun N7=>((Y40.f kj2 AG2 AG3).bind fun M1=>((Y48.f kj2 N7.1 N7.2.1 N7.2.2 M1.1 M1.2.1 M1.2.2).bind fun AA0=>(if AA0=true then ((Y46.f kj2 E9 E3 M7).bind fun e9=>((Y18.f kj2 G3 e9).bind fun f4=>(if f4=true then ((Y33.f kj2 W5 L2 l7 l8).bind fun W4=>((Y32.f kj2 W5 L2 l7 l8).bind fun V9=>((Y18.f kj2 W4 V9).bind fun W3=>(if W3=true then ((Y24.f kj2 l9 N9 AG4 AG5 H2).bind fun R7=>((Y18.f kj2 F0 R7).bind fun R8=>(if R8=true then ((Y67.f kj2 L5).bind fun O1=>((Y64.f kj2 L5).bind fun N8=>(if O1=N8 then ((Y12.f kj2 E9 E3).bind fun M5=>((Y6.f kj2 E9 E3).bind fun M3=>(if (M5 != M3)=true then (none) else (Y3.l0 kj2 M7 G3 H2 F0 0 E9 E3)))) else (none)))) else (none)))) else (none))))) else (none)))) else (none)))))))=some r:=H
    have A10:=aM AF2
    clear AF2
    replace H:=bS H
    obtain ⟨F0,f7,H⟩:=H
    replace H:((Y74.f kj2 l0).bind fun L5=>((Y41.f kj2 AG2 AG3).bind fun N7=>((Y40.f kj2 AG2 AG3).bind fun M1=>((Y48.f kj2 N7.1 N7.2.1 N7.2.2 M1.1 M1.2.1 M1.2.2).bind fun AA0=>(if AA0=true then ((Y46.f kj2 E9 E3 M7).bind fun e9=>((Y18.f kj2 G3 e9).bind fun f4=>(if f4=true then ((Y33.f kj2 W5 L2 l7 l8).bind fun W4=>((Y32.f kj2 W5 L2 l7 l8).bind fun V9=>((Y18.f kj2 W4 V9).bind fun W3=>(if W3=true then ((Y24.f kj2 l9 N9 AG4 AG5 H2).bind fun R7=>((Y18.f kj2 F0 R7).bind fun R8=>(if R8=true then ((Y67.f kj2 L5).bind fun O1=>((Y64.f kj2 L5).bind fun N8=>(if O1=N8 then ((Y12.f kj2 E9 E3).bind fun M5=>((Y6.f kj2 E9 E3).bind fun M3=>(if (M5 != M3)=true then (none) else (Y3.l0 kj2 M7 G3 H2 F0 0 E9 E3)))) else (none)))) else (none)))) else (none))))) else (none)))) else (none))))))=some r:=H
    have A11:=aM f7
    clear f7
    replace H:=bS H
    obtain ⟨L5,Ay5,H⟩:=H
    replace H:((Y41.f kj2 AG2 AG3).bind fun N7=>((Y40.f kj2 AG2 AG3).bind fun M1=>((Y48.f kj2 N7.1 N7.2.1 N7.2.2 M1.1 M1.2.1 M1.2.2).bind fun AA0=>(if AA0=true then ((Y46.f kj2 E9 E3 M7).bind fun e9=>((Y18.f kj2 G3 e9).bind fun f4=>(if f4=true then ((Y33.f kj2 W5 L2 l7 l8).bind fun W4=>((Y32.f kj2 W5 L2 l7 l8).bind fun V9=>((Y18.f kj2 W4 V9).bind fun W3=>(if W3=true then ((Y24.f kj2 l9 N9 AG4 AG5 H2).bind fun R7=>((Y18.f kj2 F0 R7).bind fun R8=>(if R8=true then ((Y67.f kj2 L5).bind fun O1=>((Y64.f kj2 L5).bind fun N8=>(if O1=N8 then ((Y12.f kj2 E9 E3).bind fun M5=>((Y6.f kj2 E9 E3).bind fun M3=>(if (M5 != M3)=true then (none) else (Y3.l0 kj2 M7 G3 H2 F0 0 E9 E3)))) else (none)))) else (none)))) else (none))))) else (none)))) else (none)))))=some r:=H
    have A12:=aM Ay5
    clear Ay5
    replace H:=bS H
    obtain ⟨⟨Bm7,Bm8,Bm9⟩,AK7,H⟩:=H
    replace H:((Y40.f kj2 AG2 AG3).bind fun M1=>((Y48.f kj2 Bm7 Bm8 Bm9 M1.1 M1.2.1 M1.2.2).bind fun AA0=>(if AA0=true then ((Y46.f kj2 E9 E3 M7).bind fun e9=>((Y18.f kj2 G3 e9).bind fun f4=>(if f4=true then ((Y33.f kj2 W5 L2 l7 l8).bind fun W4=>((Y32.f kj2 W5 L2 l7 l8).bind fun V9=>((Y18.f kj2 W4 V9).bind fun W3=>(if W3=true then ((Y24.f kj2 l9 N9 AG4 AG5 H2).bind fun R7=>((Y18.f kj2 F0 R7).bind fun R8=>(if R8=true then ((Y67.f kj2 L5).bind fun O1=>((Y64.f kj2 L5).bind fun N8=>(if O1=N8 then ((Y12.f kj2 E9 E3).bind fun M5=>((Y6.f kj2 E9 E3).bind fun M3=>(if (M5 != M3)=true then (none) else (Y3.l0 kj2 M7 G3 H2 F0 0 E9 E3)))) else (none)))) else (none)))) else (none))))) else (none)))) else (none))))=some r:=H
    have A13:=aM AK7
    clear AK7
    replace H:=bS H
    obtain ⟨⟨B26,B27,B29⟩,Bl3,H⟩:=H
    replace H:((Y48.f kj2 Bm7 Bm8 Bm9 B26 B27 B29).bind fun AA0=>(if AA0=true then ((Y46.f kj2 E9 E3 M7).bind fun e9=>((Y18.f kj2 G3 e9).bind fun f4=>(if f4=true then ((Y33.f kj2 W5 L2 l7 l8).bind fun W4=>((Y32.f kj2 W5 L2 l7 l8).bind fun V9=>((Y18.f kj2 W4 V9).bind fun W3=>(if W3=true then ((Y24.f kj2 l9 N9 AG4 AG5 H2).bind fun R7=>((Y18.f kj2 F0 R7).bind fun R8=>(if R8=true then ((Y67.f kj2 L5).bind fun O1=>((Y64.f kj2 L5).bind fun N8=>(if O1=N8 then ((Y12.f kj2 E9 E3).bind fun M5=>((Y6.f kj2 E9 E3).bind fun M3=>(if (M5 != M3)=true then (none) else (Y3.l0 kj2 M7 G3 H2 F0 0 E9 E3)))) else (none)))) else (none)))) else (none))))) else (none)))) else (none)))=some r:=H
    have A14:=aM Bl3
    clear Bl3
    replace H:=bS H
    obtain ⟨AA0,AV4,H⟩:=H
    replace H:(if AA0=true then ((Y46.f kj2 E9 E3 M7).bind fun e9=>((Y18.f kj2 G3 e9).bind fun f4=>(if f4=true then ((Y33.f kj2 W5 L2 l7 l8).bind fun W4=>((Y32.f kj2 W5 L2 l7 l8).bind fun V9=>((Y18.f kj2 W4 V9).bind fun W3=>(if W3=true then ((Y24.f kj2 l9 N9 AG4 AG5 H2).bind fun R7=>((Y18.f kj2 F0 R7).bind fun R8=>(if R8=true then ((Y67.f kj2 L5).bind fun O1=>((Y64.f kj2 L5).bind fun N8=>(if O1=N8 then ((Y12.f kj2 E9 E3).bind fun M5=>((Y6.f kj2 E9 E3).bind fun M3=>(if (M5 != M3)=true then (none) else (Y3.l0 kj2 M7 G3 H2 F0 0 E9 E3)))) else (none)))) else (none)))) else (none))))) else (none)))) else (none))=some r:=H
    have A15:=aM AV4
    clear AV4
    by_cases c16:AA0=true
    ·subst c16
     have H1:((Y46.f kj2 E9 E3 M7).bind fun e9=>((Y18.f kj2 G3 e9).bind fun f4=>(if f4=true then ((Y33.f kj2 W5 L2 l7 l8).bind fun W4=>((Y32.f kj2 W5 L2 l7 l8).bind fun V9=>((Y18.f kj2 W4 V9).bind fun W3=>(if W3=true then ((Y24.f kj2 l9 N9 AG4 AG5 H2).bind fun R7=>((Y18.f kj2 F0 R7).bind fun R8=>(if R8=true then ((Y67.f kj2 L5).bind fun O1=>((Y64.f kj2 L5).bind fun N8=>(if O1=N8 then ((Y12.f kj2 E9 E3).bind fun M5=>((Y6.f kj2 E9 E3).bind fun M3=>(if (M5 != M3)=true then (none) else (Y3.l0 kj2 M7 G3 H2 F0 0 E9 E3)))) else (none)))) else (none)))) else (none))))) else (none))))=some r:=by rw [if_pos rfl] at H;exact H
     clear H
     have H:=H1
     clear H1
     replace H:=bS H
     obtain ⟨e9,Ai9,H⟩:=H
     replace H:((Y18.f kj2 G3 e9).bind fun f4=>(if f4=true then ((Y33.f kj2 W5 L2 l7 l8).bind fun W4=>((Y32.f kj2 W5 L2 l7 l8).bind fun V9=>((Y18.f kj2 W4 V9).bind fun W3=>(if W3=true then ((Y24.f kj2 l9 N9 AG4 AG5 H2).bind fun R7=>((Y18.f kj2 F0 R7).bind fun R8=>(if R8=true then ((Y67.f kj2 L5).bind fun O1=>((Y64.f kj2 L5).bind fun N8=>(if O1=N8 then ((Y12.f kj2 E9 E3).bind fun M5=>((Y6.f kj2 E9 E3).bind fun M3=>(if (M5 != M3)=true then (none) else (Y3.l0 kj2 M7 G3 H2 F0 0 E9 E3)))) else (none)))) else (none)))) else (none))))) else (none)))=some r:=H
     have A17:=aM Ai9
     clear Ai9
     replace H:=bS H
     obtain ⟨f4,Bk3,H⟩:=H
     replace H:(if f4=true then ((Y33.f kj2 W5 L2 l7 l8).bind fun W4=>((Y32.f kj2 W5 L2 l7 l8).bind fun V9=>((Y18.f kj2 W4 V9).bind fun W3=>(if W3=true then ((Y24.f kj2 l9 N9 AG4 AG5 H2).bind fun R7=>((Y18.f kj2 F0 R7).bind fun R8=>(if R8=true then ((Y67.f kj2 L5).bind fun O1=>((Y64.f kj2 L5).bind fun N8=>(if O1=N8 then ((Y12.f kj2 E9 E3).bind fun M5=>((Y6.f kj2 E9 E3).bind fun M3=>(if (M5 != M3)=true then (none) else (Y3.l0 kj2 M7 G3 H2 F0 0 E9 E3)))) else (none)))) else (none)))) else (none))))) else (none))=some r:=H
     have A18:=aM Bk3
     clear Bk3
     by_cases c19:f4=true
     ·subst c19
      have H1:((Y33.f kj2 W5 L2 l7 l8).bind fun W4=>((Y32.f kj2 W5 L2 l7 l8).bind fun V9=>((Y18.f kj2 W4 V9).bind fun W3=>(if W3=true then ((Y24.f kj2 l9 N9 AG4 AG5 H2).bind fun R7=>((Y18.f kj2 F0 R7).bind fun R8=>(if R8=true then ((Y67.f kj2 L5).bind fun O1=>((Y64.f kj2 L5).bind fun N8=>(if O1=N8 then ((Y12.f kj2 E9 E3).bind fun M5=>((Y6.f kj2 E9 E3).bind fun M3=>(if (M5 != M3)=true then (none) else (Y3.l0 kj2 M7 G3 H2 F0 0 E9 E3)))) else (none)))) else (none)))) else (none)))))=some r:=by rw [if_pos rfl] at H;exact H
      clear H
      have H:=H1
      clear H1
      replace H:=bS H
      obtain ⟨W4,Aj6,H⟩:=H
      replace H:((Y32.f kj2 W5 L2 l7 l8).bind fun V9=>((Y18.f kj2 W4 V9).bind fun W3=>(if W3=true then ((Y24.f kj2 l9 N9 AG4 AG5 H2).bind fun R7=>((Y18.f kj2 F0 R7).bind fun R8=>(if R8=true then ((Y67.f kj2 L5).bind fun O1=>((Y64.f kj2 L5).bind fun N8=>(if O1=N8 then ((Y12.f kj2 E9 E3).bind fun M5=>((Y6.f kj2 E9 E3).bind fun M3=>(if (M5 != M3)=true then (none) else (Y3.l0 kj2 M7 G3 H2 F0 0 E9 E3)))) else (none)))) else (none)))) else (none))))=some r:=H
      have A20:=aM Aj6
      clear Aj6
      replace H:=bS H
      obtain ⟨V9,Bj6,H⟩:=H
      replace H:((Y18.f kj2 W4 V9).bind fun W3=>(if W3=true then ((Y24.f kj2 l9 N9 AG4 AG5 H2).bind fun R7=>((Y18.f kj2 F0 R7).bind fun R8=>(if R8=true then ((Y67.f kj2 L5).bind fun O1=>((Y64.f kj2 L5).bind fun N8=>(if O1=N8 then ((Y12.f kj2 E9 E3).bind fun M5=>((Y6.f kj2 E9 E3).bind fun M3=>(if (M5 != M3)=true then (none) else (Y3.l0 kj2 M7 G3 H2 F0 0 E9 E3)))) else (none)))) else (none)))) else (none)))=some r:=H
      have A21:=aM Bj6
      clear Bj6
      replace H:=bS H
      obtain ⟨W3,Az1,H⟩:=H
      replace H:(if W3=true then ((Y24.f kj2 l9 N9 AG4 AG5 H2).bind fun R7=>((Y18.f kj2 F0 R7).bind fun R8=>(if R8=true then ((Y67.f kj2 L5).bind fun O1=>((Y64.f kj2 L5).bind fun N8=>(if O1=N8 then ((Y12.f kj2 E9 E3).bind fun M5=>((Y6.f kj2 E9 E3).bind fun M3=>(if (M5 != M3)=true then (none) else (Y3.l0 kj2 M7 G3 H2 F0 0 E9 E3)))) else (none)))) else (none)))) else (none))=some r:=H
      have A22:=aM Az1
      clear Az1
      by_cases c23:W3=true
      ·subst c23
       have H1:((Y24.f kj2 l9 N9 AG4 AG5 H2).bind fun R7=>((Y18.f kj2 F0 R7).bind fun R8=>(if R8=true then ((Y67.f kj2 L5).bind fun O1=>((Y64.f kj2 L5).bind fun N8=>(if O1=N8 then ((Y12.f kj2 E9 E3).bind fun M5=>((Y6.f kj2 E9 E3).bind fun M3=>(if (M5 != M3)=true then (none) else (Y3.l0 kj2 M7 G3 H2 F0 0 E9 E3)))) else (none)))) else (none))))=some r:=by rw [if_pos rfl] at H;exact H
       clear H
       have H:=H1
       clear H1
       replace H:=bS H
       obtain ⟨R7,Cw1,H⟩:=H
       replace H:((Y18.f kj2 F0 R7).bind fun R8=>(if R8=true then ((Y67.f kj2 L5).bind fun O1=>((Y64.f kj2 L5).bind fun N8=>(if O1=N8 then ((Y12.f kj2 E9 E3).bind fun M5=>((Y6.f kj2 E9 E3).bind fun M3=>(if (M5 != M3)=true then (none) else (Y3.l0 kj2 M7 G3 H2 F0 0 E9 E3)))) else (none)))) else (none)))=some r:=H
       have A24:=aM Cw1
       clear Cw1
       replace H:=bS H
       obtain ⟨R8,Ai0,H⟩:=H
       replace H:(if R8=true then ((Y67.f kj2 L5).bind fun O1=>((Y64.f kj2 L5).bind fun N8=>(if O1=N8 then ((Y12.f kj2 E9 E3).bind fun M5=>((Y6.f kj2 E9 E3).bind fun M3=>(if (M5 != M3)=true then (none) else (Y3.l0 kj2 M7 G3 H2 F0 0 E9 E3)))) else (none)))) else (none))=some r:=H
       have A25:=aM Ai0
       clear Ai0
       by_cases c26:R8=true
       ·subst c26
        have H1:((Y67.f kj2 L5).bind fun O1=>((Y64.f kj2 L5).bind fun N8=>(if O1=N8 then ((Y12.f kj2 E9 E3).bind fun M5=>((Y6.f kj2 E9 E3).bind fun M3=>(if (M5 != M3)=true then (none) else (Y3.l0 kj2 M7 G3 H2 F0 0 E9 E3)))) else (none))))=some r:=by rw [if_pos rfl] at H;exact H
        clear H
        have H:=H1
        clear H1
        replace H:=bS H
        obtain ⟨O1,A54,H⟩:=H
        replace H:((Y64.f kj2 L5).bind fun N8=>(if O1=N8 then ((Y12.f kj2 E9 E3).bind fun M5=>((Y6.f kj2 E9 E3).bind fun M3=>(if (M5 != M3)=true then (none) else (Y3.l0 kj2 M7 G3 H2 F0 0 E9 E3)))) else (none)))=some r:=H
        have A27:=aM A54
        clear A54
        replace H:=bS H
        obtain ⟨N8,A09,H⟩:=H
        replace H:(if O1=N8 then ((Y12.f kj2 E9 E3).bind fun M5=>((Y6.f kj2 E9 E3).bind fun M3=>(if (M5 != M3)=true then (none) else (Y3.l0 kj2 M7 G3 H2 F0 0 E9 E3)))) else (none))=some r:=H
        have A28:=aM A09
        clear A09
        by_cases c29:O1=N8
        ·rw [if_pos c29] at H
         have c29b0:(O1 == N8)=true:=beq_iff_eq.mpr c29
         have c29b1:(O1 != N8)=false:=bne_eq_false_iff_eq.mpr c29
         clear c29
         replace H:=bS H
         obtain ⟨M5,Cw2,H⟩:=H
         replace H:((Y6.f kj2 E9 E3).bind fun M3=>(if (M5 != M3)=true then (none) else (Y3.l0 kj2 M7 G3 H2 F0 0 E9 E3)))=some r:=H
         have A30:=aM Cw2
         clear Cw2
         replace H:=bS H
         obtain ⟨M3,Cw3,H⟩:=H
         replace H:(if (M5 != M3)=true then (none) else (Y3.l0 kj2 M7 G3 H2 F0 0 E9 E3))=some r:=H
         have A31:=aM Cw3
         clear Cw3
         by_cases c32:(M5 != M3)=true
         ·rw [if_pos c32] at H
          exact nO H
         ·rw [if_neg c32] at H
          have c32b0:(M5 != M3)=false:=by simpa using c32
          (try (have c32b1:decide (M5=M3)=true:=by simpa using c32))
          (try (have c32b2:(M5 == M3)=true:=by simpa using c32))
          clear c32
          have H':=aM H
          clear H
          try go_wp2_with (first | ((with_reducible refine gc_ 5 ?_);refine gl_ (some 34) Tryz.func5 #[.slice A0 l0.length c0] ?_;(with_reducible refine (Y77.calls kj2 _ _ l0 AG2 AG3 _ ?s1 ?s2 A6.out).mono ?_);(case s1=>repeat (first | exact (Kd.C_below HR0.out HB.out) | (with_reducible refine Kd.C_alloc ?_ _) | (with_reducible refine Kd.C_drewN ?_ _) | (with_reducible refine Kd.C_drew ?_)));(case s2=>exact HC0.out);rintro e w33 ⟨rfl,hb⟩;refine ⟨_,rfl,?_⟩;have n0_:=aM (below_step (z6_ HB.out) hb);clear HB;have HB:=n0_;clear n0_;(try clear hb)) | ((with_reducible refine gc_ 6 ?_);refine gl_ (some 39) Tryz.func6 #[.slice A1 l1.length c1] ?_;(with_reducible refine (Y79.calls kj2 _ _ l1 E9 E3 M7 _ ?s1 ?s2 A7.out).mono ?_);(case s1=>repeat (first | exact (Kd.C_below HR1.out HB.out) | (with_reducible refine Kd.C_alloc ?_ _) | (with_reducible refine Kd.C_drewN ?_ _) | (with_reducible refine Kd.C_drew ?_)));(case s2=>exact HC1.out);rintro e w34 ⟨v672,rfl,ho0,hb⟩;refine ⟨_,rfl,?_⟩;have n0_:=aM (Kd.R_lower ho0 (below_size (z6_ HB.out)));have n1_:=aM (below_step (z6_ HB.out) hb);clear HB;have F8:=n0_;have HB:=n1_;clear n0_ n1_;(try clear hb);(try clear ho0)) | ((with_reducible refine gd_ 7 ?_);(try (refine gate_guard (by rfl) ?_;dsimp only));refine be_ 7 #[.int .i64 0,.slice none 0 0] 27 ?_;intro b7 hg w35 hbox hb;have n0_:=aM (Kd.R_below (z0_ F8.out) hb);have n1_:=aM (below_step (z6_ HB.out) hb);have n2_:=aM (hbox);have n3_:=aM ((z7_ HB.out:w.heap.size≤b7));have n4_:=aM ((z7_ HB.out:w.heap.size≤b7));clear F8;clear HB;have F8:=n0_;have HB:=n1_;have C4:=n2_;have GW675:=n3_;have I6:=n4_;clear n0_ n1_ n2_ n3_ n4_;clear hb hbox hg;have ⟨BI6,BI7,BI8,BI9⟩:=cz2_ C4.out;obtain ⟨S6,S1,C77⟩:=Kd.R_slice F8.out;subst C77) | ((with_reducible refine gc_ 7 ?_);refine gl_ (some 44) Tryz.func7 #[.agg #[.int .i64 E9,.slice S6 E3.length S1],.string M7] ?_;(with_reducible refine (Y83.calls kj2 E9 _ _ E3 M7 G3 _ ?s1 ?s2 A8.out).mono ?_);(case s1=>refine (Kd.R_reads' (e:=78) (base:=w.heap.size) (ok:=fun k_=>True) (n:=E3.length) (c:=S1) ?_).2.2;exact (z16_ F8.out C4.out));(case s2=>exact (Kd.R_reads' F8.out).2.1);rintro e w38 ⟨C78,rfl,ho0,hb⟩;refine ⟨_,rfl,?_⟩;have n0_:=aM (Kd.R_below (z16_ F8.out C4.out) hb);have n1_:=aM (Kd.R_lower ho0 (below_size (z4_ HB.out I6.out)));have n2_:=aM (blk_below (g:=b7) (o:=.cells #[.int .i64 E9,.slice S6 E3.length S1] 27 (0,0)) (z18_ C4.out) hb);have n3_:=aM (below_step (z4_ HB.out I6.out) hb);clear F8;clear C4;clear HB;have F8:=n0_;have H3:=n1_;have C4:=n2_;have HB:=n3_;clear n0_ n1_ n2_ n3_;(try clear hb);(try clear hk);(try clear ho0)) | ((with_reducible refine gc_ 8 ?_);refine gl_ (some 47) Tryz.func8 #[.slice A0 l0.length c0] ?_;(with_reducible refine (Y70.calls kj2 _ _ l0 W5 L2 l7 l8 _ ?s1 ?s2 A9.out).mono ?_);(case s1=>repeat (first | exact (Kd.C_below HR0.out HB.out) | (with_reducible refine Kd.C_alloc ?_ _) | (with_reducible refine Kd.C_drewN ?_ _) | (with_reducible refine Kd.C_drew ?_)));(case s2=>exact HC0.out);rintro e w39 ⟨v681,rfl,ho0,hb⟩;refine ⟨_,rfl,?_⟩;have n0_:=aM (Kd.R_elder' (z0_ F8.out) (Kd.R_base ho0) hb);have n1_:=aM (Kd.R_below (z0_ H3.out) hb);have n2_:=aM (Kd.R_lower (Kd.R_new' ho0 (Kd.R_lt (z0_ F8.out))) (below_size (z4_ HB.out I6.out)));have n3_:=aM (blkB_ C4.out hb);have n4_:=aM (below_step (z4_ HB.out I6.out) hb);clear F8;clear H3;clear C4;clear HB;have F8:=n0_;have H3:=n1_;have H9:=n2_;have C4:=n3_;have HB:=n4_;clear n0_ n1_ n2_ n3_ n4_;(try clear hb);(try clear ho0)) | ((with_reducible refine gd_ 10 ?_);(try (refine gate_guard (by rfl) ?_;dsimp only));refine be_ 10 #[.int .i64 0,.slice none 0 0] 27 ?_;intro AJ5 hg w40 hbox hb;have n0_:=aM (Kd.R_below (z0_ F8.out) hb);have n1_:=aM (Kd.R_below (z0_ H3.out) hb);have n2_:=aM (Kd.R_below (z0_ H9.out) hb);have n3_:=aM (blkB_ C4.out hb);have n4_:=aM (below_step (z4_ HB.out I6.out) hb);have n5_:=aM (hbox);have n6_:=aM ((z13_ HB.out I6.out:w.heap.size≤AJ5));have n7_:=aM ((z13_ HB.out I6.out:w.heap.size≤AJ5));have n8_:=aM (neL_ C4.out hg);have n9_:=aM (neG_ C4.out hg);clear F8;clear H3;clear H9;clear C4;clear HB;have F8:=n0_;have H3:=n1_;have H9:=n2_;have C4:=n3_;have HB:=n4_;have C8:=n5_;have GW685:=n6_;have K1:=n7_;have Ap5:=n8_;have BW6:=n9_;clear n0_ n1_ n2_ n3_ n4_ n5_ n6_ n7_ n8_ n9_;clear hb hbox hg;have CW7:=BW6.out;have CW8:=Ap5.out;have ⟨Ap8,Ap9,BJ4,Aq0⟩:=cz2_ C8.out;obtain ⟨f5,f6,C79⟩:=Kd.R_slice H9.out;subst C79) | ((with_reducible refine gc_ 9 ?_);refine gl_ (some 53) Tryz.func9 #[.slice A1 l1.length c1] ?_;(with_reducible refine (Y22.calls kj2 _ _ l1 l9 N9 AG4 AG5 H2 _ ?s1 ?s2 A10.out).mono ?_);(case s1=>exact Kd.C_below HR1.out (z9_ HB.out I6.out K1.out));(case s2=>exact HC1.out);rintro e w44 ⟨v688,v693,rfl,ho0,ho1,hb⟩;refine ⟨_,rfl,?_⟩;have n0_:=aM (Kd.R_elder' (z16_ F8.out C8.out) (Kd.R_base ho0) hb);have n1_:=aM (Kd.R_elder' (z16_ H3.out C8.out) (Kd.R_base ho1) hb);have n2_:=aM (Kd.R_elder' (z16_ H9.out C8.out) (Kd.R_base ho0) hb);have n3_:=aM (Kd.R_lower (Kd.R_new' (Kd.R_new' ho0 (Kd.R_lt (z16_ F8.out C8.out))) (Kd.R_lt (z16_ H9.out C8.out))) (below_size (z9_ HB.out I6.out K1.out)));have n4_:=aM (Kd.R_lower (Kd.R_new' ho1 (Kd.R_lt (z16_ H3.out C8.out))) (below_size (z9_ HB.out I6.out K1.out)));have n5_:=aM (blk_below (g:=b7) (o:=.cells #[.int .i64 E9,.slice S6 E3.length S1] 27 (0,0)) (z22_ Ap5.out C4.out) hb);have n6_:=aM (blk_below (g:=AJ5) (o:=.cells #[.int .i64 W5,.slice f5 L2.length f6] 27 (0,0)) (z18_ C8.out) hb);have n7_:=aM (below_step (z9_ HB.out I6.out K1.out) hb);clear F8;clear H3;clear H9;clear C4;clear C8;clear HB;have F8:=n0_;have H3:=n1_;have H9:=n2_;have J4:=n3_;have I7:=n4_;have C4:=n5_;have C8:=n6_;have HB:=n7_;clear n0_ n1_ n2_ n3_ n4_ n5_ n6_ n7_;(try clear hb);(try clear hk);(try clear ho0);(try clear ho1)) | ((with_reducible refine gd_ 13 ?_);(try (refine gate_guard (by rfl) ?_;dsimp only));refine be_ 13 #[.int .i64 0,.slice none 0 0] 27 ?_;intro AN1 hg w45 hbox hb;have n0_:=aM (Kd.R_below (z0_ F8.out) hb);have n1_:=aM (Kd.R_below (z0_ H3.out) hb);have n2_:=aM (Kd.R_below (z0_ H9.out) hb);have n3_:=aM (Kd.R_below (z0_ J4.out) hb);have n4_:=aM (Kd.R_below (z0_ I7.out) hb);have n5_:=aM (blkB_ C4.out hb);have n6_:=aM (blkB_ C8.out hb);have n7_:=aM (below_step (z9_ HB.out I6.out K1.out) hb);have n8_:=aM (hbox);have n9_:=aM ((z38_ HB.out I6.out K1.out:w.heap.size≤AN1));have K9:=aM ((z38_ HB.out I6.out K1.out:w.heap.size≤AN1));have V1:=aM (neL_ C4.out hg);have AB7:=aM (neG_ C4.out hg);have AG6:=aM (neL_ C8.out hg);have AN2:=aM (neG_ C8.out hg);clear F8;clear H3;clear H9;clear J4;clear I7;clear C4;clear C8;clear HB;have F8:=n0_;have H3:=n1_;have H9:=n2_;have J4:=n3_;have I7:=n4_;have C4:=n5_;have C8:=n6_;have HB:=n7_;have D1:=n8_;have GW695:=n9_;have L4:=K9;have Ap6:=V1;have BW7:=AB7;have Ap7:=AG6;have BW8:=AN2;clear n0_ n1_ n2_ n3_ n4_ n5_ n6_ n7_ n8_ n9_ K9 V1 AB7 AG6 AN2;clear hb hbox hg;have hnb46:=BW7.out;have hnc46:=Ap6.out;have hnb47:=BW8.out;have hnc47:=Ap7.out;have ⟨hcz48_0,hcz48_1,hfz48_0,hfz48_1⟩:=cz2_ D1.out;obtain ⟨n0,i9,C80⟩:=Kd.R_slice J4.out;subst C80;obtain ⟨AP8,AN3,C81⟩:=Kd.R_slice I7.out;subst C81) | ((with_reducible refine gc_ 10 ?_);refine gl_ (some 62) Tryz.func10 #[.agg #[.int .i64 l9,.slice n0 N9.length i9],.string AG4,.int .i64 AG5,.slice AP8 H2.length AN3] ?_;(with_reducible refine (Y21.calls kj2 l9 _ _ N9 AG4 AG5 _ _ H2 F0 _ ?s1 ?s2 ?s3 ?s4 A11.out).mono ?_);(case s1=>refine (Kd.R_reads' (e:=78) (base:=w.heap.size) (ok:=fun k_=>((True∧some k_≠(.slice S6 E3.length S1:Value).ownBlock)∧some k_≠(.slice f5 L2.length f6:Value).ownBlock)) (n:=N9.length) (c:=i9) ?_).2.2;exact (z16_ J4.out D1.out));(case s2=>exact (Kd.R_reads' J4.out).2.1);(case s3=>refine (Kd.R_reads' (e:=2) (base:=w.heap.size) (ok:=fun k_=>(True∧some k_≠(C78:Value).ownBlock)) (n:=H2.length) (c:=AN3) ?_).2.2;exact (z16_ I7.out D1.out));(case s4=>exact (Kd.R_reads' I7.out).2.1);rintro e w51 ⟨v697,rfl,ho0,hb⟩;refine ⟨_,rfl,?_⟩;have n0_:=aM (Kd.R_below (z16_ F8.out D1.out) hb);have n1_:=aM (Kd.R_elder' (z16_ H3.out D1.out) (Kd.R_base ho0) hb);have n2_:=aM (Kd.R_below (z16_ H9.out D1.out) hb);have n3_:=aM (Kd.R_below (z16_ J4.out D1.out) hb);have n4_:=aM (Kd.R_elder' (z16_ I7.out D1.out) (Kd.R_base ho0) hb);have n5_:=aM (Kd.R_lower (Kd.R_new' (Kd.R_new' ho0 (Kd.R_lt (z16_ H3.out D1.out))) (Kd.R_lt (z16_ I7.out D1.out))) (below_size (z10_ HB.out I6.out K1.out L4.out)));have n6_:=aM (blk_below (g:=b7) (o:=.cells #[.int .i64 E9,.slice S6 E3.length S1] 27 (0,0)) (z22_ Ap6.out C4.out) hb);have n7_:=aM (blk_below (g:=AJ5) (o:=.cells #[.int .i64 W5,.slice f5 L2.length f6] 27 (0,0)) (z22_ Ap7.out C8.out) hb);have n8_:=aM (blk_below (g:=AN1) (o:=.cells #[.int .i64 l9,.slice n0 N9.length i9] 27 (0,0)) (z18_ D1.out) hb);have n9_:=aM (below_step (z10_ HB.out I6.out K1.out L4.out) hb);clear F8;clear H3;clear H9;clear J4;clear I7;clear C4;clear C8;clear D1;clear HB;have F8:=n0_;have H3:=n1_;have H9:=n2_;have J4:=n3_;have I7:=n4_;have K5:=n5_;have C4:=n6_;have C8:=n7_;have D1:=n8_;have HB:=n9_;clear n0_ n1_ n2_ n3_ n4_ n5_ n6_ n7_ n8_ n9_;(try clear hb);(try clear hk);(try clear ho0)) | ((with_reducible refine gc_ 11 ?_);refine gl_ (some 64) Tryz.func11 #[.slice A0 l0.length c0] ?_;(with_reducible refine (Y74.calls kj2 _ _ l0 L5 _ ?s1 ?s2 A12.out).mono ?_);(case s1=>repeat (first | exact (Kd.C_below HR0.out HB.out) | (with_reducible refine Kd.C_alloc ?_ _) | (with_reducible refine Kd.C_drewN ?_ _) | (with_reducible refine Kd.C_drew ?_)));(case s2=>exact HC0.out);rintro e w52 ⟨rfl,hb⟩;refine ⟨_,rfl,?_⟩;have n0_:=aM (Kd.R_below (z0_ F8.out) hb);have n1_:=aM (Kd.R_below (z0_ H3.out) hb);have n2_:=aM (Kd.R_below (z0_ H9.out) hb);have n3_:=aM (Kd.R_below (z0_ J4.out) hb);have n4_:=aM (Kd.R_below (z0_ I7.out) hb);have n5_:=aM (Kd.R_below (z0_ K5.out) hb);have n6_:=aM (blkB_ C4.out hb);have n7_:=aM (blkB_ C8.out hb);have n8_:=aM (blkB_ D1.out hb);have n9_:=aM (below_step (z10_ HB.out I6.out K1.out L4.out) hb);clear F8;clear H3;clear H9;clear J4;clear I7;clear K5;clear C4;clear C8;clear D1;clear HB;have F8:=n0_;have H3:=n1_;have H9:=n2_;have J4:=n3_;have I7:=n4_;have K5:=n5_;have C4:=n6_;have C8:=n7_;have D1:=n8_;have HB:=n9_;clear n0_ n1_ n2_ n3_ n4_ n5_ n6_ n7_ n8_ n9_;(try clear hb)))
          have n0_:=aM (Kd.R_drew F8.out)
          have n1_:=aM (Kd.R_drew H3.out)
          have n2_:=aM (Kd.R_drew H9.out)
          have n3_:=aM (Kd.R_drew J4.out)
          have n4_:=aM (Kd.R_drew I7.out)
          have n5_:=aM (Kd.R_drew K5.out)
          have n6_:=aM (blk_drew C4.out)
          have n7_:=aM (blk_drew C8.out)
          have n8_:=aM (blk_drew D1.out)
          have n9_:=aM (below_drew1 HB.out)
          clear F8
          clear H3
          clear H9
          clear J4
          clear I7
          clear K5
          clear C4
          clear C8
          clear D1
          clear HB
          have F8:=n0_
          have H3:=n1_
          have H9:=n2_
          have J4:=n3_
          have I7:=n4_
          have K5:=n5_
          have C4:=n6_
          have C8:=n7_
          have D1:=n8_
          have HB:=n9_
          clear n0_ n1_ n2_ n3_ n4_ n5_ n6_ n7_ n8_ n9_
          refine start_ (n:=52) (S:=fun w'=>w'.cell? ⟨b7,0,none⟩=some (.int .i64 E9)∧w'.cell? ⟨b7,1,none⟩=some (.slice S6 E3.length S1)∧w'.cell? ⟨AJ5,0,none⟩=some (.int .i64 W5)∧w'.cell? ⟨AJ5,1,none⟩=some (.slice f5 L2.length f6)∧w'.cell? ⟨AN1,0,none⟩=some (.int .i64 l9)∧w'.cell? ⟨AN1,1,none⟩=some (.slice n0 N9.length i9)) (ds:=[]) #[O,O,O,O,O,O,O,O,O,O,O,O,O,O,O,O,O,O,O,O,O,O,O,O,O,O,O,O,O,O,O,O,O,O,O,O,O,O,O,O,O,O,O,O,O,O,O,O,O,O,O,O] (by kernel_rfl) rfl rfl (cj2_ C4.out (cj2_ C8.out (cc2_ D1.out))) (fun hHeld=>?_);refine with_tabW Y3.tab10 Y3.bits10 (fun HT_ HW_=>?_)
          generalize w52.drew=w53 at F8 H3 H9 J4 I7 K5 C4 C8 D1 HB hHeld ⊢
          refine pu_ 0 65 #[I,O,O,O,O,O,O,O,O,O,O,O,O,O,O,O,O,O,O,O,O,O,O,O,O,O,O,O,O,O,O,O,O,O,O,O,O,O,O,O,O,O,O,O,O,O,O,O,O,O,O,O] HT_.out ?_
          refine pu_ 1 66 #[I,I,O,O,O,O,O,O,O,O,O,O,O,O,O,O,O,O,O,O,O,O,O,O,O,O,O,O,O,O,O,O,O,O,O,O,O,O,O,O,O,O,O,O,O,O,O,O,O,O,O,O] HT_.out ?_
          refine pu_ 3 68 #[I,I,O,I,O,O,O,O,O,O,O,O,O,O,O,O,O,O,O,O,O,O,O,O,O,O,O,O,O,O,O,O,O,O,O,O,O,O,O,O,O,O,O,O,O,O,O,O,O,O,O,O] HT_.out ?_
          refine pu_ 4 69 #[I,I,O,I,I,O,O,O,O,O,O,O,O,O,O,O,O,O,O,O,O,O,O,O,O,O,O,O,O,O,O,O,O,O,O,O,O,O,O,O,O,O,O,O,O,O,O,O,O,O,O,O] HT_.out ?_
          refine o1_ 2 67 #[I,I,I,I,I,O,O,O,O,O,O,O,O,O,O,O,O,O,O,O,O,O,O,O,O,O,O,O,O,O,O,O,O,O,O,O,O,O,O,O,O,O,O,O,O,O,O,O,O,O,O,O] HT_.out (fun K hK=>?_)
          refine gs_ Tryz.func13 #[.int .i64 AG2,.int .i64 AG3] ?_
          with_reducible refine (Y41.calls kj2 AG2 AG3 Bm7 Bm8 Bm9 _ A13.out).mono ?_
          rintro e w54 ⟨v702,rfl,ho0,hb⟩
          refine ⟨_,rfl,?_⟩
          have n0_:=aM (Kd.R_elder' (z0_ F8.out) (Kd.R_base ho0) hb)
          have n1_:=aM (Kd.R_below (z0_ H3.out) hb)
          have n2_:=aM (Kd.R_elder' (z0_ H9.out) (Kd.R_base ho0) hb)
          have n3_:=aM (Kd.R_elder' (z0_ J4.out) (Kd.R_base ho0) hb)
          have n4_:=aM (Kd.R_below (z0_ I7.out) hb)
          have n5_:=aM (Kd.R_below (z0_ K5.out) hb)
          have n6_:=aM (Kd.R_lower (Kd.R_new' (Kd.R_new' (Kd.R_new' ho0 (Kd.R_lt (z0_ F8.out))) (Kd.R_lt (z0_ H9.out))) (Kd.R_lt (z0_ J4.out))) (below_size (z10_ HB.out I6.out K1.out L4.out)))
          have n7_:=aM (blkB_ C4.out hb)
          have n8_:=aM (blkB_ C8.out hb)
          have n9_:=aM (blkB_ D1.out hb)
          have K9:=aM (below_step (z10_ HB.out I6.out K1.out L4.out) hb)
          clear F8
          clear H3
          clear H9
          clear J4
          clear I7
          clear K5
          clear C4
          clear C8
          clear D1
          clear HB
          have F8:=n0_
          have H3:=n1_
          have H9:=n2_
          have J4:=n3_
          have I7:=n4_
          have K5:=n5_
          have Q6:=n6_
          have C4:=n7_
          have C8:=n8_
          have D1:=n9_
          have HB:=K9
          clear n0_ n1_ n2_ n3_ n4_ n5_ n6_ n7_ n8_ n9_ K9
          (try clear hb)
          (try clear ho0)
          refine hK.out _ _ (cj2_ C4.out (cj2_ C8.out (cc2_ D1.out))) (fun hHeld=>?_)
          clear hK K
          refine nm_ 67 ?_
          refine o1_ 5 70 #[I,I,I,I,I,I,O,O,O,O,O,O,O,O,O,O,O,O,O,O,O,O,O,O,O,O,O,O,O,O,O,O,O,O,O,O,O,O,O,O,O,O,O,O,O,O,O,O,O,O,O,O] HT_.out (fun K hK=>?_)
          refine gs_ Tryz.func14 #[.int .i64 AG2,.int .i64 AG3] ?_
          with_reducible refine (Y40.calls kj2 AG2 AG3 B26 B27 B29 _ A14.out).mono ?_
          rintro e w55 ⟨v707,rfl,ho0,hb⟩
          refine ⟨_,rfl,?_⟩
          have n0_:=aM (Kd.R_elder' (z0_ F8.out) (Kd.R_base ho0) hb)
          have n1_:=aM (Kd.R_below (z0_ H3.out) hb)
          have n2_:=aM (Kd.R_elder' (z0_ H9.out) (Kd.R_base ho0) hb)
          have n3_:=aM (Kd.R_elder' (z0_ J4.out) (Kd.R_base ho0) hb)
          have n4_:=aM (Kd.R_below (z0_ I7.out) hb)
          have n5_:=aM (Kd.R_below (z0_ K5.out) hb)
          have n6_:=aM (Kd.R_elder' (z0_ Q6.out) (Kd.R_base ho0) hb)
          have n7_:=aM (Kd.R_lower (Kd.R_new' (Kd.R_new' (Kd.R_new' (Kd.R_new' ho0 (Kd.R_lt (z0_ F8.out))) (Kd.R_lt (z0_ H9.out))) (Kd.R_lt (z0_ J4.out))) (Kd.R_lt (z0_ Q6.out))) (below_size (z10_ HB.out I6.out K1.out L4.out)))
          have n8_:=aM (blkB_ C4.out hb)
          have n9_:=aM (blkB_ C8.out hb)
          have K9:=aM (blkB_ D1.out hb)
          have V1:=aM (below_step (z10_ HB.out I6.out K1.out L4.out) hb)
          clear F8
          clear H3
          clear H9
          clear J4
          clear I7
          clear K5
          clear Q6
          clear C4
          clear C8
          clear D1
          clear HB
          have F8:=n0_
          have H3:=n1_
          have H9:=n2_
          have J4:=n3_
          have I7:=n4_
          have K5:=n5_
          have Q6:=n6_
          have U0:=n7_
          have C4:=n8_
          have C8:=n9_
          have D1:=K9
          have HB:=V1
          clear n0_ n1_ n2_ n3_ n4_ n5_ n6_ n7_ n8_ n9_ K9 V1
          (try clear hb)
          (try clear ho0)
          obtain ⟨C82,C83,Cw4⟩:=Kd.R_slice Q6.out
          (first | subst Cw4 | (injection Cw4 with f1_ f2_ f3_;have f4_:=f1_.symm;have f5_:=f3_.symm;clear f1_ f2_ f3_;subst f4_;subst f5_))
          obtain ⟨C84,C85,Cw5⟩:=Kd.R_slice U0.out
          (first | subst Cw5 | (injection Cw5 with f1_ f2_ f3_;have f4_:=f1_.symm;have f5_:=f3_.symm;clear f1_ f2_ f3_;subst f4_;subst f5_))
          refine hK.out _ _ (cj2_ C4.out (cj2_ C8.out (cc2_ D1.out))) (fun hHeld=>?_)
          clear hK K
          refine nm_ 70 ?_
          refine o1_ 6 71 #[I,I,I,I,I,I,I,O,O,O,O,O,O,O,O,O,O,O,O,O,O,O,O,O,O,O,O,O,O,O,O,O,O,O,O,O,O,O,O,O,O,O,O,O,O,O,O,O,O,O,O,O] HT_.out (fun K hK=>?_)
          refine gs_ Tryz.func12 #[.agg #[.int .i64 Bm7,.slice C82 Bm8.length C83,.int .i64 Bm9],.agg #[.int .i64 B26,.slice C84 B27.length C85,.int .i64 B29]] ?_
          with_reducible refine (Y48.calls kj2 Bm7 _ _ Bm8 Bm9 B26 _ _ B27 B29 true _ ?s1 ?s2 ?s3 ?s4 A15.out).mono ?_
          (case s1=>repeat (first | exact (Kd.R_reads' Q6.out).2.2 | (with_reducible refine Kd.C_alloc ?_ _) | (with_reducible refine Kd.C_drewN ?_ _) | (with_reducible refine Kd.C_drew ?_)))
          (case s2=>exact (Kd.R_reads' Q6.out).2.1)
          (case s3=>repeat (first | exact (Kd.R_reads' U0.out).2.2 | (with_reducible refine Kd.C_alloc ?_ _) | (with_reducible refine Kd.C_drewN ?_ _) | (with_reducible refine Kd.C_drew ?_)))
          (case s4=>exact (Kd.R_reads' U0.out).2.1)
          rintro e w58 ⟨rfl,hb⟩
          refine ⟨_,rfl,?_⟩
          have n0_:=aM (Kd.R_below (z0_ F8.out) hb)
          have n1_:=aM (Kd.R_below (z0_ H3.out) hb)
          have n2_:=aM (Kd.R_below (z0_ H9.out) hb)
          have n3_:=aM (Kd.R_below (z0_ J4.out) hb)
          have n4_:=aM (Kd.R_below (z0_ I7.out) hb)
          have n5_:=aM (Kd.R_below (z0_ K5.out) hb)
          have n6_:=aM (Kd.R_below (z0_ Q6.out) hb)
          have n7_:=aM (Kd.R_below (z0_ U0.out) hb)
          have n8_:=aM (blkB_ C4.out hb)
          have n9_:=aM (blkB_ C8.out hb)
          have K9:=aM (blkB_ D1.out hb)
          have V1:=aM (below_step (z10_ HB.out I6.out K1.out L4.out) hb)
          clear F8
          clear H3
          clear H9
          clear J4
          clear I7
          clear K5
          clear Q6
          clear U0
          clear C4
          clear C8
          clear D1
          clear HB
          have F8:=n0_
          have H3:=n1_
          have H9:=n2_
          have J4:=n3_
          have I7:=n4_
          have K5:=n5_
          have Q6:=n6_
          have U0:=n7_
          have C4:=n8_
          have C8:=n9_
          have D1:=K9
          have HB:=V1
          clear n0_ n1_ n2_ n3_ n4_ n5_ n6_ n7_ n8_ n9_ K9 V1
          (try clear hb)
          refine hK.out _ _ (cj2_ C4.out (cj2_ C8.out (cc2_ D1.out))) (fun hHeld=>?_)
          clear hK K
          refine nm_ 71 ?_
          refine pu_ 7 72 #[I,I,I,I,I,I,I,I,O,O,O,O,O,O,O,O,O,O,O,O,O,O,O,O,O,O,O,O,O,O,O,O,O,O,O,O,O,O,O,O,O,O,O,O,O,O,O,O,O,O,O,O] HT_.out ?_
          refine pu_ 8 73 #[I,I,I,I,I,I,I,I,I,O,O,O,O,O,O,O,O,O,O,O,O,O,O,O,O,O,O,O,O,O,O,O,O,O,O,O,O,O,O,O,O,O,O,O,O,O,O,O,O,O,O,O] HT_.out ?_
          refine pu_ 9 74 #[I,I,I,I,I,I,I,I,I,I,O,O,O,O,O,O,O,O,O,O,O,O,O,O,O,O,O,O,O,O,O,O,O,O,O,O,O,O,O,O,O,O,O,O,O,O,O,O,O,O,O,O] HT_.out ?_
          refine pu_ 11 76 #[I,I,I,I,I,I,I,I,I,I,O,I,O,O,O,O,O,O,O,O,O,O,O,O,O,O,O,O,O,O,O,O,O,O,O,O,O,O,O,O,O,O,O,O,O,O,O,O,O,O,O,O] HT_.out ?_
          refine tk6_ 10 75 #[I,I,I,I,I,I,I,I,I,I,I,I,O,O,O,O,O,O,O,O,O,O,O,O,O,O,O,O,O,O,O,O,O,O,O,O,O,O,O,O,O,O,O,O,O,O,O,O,O,O,O,O] HT_.out HW_.out hHeld ?_
          refine o1_ 12 77 #[I,I,I,I,I,I,I,I,I,I,I,I,I,O,O,O,O,O,O,O,O,O,O,O,O,O,O,O,O,O,O,O,O,O,O,O,O,O,O,O,O,O,O,O,O,O,O,O,O,O,O,O] HT_.out (fun K hK=>?_)
          refine gs_ Tryz.func16 #[.agg #[.int .i64 E9,.slice S6 E3.length S1],.string M7] ?_
          with_reducible refine (Y46.calls kj2 E9 _ _ E3 M7 e9 _ ?s1 ?s2 A17.out).mono ?_
          (case s1=>repeat (first | exact (Kd.R_reads' F8.out).2.2 | (with_reducible refine Kd.C_alloc ?_ _) | (with_reducible refine Kd.C_drewN ?_ _) | (with_reducible refine Kd.C_drew ?_)))
          (case s2=>exact (Kd.R_reads' F8.out).2.1)
          rintro e w59 ⟨v712,rfl,ho0,hb⟩
          refine ⟨_,rfl,?_⟩
          have n0_:=aM (Kd.R_below (z0_ F8.out) hb)
          have n1_:=aM (Kd.R_elder' (z0_ H3.out) (Kd.R_base ho0) hb)
          have n2_:=aM (Kd.R_below (z0_ H9.out) hb)
          have n3_:=aM (Kd.R_below (z0_ J4.out) hb)
          have n4_:=aM (Kd.R_elder' (z0_ I7.out) (Kd.R_base ho0) hb)
          have n5_:=aM (Kd.R_elder' (z0_ K5.out) (Kd.R_base ho0) hb)
          have n6_:=aM (Kd.R_below (z0_ Q6.out) hb)
          have n7_:=aM (Kd.R_below (z0_ U0.out) hb)
          have n8_:=aM (Kd.R_lower (Kd.R_new' (Kd.R_new' (Kd.R_new' ho0 (Kd.R_lt (z0_ H3.out))) (Kd.R_lt (z0_ I7.out))) (Kd.R_lt (z0_ K5.out))) (below_size (z10_ HB.out I6.out K1.out L4.out)))
          have n9_:=aM (blkB_ C4.out hb)
          have K9:=aM (blkB_ C8.out hb)
          have V1:=aM (blkB_ D1.out hb)
          have AB7:=aM (below_step (z10_ HB.out I6.out K1.out L4.out) hb)
          clear F8
          clear H3
          clear H9
          clear J4
          clear I7
          clear K5
          clear Q6
          clear U0
          clear C4
          clear C8
          clear D1
          clear HB
          have F8:=n0_
          have H3:=n1_
          have H9:=n2_
          have J4:=n3_
          have I7:=n4_
          have K5:=n5_
          have Q6:=n6_
          have U0:=n7_
          have X0:=n8_
          have C4:=n9_
          have C8:=K9
          have D1:=V1
          have HB:=AB7
          clear n0_ n1_ n2_ n3_ n4_ n5_ n6_ n7_ n8_ n9_ K9 V1 AB7
          (try clear hb)
          (try clear ho0)
          obtain ⟨Al6,Aa2,Cw6⟩:=Kd.R_slice H3.out
          (first | subst Cw6 | (injection Cw6 with f1_ f2_ f3_;have f4_:=f1_.symm;have f5_:=f3_.symm;clear f1_ f2_ f3_;subst f4_;subst f5_))
          obtain ⟨O8,O9,Aw6⟩:=Kd.R_slice X0.out
          (first | subst Aw6 | (injection Aw6 with f1_ f2_ f3_;have f4_:=f1_.symm;have f5_:=f3_.symm;clear f1_ f2_ f3_;subst f4_;subst f5_))
          refine hK.out _ _ (cj2_ C4.out (cj2_ C8.out (cc2_ D1.out))) (fun hHeld=>?_)
          clear hK K
          refine nm_ 77 ?_
          refine o1_ 13 78 #[I,I,I,I,I,I,I,I,I,I,I,I,I,I,O,O,O,O,O,O,O,O,O,O,O,O,O,O,O,O,O,O,O,O,O,O,O,O,O,O,O,O,O,O,O,O,O,O,O,O,O,O] HT_.out (fun K hK=>?_)
          refine gs_ Tryz.func15 #[.slice Al6 G3.length Aa2,.slice O8 e9.length O9] ?_
          with_reducible refine (Y18.calls kj2 _ _ G3 _ _ e9 true _ ?s1 ?s2 ?s3 ?s4 A18.out).mono ?_
          (case s1=>repeat (first | exact (Kd.R_reads' H3.out).2.2 | (with_reducible refine Kd.C_alloc ?_ _) | (with_reducible refine Kd.C_drewN ?_ _) | (with_reducible refine Kd.C_drew ?_)))
          (case s2=>exact (Kd.R_reads' H3.out).2.1)
          (case s3=>repeat (first | exact (Kd.R_reads' X0.out).2.2 | (with_reducible refine Kd.C_alloc ?_ _) | (with_reducible refine Kd.C_drewN ?_ _) | (with_reducible refine Kd.C_drew ?_)))
          (case s4=>exact (Kd.R_reads' X0.out).2.1)
          rintro e w' ⟨rfl,⟨nd,rfl⟩⟩
          refine ⟨_,rfl,?_⟩
          refine hK.out _ _ (cj2_ C4.out (cj2_ C8.out (cc2_ D1.out))) (fun hHeld=>?_)
          clear hK K
          refine nm_ 78 ?_
          refine pu_ 14 79 #[I,I,I,I,I,I,I,I,I,I,I,I,I,I,I,O,O,O,O,O,O,O,O,O,O,O,O,O,O,O,O,O,O,O,O,O,O,O,O,O,O,O,O,O,O,O,O,O,O,O,O,O] HT_.out ?_
          refine pu_ 15 80 #[I,I,I,I,I,I,I,I,I,I,I,I,I,I,I,I,O,O,O,O,O,O,O,O,O,O,O,O,O,O,O,O,O,O,O,O,O,O,O,O,O,O,O,O,O,O,O,O,O,O,O,O] HT_.out ?_
          refine pu_ 16 81 #[I,I,I,I,I,I,I,I,I,I,I,I,I,I,I,I,I,O,O,O,O,O,O,O,O,O,O,O,O,O,O,O,O,O,O,O,O,O,O,O,O,O,O,O,O,O,O,O,O,O,O,O] HT_.out ?_
          refine pu_ 18 83 #[I,I,I,I,I,I,I,I,I,I,I,I,I,I,I,I,I,O,I,O,O,O,O,O,O,O,O,O,O,O,O,O,O,O,O,O,O,O,O,O,O,O,O,O,O,O,O,O,O,O,O,O] HT_.out ?_
          refine pu_ 19 84 #[I,I,I,I,I,I,I,I,I,I,I,I,I,I,I,I,I,O,I,I,O,O,O,O,O,O,O,O,O,O,O,O,O,O,O,O,O,O,O,O,O,O,O,O,O,O,O,O,O,O,O,O] HT_.out ?_
          refine pu_ 22 87 #[I,I,I,I,I,I,I,I,I,I,I,I,I,I,I,I,I,O,I,I,O,O,I,O,O,O,O,O,O,O,O,O,O,O,O,O,O,O,O,O,O,O,O,O,O,O,O,O,O,O,O,O] HT_.out ?_
          refine pu_ 23 88 #[I,I,I,I,I,I,I,I,I,I,I,I,I,I,I,I,I,O,I,I,O,O,I,I,O,O,O,O,O,O,O,O,O,O,O,O,O,O,O,O,O,O,O,O,O,O,O,O,O,O,O,O] HT_.out ?_
          refine tk6_ 17 82 #[I,I,I,I,I,I,I,I,I,I,I,I,I,I,I,I,I,I,I,I,O,O,I,I,O,O,O,O,O,O,O,O,O,O,O,O,O,O,O,O,O,O,O,O,O,O,O,O,O,O,O,O] HT_.out HW_.out hHeld ?_
          refine tk6_ 21 86 #[I,I,I,I,I,I,I,I,I,I,I,I,I,I,I,I,I,I,I,I,O,I,I,I,O,O,O,O,O,O,O,O,O,O,O,O,O,O,O,O,O,O,O,O,O,O,O,O,O,O,O,O] HT_.out HW_.out hHeld ?_
          refine o1_ 20 85 #[I,I,I,I,I,I,I,I,I,I,I,I,I,I,I,I,I,I,I,I,I,I,I,I,O,O,O,O,O,O,O,O,O,O,O,O,O,O,O,O,O,O,O,O,O,O,O,O,O,O,O,O] HT_.out (fun K hK=>?_)
          refine gs_ Tryz.func17 #[.agg #[.int .i64 W5,.slice f5 L2.length f6],.string l7,.int .i64 l8] ?_
          with_reducible refine (Y33.calls kj2 W5 _ _ L2 l7 l8 W4 _ ?s1 ?s2 A20.out).mono ?_
          (case s1=>repeat (first | exact (Kd.R_reads' H9.out).2.2 | (with_reducible refine Kd.C_alloc ?_ _) | (with_reducible refine Kd.C_drewN ?_ _) | (with_reducible refine Kd.C_drew ?_)))
          (case s2=>exact (Kd.R_reads' H9.out).2.1)
          rintro e w62 ⟨v716,rfl,ho0,hb⟩
          refine ⟨_,rfl,?_⟩
          have n0_:=aM (Kd.R_below (z0_ F8.out) hb)
          have n1_:=aM (Kd.R_elder' (z0_ H3.out) (Kd.R_base ho0) hb)
          have n2_:=aM (Kd.R_below (z0_ H9.out) hb)
          have n3_:=aM (Kd.R_below (z0_ J4.out) hb)
          have n4_:=aM (Kd.R_elder' (z0_ I7.out) (Kd.R_base ho0) hb)
          have n5_:=aM (Kd.R_elder' (z0_ K5.out) (Kd.R_base ho0) hb)
          have n6_:=aM (Kd.R_below (z0_ Q6.out) hb)
          have n7_:=aM (Kd.R_below (z0_ U0.out) hb)
          have n8_:=aM (Kd.R_elder' (z0_ X0.out) (Kd.R_base ho0) hb)
          have n9_:=aM (Kd.R_lower (Kd.R_new' (Kd.R_new' (Kd.R_new' (Kd.R_new' ho0 (Kd.R_lt (z0_ H3.out))) (Kd.R_lt (z0_ I7.out))) (Kd.R_lt (z0_ K5.out))) (Kd.R_lt (z0_ X0.out))) (below_size (z10_ HB.out I6.out K1.out L4.out)))
          have K9:=aM (blkB_ C4.out hb)
          have V1:=aM (blkB_ C8.out hb)
          have AB7:=aM (blkB_ D1.out hb)
          have AG6:=aM (below_step (z10_ HB.out I6.out K1.out L4.out) hb)
          clear F8
          clear H3
          clear H9
          clear J4
          clear I7
          clear K5
          clear Q6
          clear U0
          clear X0
          clear C4
          clear C8
          clear D1
          clear HB
          have F8:=n0_
          have H3:=n1_
          have H9:=n2_
          have J4:=n3_
          have I7:=n4_
          have K5:=n5_
          have Q6:=n6_
          have U0:=n7_
          have X0:=n8_
          have e8:=n9_
          have C4:=K9
          have C8:=V1
          have D1:=AB7
          have HB:=AG6
          clear n0_ n1_ n2_ n3_ n4_ n5_ n6_ n7_ n8_ n9_ K9 V1 AB7 AG6
          (try clear hb)
          (try clear ho0)
          refine hK.out _ _ (cj2_ C4.out (cj2_ C8.out (cc2_ D1.out))) (fun hHeld=>?_)
          clear hK K
          refine nm_ 85 ?_
          refine o1_ 24 89 #[I,I,I,I,I,I,I,I,I,I,I,I,I,I,I,I,I,I,I,I,I,I,I,I,I,O,O,O,O,O,O,O,O,O,O,O,O,O,O,O,O,O,O,O,O,O,O,O,O,O,O,O] HT_.out (fun K hK=>?_)
          refine gs_ Tryz.func18 #[.agg #[.int .i64 W5,.slice f5 L2.length f6],.string l7,.int .i64 l8] ?_
          with_reducible refine (Y32.calls kj2 W5 _ _ L2 l7 l8 V9 _ ?s1 ?s2 A21.out).mono ?_
          (case s1=>repeat (first | exact (Kd.R_reads' H9.out).2.2 | (with_reducible refine Kd.C_alloc ?_ _) | (with_reducible refine Kd.C_drewN ?_ _) | (with_reducible refine Kd.C_drew ?_)))
          (case s2=>exact (Kd.R_reads' H9.out).2.1)
          rintro e w63 ⟨v719,rfl,ho0,hb⟩
          refine ⟨_,rfl,?_⟩
          have n0_:=aM (Kd.R_below (z0_ F8.out) hb)
          have n1_:=aM (Kd.R_elder' (z0_ H3.out) (Kd.R_base ho0) hb)
          have n2_:=aM (Kd.R_below (z0_ H9.out) hb)
          have n3_:=aM (Kd.R_below (z0_ J4.out) hb)
          have n4_:=aM (Kd.R_elder' (z0_ I7.out) (Kd.R_base ho0) hb)
          have n5_:=aM (Kd.R_elder' (z0_ K5.out) (Kd.R_base ho0) hb)
          have n6_:=aM (Kd.R_below (z0_ Q6.out) hb)
          have n7_:=aM (Kd.R_below (z0_ U0.out) hb)
          have n8_:=aM (Kd.R_elder' (z0_ X0.out) (Kd.R_base ho0) hb)
          have n9_:=aM (Kd.R_elder' (z0_ e8.out) (Kd.R_base ho0) hb)
          have K9:=aM (Kd.R_lower (Kd.R_new' (Kd.R_new' (Kd.R_new' (Kd.R_new' (Kd.R_new' ho0 (Kd.R_lt (z0_ H3.out))) (Kd.R_lt (z0_ I7.out))) (Kd.R_lt (z0_ K5.out))) (Kd.R_lt (z0_ X0.out))) (Kd.R_lt (z0_ e8.out))) (below_size (z10_ HB.out I6.out K1.out L4.out)))
          have V1:=aM (blkB_ C4.out hb)
          have AB7:=aM (blkB_ C8.out hb)
          have AG6:=aM (blkB_ D1.out hb)
          have AN2:=aM (below_step (z10_ HB.out I6.out K1.out L4.out) hb)
          clear F8
          clear H3
          clear H9
          clear J4
          clear I7
          clear K5
          clear Q6
          clear U0
          clear X0
          clear e8
          clear C4
          clear C8
          clear D1
          clear HB
          have F8:=n0_
          have H3:=n1_
          have H9:=n2_
          have J4:=n3_
          have I7:=n4_
          have K5:=n5_
          have Q6:=n6_
          have U0:=n7_
          have X0:=n8_
          have e8:=n9_
          have z7:=K9
          have C4:=V1
          have C8:=AB7
          have D1:=AG6
          have HB:=AN2
          clear n0_ n1_ n2_ n3_ n4_ n5_ n6_ n7_ n8_ n9_ K9 V1 AB7 AG6 AN2
          (try clear hb)
          (try clear ho0)
          obtain ⟨C86,C87,Cw7⟩:=Kd.R_slice e8.out
          (first | subst Cw7 | (injection Cw7 with f1_ f2_ f3_;have f4_:=f1_.symm;have f5_:=f3_.symm;clear f1_ f2_ f3_;subst f4_;subst f5_))
          obtain ⟨C88,C89,Cw8⟩:=Kd.R_slice z7.out
          (first | subst Cw8 | (injection Cw8 with f1_ f2_ f3_;have f4_:=f1_.symm;have f5_:=f3_.symm;clear f1_ f2_ f3_;subst f4_;subst f5_))
          refine hK.out _ _ (cj2_ C4.out (cj2_ C8.out (cc2_ D1.out))) (fun hHeld=>?_)
          clear hK K
          refine nm_ 89 ?_
          refine o1_ 25 90 #[I,I,I,I,I,I,I,I,I,I,I,I,I,I,I,I,I,I,I,I,I,I,I,I,I,I,O,O,O,O,O,O,O,O,O,O,O,O,O,O,O,O,O,O,O,O,O,O,O,O,O,O] HT_.out (fun K hK=>?_)
          refine gs_ Tryz.func15 #[.slice C86 W4.length C87,.slice C88 V9.length C89] ?_
          with_reducible refine (Y18.calls kj2 _ _ W4 _ _ V9 true _ ?s1 ?s2 ?s3 ?s4 A22.out).mono ?_
          (case s1=>repeat (first | exact (Kd.R_reads' e8.out).2.2 | (with_reducible refine Kd.C_alloc ?_ _) | (with_reducible refine Kd.C_drewN ?_ _) | (with_reducible refine Kd.C_drew ?_)))
          (case s2=>exact (Kd.R_reads' e8.out).2.1)
          (case s3=>repeat (first | exact (Kd.R_reads' z7.out).2.2 | (with_reducible refine Kd.C_alloc ?_ _) | (with_reducible refine Kd.C_drewN ?_ _) | (with_reducible refine Kd.C_drew ?_)))
          (case s4=>exact (Kd.R_reads' z7.out).2.1)
          rintro e w' ⟨rfl,⟨nd,rfl⟩⟩
          refine ⟨_,rfl,?_⟩
          refine hK.out _ _ (cj2_ C4.out (cj2_ C8.out (cc2_ D1.out))) (fun hHeld=>?_)
          clear hK K
          refine nm_ 90 ?_
          refine pu_ 26 91 #[I,I,I,I,I,I,I,I,I,I,I,I,I,I,I,I,I,I,I,I,I,I,I,I,I,I,I,O,O,O,O,O,O,O,O,O,O,O,O,O,O,O,O,O,O,O,O,O,O,O,O,O] HT_.out ?_
          refine pu_ 27 92 #[I,I,I,I,I,I,I,I,I,I,I,I,I,I,I,I,I,I,I,I,I,I,I,I,I,I,I,I,O,O,O,O,O,O,O,O,O,O,O,O,O,O,O,O,O,O,O,O,O,O,O,O] HT_.out ?_
          refine pu_ 28 93 #[I,I,I,I,I,I,I,I,I,I,I,I,I,I,I,I,I,I,I,I,I,I,I,I,I,I,I,I,I,O,O,O,O,O,O,O,O,O,O,O,O,O,O,O,O,O,O,O,O,O,O,O] HT_.out ?_
          refine pu_ 29 94 #[I,I,I,I,I,I,I,I,I,I,I,I,I,I,I,I,I,I,I,I,I,I,I,I,I,I,I,I,I,I,O,O,O,O,O,O,O,O,O,O,O,O,O,O,O,O,O,O,O,O,O,O] HT_.out ?_
          refine pu_ 31 96 #[I,I,I,I,I,I,I,I,I,I,I,I,I,I,I,I,I,I,I,I,I,I,I,I,I,I,I,I,I,I,O,I,O,O,O,O,O,O,O,O,O,O,O,O,O,O,O,O,O,O,O,O] HT_.out ?_
          refine pu_ 32 97 #[I,I,I,I,I,I,I,I,I,I,I,I,I,I,I,I,I,I,I,I,I,I,I,I,I,I,I,I,I,I,O,I,I,O,O,O,O,O,O,O,O,O,O,O,O,O,O,O,O,O,O,O] HT_.out ?_
          refine pu_ 33 98 #[I,I,I,I,I,I,I,I,I,I,I,I,I,I,I,I,I,I,I,I,I,I,I,I,I,I,I,I,I,I,O,I,I,I,O,O,O,O,O,O,O,O,O,O,O,O,O,O,O,O,O,O] HT_.out ?_
          refine tk6_ 30 95 #[I,I,I,I,I,I,I,I,I,I,I,I,I,I,I,I,I,I,I,I,I,I,I,I,I,I,I,I,I,I,I,I,I,I,O,O,O,O,O,O,O,O,O,O,O,O,O,O,O,O,O,O] HT_.out HW_.out hHeld ?_
          refine o1_ 34 99 #[I,I,I,I,I,I,I,I,I,I,I,I,I,I,I,I,I,I,I,I,I,I,I,I,I,I,I,I,I,I,I,I,I,I,I,O,O,O,O,O,O,O,O,O,O,O,O,O,O,O,O,O] HT_.out (fun K hK=>?_)
          refine gs_ Tryz.func19 #[.agg #[.int .i64 l9,.slice n0 N9.length i9],.string AG4,.int .i64 AG5,.slice AP8 H2.length AN3] ?_
          with_reducible refine (Y24.calls kj2 l9 _ _ N9 AG4 AG5 _ _ H2 R7 _ ?s1 ?s2 ?s3 ?s4 A24.out).mono ?_
          (case s1=>repeat (first | exact (Kd.R_reads' J4.out).2.2 | (with_reducible refine Kd.C_alloc ?_ _) | (with_reducible refine Kd.C_drewN ?_ _) | (with_reducible refine Kd.C_drew ?_)))
          (case s2=>exact (Kd.R_reads' J4.out).2.1)
          (case s3=>repeat (first | exact (Kd.R_reads' I7.out).2.2 | (with_reducible refine Kd.C_alloc ?_ _) | (with_reducible refine Kd.C_drewN ?_ _) | (with_reducible refine Kd.C_drew ?_)))
          (case s4=>exact (Kd.R_reads' I7.out).2.1)
          rintro e w66 ⟨v723,rfl,ho0,hb⟩
          refine ⟨_,rfl,?_⟩
          have n0_:=aM (Kd.R_below (z0_ F8.out) hb)
          have n1_:=aM (Kd.R_elder' (z0_ H3.out) (Kd.R_base ho0) hb)
          have n2_:=aM (Kd.R_below (z0_ H9.out) hb)
          have n3_:=aM (Kd.R_below (z0_ J4.out) hb)
          have n4_:=aM (Kd.R_elder' (z0_ I7.out) (Kd.R_base ho0) hb)
          have n5_:=aM (Kd.R_elder' (z0_ K5.out) (Kd.R_base ho0) hb)
          have n6_:=aM (Kd.R_below (z0_ Q6.out) hb)
          have n7_:=aM (Kd.R_below (z0_ U0.out) hb)
          have n8_:=aM (Kd.R_elder' (z0_ X0.out) (Kd.R_base ho0) hb)
          have n9_:=aM (Kd.R_elder' (z0_ e8.out) (Kd.R_base ho0) hb)
          have K9:=aM (Kd.R_elder' (z0_ z7.out) (Kd.R_base ho0) hb)
          have V1:=aM (Kd.R_lower (Kd.R_new' (Kd.R_new' (Kd.R_new' (Kd.R_new' (Kd.R_new' (Kd.R_new' ho0 (Kd.R_lt (z0_ H3.out))) (Kd.R_lt (z0_ I7.out))) (Kd.R_lt (z0_ K5.out))) (Kd.R_lt (z0_ X0.out))) (Kd.R_lt (z0_ e8.out))) (Kd.R_lt (z0_ z7.out))) (below_size (z10_ HB.out I6.out K1.out L4.out)))
          have AB7:=aM (blkB_ C4.out hb)
          have AG6:=aM (blkB_ C8.out hb)
          have AN2:=aM (blkB_ D1.out hb)
          have Al7:=aM (below_step (z10_ HB.out I6.out K1.out L4.out) hb)
          clear F8
          clear H3
          clear H9
          clear J4
          clear I7
          clear K5
          clear Q6
          clear U0
          clear X0
          clear e8
          clear z7
          clear C4
          clear C8
          clear D1
          clear HB
          have F8:=n0_
          have H3:=n1_
          have H9:=n2_
          have J4:=n3_
          have I7:=n4_
          have K5:=n5_
          have Q6:=n6_
          have U0:=n7_
          have X0:=n8_
          have e8:=n9_
          have z7:=K9
          have AJ6:=V1
          have C4:=AB7
          have C8:=AG6
          have D1:=AN2
          have HB:=Al7
          clear n0_ n1_ n2_ n3_ n4_ n5_ n6_ n7_ n8_ n9_ K9 V1 AB7 AG6 AN2 Al7
          (try clear hb)
          (try clear ho0)
          obtain ⟨AS2,AS3,Cw9⟩:=Kd.R_slice K5.out
          (first | subst Cw9 | (injection Cw9 with f1_ f2_ f3_;have f4_:=f1_.symm;have f5_:=f3_.symm;clear f1_ f2_ f3_;subst f4_;subst f5_))
          obtain ⟨C90,C91,Cx0⟩:=Kd.R_slice AJ6.out
          (first | subst Cx0 | (injection Cx0 with f1_ f2_ f3_;have f4_:=f1_.symm;have f5_:=f3_.symm;clear f1_ f2_ f3_;subst f4_;subst f5_))
          refine hK.out _ _ (cj2_ C4.out (cj2_ C8.out (cc2_ D1.out))) (fun hHeld=>?_)
          clear hK K
          refine nm_ 99 ?_
          refine o1_ 35 100 #[I,I,I,I,I,I,I,I,I,I,I,I,I,I,I,I,I,I,I,I,I,I,I,I,I,I,I,I,I,I,I,I,I,I,I,I,O,O,O,O,O,O,O,O,O,O,O,O,O,O,O,O] HT_.out (fun K hK=>?_)
          refine gs_ Tryz.func15 #[.slice AS2 F0.length AS3,.slice C90 R7.length C91] ?_
          with_reducible refine (Y18.calls kj2 _ _ F0 _ _ R7 true _ ?s1 ?s2 ?s3 ?s4 A25.out).mono ?_
          (case s1=>repeat (first | exact (Kd.R_reads' K5.out).2.2 | (with_reducible refine Kd.C_alloc ?_ _) | (with_reducible refine Kd.C_drewN ?_ _) | (with_reducible refine Kd.C_drew ?_)))
          (case s2=>exact (Kd.R_reads' K5.out).2.1)
          (case s3=>repeat (first | exact (Kd.R_reads' AJ6.out).2.2 | (with_reducible refine Kd.C_alloc ?_ _) | (with_reducible refine Kd.C_drewN ?_ _) | (with_reducible refine Kd.C_drew ?_)))
          (case s4=>exact (Kd.R_reads' AJ6.out).2.1)
          rintro e w' ⟨rfl,⟨nd,rfl⟩⟩
          refine ⟨_,rfl,?_⟩
          refine hK.out _ _ (cj2_ C4.out (cj2_ C8.out (cc2_ D1.out))) (fun hHeld=>?_)
          clear hK K
          refine nm_ 100 ?_
          refine pu_ 36 101 #[I,I,I,I,I,I,I,I,I,I,I,I,I,I,I,I,I,I,I,I,I,I,I,I,I,I,I,I,I,I,I,I,I,I,I,I,I,O,O,O,O,O,O,O,O,O,O,O,O,O,O,O] HT_.out ?_
          refine pu_ 37 102 #[I,I,I,I,I,I,I,I,I,I,I,I,I,I,I,I,I,I,I,I,I,I,I,I,I,I,I,I,I,I,I,I,I,I,I,I,I,I,O,O,O,O,O,O,O,O,O,O,O,O,O,O] HT_.out ?_
          refine pu_ 38 103 #[I,I,I,I,I,I,I,I,I,I,I,I,I,I,I,I,I,I,I,I,I,I,I,I,I,I,I,I,I,I,I,I,I,I,I,I,I,I,I,O,O,O,O,O,O,O,O,O,O,O,O,O] HT_.out ?_
          refine pu_ 39 104 #[I,I,I,I,I,I,I,I,I,I,I,I,I,I,I,I,I,I,I,I,I,I,I,I,I,I,I,I,I,I,I,I,I,I,I,I,I,I,I,I,O,O,O,O,O,O,O,O,O,O,O,O] HT_.out ?_
          refine pu_ 41 106 #[I,I,I,I,I,I,I,I,I,I,I,I,I,I,I,I,I,I,I,I,I,I,I,I,I,I,I,I,I,I,I,I,I,I,I,I,I,I,I,I,O,I,O,O,O,O,O,O,O,O,O,O] HT_.out ?_
          refine o1_ 40 105 #[I,I,I,I,I,I,I,I,I,I,I,I,I,I,I,I,I,I,I,I,I,I,I,I,I,I,I,I,I,I,I,I,I,I,I,I,I,I,I,I,I,I,O,O,O,O,O,O,O,O,O,O] HT_.out (fun K hK=>?_)
          refine gs_ Tryz.func20 #[.string L5] ?_
          with_reducible refine (Y67.calls kj2 L5 O1 _ A27.out).mono ?_
          rintro e w69 ⟨rfl,hb⟩
          refine ⟨_,rfl,?_⟩
          have n0_:=aM (Kd.R_below (z0_ F8.out) hb)
          have n1_:=aM (Kd.R_below (z0_ H3.out) hb)
          have n2_:=aM (Kd.R_below (z0_ H9.out) hb)
          have n3_:=aM (Kd.R_below (z0_ J4.out) hb)
          have n4_:=aM (Kd.R_below (z0_ I7.out) hb)
          have n5_:=aM (Kd.R_below (z0_ K5.out) hb)
          have n6_:=aM (Kd.R_below (z0_ Q6.out) hb)
          have n7_:=aM (Kd.R_below (z0_ U0.out) hb)
          have n8_:=aM (Kd.R_below (z0_ X0.out) hb)
          have n9_:=aM (Kd.R_below (z0_ e8.out) hb)
          have K9:=aM (Kd.R_below (z0_ z7.out) hb)
          have V1:=aM (Kd.R_below (z0_ AJ6.out) hb)
          have AB7:=aM (blkB_ C4.out hb)
          have AG6:=aM (blkB_ C8.out hb)
          have AN2:=aM (blkB_ D1.out hb)
          have Al7:=aM (below_step (z10_ HB.out I6.out K1.out L4.out) hb)
          clear F8
          clear H3
          clear H9
          clear J4
          clear I7
          clear K5
          clear Q6
          clear U0
          clear X0
          clear e8
          clear z7
          clear AJ6
          clear C4
          clear C8
          clear D1
          clear HB
          have F8:=n0_
          have H3:=n1_
          have H9:=n2_
          have J4:=n3_
          have I7:=n4_
          have K5:=n5_
          have Q6:=n6_
          have U0:=n7_
          have X0:=n8_
          have e8:=n9_
          have z7:=K9
          have AJ6:=V1
          have C4:=AB7
          have C8:=AG6
          have D1:=AN2
          have HB:=Al7
          clear n0_ n1_ n2_ n3_ n4_ n5_ n6_ n7_ n8_ n9_ K9 V1 AB7 AG6 AN2 Al7
          (try clear hb)
          refine hK.out _ _ (cj2_ C4.out (cj2_ C8.out (cc2_ D1.out))) (fun hHeld=>?_)
          clear hK K
          refine nm_ 105 ?_
          refine o1_ 42 107 #[I,I,I,I,I,I,I,I,I,I,I,I,I,I,I,I,I,I,I,I,I,I,I,I,I,I,I,I,I,I,I,I,I,I,I,I,I,I,I,I,I,I,I,O,O,O,O,O,O,O,O,O] HT_.out (fun K hK=>?_)
          refine gs_ Tryz.func21 #[.string L5] ?_
          with_reducible refine (Y64.calls kj2 L5 N8 _ A28.out).mono ?_
          rintro e w' ⟨rfl,⟨nd,rfl⟩⟩
          refine ⟨_,rfl,?_⟩
          refine hK.out _ _ (cj2_ C4.out (cj2_ C8.out (cc2_ D1.out))) (fun hHeld=>?_)
          clear hK K
          refine nm_ 107 ?_
          refine pu_ 43 108 #[I,I,I,I,I,I,I,I,I,I,I,I,I,I,I,I,I,I,I,I,I,I,I,I,I,I,I,I,I,I,I,I,I,I,I,I,I,I,I,I,I,I,I,I,O,O,O,O,O,O,O,O] HT_.out ?_
          refine pu_ 44 109 #[I,I,I,I,I,I,I,I,I,I,I,I,I,I,I,I,I,I,I,I,I,I,I,I,I,I,I,I,I,I,I,I,I,I,I,I,I,I,I,I,I,I,I,I,I,O,O,O,O,O,O,O] HT_.out ?_
          refine pu_ 45 110 #[I,I,I,I,I,I,I,I,I,I,I,I,I,I,I,I,I,I,I,I,I,I,I,I,I,I,I,I,I,I,I,I,I,I,I,I,I,I,I,I,I,I,I,I,I,I,O,O,O,O,O,O] HT_.out ?_
          refine tk6_ 46 111 #[I,I,I,I,I,I,I,I,I,I,I,I,I,I,I,I,I,I,I,I,I,I,I,I,I,I,I,I,I,I,I,I,I,I,I,I,I,I,I,I,I,I,I,I,I,I,I,O,O,O,O,O] HT_.out HW_.out hHeld ?_
          refine tk6_ 48 113 #[I,I,I,I,I,I,I,I,I,I,I,I,I,I,I,I,I,I,I,I,I,I,I,I,I,I,I,I,I,I,I,I,I,I,I,I,I,I,I,I,I,I,I,I,I,I,I,O,I,O,O,O] HT_.out HW_.out hHeld ?_
          refine o1_ 47 112 #[I,I,I,I,I,I,I,I,I,I,I,I,I,I,I,I,I,I,I,I,I,I,I,I,I,I,I,I,I,I,I,I,I,I,I,I,I,I,I,I,I,I,I,I,I,I,I,I,I,O,O,O] HT_.out (fun K hK=>?_)
          refine gs_ Tryz.func22 #[.agg #[.int .i64 E9,.slice S6 E3.length S1]] ?_
          with_reducible refine (Y12.calls kj2 E9 _ _ E3 M5 _ ?s1 ?s2 A30.out).mono ?_
          (case s1=>repeat (first | exact (Kd.R_reads' F8.out).2.2 | (with_reducible refine Kd.C_alloc ?_ _) | (with_reducible refine Kd.C_drewN ?_ _) | (with_reducible refine Kd.C_drew ?_)))
          (case s2=>exact (Kd.R_reads' F8.out).2.1)
          rintro e w70 ⟨rfl,hb⟩
          refine ⟨_,rfl,?_⟩
          have n0_:=aM (Kd.R_below (z0_ F8.out) hb)
          have n1_:=aM (Kd.R_below (z0_ H3.out) hb)
          have n2_:=aM (Kd.R_below (z0_ H9.out) hb)
          have n3_:=aM (Kd.R_below (z0_ J4.out) hb)
          have n4_:=aM (Kd.R_below (z0_ I7.out) hb)
          have n5_:=aM (Kd.R_below (z0_ K5.out) hb)
          have n6_:=aM (Kd.R_below (z0_ Q6.out) hb)
          have n7_:=aM (Kd.R_below (z0_ U0.out) hb)
          have n8_:=aM (Kd.R_below (z0_ X0.out) hb)
          have n9_:=aM (Kd.R_below (z0_ e8.out) hb)
          have K9:=aM (Kd.R_below (z0_ z7.out) hb)
          have V1:=aM (Kd.R_below (z0_ AJ6.out) hb)
          have AB7:=aM (blkB_ C4.out hb)
          have AG6:=aM (blkB_ C8.out hb)
          have AN2:=aM (blkB_ D1.out hb)
          have Al7:=aM (below_step (z10_ HB.out I6.out K1.out L4.out) hb)
          clear F8
          clear H3
          clear H9
          clear J4
          clear I7
          clear K5
          clear Q6
          clear U0
          clear X0
          clear e8
          clear z7
          clear AJ6
          clear C4
          clear C8
          clear D1
          clear HB
          have F8:=n0_
          have H3:=n1_
          have H9:=n2_
          have J4:=n3_
          have I7:=n4_
          have K5:=n5_
          have Q6:=n6_
          have U0:=n7_
          have X0:=n8_
          have e8:=n9_
          have z7:=K9
          have AJ6:=V1
          have C4:=AB7
          have C8:=AG6
          have D1:=AN2
          have HB:=Al7
          clear n0_ n1_ n2_ n3_ n4_ n5_ n6_ n7_ n8_ n9_ K9 V1 AB7 AG6 AN2 Al7
          (try clear hb)
          refine hK.out _ _ (cj2_ C4.out (cj2_ C8.out (cc2_ D1.out))) (fun hHeld=>?_)
          clear hK K
          refine nm_ 112 ?_
          refine o1_ 49 114 #[I,I,I,I,I,I,I,I,I,I,I,I,I,I,I,I,I,I,I,I,I,I,I,I,I,I,I,I,I,I,I,I,I,I,I,I,I,I,I,I,I,I,I,I,I,I,I,I,I,I,O,O] HT_.out (fun K hK=>?_)
          refine gs_ Tryz.func23 #[.agg #[.int .i64 E9,.slice S6 E3.length S1]] ?_
          with_reducible refine (Y6.calls kj2 E9 _ _ E3 M3 _ ?s1 ?s2 A31.out).mono ?_
          (case s1=>repeat (first | exact (Kd.R_reads' F8.out).2.2 | (with_reducible refine Kd.C_alloc ?_ _) | (with_reducible refine Kd.C_drewN ?_ _) | (with_reducible refine Kd.C_drew ?_)))
          (case s2=>exact (Kd.R_reads' F8.out).2.1)
          rintro e w71 ⟨rfl,hb⟩
          refine ⟨_,rfl,?_⟩
          have n0_:=aM (Kd.R_below (z0_ F8.out) hb)
          have n1_:=aM (Kd.R_below (z0_ H3.out) hb)
          have n2_:=aM (Kd.R_below (z0_ H9.out) hb)
          have n3_:=aM (Kd.R_below (z0_ J4.out) hb)
          have n4_:=aM (Kd.R_below (z0_ I7.out) hb)
          have n5_:=aM (Kd.R_below (z0_ K5.out) hb)
          have n6_:=aM (Kd.R_below (z0_ Q6.out) hb)
          have n7_:=aM (Kd.R_below (z0_ U0.out) hb)
          have n8_:=aM (Kd.R_below (z0_ X0.out) hb)
          have n9_:=aM (Kd.R_below (z0_ e8.out) hb)
          have K9:=aM (Kd.R_below (z0_ z7.out) hb)
          have V1:=aM (Kd.R_below (z0_ AJ6.out) hb)
          have AB7:=aM (blkB_ C4.out hb)
          have AG6:=aM (blkB_ C8.out hb)
          have AN2:=aM (blkB_ D1.out hb)
          have Al7:=aM (below_step (z10_ HB.out I6.out K1.out L4.out) hb)
          clear F8
          clear H3
          clear H9
          clear J4
          clear I7
          clear K5
          clear Q6
          clear U0
          clear X0
          clear e8
          clear z7
          clear AJ6
          clear C4
          clear C8
          clear D1
          clear HB
          have F8:=n0_
          have H3:=n1_
          have H9:=n2_
          have J4:=n3_
          have I7:=n4_
          have K5:=n5_
          have Q6:=n6_
          have U0:=n7_
          have X0:=n8_
          have e8:=n9_
          have z7:=K9
          have AJ6:=V1
          have C4:=AB7
          have C8:=AG6
          have D1:=AN2
          have HB:=Al7
          clear n0_ n1_ n2_ n3_ n4_ n5_ n6_ n7_ n8_ n9_ K9 V1 AB7 AG6 AN2 Al7
          (try clear hb)
          refine hK.out _ _ (cj2_ C4.out (cj2_ C8.out (cc2_ D1.out))) (fun hHeld=>?_)
          clear hK K
          refine nm_ 114 ?_
          refine pu_ 50 115 #[I,I,I,I,I,I,I,I,I,I,I,I,I,I,I,I,I,I,I,I,I,I,I,I,I,I,I,I,I,I,I,I,I,I,I,I,I,I,I,I,I,I,I,I,I,I,I,I,I,I,I,O] HT_.out ?_
          refine pu_ 51 116 #[I,I,I,I,I,I,I,I,I,I,I,I,I,I,I,I,I,I,I,I,I,I,I,I,I,I,I,I,I,I,I,I,I,I,I,I,I,I,I,I,I,I,I,I,I,I,I,I,I,I,I,I] HT_.out ?_
          refine done_ (done_of HT_.out (by kernel_rfl)) ?_
          try go_wp2
          go_loopg [19] kj2 (fun kq v19 w'=>∃ (X3:Int),v19 = .int .i64 X3∧Aside0 (Y3.l0 kq M7 G3 H2 F0 X3 E9 E3=some r)∧Aside0 (kq≤kj2)∧Aside0 (Kd.R (Kd.int .i64) 2 w' w.heap.size (fun k_=>some k_≠((.slice AP8 H2.length AN3):Value).ownBlock∧some k_≠((.slice AS2 F0.length AS3):Value).ownBlock) (.slice Al6 G3.length Aa2) G3)∧Aside0 (Kd.R (Kd.int .i64) 2 w' w.heap.size (fun k_=>some k_≠((.slice Al6 G3.length Aa2):Value).ownBlock∧some k_≠((.slice AS2 F0.length AS3):Value).ownBlock) (.slice AP8 H2.length AN3) H2)∧Aside0 (Kd.R (Kd.int .i64) 2 w' w.heap.size (fun k_=>some k_≠((.slice Al6 G3.length Aa2):Value).ownBlock∧some k_≠((.slice AP8 H2.length AN3):Value).ownBlock) (.slice AS2 F0.length AS3) F0)∧Aside0 (Kd.R k78 78 w' w.heap.size (fun k_=>some k_≠((.slice f5 L2.length f6):Value).ownBlock∧some k_≠((.slice n0 N9.length i9):Value).ownBlock) (.slice S6 E3.length S1) E3)∧Aside0 (Kd.R k78 78 w' w.heap.size (fun k_=>some k_≠((.slice S6 E3.length S1):Value).ownBlock∧some k_≠((.slice n0 N9.length i9):Value).ownBlock) (.slice f5 L2.length f6) L2)∧Aside0 (Kd.R k78 78 w' w.heap.size (fun k_=>some k_≠((.slice S6 E3.length S1):Value).ownBlock∧some k_≠((.slice f5 L2.length f6):Value).ownBlock) (.slice n0 N9.length i9) N9)∧Aside0 (w'.heap[b7]? = some (.cells #[.int .i64 E9,(.slice S6 E3.length S1)] 27 (0,0)))∧Aside0 (w'.heap[AJ5]? = some (.cells #[.int .i64 W5,(.slice f5 L2.length f6)] 27 (0,0)))∧Aside0 (w'.heap[AN1]? = some (.cells #[.int .i64 l9,(.slice n0 N9.length i9)] 27 (0,0)))∧Aside0 (Below w.heap.size w w'))
          case atStart=>exact ⟨(0),(z2_),H',⟨Nat.le_refl _⟩,⟨z60_ H3.out⟩,⟨z60_ I7.out⟩,⟨z60_ K5.out⟩,⟨z61_ F8.out⟩,⟨z61_ H9.out⟩,⟨z61_ J4.out⟩,⟨z3_ C4.out⟩,⟨z3_ C8.out⟩,⟨z3_ D1.out⟩,⟨z10_ HB.out I6.out K1.out L4.out⟩⟩
          case round=>as_aux_lemma =>
           clear H'
           try clear c1
           try clear c2
           try clear p2
           try clear c15
           try clear c18
           try clear c19
           try clear c20
           try clear c21
           try clear c22
           try clear c23
           obtain ⟨X3,rfl,HA,HK2,H6,H0,G8,C3,C5,C6,C4,C8,D1,HB⟩:=hrel
           cases gk with
           | zero=>exact absurd HA.out (by simp [Y3.l0])
           | succ k2 =>
            have H:=HA.out
            clear HA
            simp only [Y3.l0] at H
            by_cases c72:X3<(G3.length:Int)
            ·rw [if_pos c72] at H
             have c72b0:decide (X3<(G3.length:Int))=true:=dE c72
             clear c72
             have H':=aM H
             clear H
             go_wp2
             go_loopg [20] k2 (fun kq v20 w'=>∃ (j7:Int),v20 = .int .i64 j7∧Aside0 (Y3.l1 kq M7 G3 H2 F0 X3 j7 E9 E3=some r)∧Aside0 (kq≤k2)∧Aside0 (Kd.R (Kd.int .i64) 2 w' w.heap.size (fun k_=>some k_≠((.slice AP8 H2.length AN3):Value).ownBlock∧some k_≠((.slice AS2 F0.length AS3):Value).ownBlock) (.slice Al6 G3.length Aa2) G3)∧Aside0 (Kd.R (Kd.int .i64) 2 w' w.heap.size (fun k_=>some k_≠((.slice Al6 G3.length Aa2):Value).ownBlock∧some k_≠((.slice AS2 F0.length AS3):Value).ownBlock) (.slice AP8 H2.length AN3) H2)∧Aside0 (Kd.R (Kd.int .i64) 2 w' w.heap.size (fun k_=>some k_≠((.slice Al6 G3.length Aa2):Value).ownBlock∧some k_≠((.slice AP8 H2.length AN3):Value).ownBlock) (.slice AS2 F0.length AS3) F0)∧Aside0 (Kd.R k78 78 w' w.heap.size (fun k_=>some k_≠((.slice f5 L2.length f6):Value).ownBlock∧some k_≠((.slice n0 N9.length i9):Value).ownBlock) (.slice S6 E3.length S1) E3)∧Aside0 (Kd.R k78 78 w' w.heap.size (fun k_=>some k_≠((.slice S6 E3.length S1):Value).ownBlock∧some k_≠((.slice n0 N9.length i9):Value).ownBlock) (.slice f5 L2.length f6) L2)∧Aside0 (Kd.R k78 78 w' w.heap.size (fun k_=>some k_≠((.slice S6 E3.length S1):Value).ownBlock∧some k_≠((.slice f5 L2.length f6):Value).ownBlock) (.slice n0 N9.length i9) N9)∧Aside0 (w'.heap[b7]? = some (.cells #[.int .i64 E9,(.slice S6 E3.length S1)] 27 (0,0)))∧Aside0 (w'.heap[AJ5]? = some (.cells #[.int .i64 W5,(.slice f5 L2.length f6)] 27 (0,0)))∧Aside0 (w'.heap[AN1]? = some (.cells #[.int .i64 l9,(.slice n0 N9.length i9)] 27 (0,0)))∧Aside0 (Below w.heap.size w w'))
             case atStart=>exact ⟨(0),(z2_),H',⟨Nat.le_refl _⟩,⟨z0_ H6.out⟩,⟨z0_ H0.out⟩,⟨z0_ G8.out⟩,⟨z0_ C3.out⟩,⟨z0_ C5.out⟩,⟨z0_ C6.out⟩,⟨z3_ C4.out⟩,⟨z3_ C8.out⟩,⟨z3_ D1.out⟩,⟨z10_ HB.out I6.out K1.out L4.out⟩⟩
             case round=>as_aux_lemma =>
              clear H'
              try clear c1
              try clear c2
              try clear p2
              try clear c7
              try clear c15
              try clear c18
              try clear c19
              try clear c20
              try clear c21
              try clear c22
              try clear c23
              try clear c72
              try clear c72b0
              try clear p2
              obtain ⟨j7,rfl,HA,HK3,H6,H0,G8,C3,C5,C6,C4,C8,D1,HB⟩:=hrel
              cases gk with
              | zero=>exact absurd HA.out (by simp [Y3.l1])
              | succ k3 =>
               have H:=HA.out
               clear HA
               simp only [Y3.l1] at H
               by_cases c73:j7<X3
               ·rw [if_pos c73] at H
                have c73b0:decide (j7<X3)=true:=dE c73
                clear c73
                by_cases c74:0≤j7
                ·rw [if_pos c74] at H
                 have c74b0:decide (0≤j7)=true:=dE c74
                 clear c74
                 by_cases c75:j7<(G3.length:Int)
                 ·rw [if_pos c75] at H
                  have c75b0:decide (j7<(G3.length:Int))=true:=dE c75
                  clear c75
                  by_cases c76:0≤X3
                  ·rw [if_pos c76] at H
                   have c76b0:decide (0≤X3)=true:=dE c76
                   clear c76
                   by_cases c77:X3<(G3.length:Int)
                   ·rw [if_pos c77] at H
                    have c77b0:decide (X3<(G3.length:Int))=true:=dE c77
                    clear c77
                    by_cases c78:(rd G3 j7)=(rd G3 X3)
                    ·rw [if_pos c78] at H
                     exact nO H
                    ·rw [if_neg c78] at H
                     have c78b0:((rd G3 j7) == (rd G3 X3))=false:=beq_eq_false_iff_ne.mpr c78
                     have c78b1:((rd G3 j7) != (rd G3 X3))=true:=bne_iff_ne.mpr c78
                     have H':=aM H
                     clear H
                     try go_wp2
                     have n0_:=aM (Kd.R_drew H6.out)
                     have n1_:=aM (Kd.R_drew H0.out)
                     have n2_:=aM (Kd.R_drew G8.out)
                     have n3_:=aM (Kd.R_drew C3.out)
                     have n4_:=aM (Kd.R_drew C5.out)
                     have n5_:=aM (Kd.R_drew C6.out)
                     have n6_:=aM (blk_drew C4.out)
                     have n7_:=aM (blk_drew C8.out)
                     have n8_:=aM (blk_drew D1.out)
                     have n9_:=aM (below_drew1 HB.out)
                     clear H6
                     clear H0
                     clear G8
                     clear C3
                     clear C5
                     clear C6
                     clear C4
                     clear C8
                     clear D1
                     clear HB
                     have H6:=n0_
                     have H0:=n1_
                     have G8:=n2_
                     have C3:=n3_
                     have C5:=n4_
                     have C6:=n5_
                     have C4:=n6_
                     have C8:=n7_
                     have D1:=n8_
                     have HB:=n9_
                     clear n0_ n1_ n2_ n3_ n4_ n5_ n6_ n7_ n8_ n9_
                     have CT0:0≤(j7:Int):=dT (z1_)
                     have CT1:j7<(G3.length:Int):=dT (z1_)
                     obtain ⟨Bn0,C92,BQ3⟩:=Kd.at_int (Kd.R_reads' H6.out).2.2 j7 CT0 CT1
                     cases C92
                     replace CT0:=eq_true CT0
                     replace CT1:=eq_true CT1
                     have CT2:0≤(X3:Int):=dT (z1_)
                     have CT3:X3<(G3.length:Int):=dT (z1_)
                     obtain ⟨Cx1,C93,BQ4⟩:=Kd.at_int (Kd.R_reads' H6.out).2.2 X3 CT2 CT3
                     obtain rfl:Bn0=Cx1:=(by injection C93)
                     replace CT2:=eq_true CT2
                     replace CT3:=eq_true CT3
                     refine start_ (n:=9) (S:=fun w'=>w'.cell? (Bn0.add (j7).toNat)=some (.int .i64 (rd G3 j7))∧w'.cell? (Bn0.add (X3).toNat)=some (.int .i64 (rd G3 X3))) (ds:=[]) #[O,O,O,O,O,O,O,O,O] (by kernel_rfl) rfl rfl ⟨BQ3,BQ4⟩ (fun hHeld=>?_);refine with_tabW Y3.tab18 Y3.bits18 (fun HT_ HW_=>?_)
                     generalize wr.drew=w79 at H6 H0 G8 C3 C5 C6 C4 C8 D1 HB BQ3 BQ4 hHeld ⊢
                     refine pu_ 0 128 #[I,O,O,O,O,O,O,O,O] HT_.out ?_
                     refine pu_ 1 129 #[I,I,O,O,O,O,O,O,O] HT_.out ?_
                     refine pu_ 2 130 #[I,I,I,O,O,O,O,O,O] HT_.out ?_
                     refine pu_ 4 132 #[I,I,I,O,I,O,O,O,O] HT_.out ?_
                     refine pu_ 5 133 #[I,I,I,O,I,I,O,O,O] HT_.out ?_
                     refine pu_ 6 134 #[I,I,I,O,I,I,I,O,O] HT_.out ?_
                     refine tk2_ 3 131 #[I,I,I,I,I,I,I,O,O] HT_.out HW_.out hHeld ?_
                     refine tk2_ 7 135 #[I,I,I,I,I,I,I,I,O] HT_.out HW_.out hHeld ?_
                     refine pu_ 8 136 #[I,I,I,I,I,I,I,I,I] HT_.out ?_
                     refine done_ (done_of HT_.out (by kernel_rfl)) ?_
                     try go_wp2
                     go_roundg k3
                     case measure=>have:=HJ2.out;have:=HK2.out;have:=HK3.out;omega
                     case rel=>exact ⟨(wrap64 (j7+1)),(z2_),H',⟨by have:=HJ2.out;have:=HK2.out;have:=HK3.out;omega⟩,⟨z0_ H6.out⟩,⟨z0_ H0.out⟩,⟨z0_ G8.out⟩,⟨z0_ C3.out⟩,⟨z0_ C5.out⟩,⟨z0_ C6.out⟩,⟨z3_ C4.out⟩,⟨z3_ C8.out⟩,⟨z3_ D1.out⟩,⟨z10_ HB.out I6.out K1.out L4.out⟩⟩
                   ·rw [if_neg c77] at H
                    exact nO H
                  ·rw [if_neg c76] at H
                   exact nO H
                 ·rw [if_neg c75] at H
                  exact nO H
                ·rw [if_neg c74] at H
                 exact nO H
               ·rw [if_neg c73] at H
                have c73b0:decide (j7<X3)=false:=dF c73
                clear c73
                have H':=aM H
                clear H
                go_wp2
                go_roundg k3
                case measure=>have:=HJ2.out;have:=HK2.out;have:=HK3.out;omega
                case rel=>exact ⟨(wrap64 (X3+1)),(z2_),H',⟨by have:=HJ2.out;have:=HK2.out;have:=HK3.out;omega⟩,⟨z0_ H6.out⟩,⟨z0_ H0.out⟩,⟨z0_ G8.out⟩,⟨z0_ C3.out⟩,⟨z0_ C5.out⟩,⟨z0_ C6.out⟩,⟨z3_ C4.out⟩,⟨z3_ C8.out⟩,⟨z3_ D1.out⟩,⟨z10_ HB.out I6.out K1.out L4.out⟩⟩
            ·rw [if_neg c72] at H
             have c72b0:decide (X3<(G3.length:Int))=false:=dF c72
             clear c72
             have CT4:=aM H
             clear H
             go_upto_region 20 with (fail)
             go_cut [158] (fun C94 wc=>∃ (kq:Nat) (Ag8:Bool),C94 = .bool Ag8∧Aside0 (Y3.j3 kq H2 F0 Ag8=some r)∧Aside0 (kq≤k2)∧Aside0 (Kd.R (Kd.int .i64) 2 wc w.heap.size (fun k_=>some k_≠((.slice AS2 F0.length AS3):Value).ownBlock) (.slice AP8 H2.length AN3) H2)∧Aside0 (Kd.R (Kd.int .i64) 2 wc w.heap.size (fun k_=>some k_≠((.slice AP8 H2.length AN3):Value).ownBlock) (.slice AS2 F0.length AS3) F0)∧Aside0 (Kd.R k78 78 wc w.heap.size (fun k_=>some k_≠((.slice f5 L2.length f6):Value).ownBlock∧some k_≠((.slice n0 N9.length i9):Value).ownBlock) (.slice S6 E3.length S1) E3)∧Aside0 (Kd.R k78 78 wc w.heap.size (fun k_=>some k_≠((.slice S6 E3.length S1):Value).ownBlock∧some k_≠((.slice n0 N9.length i9):Value).ownBlock) (.slice f5 L2.length f6) L2)∧Aside0 (Kd.R k78 78 wc w.heap.size (fun k_=>some k_≠((.slice S6 E3.length S1):Value).ownBlock∧some k_≠((.slice f5 L2.length f6):Value).ownBlock) (.slice n0 N9.length i9) N9)∧Aside0 (wc.heap[b7]? = some (.cells #[.int .i64 E9,(.slice S6 E3.length S1)] 27 (0,0)))∧Aside0 (wc.heap[AJ5]? = some (.cells #[.int .i64 W5,(.slice f5 L2.length f6)] 27 (0,0)))∧Aside0 (wc.heap[AN1]? = some (.cells #[.int .i64 l9,(.slice n0 N9.length i9)] 27 (0,0)))∧Aside0 (Below w.heap.size w wc))
             case first=>as_aux_lemma =>
              have H:=CT4.out
              clear CT4
              replace H:=bS H
              obtain ⟨B25,Cx2,H⟩:=H
              replace H:(if B25=true then ((Y15.f k2 M7).bind fun BB5=>(if BB5=true then (if (G3.length:Int)=E9 then ((Y33.f k2 E9 E3 M7 1).bind fun AS1=>(if 1≤(G3.length:Int) then ((Y18.f k2 AS1 (G3.take 1)).bind fun AN0=>(Y3.j3 k2 H2 F0 (!AN0))) else (none))) else (Y3.j3 k2 H2 F0 true)) else (Y3.j3 k2 H2 F0 false))) else (Y3.j3 k2 H2 F0 false))=some r:=H
              have A81:=aM Cx2
              clear Cx2
              by_cases c82:B25=true
              ·subst c82
               have H1:((Y15.f k2 M7).bind fun BB5=>(if BB5=true then (if (G3.length:Int)=E9 then ((Y33.f k2 E9 E3 M7 1).bind fun AS1=>(if 1≤(G3.length:Int) then ((Y18.f k2 AS1 (G3.take 1)).bind fun AN0=>(Y3.j3 k2 H2 F0 (!AN0))) else (none))) else (Y3.j3 k2 H2 F0 true)) else (Y3.j3 k2 H2 F0 false)))=some r:=by rw [if_pos rfl] at H;exact H
               clear H
               have H:=H1
               clear H1
               replace H:=bS H
               obtain ⟨BB5,Cx3,H⟩:=H
               replace H:(if BB5=true then (if (G3.length:Int)=E9 then ((Y33.f k2 E9 E3 M7 1).bind fun AS1=>(if 1≤(G3.length:Int) then ((Y18.f k2 AS1 (G3.take 1)).bind fun AN0=>(Y3.j3 k2 H2 F0 (!AN0))) else (none))) else (Y3.j3 k2 H2 F0 true)) else (Y3.j3 k2 H2 F0 false))=some r:=H
               have A83:=aM Cx3
               clear Cx3
               by_cases c84:BB5=true
               ·subst c84
                have H1:(if (G3.length:Int)=E9 then ((Y33.f k2 E9 E3 M7 1).bind fun AS1=>(if 1≤(G3.length:Int) then ((Y18.f k2 AS1 (G3.take 1)).bind fun AN0=>(Y3.j3 k2 H2 F0 (!AN0))) else (none))) else (Y3.j3 k2 H2 F0 true))=some r:=by rw [if_pos rfl] at H;exact H
                clear H
                have H:=H1
                clear H1
                by_cases c85:(G3.length:Int)=E9
                ·rw [if_pos c85] at H
                 have c85b0:((G3.length:Int) == E9)=true:=beq_iff_eq.mpr c85
                 have c85b1:((G3.length:Int) != E9)=false:=bne_eq_false_iff_eq.mpr c85
                 clear c85
                 (first | rw [c85b0] | (simp only [i64_w,i32_w];rw [c85b0]) | skip)
                 replace H:=bS H
                 obtain ⟨AS1,Cx4,H⟩:=H
                 replace H:(if 1≤(G3.length:Int) then ((Y18.f k2 AS1 (G3.take 1)).bind fun AN0=>(Y3.j3 k2 H2 F0 (!AN0))) else (none))=some r:=H
                 have A86:=aM Cx4
                 clear Cx4
                 by_cases c87:1≤(G3.length:Int)
                 ·rw [if_pos c87] at H
                  have c87b0:=eq_true c87
                  have c87b1:decide (1≤(G3.length:Int))=true:=dE c87
                  clear c87
                  obtain ⟨BW9,BB6⟩:∃ y_:List Int,y_=(G3.take 1):=⟨_,rfl⟩
                  replace H:((Y18.f k2 AS1 BW9).bind fun AN0=>(Y3.j3 k2 H2 F0 (!AN0)))=some r:=by first | (rw [BB6];with_reducible exact H) | (have H2_:=(Option.bind_some _ _).symm.trans H;rw [BB6];with_reducible exact H2_) | (have H2_:=(Option.bind_some _ _).symm.trans H;with_reducible exact H2_) | with_reducible exact H | (rw [BB6];exact H) | exact H
                  have Bn1:=aM BB6
                  clear BB6
                  replace H:=bS H
                  obtain ⟨AN0,Cx5,H⟩:=H
                  replace H:(Y3.j3 k2 H2 F0 (!AN0))=some r:=H
                  have A88:=aM Cx5
                  clear Cx5
                  have H':=aM H
                  clear H
                  try go_wp2
                  have n0_:=aM (Kd.R_drew H6.out)
                  have n1_:=aM (Kd.R_drew H0.out)
                  have n2_:=aM (Kd.R_drew G8.out)
                  have n3_:=aM (Kd.R_drew C3.out)
                  have n4_:=aM (Kd.R_drew C5.out)
                  have n5_:=aM (Kd.R_drew C6.out)
                  have n6_:=aM (blk_drew C4.out)
                  have n7_:=aM (blk_drew C8.out)
                  have n8_:=aM (blk_drew D1.out)
                  have n9_:=aM (below_drew1 HB.out)
                  clear H6
                  clear H0
                  clear G8
                  clear C3
                  clear C5
                  clear C6
                  clear C4
                  clear C8
                  clear D1
                  clear HB
                  have H6:=n0_
                  have H0:=n1_
                  have G8:=n2_
                  have C3:=n3_
                  have C5:=n4_
                  have C6:=n5_
                  have C4:=n6_
                  have C8:=n7_
                  have D1:=n8_
                  have HB:=n9_
                  clear n0_ n1_ n2_ n3_ n4_ n5_ n6_ n7_ n8_ n9_
                  refine start_ (n:=22) (S:=fun w'=>w'.cell? ⟨b7,0,none⟩=some (.int .i64 E9)∧w'.cell? ⟨b7,1,none⟩=some (.slice S6 E3.length S1)) (ds:=[]) Y3.q0 (by kernel_rfl) rfl rfl (cc2_ C4.out) (fun hHeld=>?_);refine with_tabW Y3.tab20 Y3.bits20 (fun HT_ HW_=>?_)
                  generalize wr.drew=w89 at H6 H0 G8 C3 C5 C6 C4 C8 D1 HB hHeld ⊢
                  refine tk2_ 0 137 Y3.q1 HT_.out HW_.out hHeld ?_
                  refine o1_ 1 138 Y3.q2 HT_.out (fun K hK=>?_)
                  refine gs_ Tryz.func23 #[.agg #[.int .i64 E9,.slice S6 E3.length S1]] ?_
                  with_reducible refine (Y6.calls k2 E9 _ _ E3 true _ ?s1 ?s2 A81.out).mono ?_
                  (case s1=>repeat (first | exact (Kd.R_reads' C3.out).2.2 | (with_reducible refine Kd.C_alloc ?_ _) | (with_reducible refine Kd.C_drewN ?_ _) | (with_reducible refine Kd.C_drew ?_)))
                  (case s2=>exact (Kd.R_reads' C3.out).2.1)
                  rintro e w90 ⟨rfl,hb⟩
                  refine ⟨_,rfl,?_⟩
                  have n0_:=aM (Kd.R_below (z0_ H6.out) hb)
                  have n1_:=aM (Kd.R_below (z0_ H0.out) hb)
                  have n2_:=aM (Kd.R_below (z0_ G8.out) hb)
                  have n3_:=aM (Kd.R_below (z0_ C3.out) hb)
                  have n4_:=aM (Kd.R_below (z0_ C5.out) hb)
                  have n5_:=aM (Kd.R_below (z0_ C6.out) hb)
                  have n6_:=aM (blkB_ C4.out hb)
                  have n7_:=aM (blkB_ C8.out hb)
                  have n8_:=aM (blkB_ D1.out hb)
                  have n9_:=aM (below_step (z10_ HB.out I6.out K1.out L4.out) hb)
                  clear H6
                  clear H0
                  clear G8
                  clear C3
                  clear C5
                  clear C6
                  clear C4
                  clear C8
                  clear D1
                  clear HB
                  have H6:=n0_
                  have H0:=n1_
                  have G8:=n2_
                  have C3:=n3_
                  have C5:=n4_
                  have C6:=n5_
                  have C4:=n6_
                  have C8:=n7_
                  have D1:=n8_
                  have HB:=n9_
                  clear n0_ n1_ n2_ n3_ n4_ n5_ n6_ n7_ n8_ n9_
                  (try clear hb)
                  refine hK.out _ _ (cc2_ C4.out) (fun hHeld=>?_)
                  clear hK K
                  refine nm_ 138 ?_
                  refine pu_ 2 139 Y3.q3 HT_.out ?_
                  refine pu_ 3 140 Y3.q4 HT_.out ?_
                  refine o1_ 4 141 Y3.q5 HT_.out (fun K hK=>?_)
                  refine gs_ Tryz.func24 #[.string M7] ?_
                  with_reducible refine (Y15.calls k2 M7 true _ A83.out).mono ?_
                  rintro e w' ⟨rfl,⟨nd,rfl⟩⟩
                  refine ⟨_,rfl,?_⟩
                  refine hK.out _ _ (cc2_ C4.out) (fun hHeld=>?_)
                  clear hK K
                  refine nm_ 141 ?_
                  have Cx6:(1:Int)≤((G3.length:Int):Int):=dT (z1_)
                  obtain ⟨i092_,Bn2,_,CT5,_⟩:=info_parts info2
                  have BB7:G3.length≤Aa2:=(Kd.R_reads' H6.out).2.1
                  have B30:=cut_to (P:=Tryz.prog) 30 2 .i64 Tryz.underlying30 Bn2 Al6 G3.length Aa2 1 (by omega) Cx6 BB7
                  have CE0:BW9.length=(1:Int).toNat:=(z34_ Bn1.out)
                  rw [← CE0] at B30
                  clear BB7 Bn2 CT5 CE0 Cx6
                  refine pu_ 5 142 Y3.q6 HT_.out ?_
                  refine pu_ 6 143 Y3.q7 HT_.out ?_
                  refine pu_ 7 144 Y3.q8 HT_.out ?_
                  refine pu_ 8 145 Y3.q9 HT_.out ?_
                  refine pu_ 9 146 Y3.q10 HT_.out ?_
                  refine tk2_ 10 147 Y3.q11 HT_.out HW_.out hHeld ?_
                  refine pu_ 11 148 Y3.q12 HT_.out ?_
                  refine pu_ 12 149 Y3.q13 HT_.out ?_
                  refine pu_ 14 151 #[I,I,I,I,I,I,I,I,I,I,I,I,I,O,I,O,O,O,O,O,O,O] HT_.out ?_
                  refine pu_ 16 153 #[I,I,I,I,I,I,I,I,I,I,I,I,I,O,I,O,I,O,O,O,O,O] HT_.out ?_
                  refine pu_ 17 154 #[I,I,I,I,I,I,I,I,I,I,I,I,I,O,I,O,I,I,O,O,O,O] HT_.out ?_
                  refine tk2_ 13 150 #[I,I,I,I,I,I,I,I,I,I,I,I,I,I,I,O,I,I,O,O,O,O] HT_.out HW_.out hHeld ?_
                  refine o1_ 15 152 Y3.q14 HT_.out (fun K hK=>?_)
                  refine gs_ Tryz.func17 #[.agg #[.int .i64 E9,.slice S6 E3.length S1],.string M7,.int .i64 1] ?_
                  with_reducible refine (Y33.calls k2 E9 _ _ E3 M7 1 AS1 _ ?s1 ?s2 A86.out).mono ?_
                  (case s1=>repeat (first | exact (Kd.R_reads' C3.out).2.2 | (with_reducible refine Kd.C_alloc ?_ _) | (with_reducible refine Kd.C_drewN ?_ _) | (with_reducible refine Kd.C_drew ?_)))
                  (case s2=>exact (Kd.R_reads' C3.out).2.1)
                  rintro e w91 ⟨v735,rfl,ho0,hb⟩
                  refine ⟨_,rfl,?_⟩
                  have n0_:=aM (Kd.R_elder' (z0_ H6.out) (Kd.R_base ho0) hb)
                  have n1_:=aM (Kd.R_elder' (z0_ H0.out) (Kd.R_base ho0) hb)
                  have n2_:=aM (Kd.R_elder' (z0_ G8.out) (Kd.R_base ho0) hb)
                  have n3_:=aM (Kd.R_below (z0_ C3.out) hb)
                  have n4_:=aM (Kd.R_below (z0_ C5.out) hb)
                  have n5_:=aM (Kd.R_below (z0_ C6.out) hb)
                  have n6_:=aM (Kd.R_lower (Kd.R_new' (Kd.R_new' (Kd.R_new' ho0 (Kd.R_lt (z0_ H6.out))) (Kd.R_lt (z0_ H0.out))) (Kd.R_lt (z0_ G8.out))) (below_size (z10_ HB.out I6.out K1.out L4.out)))
                  have n7_:=aM (blkB_ C4.out hb)
                  have n8_:=aM (blkB_ C8.out hb)
                  have n9_:=aM (blkB_ D1.out hb)
                  have K9:=aM (below_step (z10_ HB.out I6.out K1.out L4.out) hb)
                  clear H6
                  clear H0
                  clear G8
                  clear C3
                  clear C5
                  clear C6
                  clear C4
                  clear C8
                  clear D1
                  clear HB
                  have H6:=n0_
                  have H0:=n1_
                  have G8:=n2_
                  have C3:=n3_
                  have C5:=n4_
                  have C6:=n5_
                  have Bn3:=n6_
                  have C4:=n7_
                  have C8:=n8_
                  have D1:=n9_
                  have HB:=K9
                  clear n0_ n1_ n2_ n3_ n4_ n5_ n6_ n7_ n8_ n9_ K9
                  (try clear hb)
                  (try clear ho0)
                  have q92:(1:Int)≤((G3.length:Int):Int):=dT (z1_)
                  obtain ⟨i092,CE1,_,Cx7,_⟩:=info_parts info2
                  have BQ5:G3.length≤Aa2:=(Kd.R_reads' H6.out).2.1
                  have Cx8:Kd.C (Kd.int .i64) _ Al6 G3.length G3:=(Kd.R_reads' H6.out).2.2
                  have CT6:=cut_to (P:=Tryz.prog) 30 2 .i64 Tryz.underlying30 CE1 Al6 G3.length Aa2 1 (by omega) q92 BQ5
                  have CT7:=Kd.C_take (m:=1) Cx8 (by omega)
                  have CT8:BW9.length=(1:Int).toNat:=(z34_ Bn1.out)
                  rw [← Bn1.out] at CT7
                  rw [← CT8] at CT6
                  have Cx9:=aM CT7
                  have Cy0:=aM (show BW9.length≤Aa2 from by omega)
                  clear CT7 Cx8 BQ5 CE1 Cx7
                  have KY92:=aM CT8
                  clear CT8
                  have KL92:=aM (show 1≤G3.length from by omega)
                  replace q92:=eq_true q92
                  obtain ⟨C95,C96,Cy1⟩:=Kd.R_slice Bn3.out
                  (first | subst Cy1 | (injection Cy1 with f1_ f2_ f3_;have f4_:=f1_.symm;have f5_:=f3_.symm;clear f1_ f2_ f3_;subst f4_;subst f5_))
                  refine hK.out _ _ (cc2_ C4.out) (fun hHeld=>?_)
                  clear hK K
                  refine nm_ 152 ?_
                  refine o1_ 18 155 Y3.q15 HT_.out (fun K hK=>?_)
                  refine gs_ Tryz.func15 #[.slice C95 AS1.length C96,.slice Al6 BW9.length Aa2] ?_
                  with_reducible refine (Y18.calls k2 _ _ AS1 _ _ BW9 AN0 _ ?s1 ?s2 ?s3 ?s4 A88.out).mono ?_
                  (case s1=>repeat (first | exact (Kd.R_reads' Bn3.out).2.2 | (with_reducible refine Kd.C_alloc ?_ _) | (with_reducible refine Kd.C_drewN ?_ _) | (with_reducible refine Kd.C_drew ?_)))
                  (case s2=>exact (Kd.R_reads' Bn3.out).2.1)
                  (case s3=>repeat (first | exact (z28_ Cx9.out) | (with_reducible refine Kd.C_alloc ?_ _) | (with_reducible refine Kd.C_drewN ?_ _) | (with_reducible refine Kd.C_drew ?_)))
                  (case s4=>exact Cy0.out)
                  rintro e w' ⟨rfl,⟨nd,rfl⟩⟩
                  refine ⟨_,rfl,?_⟩
                  refine hK.out _ _ (cc2_ C4.out) (fun hHeld=>?_)
                  clear hK K
                  refine nm_ 155 ?_
                  refine pu_ 19 156 Y3.q16 HT_.out ?_
                  refine pu_ 20 157 Y3.q17 HT_.out ?_
                  refine pu_ 21 158 Y3.q18 HT_.out ?_
                  refine done_ (done_of HT_.out (by kernel_rfl)) ?_
                  try go_wp2
                  go_meet
                  case rel=>exact ⟨_,(!AN0),(z2_),H',⟨z31_ HJ2.out HK2.out⟩,⟨by (with_reducible repeat (first | apply Kd.R_alloc | apply Kd.R_drewN | apply Kd.R_drew));exact Kd.R_mono H0.out (fun _ hk=>hk.1.2)⟩,⟨by (with_reducible repeat (first | apply Kd.R_alloc | apply Kd.R_drewN | apply Kd.R_drew));exact Kd.R_mono G8.out (fun _ hk=>hk.1.2)⟩,⟨z0_ C3.out⟩,⟨z0_ C5.out⟩,⟨z0_ C6.out⟩,⟨z3_ C4.out⟩,⟨z3_ C8.out⟩,⟨z3_ D1.out⟩,⟨z10_ HB.out I6.out K1.out L4.out⟩⟩
                 ·rw [if_neg c87] at H
                  exact nO H
                ·rw [if_neg c85] at H
                 have c85b0:((G3.length:Int) == E9)=false:=beq_eq_false_iff_ne.mpr c85
                 have c85b1:((G3.length:Int) != E9)=true:=bne_iff_ne.mpr c85
                 (first | rw [c85b0] | (simp only [i64_w,i32_w];rw [c85b0]) | skip)
                 have H':=aM H
                 clear H
                 try go_wp2
                 have n0_:=aM (Kd.R_drew H6.out)
                 have n1_:=aM (Kd.R_drew H0.out)
                 have n2_:=aM (Kd.R_drew G8.out)
                 have n3_:=aM (Kd.R_drew C3.out)
                 have n4_:=aM (Kd.R_drew C5.out)
                 have n5_:=aM (Kd.R_drew C6.out)
                 have n6_:=aM (blk_drew C4.out)
                 have n7_:=aM (blk_drew C8.out)
                 have n8_:=aM (blk_drew D1.out)
                 have n9_:=aM (below_drew1 HB.out)
                 clear H6
                 clear H0
                 clear G8
                 clear C3
                 clear C5
                 clear C6
                 clear C4
                 clear C8
                 clear D1
                 clear HB
                 have H6:=n0_
                 have H0:=n1_
                 have G8:=n2_
                 have C3:=n3_
                 have C5:=n4_
                 have C6:=n5_
                 have C4:=n6_
                 have C8:=n7_
                 have D1:=n8_
                 have HB:=n9_
                 clear n0_ n1_ n2_ n3_ n4_ n5_ n6_ n7_ n8_ n9_
                 refine start_ (n:=22) (S:=fun w'=>w'.cell? ⟨b7,0,none⟩=some (.int .i64 E9)∧w'.cell? ⟨b7,1,none⟩=some (.slice S6 E3.length S1)) (ds:=[]) Y3.q0 (by kernel_rfl) rfl rfl (cc2_ C4.out) (fun hHeld=>?_);refine with_tabW Y3.tab20 Y3.bits20 (fun HT_ HW_=>?_)
                 generalize wr.drew=w94 at H6 H0 G8 C3 C5 C6 C4 C8 D1 HB hHeld ⊢
                 refine tk2_ 0 137 Y3.q1 HT_.out HW_.out hHeld ?_
                 refine o1_ 1 138 Y3.q2 HT_.out (fun K hK=>?_)
                 refine gs_ Tryz.func23 #[.agg #[.int .i64 E9,.slice S6 E3.length S1]] ?_
                 with_reducible refine (Y6.calls k2 E9 _ _ E3 true _ ?s1 ?s2 A81.out).mono ?_
                 (case s1=>repeat (first | exact (Kd.R_reads' C3.out).2.2 | (with_reducible refine Kd.C_alloc ?_ _) | (with_reducible refine Kd.C_drewN ?_ _) | (with_reducible refine Kd.C_drew ?_)))
                 (case s2=>exact (Kd.R_reads' C3.out).2.1)
                 rintro e w95 ⟨rfl,hb⟩
                 refine ⟨_,rfl,?_⟩
                 have n0_:=aM (Kd.R_below (z0_ H6.out) hb)
                 have n1_:=aM (Kd.R_below (z0_ H0.out) hb)
                 have n2_:=aM (Kd.R_below (z0_ G8.out) hb)
                 have n3_:=aM (Kd.R_below (z0_ C3.out) hb)
                 have n4_:=aM (Kd.R_below (z0_ C5.out) hb)
                 have n5_:=aM (Kd.R_below (z0_ C6.out) hb)
                 have n6_:=aM (blkB_ C4.out hb)
                 have n7_:=aM (blkB_ C8.out hb)
                 have n8_:=aM (blkB_ D1.out hb)
                 have n9_:=aM (below_step (z10_ HB.out I6.out K1.out L4.out) hb)
                 clear H6
                 clear H0
                 clear G8
                 clear C3
                 clear C5
                 clear C6
                 clear C4
                 clear C8
                 clear D1
                 clear HB
                 have H6:=n0_
                 have H0:=n1_
                 have G8:=n2_
                 have C3:=n3_
                 have C5:=n4_
                 have C6:=n5_
                 have C4:=n6_
                 have C8:=n7_
                 have D1:=n8_
                 have HB:=n9_
                 clear n0_ n1_ n2_ n3_ n4_ n5_ n6_ n7_ n8_ n9_
                 (try clear hb)
                 refine hK.out _ _ (cc2_ C4.out) (fun hHeld=>?_)
                 clear hK K
                 refine nm_ 138 ?_
                 refine pu_ 2 139 Y3.q3 HT_.out ?_
                 refine pu_ 3 140 Y3.q4 HT_.out ?_
                 refine o1_ 4 141 Y3.q5 HT_.out (fun K hK=>?_)
                 refine gs_ Tryz.func24 #[.string M7] ?_
                 with_reducible refine (Y15.calls k2 M7 true _ A83.out).mono ?_
                 rintro e w' ⟨rfl,⟨nd,rfl⟩⟩
                 refine ⟨_,rfl,?_⟩
                 refine hK.out _ _ (cc2_ C4.out) (fun hHeld=>?_)
                 clear hK K
                 refine nm_ 141 ?_
                 refine pu_ 5 142 Y3.q6 HT_.out ?_
                 refine pu_ 6 143 Y3.q7 HT_.out ?_
                 refine pu_ 7 144 Y3.q8 HT_.out ?_
                 refine pu_ 8 145 Y3.q9 HT_.out ?_
                 refine pu_ 9 146 Y3.q10 HT_.out ?_
                 refine tk2_ 10 147 Y3.q11 HT_.out HW_.out hHeld ?_
                 refine pu_ 11 148 Y3.q12 HT_.out ?_
                 refine pu_ 12 149 Y3.q13 HT_.out ?_
                 refine pn_ 13 150 Y3.q19 HT_.out ?_
                 refine pn_ 14 151 Y3.q20 HT_.out ?_
                 refine pn_ 15 152 Y3.q21 HT_.out ?_
                 refine pn_ 16 153 Y3.q22 HT_.out ?_
                 refine pn_ 17 154 Y3.q14 HT_.out ?_
                 refine pn_ 18 155 Y3.q15 HT_.out ?_
                 refine pn_ 19 156 Y3.q16 HT_.out ?_
                 refine pu_ 20 157 Y3.q17 HT_.out ?_
                 refine pu_ 21 158 Y3.q18 HT_.out ?_
                 refine done_ (done_of HT_.out (by kernel_rfl)) ?_
                 try go_wp2
                 go_meet
                 case rel=>exact ⟨_,(true),(z2_),H',⟨z31_ HJ2.out HK2.out⟩,⟨z39_ H0.out⟩,⟨z39_ G8.out⟩,⟨z0_ C3.out⟩,⟨z0_ C5.out⟩,⟨z0_ C6.out⟩,⟨z3_ C4.out⟩,⟨z3_ C8.out⟩,⟨z3_ D1.out⟩,⟨z10_ HB.out I6.out K1.out L4.out⟩⟩
               ·replace c84:=Bool.eq_false_iff.mpr c84
                subst c84
                have H1:(Y3.j3 k2 H2 F0 false)=some r:=by rw [if_neg (show ¬ (false=true) by decide)] at H;exact H
                clear H
                have H:=H1
                clear H1
                have H':=aM H
                clear H
                try go_wp2
                have n0_:=aM (Kd.R_drew H6.out)
                have n1_:=aM (Kd.R_drew H0.out)
                have n2_:=aM (Kd.R_drew G8.out)
                have n3_:=aM (Kd.R_drew C3.out)
                have n4_:=aM (Kd.R_drew C5.out)
                have n5_:=aM (Kd.R_drew C6.out)
                have n6_:=aM (blk_drew C4.out)
                have n7_:=aM (blk_drew C8.out)
                have n8_:=aM (blk_drew D1.out)
                have n9_:=aM (below_drew1 HB.out)
                clear H6
                clear H0
                clear G8
                clear C3
                clear C5
                clear C6
                clear C4
                clear C8
                clear D1
                clear HB
                have H6:=n0_
                have H0:=n1_
                have G8:=n2_
                have C3:=n3_
                have C5:=n4_
                have C6:=n5_
                have C4:=n6_
                have C8:=n7_
                have D1:=n8_
                have HB:=n9_
                clear n0_ n1_ n2_ n3_ n4_ n5_ n6_ n7_ n8_ n9_
                refine start_ (n:=22) (S:=fun w'=>w'.cell? ⟨b7,0,none⟩=some (.int .i64 E9)∧w'.cell? ⟨b7,1,none⟩=some (.slice S6 E3.length S1)) (ds:=[]) Y3.q0 (by kernel_rfl) rfl rfl (cc2_ C4.out) (fun hHeld=>?_);refine with_tabW Y3.tab20 Y3.bits20 (fun HT_ HW_=>?_)
                generalize wr.drew=w96 at H6 H0 G8 C3 C5 C6 C4 C8 D1 HB hHeld ⊢
                refine tk2_ 0 137 Y3.q1 HT_.out HW_.out hHeld ?_
                refine o1_ 1 138 Y3.q2 HT_.out (fun K hK=>?_)
                refine gs_ Tryz.func23 #[.agg #[.int .i64 E9,.slice S6 E3.length S1]] ?_
                with_reducible refine (Y6.calls k2 E9 _ _ E3 true _ ?s1 ?s2 A81.out).mono ?_
                (case s1=>repeat (first | exact (Kd.R_reads' C3.out).2.2 | (with_reducible refine Kd.C_alloc ?_ _) | (with_reducible refine Kd.C_drewN ?_ _) | (with_reducible refine Kd.C_drew ?_)))
                (case s2=>exact (Kd.R_reads' C3.out).2.1)
                rintro e w97 ⟨rfl,hb⟩
                refine ⟨_,rfl,?_⟩
                have n0_:=aM (Kd.R_below (z0_ H6.out) hb)
                have n1_:=aM (Kd.R_below (z0_ H0.out) hb)
                have n2_:=aM (Kd.R_below (z0_ G8.out) hb)
                have n3_:=aM (Kd.R_below (z0_ C3.out) hb)
                have n4_:=aM (Kd.R_below (z0_ C5.out) hb)
                have n5_:=aM (Kd.R_below (z0_ C6.out) hb)
                have n6_:=aM (blkB_ C4.out hb)
                have n7_:=aM (blkB_ C8.out hb)
                have n8_:=aM (blkB_ D1.out hb)
                have n9_:=aM (below_step (z10_ HB.out I6.out K1.out L4.out) hb)
                clear H6
                clear H0
                clear G8
                clear C3
                clear C5
                clear C6
                clear C4
                clear C8
                clear D1
                clear HB
                have H6:=n0_
                have H0:=n1_
                have G8:=n2_
                have C3:=n3_
                have C5:=n4_
                have C6:=n5_
                have C4:=n6_
                have C8:=n7_
                have D1:=n8_
                have HB:=n9_
                clear n0_ n1_ n2_ n3_ n4_ n5_ n6_ n7_ n8_ n9_
                (try clear hb)
                refine hK.out _ _ (cc2_ C4.out) (fun hHeld=>?_)
                clear hK K
                refine nm_ 138 ?_
                refine pu_ 2 139 Y3.q3 HT_.out ?_
                refine pu_ 3 140 Y3.q4 HT_.out ?_
                refine o1_ 4 141 Y3.q5 HT_.out (fun K hK=>?_)
                refine gs_ Tryz.func24 #[.string M7] ?_
                with_reducible refine (Y15.calls k2 M7 false _ A83.out).mono ?_
                rintro e w' ⟨rfl,⟨nd,rfl⟩⟩
                refine ⟨_,rfl,?_⟩
                refine hK.out _ _ (cc2_ C4.out) (fun hHeld=>?_)
                clear hK K
                refine nm_ 141 ?_
                refine pu_ 5 142 Y3.q6 HT_.out ?_
                refine pu_ 6 143 Y3.q7 HT_.out ?_
                refine pn_ 7 144 Y3.q8 HT_.out ?_
                refine pn_ 8 145 Y3.q9 HT_.out ?_
                refine pn_ 9 146 Y3.q10 HT_.out ?_
                refine pn_ 10 147 Y3.q11 HT_.out ?_
                refine pn_ 11 148 Y3.q12 HT_.out ?_
                refine pn_ 12 149 Y3.q13 HT_.out ?_
                refine pn_ 13 150 Y3.q19 HT_.out ?_
                refine pn_ 14 151 Y3.q20 HT_.out ?_
                refine pn_ 15 152 Y3.q21 HT_.out ?_
                refine pn_ 16 153 Y3.q22 HT_.out ?_
                refine pn_ 17 154 Y3.q14 HT_.out ?_
                refine pn_ 18 155 Y3.q15 HT_.out ?_
                refine pn_ 19 156 Y3.q16 HT_.out ?_
                refine pn_ 20 157 Y3.q17 HT_.out ?_
                refine pu_ 21 158 Y3.q18 HT_.out ?_
                refine done_ (done_of HT_.out (by kernel_rfl)) ?_
                try go_wp2
                go_meet
                case rel=>exact ⟨_,(false),(z2_),H',⟨z31_ HJ2.out HK2.out⟩,⟨z39_ H0.out⟩,⟨z39_ G8.out⟩,⟨z0_ C3.out⟩,⟨z0_ C5.out⟩,⟨z0_ C6.out⟩,⟨z3_ C4.out⟩,⟨z3_ C8.out⟩,⟨z3_ D1.out⟩,⟨z10_ HB.out I6.out K1.out L4.out⟩⟩
              ·replace c82:=Bool.eq_false_iff.mpr c82
               subst c82
               have H1:(Y3.j3 k2 H2 F0 false)=some r:=by rw [if_neg (show ¬ (false=true) by decide)] at H;exact H
               clear H
               have H:=H1
               clear H1
               have H':=aM H
               clear H
               try go_wp2
               have n0_:=aM (Kd.R_drew H6.out)
               have n1_:=aM (Kd.R_drew H0.out)
               have n2_:=aM (Kd.R_drew G8.out)
               have n3_:=aM (Kd.R_drew C3.out)
               have n4_:=aM (Kd.R_drew C5.out)
               have n5_:=aM (Kd.R_drew C6.out)
               have n6_:=aM (blk_drew C4.out)
               have n7_:=aM (blk_drew C8.out)
               have n8_:=aM (blk_drew D1.out)
               have n9_:=aM (below_drew1 HB.out)
               clear H6
               clear H0
               clear G8
               clear C3
               clear C5
               clear C6
               clear C4
               clear C8
               clear D1
               clear HB
               have H6:=n0_
               have H0:=n1_
               have G8:=n2_
               have C3:=n3_
               have C5:=n4_
               have C6:=n5_
               have C4:=n6_
               have C8:=n7_
               have D1:=n8_
               have HB:=n9_
               clear n0_ n1_ n2_ n3_ n4_ n5_ n6_ n7_ n8_ n9_
               refine start_ (n:=22) (S:=fun w'=>w'.cell? ⟨b7,0,none⟩=some (.int .i64 E9)∧w'.cell? ⟨b7,1,none⟩=some (.slice S6 E3.length S1)) (ds:=[]) Y3.q0 (by kernel_rfl) rfl rfl (cc2_ C4.out) (fun hHeld=>?_);refine with_tabW Y3.tab20 Y3.bits20 (fun HT_ HW_=>?_)
               generalize wr.drew=w98 at H6 H0 G8 C3 C5 C6 C4 C8 D1 HB hHeld ⊢
               refine tk2_ 0 137 Y3.q1 HT_.out HW_.out hHeld ?_
               refine o1_ 1 138 Y3.q2 HT_.out (fun K hK=>?_)
               refine gs_ Tryz.func23 #[.agg #[.int .i64 E9,.slice S6 E3.length S1]] ?_
               with_reducible refine (Y6.calls k2 E9 _ _ E3 false _ ?s1 ?s2 A81.out).mono ?_
               (case s1=>repeat (first | exact (Kd.R_reads' C3.out).2.2 | (with_reducible refine Kd.C_alloc ?_ _) | (with_reducible refine Kd.C_drewN ?_ _) | (with_reducible refine Kd.C_drew ?_)))
               (case s2=>exact (Kd.R_reads' C3.out).2.1)
               rintro e w99 ⟨rfl,hb⟩
               refine ⟨_,rfl,?_⟩
               have n0_:=aM (Kd.R_below (z0_ H6.out) hb)
               have n1_:=aM (Kd.R_below (z0_ H0.out) hb)
               have n2_:=aM (Kd.R_below (z0_ G8.out) hb)
               have n3_:=aM (Kd.R_below (z0_ C3.out) hb)
               have n4_:=aM (Kd.R_below (z0_ C5.out) hb)
               have n5_:=aM (Kd.R_below (z0_ C6.out) hb)
               have n6_:=aM (blkB_ C4.out hb)
               have n7_:=aM (blkB_ C8.out hb)
               have n8_:=aM (blkB_ D1.out hb)
               have n9_:=aM (below_step (z10_ HB.out I6.out K1.out L4.out) hb)
               clear H6
               clear H0
               clear G8
               clear C3
               clear C5
               clear C6
               clear C4
               clear C8
               clear D1
               clear HB
               have H6:=n0_
               have H0:=n1_
               have G8:=n2_
               have C3:=n3_
               have C5:=n4_
               have C6:=n5_
               have C4:=n6_
               have C8:=n7_
               have D1:=n8_
               have HB:=n9_
               clear n0_ n1_ n2_ n3_ n4_ n5_ n6_ n7_ n8_ n9_
               (try clear hb)
               refine hK.out _ _ (cc2_ C4.out) (fun hHeld=>?_)
               clear hK K
               refine nm_ 138 ?_
               refine pu_ 2 139 Y3.q3 HT_.out ?_
               refine pn_ 3 140 Y3.q4 HT_.out ?_
               refine pn_ 4 141 Y3.q5 HT_.out ?_
               refine pu_ 5 142 Y3.q6 HT_.out ?_
               refine pu_ 6 143 Y3.q7 HT_.out ?_
               refine pn_ 7 144 Y3.q8 HT_.out ?_
               refine pn_ 8 145 Y3.q9 HT_.out ?_
               refine pn_ 9 146 Y3.q10 HT_.out ?_
               refine pn_ 10 147 Y3.q11 HT_.out ?_
               refine pn_ 11 148 Y3.q12 HT_.out ?_
               refine pn_ 12 149 Y3.q13 HT_.out ?_
               refine pn_ 13 150 Y3.q19 HT_.out ?_
               refine pn_ 14 151 Y3.q20 HT_.out ?_
               refine pn_ 15 152 Y3.q21 HT_.out ?_
               refine pn_ 16 153 Y3.q22 HT_.out ?_
               refine pn_ 17 154 Y3.q14 HT_.out ?_
               refine pn_ 18 155 Y3.q15 HT_.out ?_
               refine pn_ 19 156 Y3.q16 HT_.out ?_
               refine pn_ 20 157 Y3.q17 HT_.out ?_
               refine pu_ 21 158 Y3.q18 HT_.out ?_
               refine done_ (done_of HT_.out (by kernel_rfl)) ?_
               try go_wp2
               go_meet
               case rel=>exact ⟨_,(false),(z2_),H',⟨z31_ HJ2.out HK2.out⟩,⟨z39_ H0.out⟩,⟨z39_ G8.out⟩,⟨z0_ C3.out⟩,⟨z0_ C5.out⟩,⟨z0_ C6.out⟩,⟨z3_ C4.out⟩,⟨z3_ C8.out⟩,⟨z3_ D1.out⟩,⟨z10_ HB.out I6.out K1.out L4.out⟩⟩
             case rest=>as_aux_lemma =>
              clear CT4
              try clear c2
              try clear p2
              try clear c8
              try clear c23
              try clear c24
              try clear c82
              try clear c84
              obtain ⟨kq,Ag8,rfl,HA,BX0,H0,G8,C3,C5,C6,C4,C8,D1,HB⟩:=hcut
              cases kq with
              | zero=>exact absurd HA.out (by simp [Y3.j3])
              | succ CT9 =>
               have H:=HA.out
               clear HA
               simp only [Y3.j3] at H
               by_cases BG7:Ag8=true
               ·subst BG7
                have H1:(none)=some r:=by rw [if_pos rfl] at H;exact H
                clear H
                have H:=H1
                clear H1
                exact nO H
               ·replace BG7:=Bool.eq_false_iff.mpr BG7
                subst BG7
                have H1:(Y3.l2 CT9 H2 F0 0)=some r:=by rw [if_neg (show ¬ (false=true) by decide)] at H;exact H
                clear H
                have H:=H1
                clear H1
                have H':=aM H
                clear H
                go_wp2
                go_loopg [21] CT9 (fun kq v21 w'=>∃ (N3:Int),v21 = .int .i64 N3∧Aside0 (Y3.l2 kq H2 F0 N3=some r)∧Aside0 (kq≤CT9)∧Aside0 (Kd.R (Kd.int .i64) 2 w' w.heap.size (fun k_=>some k_≠((.slice AS2 F0.length AS3):Value).ownBlock) (.slice AP8 H2.length AN3) H2)∧Aside0 (Kd.R (Kd.int .i64) 2 w' w.heap.size (fun k_=>some k_≠((.slice AP8 H2.length AN3):Value).ownBlock) (.slice AS2 F0.length AS3) F0)∧Aside0 (Kd.R k78 78 w' w.heap.size (fun k_=>some k_≠((.slice f5 L2.length f6):Value).ownBlock∧some k_≠((.slice n0 N9.length i9):Value).ownBlock) (.slice S6 E3.length S1) E3)∧Aside0 (Kd.R k78 78 w' w.heap.size (fun k_=>some k_≠((.slice S6 E3.length S1):Value).ownBlock∧some k_≠((.slice n0 N9.length i9):Value).ownBlock) (.slice f5 L2.length f6) L2)∧Aside0 (Kd.R k78 78 w' w.heap.size (fun k_=>some k_≠((.slice S6 E3.length S1):Value).ownBlock∧some k_≠((.slice f5 L2.length f6):Value).ownBlock) (.slice n0 N9.length i9) N9)∧Aside0 (w'.heap[b7]? = some (.cells #[.int .i64 E9,(.slice S6 E3.length S1)] 27 (0,0)))∧Aside0 (w'.heap[AJ5]? = some (.cells #[.int .i64 W5,(.slice f5 L2.length f6)] 27 (0,0)))∧Aside0 (w'.heap[AN1]? = some (.cells #[.int .i64 l9,(.slice n0 N9.length i9)] 27 (0,0)))∧Aside0 (Below w.heap.size w w'))
                case atStart=>exact ⟨(0),(z2_),H',⟨Nat.le_refl _⟩,⟨z0_ H0.out⟩,⟨z0_ G8.out⟩,⟨z0_ C3.out⟩,⟨z0_ C5.out⟩,⟨z0_ C6.out⟩,⟨z3_ C4.out⟩,⟨z3_ C8.out⟩,⟨z3_ D1.out⟩,⟨z10_ HB.out I6.out K1.out L4.out⟩⟩
                case round=>as_aux_lemma =>
                 clear H'
                 try clear c1
                 try clear c2
                 try clear p2
                 try clear c8
                 try clear c10
                 try clear c23
                 try clear c24
                 try clear c82
                 try clear c84
                 try clear BG7
                 try clear p2
                 obtain ⟨N3,rfl,HA,HK4,H0,G8,C3,C5,C6,C4,C8,D1,HB⟩:=hrel
                 cases gk with
                 | zero=>exact absurd HA.out (by simp [Y3.l2])
                 | succ k4 =>
                  have H:=HA.out
                  clear HA
                  simp only [Y3.l2] at H
                  by_cases BB8:N3<(F0.length:Int)
                  ·rw [if_pos BB8] at H
                   have c101b0:decide (N3<(F0.length:Int))=true:=dE BB8
                   clear BB8
                   have H':=aM H
                   clear H
                   go_wp2
                   go_loopg [22] k4 (fun kq v22 w'=>∃ (u3:Int),v22 = .int .i64 u3∧Aside0 (Y3.l3 kq H2 F0 N3 u3=some r)∧Aside0 (kq≤k4)∧Aside0 (Kd.R (Kd.int .i64) 2 w' w.heap.size (fun k_=>some k_≠((.slice AS2 F0.length AS3):Value).ownBlock) (.slice AP8 H2.length AN3) H2)∧Aside0 (Kd.R (Kd.int .i64) 2 w' w.heap.size (fun k_=>some k_≠((.slice AP8 H2.length AN3):Value).ownBlock) (.slice AS2 F0.length AS3) F0)∧Aside0 (Kd.R k78 78 w' w.heap.size (fun k_=>some k_≠((.slice f5 L2.length f6):Value).ownBlock∧some k_≠((.slice n0 N9.length i9):Value).ownBlock) (.slice S6 E3.length S1) E3)∧Aside0 (Kd.R k78 78 w' w.heap.size (fun k_=>some k_≠((.slice S6 E3.length S1):Value).ownBlock∧some k_≠((.slice n0 N9.length i9):Value).ownBlock) (.slice f5 L2.length f6) L2)∧Aside0 (Kd.R k78 78 w' w.heap.size (fun k_=>some k_≠((.slice S6 E3.length S1):Value).ownBlock∧some k_≠((.slice f5 L2.length f6):Value).ownBlock) (.slice n0 N9.length i9) N9)∧Aside0 (w'.heap[b7]? = some (.cells #[.int .i64 E9,(.slice S6 E3.length S1)] 27 (0,0)))∧Aside0 (w'.heap[AJ5]? = some (.cells #[.int .i64 W5,(.slice f5 L2.length f6)] 27 (0,0)))∧Aside0 (w'.heap[AN1]? = some (.cells #[.int .i64 l9,(.slice n0 N9.length i9)] 27 (0,0)))∧Aside0 (Below w.heap.size w w'))
                   case atStart=>exact ⟨(0),(z2_),H',⟨Nat.le_refl _⟩,⟨z0_ H0.out⟩,⟨z0_ G8.out⟩,⟨z0_ C3.out⟩,⟨z0_ C5.out⟩,⟨z0_ C6.out⟩,⟨z3_ C4.out⟩,⟨z3_ C8.out⟩,⟨z3_ D1.out⟩,⟨z10_ HB.out I6.out K1.out L4.out⟩⟩
                   case round=>as_aux_lemma =>
                    clear H'
                    try clear c1
                    try clear c2
                    try clear p2
                    try clear c8
                    try clear c10
                    try clear c23
                    try clear c24
                    try clear c82
                    try clear c84
                    try clear BG7
                    try clear BB8
                    try clear c101b0
                    try clear p2
                    obtain ⟨u3,rfl,HA,HK5,H0,G8,C3,C5,C6,C4,C8,D1,HB⟩:=hrel
                    cases gk with
                    | zero=>exact absurd HA.out (by simp [Y3.l3])
                    | succ k5 =>
                     have H:=HA.out
                     clear HA
                     simp only [Y3.l3] at H
                     by_cases BG8:u3<(H2.length:Int)
                     ·rw [if_pos BG8] at H
                      have c102b0:decide (u3<(H2.length:Int))=true:=dE BG8
                      clear BG8
                      by_cases Bn4:0≤u3
                      ·rw [if_pos Bn4] at H
                       have c103b0:decide (0≤u3)=true:=dE Bn4
                       clear Bn4
                       by_cases Bn5:0≤N3
                       ·rw [if_pos Bn5] at H
                        have c104b0:decide (0≤N3)=true:=dE Bn5
                        clear Bn5
                        by_cases c105:N3<(F0.length:Int)
                        ·rw [if_pos c105] at H
                         have c105b0:decide (N3<(F0.length:Int))=true:=dE c105
                         clear c105
                         by_cases Bn6:(rd H2 u3)=(rd F0 N3)
                         ·rw [if_pos Bn6] at H
                          exact nO H
                         ·rw [if_neg Bn6] at H
                          have c106b0:((rd H2 u3) == (rd F0 N3))=false:=beq_eq_false_iff_ne.mpr Bn6
                          have c106b1:((rd H2 u3) != (rd F0 N3))=true:=bne_iff_ne.mpr Bn6
                          have H':=aM H
                          clear H
                          try go_wp2
                          have n0_:=aM (Kd.R_drew H0.out)
                          have n1_:=aM (Kd.R_drew G8.out)
                          have n2_:=aM (Kd.R_drew C3.out)
                          have n3_:=aM (Kd.R_drew C5.out)
                          have n4_:=aM (Kd.R_drew C6.out)
                          have n5_:=aM (blk_drew C4.out)
                          have n6_:=aM (blk_drew C8.out)
                          have n7_:=aM (blk_drew D1.out)
                          have n8_:=aM (below_drew1 HB.out)
                          clear H0
                          clear G8
                          clear C3
                          clear C5
                          clear C6
                          clear C4
                          clear C8
                          clear D1
                          clear HB
                          have H0:=n0_
                          have G8:=n1_
                          have C3:=n2_
                          have C5:=n3_
                          have C6:=n4_
                          have C4:=n5_
                          have C8:=n6_
                          have D1:=n7_
                          have HB:=n8_
                          clear n0_ n1_ n2_ n3_ n4_ n5_ n6_ n7_ n8_
                          have B31:0≤(u3:Int):=dT (z1_)
                          have B32:u3<(H2.length:Int):=dT (z1_)
                          obtain ⟨Cy2,C97,Av3⟩:=Kd.at_int (Kd.R_reads' H0.out).2.2 u3 B31 B32
                          cases C97
                          replace B31:=eq_true B31
                          replace B32:=eq_true B32
                          have B34:0≤(N3:Int):=dT (z1_)
                          have B35:N3<(F0.length:Int):=dT (z1_)
                          obtain ⟨Cy3,C98,Av4⟩:=Kd.at_int (Kd.R_reads' G8.out).2.2 N3 B34 B35
                          cases C98
                          replace B34:=eq_true B34
                          replace B35:=eq_true B35
                          refine start_ (n:=9) (S:=fun w'=>w'.cell? (Cy2.add (u3).toNat)=some (.int .i64 (rd H2 u3))∧w'.cell? (Cy3.add (N3).toNat)=some (.int .i64 (rd F0 N3))) (ds:=[]) #[O,O,O,O,O,O,O,O,O] (by kernel_rfl) rfl rfl ⟨Av3,Av4⟩ (fun hHeld=>?_);refine with_tabW Y3.tab28 Y3.bits28 (fun HT_ HW_=>?_)
                          generalize wr.drew=w107 at H0 G8 C3 C5 C6 C4 C8 D1 HB Av3 Av4 hHeld ⊢
                          refine pu_ 0 171 #[I,O,O,O,O,O,O,O,O] HT_.out ?_
                          refine pu_ 1 172 #[I,I,O,O,O,O,O,O,O] HT_.out ?_
                          refine pu_ 2 173 #[I,I,I,O,O,O,O,O,O] HT_.out ?_
                          refine pu_ 4 175 #[I,I,I,O,I,O,O,O,O] HT_.out ?_
                          refine pu_ 5 176 #[I,I,I,O,I,I,O,O,O] HT_.out ?_
                          refine pu_ 6 177 #[I,I,I,O,I,I,I,O,O] HT_.out ?_
                          refine tk2_ 3 174 #[I,I,I,I,I,I,I,O,O] HT_.out HW_.out hHeld ?_
                          refine tk2_ 7 178 #[I,I,I,I,I,I,I,I,O] HT_.out HW_.out hHeld ?_
                          refine pu_ 8 179 #[I,I,I,I,I,I,I,I,I] HT_.out ?_
                          refine done_ (done_of HT_.out (by kernel_rfl)) ?_
                          try go_wp2
                          go_roundg k5
                          case measure=>have:=HJ2.out;have:=HK2.out;have:=BX0.out;have:=HK4.out;have:=HK5.out;omega
                          case rel=>exact ⟨(wrap64 (u3+1)),(z2_),H',⟨by have:=HJ2.out;have:=HK2.out;have:=BX0.out;have:=HK4.out;have:=HK5.out;omega⟩,⟨z0_ H0.out⟩,⟨z0_ G8.out⟩,⟨z0_ C3.out⟩,⟨z0_ C5.out⟩,⟨z0_ C6.out⟩,⟨z3_ C4.out⟩,⟨z3_ C8.out⟩,⟨z3_ D1.out⟩,⟨z10_ HB.out I6.out K1.out L4.out⟩⟩
                        ·rw [if_neg c105] at H
                         exact nO H
                       ·rw [if_neg Bn5] at H
                        exact nO H
                      ·rw [if_neg Bn4] at H
                       exact nO H
                     ·rw [if_neg BG8] at H
                      have c102b0:decide (u3<(H2.length:Int))=false:=dF BG8
                      clear BG8
                      have H':=aM H
                      clear H
                      go_wp2
                      go_loopg [23] k5 (fun kq v23 w'=>∃ (j9:Int),v23 = .int .i64 j9∧Aside0 (Y3.l4 kq H2 F0 N3 j9=some r)∧Aside0 (kq≤k5)∧Aside0 (Kd.R (Kd.int .i64) 2 w' w.heap.size (fun k_=>some k_≠((.slice AS2 F0.length AS3):Value).ownBlock) (.slice AP8 H2.length AN3) H2)∧Aside0 (Kd.R (Kd.int .i64) 2 w' w.heap.size (fun k_=>some k_≠((.slice AP8 H2.length AN3):Value).ownBlock) (.slice AS2 F0.length AS3) F0)∧Aside0 (Kd.R k78 78 w' w.heap.size (fun k_=>some k_≠((.slice f5 L2.length f6):Value).ownBlock∧some k_≠((.slice n0 N9.length i9):Value).ownBlock) (.slice S6 E3.length S1) E3)∧Aside0 (Kd.R k78 78 w' w.heap.size (fun k_=>some k_≠((.slice S6 E3.length S1):Value).ownBlock∧some k_≠((.slice n0 N9.length i9):Value).ownBlock) (.slice f5 L2.length f6) L2)∧Aside0 (Kd.R k78 78 w' w.heap.size (fun k_=>some k_≠((.slice S6 E3.length S1):Value).ownBlock∧some k_≠((.slice f5 L2.length f6):Value).ownBlock) (.slice n0 N9.length i9) N9)∧Aside0 (w'.heap[b7]? = some (.cells #[.int .i64 E9,(.slice S6 E3.length S1)] 27 (0,0)))∧Aside0 (w'.heap[AJ5]? = some (.cells #[.int .i64 W5,(.slice f5 L2.length f6)] 27 (0,0)))∧Aside0 (w'.heap[AN1]? = some (.cells #[.int .i64 l9,(.slice n0 N9.length i9)] 27 (0,0)))∧Aside0 (Below w.heap.size w w'))
                      case atStart=>exact ⟨(0),(z2_),H',⟨Nat.le_refl _⟩,⟨z0_ H0.out⟩,⟨z0_ G8.out⟩,⟨z0_ C3.out⟩,⟨z0_ C5.out⟩,⟨z0_ C6.out⟩,⟨z3_ C4.out⟩,⟨z3_ C8.out⟩,⟨z3_ D1.out⟩,⟨z10_ HB.out I6.out K1.out L4.out⟩⟩
                      case round=>as_aux_lemma =>
                       clear H'
                       try clear c1
                       try clear c2
                       try clear p2
                       try clear p6
                       try clear p7
                       try clear q7
                       try clear hx7
                       try clear c8
                       try clear c10
                       try clear c23
                       try clear c24
                       try clear p64
                       try clear p74
                       try clear q74
                       try clear hx74
                       try clear c82
                       try clear c84
                       try clear BG7
                       try clear BB8
                       try clear c101b0
                       try clear BG8
                       try clear c102b0
                       try clear Bn4
                       try clear c103b0
                       try clear Bn5
                       try clear c104b0
                       try clear c105
                       try clear c105b0
                       try clear Bn6
                       try clear c106b0
                       try clear c106b1
                       try clear Av3
                       try clear Av4
                       try clear p2
                       try clear B31
                       try clear B34
                       try clear B32
                       try clear B35
                       obtain ⟨j9,rfl,HA,HK6,H0,G8,C3,C5,C6,C4,C8,D1,HB⟩:=hrel
                       cases gk with
                       | zero=>exact absurd HA.out (by simp [Y3.l4])
                       | succ k6 =>
                        have H:=HA.out
                        clear HA
                        simp only [Y3.l4] at H
                        by_cases BX1:j9<N3
                        ·rw [if_pos BX1] at H
                         have c108b0:decide (j9<N3)=true:=dE BX1
                         clear BX1
                         by_cases c109:0≤j9
                         ·rw [if_pos c109] at H
                          have c109b0:decide (0≤j9)=true:=dE c109
                          clear c109
                          by_cases B36:j9<(F0.length:Int)
                          ·rw [if_pos B36] at H
                           have c110b0:decide (j9<(F0.length:Int))=true:=dE B36
                           clear B36
                           by_cases B37:0≤N3
                           ·rw [if_pos B37] at H
                            have c111b0:decide (0≤N3)=true:=dE B37
                            clear B37
                            by_cases B38:N3<(F0.length:Int)
                            ·rw [if_pos B38] at H
                             have c112b0:decide (N3<(F0.length:Int))=true:=dE B38
                             clear B38
                             by_cases B39:(rd F0 j9)=(rd F0 N3)
                             ·rw [if_pos B39] at H
                              exact nO H
                             ·rw [if_neg B39] at H
                              have c113b0:((rd F0 j9) == (rd F0 N3))=false:=beq_eq_false_iff_ne.mpr B39
                              have c113b1:((rd F0 j9) != (rd F0 N3))=true:=bne_iff_ne.mpr B39
                              have H':=aM H
                              clear H
                              try go_wp2
                              have n0_:=aM (Kd.R_drew H0.out)
                              have n1_:=aM (Kd.R_drew G8.out)
                              have n2_:=aM (Kd.R_drew C3.out)
                              have n3_:=aM (Kd.R_drew C5.out)
                              have n4_:=aM (Kd.R_drew C6.out)
                              have n5_:=aM (blk_drew C4.out)
                              have n6_:=aM (blk_drew C8.out)
                              have n7_:=aM (blk_drew D1.out)
                              have n8_:=aM (below_drew1 HB.out)
                              clear H0
                              clear G8
                              clear C3
                              clear C5
                              clear C6
                              clear C4
                              clear C8
                              clear D1
                              clear HB
                              have H0:=n0_
                              have G8:=n1_
                              have C3:=n2_
                              have C5:=n3_
                              have C6:=n4_
                              have C4:=n5_
                              have C8:=n6_
                              have D1:=n7_
                              have HB:=n8_
                              clear n0_ n1_ n2_ n3_ n4_ n5_ n6_ n7_ n8_
                              have CU0:0≤(j9:Int):=dT (z1_)
                              have CU1:j9<(F0.length:Int):=dT (z1_)
                              obtain ⟨Bn7,C99,BQ6⟩:=Kd.at_int (Kd.R_reads' G8.out).2.2 j9 CU0 CU1
                              cases C99
                              replace CU0:=eq_true CU0
                              replace CU1:=eq_true CU1
                              have CU2:0≤(N3:Int):=dT (z1_)
                              have CU3:N3<(F0.length:Int):=dT (z1_)
                              obtain ⟨Cy4,DA0,BQ7⟩:=Kd.at_int (Kd.R_reads' G8.out).2.2 N3 CU2 CU3
                              obtain rfl:Bn7=Cy4:=(by injection DA0)
                              replace CU2:=eq_true CU2
                              replace CU3:=eq_true CU3
                              refine start_ (n:=9) (S:=fun w'=>w'.cell? (Bn7.add (j9).toNat)=some (.int .i64 (rd F0 j9))∧w'.cell? (Bn7.add (N3).toNat)=some (.int .i64 (rd F0 N3))) (ds:=[]) #[O,O,O,O,O,O,O,O,O] (by kernel_rfl) rfl rfl ⟨BQ6,BQ7⟩ (fun hHeld=>?_);refine with_tabW Y3.tab33 Y3.bits33 (fun HT_ HW_=>?_)
                              generalize wr.drew=w114 at H0 G8 C3 C5 C6 C4 C8 D1 HB BQ6 BQ7 hHeld ⊢
                              refine pu_ 0 185 #[I,O,O,O,O,O,O,O,O] HT_.out ?_
                              refine pu_ 1 186 #[I,I,O,O,O,O,O,O,O] HT_.out ?_
                              refine pu_ 2 187 #[I,I,I,O,O,O,O,O,O] HT_.out ?_
                              refine pu_ 4 189 #[I,I,I,O,I,O,O,O,O] HT_.out ?_
                              refine pu_ 5 190 #[I,I,I,O,I,I,O,O,O] HT_.out ?_
                              refine pu_ 6 191 #[I,I,I,O,I,I,I,O,O] HT_.out ?_
                              refine tk2_ 3 188 #[I,I,I,I,I,I,I,O,O] HT_.out HW_.out hHeld ?_
                              refine tk2_ 7 192 #[I,I,I,I,I,I,I,I,O] HT_.out HW_.out hHeld ?_
                              refine pu_ 8 193 #[I,I,I,I,I,I,I,I,I] HT_.out ?_
                              refine done_ (done_of HT_.out (by kernel_rfl)) ?_
                              try go_wp2
                              go_roundg k6
                              case measure=>have:=HJ2.out;have:=HK2.out;have:=BX0.out;have:=HK4.out;have:=HK5.out;have:=HK6.out;omega
                              case rel=>exact ⟨(wrap64 (j9+1)),(z2_),H',⟨by have:=HJ2.out;have:=HK2.out;have:=BX0.out;have:=HK4.out;have:=HK5.out;have:=HK6.out;omega⟩,⟨z0_ H0.out⟩,⟨z0_ G8.out⟩,⟨z0_ C3.out⟩,⟨z0_ C5.out⟩,⟨z0_ C6.out⟩,⟨z3_ C4.out⟩,⟨z3_ C8.out⟩,⟨z3_ D1.out⟩,⟨z10_ HB.out I6.out K1.out L4.out⟩⟩
                            ·rw [if_neg B38] at H
                             exact nO H
                           ·rw [if_neg B37] at H
                            exact nO H
                          ·rw [if_neg B36] at H
                           exact nO H
                         ·rw [if_neg c109] at H
                          exact nO H
                        ·rw [if_neg BX1] at H
                         have c108b0:decide (j9<N3)=false:=dF BX1
                         clear BX1
                         have H':=aM H
                         clear H
                         go_wp2
                         go_roundg k6
                         case measure=>have:=HJ2.out;have:=HK2.out;have:=BX0.out;have:=HK4.out;have:=HK5.out;have:=HK6.out;omega
                         case rel=>exact ⟨(wrap64 (N3+1)),(z2_),H',⟨by have:=HJ2.out;have:=HK2.out;have:=BX0.out;have:=HK4.out;have:=HK5.out;have:=HK6.out;omega⟩,⟨z0_ H0.out⟩,⟨z0_ G8.out⟩,⟨z0_ C3.out⟩,⟨z0_ C5.out⟩,⟨z0_ C6.out⟩,⟨z3_ C4.out⟩,⟨z3_ C8.out⟩,⟨z3_ D1.out⟩,⟨z10_ HB.out I6.out K1.out L4.out⟩⟩
                  ·rw [if_neg BB8] at H
                   have c101b0:decide (N3<(F0.length:Int))=false:=dF BB8
                   clear BB8
                   obtain rfl:=sI H
                   go_wp2
                   go_ret
                   exact ⟨z8_,z10_ HB.out I6.out K1.out L4.out⟩
        ·rw [if_neg c29] at H
         exact nO H
       ·replace c26:=Bool.eq_false_iff.mpr c26
        subst c26
        have H1:(none)=some r:=by rw [if_neg (show ¬ (false=true) by decide)] at H;exact H
        clear H
        have H:=H1
        clear H1
        exact nO H
      ·replace c23:=Bool.eq_false_iff.mpr c23
       subst c23
       have H1:(none)=some r:=by rw [if_neg (show ¬ (false=true) by decide)] at H;exact H
       clear H
       have H:=H1
       clear H1
       exact nO H
     ·replace c19:=Bool.eq_false_iff.mpr c19
      subst c19
      have H1:(none)=some r:=by rw [if_neg (show ¬ (false=true) by decide)] at H;exact H
      clear H
      have H:=H1
      clear H1
      exact nO H
    ·replace c16:=Bool.eq_false_iff.mpr c16
     subst c16
     have H1:(none)=some r:=by rw [if_neg (show ¬ (false=true) by decide)] at H;exact H
     clear H
     have H:=H1
     clear H1
     exact nO H

end Go.Proofs.YtelecnmflodkkaaGreatDoor.P

namespace Go.Proofs.YtelecnmflodkkaaGreatDoor.P
open Go.RowKit
def Y3.Pure:Prop:=∀ (x0:List Int) (x1:List Int),(x0.length≤maxLen∧∀ y_ ∈ x0,(Lit.int .u8 y_).wf=true)→(x1.length≤maxLen∧∀ y_ ∈ x1,(Lit.int .u8 y_).wf=true)→∃ k,Y3.f k x0 x1=some true
end Go.Proofs.YtelecnmflodkkaaGreatDoor.P

namespace Go.Proofs.YtelecnmflodkkaaGreatDoor.Q
open Go.RowKit Go.Proofs.YtelecnmflodkkaaGreatDoorW.PrintWords Go.Proofs.YtelecnmflodkkaaGreatDoorW.PrintMore

theorem w64 {x:Int} (h0 : -9223372036854775808≤x) (h1:x≤9223372036854775807):wrap64 x=x:=by unfold wrap64;omega
theorem u64w (n:Int):IntKind.u64.wrap n=n % 18446744073709551616:=by simp [IntKind.wrap,IntKind.bits,IntKind.signed]
theorem evIte {α:Type} {c:Prop} [Decidable c] {f g:Nat→Option α} {r:α} (h:c→Ev f r) (h':¬ c→Ev g r):Ev (fun k=>if c then f k else g k) r:=by
  by_cases hc:c
  · simp only [if_pos hc];exact h hc
  · simp only [if_neg hc];exact h' hc
theorem evPos {α:Type} {c:Prop} [Decidable c] {f g:Nat→Option α} {r:α} (hc:c) (h:Ev f r):Ev (fun k=>if c then f k else g k) r:=by
  simp only [if_pos hc];exact h
theorem evNeg {α:Type} {c:Prop} [Decidable c] {f g:Nat→Option α} {r:α} (hc:¬ c) (h:Ev g r):Ev (fun k=>if c then f k else g k) r:=by
  simp only [if_neg hc];exact h
theorem evBind1 {α β:Type} {g:Option α} {f:Nat→α→Option β} {a:α} {r:β} (h:g=some a) (k:Ev (fun n=>f n a) r):Ev (fun n=>g.bind (f n)) r:=by
  subst h;exact k
theorem dropCons {α:Type} {l:List α} {i:Nat} {a:α} {s:List α} (h:l.drop i=a :: s) (d:α):i<l.length∧l.getD i d=a∧l.drop (i+1)=s:=by
  have hl:i<l.length:=by
    have:=congrArg List.length h
    simp at this;omega
  rw [List.drop_eq_getElem_cons hl] at h
  injection h with h1 h2
  exact ⟨hl,by rw [List.getD_eq_getElem?_getD,List.getElem?_eq_getElem hl];exact h1,h2⟩
theorem dropNil {α:Type} {l:List α} {i:Nat} (h:l.drop i=[]):l.length≤i:=by
  have:=congrArg List.length h
  simp at this;omega
theorem dropNil' {α:Type} {l:List α} {i:Nat} (h:l.drop i=[]) (hi:i≤l.length):l.length=i:=by
  have:=dropNil h;omega
theorem wraps_i64 (n:Int) (h₀:0≤n) (h₁:n<2 ^ 63):IntKind.i64.wrap n=n:=by rw [IntKind.wrap_i64];omega
end Go.Proofs.YtelecnmflodkkaaGreatDoor.Q

namespace Go.Proofs.YtelecnmflodkkaaGreatDoor.Q
open Go.RowKit Go.Proofs.YtelecnmflodkkaaGreatDoor.P Go.Proofs.YtelecnmflodkkaaGreatDoorW.PrintWords Go.Proofs.YtelecnmflodkkaaGreatDoorW.PrintMore

def isWithin (n low high:Int):Bool:=decide (low≤n) && decide (n≤high)
def isNode (n:Int):Bool:=isWithin n 1 5
theorem l02Is_is (n a b:Int):Y87.f n a b=some (isWithin n a b):=by
  unfold Y87.f isWithin
  split
  · rename_i h;simp [show a≤n from h]
  · rename_i h;simp [show ¬ a≤n from h]
theorem l02Node_is (n:Int):Y43.f n=some (isNode n):=by simp [Y43.f,l02Is_is,isNode]
theorem within_is (n a b:Int):Y59.f n a b=some (isWithin n a b):=by
  unfold Y59.f isWithin
  split
  · rename_i h;simp [show a≤n from h]
  · rename_i h;simp [show ¬ a≤n from h]
theorem isNode_is (n:Int):Y62.f n=some (isNode n):=by simp [Y62.f,within_is,isNode]
theorem isNode_iff (n:Int):isNode n=true ↔ 1≤n∧n≤5:=by simp [isNode,isWithin]
end Go.Proofs.YtelecnmflodkkaaGreatDoor.Q

namespace Go.Proofs.YtelecnmflodkkaaGreatDoor.P
open Go.RowKit Go.Proofs.YtelecnmflodkkaaGreatDoorW.PrintWords Go.Proofs.YtelecnmflodkkaaGreatDoorW.PrintLast Go.Proofs.YtelecnmflodkkaaGreatDoorW.PrintMore
attribute [local go_sem] max2_int min2_int max_two min_two max_three min_three max_four min_four   -- for this text's walks alone
set_option linter.unusedVariables false
set_option linter.unusedSimpArgs false

/-! ### Y96: function 157 -/
def Y96.f (B2:Int) (AL1:Int) (Q4:Int) (Ac2:Int):Option (Bool):=if B2=Q4 then (if AL1=Ac2 then (some true) else (none)) else (none)

/-! ### Y78: function 137 -/
def Y78.l0:Nat→List (S78)→List (S78)→Int→Option (Bool)
 | 0,_,_,_=>none
 | k+1,x0,x1,x5=>if x5<(x0.length:Int) then (if 0≤x5 then (if x5<(x1.length:Int) then ((Y96.f ((rd_T78 x0 x5).f0) ((rd_T78 x0 x5).f1) ((rd_T78 x1 x5).f0) ((rd_T78 x1 x5).f1)).bind fun DA1=>(if DA1=true then (Y78.l0 k x0 x1 (wrap64 (x5+1))) else (none))) else (none)) else (none)) else (some true)
def Y78.f (k:Nat) (l0:List (S78)) (l1:List (S78)):Option (Bool):=if (l0.length:Int)=(l1.length:Int) then (Y78.l0 k l0 l1 0) else (none)
theorem Y78.mono_l:∀ k,(∀ y0 y1 y2,LeO (Y78.l0 k y0 y1 y2) (Y78.l0 (k+1) y0 y1 y2))
 | 0=>by intros <;> exact LeO.none _
 | k+1=>by
  have ih0:=Y78.mono_l k
  ·intros
   unfold Y78.l0
   exact mO
theorem Y78.mono:∀ a0 a1 k,LeO (Y78.f k a0 a1) (Y78.f (k+1) a0 a1):=by
 intro a0 a1 k
 have ih0:=Y78.mono_l k
 unfold Y78.f
 exact mO

/-! ### Y71: function 144 -/
def Y71.l0:Nat→List (S78)→Int→Int→Option (Int × (List (S78)))
 | 0,_,_,_=>none
 | k+1,x0,x1,x5=>if x5<(x0.length:Int) then (if 0≤x5 then ((some (x0.set (x5:Int).toNat (⟨x1,(rd_T78 x0 x5).f1⟩:S78):List (S78))).bind fun Cy5=>(Y71.l0 k (Cy5.set (x5:Int).toNat (⟨(rd_T78 Cy5 x5).f0,wrap64 (x1+1)⟩:S78)) (wrap64 ((wrap64 (x1+1))+1)) (wrap64 (x5+1)))) else (none)) else (some (x1,x0))
def Y71.f (k:Nat) (l0:List (S78)) (a1:Int):Option (Int × (List (S78))):=Y71.l0 k l0 a1 0
theorem Y71.mono_l:∀ k,(∀ y0 y1 y2,LeO (Y71.l0 k y0 y1 y2) (Y71.l0 (k+1) y0 y1 y2))
 | 0=>by intros <;> exact LeO.none _
 | k+1=>by
  have ih0:=Y71.mono_l k
  ·intros
   unfold Y71.l0
   exact mO
theorem Y71.mono:∀ a0 a1 k,LeO (Y71.f k a0 a1) (Y71.f (k+1) a0 a1):=by
 intro a0 a1 k
 have ih0:=Y71.mono_l k
 unfold Y71.f
 exact mO

/-! ### Y72: function 146 -/
def Y72.l0:Nat→List (S78)→Int→Int→Option (Int)
 | 0,_,_,_=>none
 | k+1,x0,x1,x5=>if x5<(x0.length:Int) then (if 0≤x5 then (if ((rd_T78 x0 x5).f0)=x1 then (if ((rd_T78 x0 x5).f1)=(wrap64 (x1+1)) then (Y72.l0 k x0 (wrap64 ((wrap64 (x1+1))+1)) (wrap64 (x5+1))) else (none)) else (none)) else (none)) else (some x1)
def Y72.f (k:Nat) (l0:List (S78)) (a1:Int):Option (Int):=Y72.l0 k l0 a1 0
theorem Y72.mono_l:∀ k,(∀ y0 y1 y2,LeO (Y72.l0 k y0 y1 y2) (Y72.l0 (k+1) y0 y1 y2))
 | 0=>by intros <;> exact LeO.none _
 | k+1=>by
  have ih0:=Y72.mono_l k
  ·intros
   unfold Y72.l0
   exact mO
theorem Y72.mono:∀ a0 a1 k,LeO (Y72.f k a0 a1) (Y72.f (k+1) a0 a1):=by
 intro a0 a1 k
 have ih0:=Y72.mono_l k
 unfold Y72.f
 exact mO

/-! ### Y95: function 107 -/
def Y95.f (k:Nat) (B2:Int) (B0:List (S78)) (Q4:Int) (k9:List (S78)):Option (Bool):=if B2=Q4 then ((Y78.f k B0 k9).bind fun DA2=>(if DA2=true then (some true) else (none))) else (none)
theorem Y95.mono:∀ a0 a1 a2 a3 k,LeO (Y95.f k a0 a1 a2 a3) (Y95.f (k+1) a0 a1 a2 a3):=by
 intro a0 a1 a2 a3 k
 have m0:=@Y78.mono
 unfold Y95.f
 exact mO

/-! ### Y93: function 113 -/
def Y93.f (k:Nat) (B2:Int) (B0:List (S78)) (a1:Int):Option (Int × (List (S78))):=(Y71.f k B0 a1).bind fun CE2=>(some (CE2.1,CE2.2))
theorem Y93.mono:∀ a0 a1 a2 k,LeO (Y93.f k a0 a1 a2) (Y93.f (k+1) a0 a1 a2):=by
 intro a0 a1 a2 k
 have m0:=@Y71.mono
 unfold Y93.f
 exact mO

/-! ### Y94: function 120 -/
def Y94.f (k:Nat) (B2:Int) (B0:List (S78)) (a1:Int):Option (Int):=(Y72.f k B0 a1).bind fun Cy6=>(if Cy6<0 then (none) else (some Cy6))
theorem Y94.mono:∀ a0 a1 a2 k,LeO (Y94.f k a0 a1 a2) (Y94.f (k+1) a0 a1 a2):=by
 intro a0 a1 a2 k
 have m0:=@Y72.mono
 unfold Y94.f
 exact mO
end Go.Proofs.YtelecnmflodkkaaGreatDoor.P

namespace Go.Proofs.YtelecnmflodkkaaGreatDoor.Q
open Go.RowKit Go.Proofs.YtelecnmflodkkaaGreatDoor.P Go.Proofs.YtelecnmflodkkaaGreatDoorW.PrintWords Go.Proofs.YtelecnmflodkkaaGreatDoorW.PrintMore

abbrev Tok:=S78
end Go.Proofs.YtelecnmflodkkaaGreatDoor.Q

namespace Go.Proofs.YtelecnmflodkkaaGreatDoor.Q
open Go.RowKit Go.Proofs.YtelecnmflodkkaaGreatDoor.P Go.Proofs.YtelecnmflodkkaaGreatDoorW.PrintWords Go.Proofs.YtelecnmflodkkaaGreatDoorW.PrintMore

theorem evMono {α:Type} {g:Nat→Option α} {r:α} (hm:∀ k,LeO (g k) (g (k+1))) (K:Nat) (h:g K=some r):Ev g r:=⟨K,fun k hk=>by
  obtain ⟨d,rfl⟩:=Nat.exists_eq_add_of_le hk
  induction d with
  | zero=>exact h
  | succ d ih=>exact hm _ _ (ih (by omega))⟩
def eqToks:List Tok→List Tok→Bool
  | [],[]=>true
  | x :: a,y :: b=>(x.f0 == y.f0 && x.f1 == y.f1) && eqToks a b
  | _,_=>false
theorem eqToks_eq:∀ a b:List Tok,eqToks a b=true→a=b
  | [],[],_=>rfl
  | x :: a,y :: b,h=>by
    simp only [eqToks,Bool.and_eq_true,beq_iff_eq] at h
    obtain ⟨⟨h1,h2⟩,h3⟩:=h
    obtain ⟨x0,x1⟩:=x
    obtain ⟨y0,y1⟩:=y
    simp only at h1 h2
    rw [h1,h2,eqToks_eq a b h3]
  | [],_ :: _,h=>by simp [eqToks] at h
  | _ :: _,[],h=>by simp [eqToks] at h
def ringRounds:Nat:=3000
def ringT (n e:Int):List Tok:=match Y25.f ringRounds n e with
  | some x=>x.2
  | none=>[]
def ringTest (n e:Nat):Bool:=match Y28.f ringRounds (n:Int) (e:Int),Y25.f ringRounds (n:Int) (e:Int) with
  | some x,some y=>x.1 == (n:Int) && (y.1 == (n:Int) && (eqToks x.2 y.2 && y.2.length == n*e))
  | _,_=>false
set_option maxRecDepth 1000000 in
theorem ring_all:(List.range 40).all (fun j=>ringTest (j / 8+1) (j % 8+1))=true:=by kernel_rfl
theorem ring_is {n e:Int} (hn:isNode n=true) (he:isWithin e 1 8=true) :
    Ev (fun k=>Y28.f k n e) (n,ringT n e)∧Ev (fun k=>Y25.f k n e) (n,ringT n e)∧((ringT n e).length:Int)=n*e:=by
  rw [isNode_iff] at hn
  simp only [isWithin,Bool.and_eq_true,decide_eq_true_eq] at he
  obtain ⟨n,rfl⟩:=Int.eq_ofNat_of_zero_le (show 0≤n by omega)
  obtain ⟨e,rfl⟩:=Int.eq_ofNat_of_zero_le (show 0≤e by omega)
  have h:=List.all_eq_true.1 ring_all ((n-1)*8+(e-1)) (List.mem_range.2 (by omega))
  rw [show ((n-1)*8+(e-1)) / 8+1=n by omega,show ((n-1)*8+(e-1)) % 8+1=e by omega] at h
  unfold ringTest at h
  split at h
  · rename_i x y hx hy
    simp only [Bool.and_eq_true,beq_iff_eq] at h
    obtain ⟨h1,h2,h3,h4⟩:=h
    have h5:=eqToks_eq _ _ h3
    have ht:ringT (n:Int) (e:Int)=y.2:=by unfold ringT;rw [hy]
    obtain ⟨x1,x2⟩:=x
    obtain ⟨y1,y2⟩:=y
    simp only at h1 h2 h4 h5 ht
    clear h3
    subst h1
    subst h2
    subst h5
    rw [ht]
    refine ⟨evMono (fun k=>Y28.mono _ _ k) ringRounds hx,evMono (fun k=>Y25.mono _ _ k) ringRounds hy,?_⟩
    rw [h4]
    simp
  · cases h
theorem ringT_length {n e:Int} (hn:isNode n=true) (he:isWithin e 1 8=true):(ringT n e).length≤40:=by
  have h:=(ring_is hn he).2.2
  rw [isNode_iff] at hn
  simp only [isWithin,Bool.and_eq_true,decide_eq_true_eq] at he
  have h1:n*e≤5*8:=by
    have a:=Int.mul_le_mul_of_nonneg_right (show n≤5 by omega) (show 0≤e by omega)
    have b:=Int.mul_le_mul_of_nonneg_left (show e≤8 by omega) (show (0:Int)≤5 by omega)
    omega
  omega
def ringNew (n e:Int):Int × List Tok × Int:=if (isNode n && isWithin e 1 8)=true then (n,ringT n e,0) else (0,[],1)
theorem ringNew_length (n e:Int):(ringNew n e).2.1.length≤40:=by
  unfold ringNew
  split
  · rename_i h
    simp only [Bool.and_eq_true] at h
    exact ringT_length h.1 h.2
  · simp
theorem impl_RingNew_ev (n e:Int):Ev (fun k=>Y41.f k n e) (ringNew n e):=by
  unfold Y41.f ringNew
  have jT:Ev (fun k=>Y41.j0 k n e true) (0,[],1):=Ev.step (f:=fun _=>some (0,[],1)) (fun k=>by simp [Y41.j0]) (Ev.now _)
  refine evBind1 (isNode_is _) ?_
  cases hn:isNode n with
  | false=>exact evNeg (by simp) jT
  | true =>
    refine evPos rfl (evBind1 (within_is _ _ _) ?_)
    cases he:isWithin e 1 8 with
    | false=>exact jT
    | true=>exact Ev.step (fun k=>by simp only [Y41.j0];rw [if_neg (by simp)]) (Ev.bind (ring_is hn he).1 (Ev.now _))
theorem spec_RingNew_ev (n e:Int):Ev (fun k=>Y40.f k n e) (ringNew n e):=by
  unfold Y40.f ringNew
  have jT:Ev (fun k=>Y40.j0 k n e true) (0,[],1):=Ev.step (f:=fun _=>some (0,[],1)) (fun k=>by simp [Y40.j0]) (Ev.now _)
  refine evBind1 (l02Node_is _) ?_
  cases hn:isNode n with
  | false=>exact evNeg (by simp) jT
  | true =>
    refine evPos rfl (evBind1 (l02Is_is _ _ _) ?_)
    cases he:isWithin e 1 8 with
    | false=>exact jT
    | true=>exact Ev.step (fun k=>by simp only [Y40.j0];rw [if_neg (by simp)]) (Ev.bind (ring_is hn he).2.1 (Ev.now _))
def ringOk (n:Int) (l:List Tok):Bool:=isNode n && (isWithin ((l.length:Int) / n) 1 8 && eqToks l (ringT n ((l.length:Int) / n)))
theorem tokNe (x y:Tok):(!(x.f0 == y.f0) || (!(x.f1 == y.f1)))=!(x.f0 == y.f0 && x.f1 == y.f1):=by
  cases x.f0 == y.f0 <;> cases x.f1 == y.f1 <;> rfl
theorem equal_l0 (l m:List Tok) (hl:l.length≤1048576) (hm:m.length=l.length):∀ (s t:List Tok) (i:Nat),l.drop i=s→m.drop i=t→i≤l.length →
    Ev (fun k=>Y13.l0 k l m (l.length:Int) (i:Int)) (eqToks s t)
  | [],t,i,h,h',hi=>by
    have e:=dropNil' h hi
    have:t=[]:=by rw [← h',List.drop_eq_nil_of_le (by omega)]
    subst this
    refine Ev.step (f:=fun _=>some true) (fun k=>?_) (Ev.now _)
    simp only [Y13.l0]
    rw [if_neg (by omega)]
  | x :: s,[],i,h,h',hi=>by
    have a:=(dropCons h z78).1
    have b:=dropNil h'
    omega
  | x :: s,y :: t,i,h,h',hi=>by
    obtain ⟨h1,h2,h3⟩:=dropCons h z78
    obtain ⟨g1,g2,g3⟩:=dropCons h' z78
    have hr:rd_T78 l (i:Int)=x:=by simpa [rd_T78] using h2
    have gr:rd_T78 m (i:Int)=y:=by simpa [rd_T78] using g2
    have ih:=equal_l0 l m hl hm s t (i+1) h3 g3 (by omega)
    refine Ev.step (fun k=>by simp only [Y13.l0,hr,gr,tokNe];rw [if_pos (by omega),if_pos (by omega),if_pos (by omega),if_pos (by omega)]) ?_
    unfold eqToks
    cases x.f0 == y.f0 && x.f1 == y.f1 with
    | false=>exact evPos (by rfl) (Ev.now _)
    | true =>
      refine evNeg (by simp) ?_
      rw [w64 (by omega) (by omega)]
      exact ih
theorem eqToks_length:∀ a b:List Tok,a.length≠b.length→eqToks a b=false:=fun a b h=>by
  cases e:eqToks a b with
  | false=>rfl
  | true=>exact absurd (by rw [eqToks_eq a b e]) h
theorem Equal_ev (l m:List Tok) (hl:l.length≤1048576):Ev (fun k=>Y13.f k l m) (eqToks l m):=by
  unfold Y13.f
  refine evIte (fun h=>?_) (fun h=>?_)
  · exact equal_l0 l m hl (by omega) l m 0 rfl rfl (by omega)
  · rw [eqToks_length l m (by omega)]
    exact Ev.now _
theorem impl_RingRight_ev (n:Int) (l:List Tok) (hl:l.length≤1048576):Ev (fun k=>Y12.f k n l) (ringOk n l):=by
  unfold Y12.f ringOk
  refine evBind1 (isNode_is _) ?_
  cases hn:isNode n with
  | false=>exact evNeg (by simp) (Ev.now _)
  | true =>
    have hn':=(isNode_iff n).1 hn
    have hd:wrap64 ((l.length:Int) / n)=(l.length:Int) / n:=by
      have a:=Int.ediv_nonneg (show (0:Int)≤(l.length:Int) by omega) (show 0≤n by omega)
      have b:=Int.ediv_le_self n (show (0:Int)≤(l.length:Int) by omega)
      exact w64 (by omega) (by omega)
    rw [hd]
    refine evPos rfl (evNeg (by omega) (evBind1 (within_is _ _ _) ?_))
    cases he:isWithin ((l.length:Int) / n) 1 8 with
    | false=>exact evNeg (by simp) (Ev.now _)
    | true=>exact evPos rfl (Ev.bind (ring_is hn he).1 (Ev.bind (Equal_ev l _ hl) (Ev.now _)))
theorem specRight_l0 (n n':Int) (l m:List Tok) (hl:l.length≤1048576) (hm:m.length=l.length):∀ (s t:List Tok) (i:Nat),l.drop i=s→m.drop i=t→i≤l.length →
    Ev (fun k=>Y6.l0 k (i:Int) n l n' m) (eqToks s t)
  | [],t,i,h,h',hi=>by
    have e:=dropNil' h hi
    have:t=[]:=by rw [← h',List.drop_eq_nil_of_le (by omega)]
    subst this
    refine Ev.step (f:=fun _=>some true) (fun k=>?_) (Ev.now _)
    simp only [Y6.l0]
    rw [if_neg (by omega)]
  | x :: s,[],i,h,h',hi=>by
    have a:=(dropCons h z78).1
    have b:=dropNil h'
    omega
  | x :: s,y :: t,i,h,h',hi=>by
    obtain ⟨h1,h2,h3⟩:=dropCons h z78
    obtain ⟨g1,g2,g3⟩:=dropCons h' z78
    have hr:rd_T78 l (i:Int)=x:=by simpa [rd_T78] using h2
    have gr:rd_T78 m (i:Int)=y:=by simpa [rd_T78] using g2
    have ih:=specRight_l0 n n' l m hl hm s t (i+1) h3 g3 (by omega)
    refine Ev.step (fun k=>by simp only [Y6.l0,hr,gr,tokNe];rw [if_pos (by omega),if_pos (by omega),if_pos (by omega)]) ?_
    unfold eqToks
    cases x.f0 == y.f0 && x.f1 == y.f1 with
    | false=>exact evPos (by rfl) (Ev.now _)
    | true =>
      refine evNeg (by simp) ?_
      rw [w64 (by omega) (by omega)]
      exact ih
theorem spec_RingRight_ev (n:Int) (l:List Tok) (hl:l.length≤1048576):Ev (fun k=>Y6.f k n l) (ringOk n l):=by
  unfold Y6.f ringOk
  have jT:Ev (fun k=>Y6.j0 k true n l) false:=Ev.step (f:=fun _=>some false) (fun k=>by simp [Y6.j0]) (Ev.now _)
  refine evBind1 (l02Node_is _) ?_
  cases hn:isNode n with
  | false=>exact evNeg (by simp) jT
  | true =>
    have hn':=(isNode_iff n).1 hn
    have a:=Int.ediv_nonneg (show (0:Int)≤(l.length:Int) by omega) (show 0≤n by omega)
    have b:=Int.ediv_le_self n (show (0:Int)≤(l.length:Int) by omega)
    have hq:=Int.mul_ediv_add_emod (l.length:Int) n
    have hm0:=Int.emod_nonneg (l.length:Int) (show n≠0 by omega)
    have hm1:=Int.emod_lt_of_pos (l.length:Int) (show 0<n by omega)
    rw [w64 (x:=8*n) (by omega) (by omega)]
    -- where the lengths do not fit, the two are not the same
    have no:(isWithin ((l.length:Int) / n) 1 8 && eqToks l (ringT n ((l.length:Int) / n)))=true→1≤(l.length:Int)∧(l.length:Int)≤8*n∧(l.length:Int) % n=0:=by
      intro h
      simp only [Bool.and_eq_true] at h
      have hL:=(ring_is hn h.1).2.2
      rw [← eqToks_eq _ _ h.2] at hL
      have hw:=h.1
      simp only [isWithin,Bool.and_eq_true,decide_eq_true_eq] at hw
      have h8:n*((l.length:Int) / n)≤n*8:=Int.mul_le_mul_of_nonneg_left (by omega) (by omega)
      have h9:n*1≤n*((l.length:Int) / n):=Int.mul_le_mul_of_nonneg_left (by omega) (by omega)
      refine ⟨by omega,by omega,by omega⟩
    have fl:(¬ (1≤(l.length:Int)∧(l.length:Int)≤8*n∧(l.length:Int) % n=0))→(isWithin ((l.length:Int) / n) 1 8 && eqToks l (ringT n ((l.length:Int) / n)))=false:=fun h=>by
      cases e:(isWithin ((l.length:Int) / n) 1 8 && eqToks l (ringT n ((l.length:Int) / n))) with
      | false=>rfl
      | true=>exact absurd (no e) h
    refine evPos rfl ?_
    rw [Bool.true_and]
    by_cases c1:(l.length:Int)<1
    · rw [fl (by omega)];exact evPos c1 jT
    · refine evNeg c1 ?_
      by_cases c2:(l.length:Int)>8*n
      · rw [fl (by omega)];exact evPos c2 jT
      · refine evNeg c2 (evNeg (by omega) ?_)
        by_cases c3:(l.length:Int) % n=0
        · have e3:((l.length:Int) % n != 0)=false:=by simp [c3]
          rw [e3]
          have hlo:1≤(l.length:Int) / n:=by
            apply Int.not_lt.1
            intro hlt
            have:(l.length:Int) / n=0:=by omega
            rw [this] at hq
            omega
          have hhi:(l.length:Int) / n≤8:=by
            apply Int.not_lt.1
            intro hlt
            have:n*9≤n*((l.length:Int) / n):=Int.mul_le_mul_of_nonneg_left (by omega) (by omega)
            omega
          have he:isWithin ((l.length:Int) / n) 1 8=true:=by simp only [isWithin,Bool.and_eq_true,decide_eq_true_eq];omega
          have hL:=(ring_is hn he).2.2
          rw [he,Bool.true_and]
          refine Ev.step (fun k=>by simp only [Y6.j0];rw [if_neg (by simp),if_neg (by omega),w64 (x:=(l.length:Int) / n) (by omega) (by omega)]) (Ev.bind (ring_is hn he).2.1 ?_)
          exact specRight_l0 n n l (ringT n ((l.length:Int) / n)) hl (by omega) l _ 0 rfl rfl (by omega)
        · have e3:((l.length:Int) % n != 0)=true:=by simp [c3]
          rw [e3,fl (by omega)]
          exact jT
end Go.Proofs.YtelecnmflodkkaaGreatDoor.Q

namespace Go.Proofs.YtelecnmflodkkaaGreatDoor.Q
open Go.RowKit Go.Proofs.YtelecnmflodkkaaGreatDoor.P Go.Proofs.YtelecnmflodkkaaGreatDoorW.PrintWords Go.Proofs.YtelecnmflodkkaaGreatDoorW.PrintMore

def firstLong:List ByteArray→Int→Int
  | [],_ => -1
  | a :: s,i=>if 8000<a.size then i else firstLong s (i+1)
theorem firstLong_any:∀ (s:List ByteArray) (i:Int),0≤i→decide (firstLong s i≥0)=s.any fun a=>decide (8000<a.size)
  | [],i,h=>by simp [firstLong]
  | a :: s,i,h=>by
    have ih:=firstLong_any s (i+1) (by omega)
    by_cases ha:8000<a.size
    · simp [firstLong,ha,h]
    · rw [firstLong,if_neg ha,ih,List.any_cons]
      simp [ha]
theorem isLong_l0 (l:List ByteArray) (hl:l.length≤4611686018427387904):∀ (s:List ByteArray) (i:Nat),l.drop i=s→i≤l.length →
    Ev (fun k=>Y11.l0 k l (l.length:Int) (i:Int)) (firstLong s i)
  | [],i,h,hi=>by
    have:=dropNil' h hi
    refine Ev.step (f:=fun _=>some (-1)) (fun k=>?_) (Ev.now _)
    simp only [Y11.l0]
    rw [if_neg (by omega)]
  | a :: s,i,h,hi=>by
    obtain ⟨h1,h2,h3⟩:=dropCons h ByteArray.empty
    have ih:=isLong_l0 l hl s (i+1) h3 (by omega)
    by_cases ha:8000<a.size
    · refine Ev.step (f:=fun _=>some (firstLong (a :: s) i)) (fun k=>?_) (Ev.now _)
      simp only [Y11.l0,Y88.f,rdOf,Int.toNat_natCast,h2]
      rw [if_pos (by omega),if_pos (by omega),if_pos (by omega)]
      simp [firstLong,ha]
      omega
    · refine Ev.step (fun k=>?_) (show Ev _ (firstLong (a :: s) i) from by simp only [firstLong,if_neg ha];exact ih)
      simp only [Y11.l0,Y88.f,rdOf,Int.toNat_natCast,h2]
      rw [if_pos (by omega),if_pos (by omega),if_pos (by omega),w64 (by omega) (by omega)]
      have:¬ ((a.size:Int)>8000):=by omega
      simp [this]
theorem isLong_ev (l:List ByteArray) (hl:l.length≤4611686018427387904):Ev (fun k=>Y69.f k l) (l.any fun a=>decide (8000<a.size)):=by
  unfold Y69.f Y35.f Y11.f
  have h:=isLong_l0 l hl l 0 rfl (by omega)
  refine Ev.bind (Ev.bind h (Ev.now _)) ?_
  have e:=firstLong_any l 0 (by omega)
  rw [show ((0:Nat):Int)=0 from rfl,e]
  exact Ev.now _
theorem isLong1_ev (a:ByteArray):Ev (fun k=>Y69.f k ([a]:List ByteArray)) (decide (8000<a.size)):=by
  have:=isLong_ev [a] (by simp)
  simpa using this
end Go.Proofs.YtelecnmflodkkaaGreatDoor.Q

namespace Go.Proofs.YtelecnmflodkkaaGreatDoor.Q
open Go.RowKit Go.Proofs.YtelecnmflodkkaaGreatDoor.P Go.Proofs.YtelecnmflodkkaaGreatDoorW.PrintWords Go.Proofs.YtelecnmflodkkaaGreatDoorW.PrintMore

def lowCh (c:Int):Bool:=decide (97≤c) && decide (c≤122)
def nameCh (c:Int):Bool:=lowCh c || (decide (48≤c) && decide (c≤57)) || decide (c=95)
def nameList:List Int→Bool
  | []=>false
  | c :: r=>lowCh c && r.all nameCh
def nameOk (s:ByteArray):Bool:=decide (s.size≤20) && nameList (bytesOf s)
theorem bt_of {s:ByteArray} {i:Nat} {c:Int} (h:(bytesOf s).getD i 0=c):bt s (i:Int)=c:=by
  rw [← rd_bytesOf];simpa [rd] using h
theorem spec_name_round (s:ByteArray) (k i:Nat) (hi:i<s.size) (h1:1≤i) (hs:s.size≤1048576) :
    Y15.l0 (k+1) s (i:Int)=if nameCh (bt s i) then Y15.l0 k s ((i+1:Nat):Int) else some false:=by
  simp only [Y15.l0]
  rw [if_pos (by omega),if_pos (by omega),w64 (by omega) (by omega)]
  have h0:¬ ((i:Int)=0):=by omega
  simp only [if_neg h0,nameCh,lowCh]
  generalize bt s i=c
  by_cases h1:97≤c <;> by_cases h2:c≤122 <;> by_cases h3:48≤c <;> by_cases h4:c≤57 <;> by_cases h5:c=95 <;> first | (exfalso;omega) | simp [ge_iff_le,h1,h2,h3,h4,h5]
theorem spec_name_first (s:ByteArray) (k:Nat) (hi:0<s.size) (hs:s.size≤1048576) :
    Y15.l0 (k+1) s 0=if lowCh (bt s 0) then Y15.l0 k s 1 else some false:=by
  simp only [Y15.l0]
  rw [if_pos (by omega),if_pos (by omega),w64 (by omega) (by omega)]
  simp only [if_true,lowCh,Int.zero_add]
  generalize bt s 0=c
  by_cases h1:97≤c <;> by_cases h2:c≤122 <;> first | (exfalso;omega) | simp [ge_iff_le,h1,h2]
theorem spec_name_l0 (s:ByteArray) (hs:s.size≤1048576):∀ (r:List Int) (i:Nat),(bytesOf s).drop i=r→i≤s.size→1≤i→Ev (fun k=>Y15.l0 k s (i:Int)) (r.all nameCh)
  | [],i,h,hi,h1=>by
    have:=dropNil h
    rw [bytesOf_length] at this
    refine Ev.step (f:=fun _=>some true) (fun k=>?_) (Ev.now _)
    simp only [Y15.l0]
    rw [if_neg (by omega)]
  | c :: r,i,h,hi,h1=>by
    obtain ⟨g1,g2,g3⟩:=dropCons h 0
    rw [bytesOf_length] at g1
    have hb:=bt_of g2
    refine Ev.step (fun k=>spec_name_round s k i g1 h1 hs) ?_
    rw [hb]
    refine evIte (fun hc=>?_) (fun hc=>?_)
    · simp only [List.all_cons,hc,Bool.true_and];exact spec_name_l0 s hs r (i+1) g3 (by omega) (by omega)
    · simp only [List.all_cons,Bool.eq_false_iff.mpr hc,Bool.false_and];exact Ev.now _
theorem spec_NameRight_ev (s:ByteArray) (hs:s.size≤1048576):Ev (fun k=>Y15.f k s) (nameOk s):=by
  have hl:=bytesOf_length s
  unfold Y15.f nameOk
  refine evIte (fun h=>?_) (fun h=>?_)
  · refine Ev.step (f:=fun _=>some false) (fun k=>by simp only [Y15.j0];rw [if_pos trivial]) ?_
    have:bytesOf s=[]:=by rw [← List.length_eq_zero_iff,hl];omega
    simp only [this,nameList,Bool.and_false]
    exact Ev.now _
  · by_cases h20:(s.size:Int)>20
    · refine Ev.step (f:=fun _=>some false) (fun k=>by simp only [Y15.j0];rw [if_pos (by simpa using h20)]) ?_
      have:¬ s.size≤20:=by omega
      simp only [this,decide_false,Bool.false_and]
      exact Ev.now _
    · refine Ev.step (fun k=>by simp only [Y15.j0];rw [if_neg (by simpa using h20)]) ?_
      have h20':s.size≤20:=by omega
      simp only [h20',decide_true,Bool.true_and]
      cases hb:bytesOf s with
      | nil=>rw [hb] at hl;simp at hl;omega
      | cons c r =>
        have hc:bt s ((0:Nat):Int)=c:=bt_of (by rw [hb];rfl)
        refine Ev.step (fun k=>spec_name_first s k (by omega) hs) ?_
        rw [show (0:Int)=((0:Nat):Int) from rfl,hc]
        refine evIte (fun h1=>?_) (fun h1=>?_)
        · simp only [nameList,h1,Bool.true_and]
          exact spec_name_l0 s hs r 1 (by rw [hb];rfl) (by omega) (by omega)
        · simp only [nameList,Bool.eq_false_iff.mpr h1,Bool.false_and];exact Ev.now _
theorem impl_name_round (s:ByteArray) (k i:Nat) (hi:i<s.size) (hs:s.size≤140737488351232) :
    Y23.l0 (k+1) s (s.size:Int) (i:Int)=if nameCh (bt s i) then Y23.l0 k s (s.size:Int) ((i+1:Nat):Int) else some false:=by
  simp only [Y23.l0]
  rw [if_pos (by omega),if_pos (by omega),if_pos (by omega),w64 (by omega) (by omega)]
  simp only [nameCh,lowCh]
  generalize bt s i=c
  by_cases h1:97≤c <;> by_cases h2:c≤122 <;> by_cases h3:48≤c <;> by_cases h4:c≤57 <;> by_cases h5:c=95 <;> first | (exfalso;omega) | simp [ge_iff_le,h1,h2,h3,h4,h5]
theorem impl_name_l0 (s:ByteArray) (hs:s.size≤140737488351232):∀ (r:List Int) (i:Nat),(bytesOf s).drop i=r→i≤s.size→Ev (fun k=>Y23.l0 k s (s.size:Int) (i:Int)) (r.all nameCh)
  | [],i,h,hi=>by
    have:=dropNil h
    rw [bytesOf_length] at this
    refine Ev.step (f:=fun _=>some true) (fun k=>?_) (Ev.now _)
    simp only [Y23.l0]
    rw [if_neg (by omega)]
  | c :: r,i,h,hi=>by
    obtain ⟨g1,g2,g3⟩:=dropCons h 0
    rw [bytesOf_length] at g1
    have hb:=bt_of g2
    refine Ev.step (fun k=>impl_name_round s k i g1 hs) ?_
    rw [hb]
    refine evIte (fun hc=>?_) (fun hc=>?_)
    · simp only [List.all_cons,hc,Bool.true_and];exact impl_name_l0 s hs r (i+1) g3 (by omega)
    · simp only [List.all_cons,Bool.eq_false_iff.mpr hc,Bool.false_and];exact Ev.now _
theorem low_name {c:Int} (h:lowCh c=true):nameCh c=true:=by simp [nameCh,h]
theorem impl_NameRight_ev (s:ByteArray) (hs:s.size≤140737488351232):Ev (fun k=>Y23.f k s) (nameOk s):=by
  have hl:=bytesOf_length s
  unfold Y23.f nameOk Y92.f
  refine evBind1 rfl (evBind1 (within_is _ _ _) ?_)
  refine evIte (fun h=>?_) (fun h=>?_)
  · have hw:1≤(s.size:Int)∧(s.size:Int)≤20:=by simpa [isWithin] using h
    refine evPos (by omega) ?_
    have h20':s.size≤20:=by omega
    simp only [h20',decide_true,Bool.true_and]
    cases hb:bytesOf s with
    | nil=>rw [hb] at hl;simp at hl;omega
    | cons c r =>
      have hc:bt s ((0:Nat):Int)=c:=bt_of (by rw [hb];rfl)
      have hc':bt s 0=c:=hc
      rw [hc']
      refine evIte (fun h1=>?_) (fun h1=>?_)
      · refine Ev.step (f:=fun _=>some false) (fun k=>by simp only [Y23.j0];rw [if_pos trivial]) ?_
        have:lowCh c=false:=by simp [lowCh];omega
        simp only [nameList,this,Bool.false_and];exact Ev.now _
      · by_cases h2:c>122
        · refine Ev.step (f:=fun _=>some false) (fun k=>by simp only [Y23.j0];rw [if_pos (by simpa using h2)]) ?_
          have:lowCh c=false:=by simp [lowCh];omega
          simp only [nameList,this,Bool.false_and];exact Ev.now _
        · refine Ev.step (fun k=>by simp only [Y23.j0];rw [if_neg (by simpa using h2)]) ?_
          have hlow:lowCh c=true:=by simp [lowCh];omega
          simp only [nameList,hlow,Bool.true_and]
          have:=impl_name_l0 s hs (c :: r) 0 (by rw [hb];rfl) (by omega)
          simpa [low_name hlow] using this
  · refine Ev.step (f:=fun _=>some false) (fun k=>by simp only [Y23.j0];rw [if_pos trivial]) ?_
    have hw:isWithin (s.size:Int) 1 20=false:=by simpa using h
    have:(decide (s.size≤20) && nameList (bytesOf s))=false:=by
      by_cases h20:s.size≤20
      · have:bytesOf s=[]:=by
          rw [← List.length_eq_zero_iff,hl]
          simp [isWithin] at hw;omega
        simp [this,nameList]
      · simp [h20]
    rw [this]
    exact Ev.now _
end Go.Proofs.YtelecnmflodkkaaGreatDoor.Q

namespace Go.Proofs.YtelecnmflodkkaaGreatDoor.Q
open Go.RowKit Go.Proofs.YtelecnmflodkkaaGreatDoor.P Go.Proofs.YtelecnmflodkkaaGreatDoorW.PrintWords Go.Proofs.YtelecnmflodkkaaGreatDoorW.PrintMore

theorem bits_xor_nat (k:IntKind) (j:Nat) (hj:j≤k.bits) (hk:∀ n:Int,0≤n→n<2 ^ j→k.wrap n=n) (a b:Nat) (ha:a<2 ^ j) (hb:b<2 ^ j):bits .xor k a b=((a ^^^ b:Nat):Int):=by
  have hp:2 ^ j≤2 ^ k.bits:=Nat.pow_le_pow_right (by decide) hj
  have ha':a % 2 ^ k.bits=a:=Nat.mod_eq_of_lt (Nat.lt_of_lt_of_le ha hp)
  have hb':b % 2 ^ k.bits=b:=Nat.mod_eq_of_lt (Nat.lt_of_lt_of_le hb hp)
  simp only [bits,BitVec.ofInt_natCast,BitVec.toNat_xor,BitVec.toNat_ofNat,ha',hb']
  exact hk _ (Int.natCast_nonneg _) (by exact_mod_cast Nat.xor_lt_two_pow ha hb)
theorem wraps_u32 (n:Int) (h₀:0≤n) (h₁:n<2 ^ 32):IntKind.u32.wrap n=n:=by rw [IntKind.wrap_u32];omega
theorem xor_range (a b:Int) (ha:0≤a) (ha':a<4294967296) (hb:0≤b) (hb':b<256) :
    Go.bits .xor .i64 a b=Go.bits .xor .u32 a b∧0≤Go.bits .xor .u32 a b∧Go.bits .xor .u32 a b<4294967296:=by
  obtain ⟨m,rfl⟩:=Int.eq_ofNat_of_zero_le ha
  obtain ⟨n,rfl⟩:=Int.eq_ofNat_of_zero_le hb
  have hm:m<2 ^ 32:=by omega
  have hn:n<2 ^ 32:=by omega
  have e1:=bits_xor_nat .u32 32 (by decide) wraps_u32 m n hm hn
  have e2:=bits_xor_nat .i64 63 (by decide) wraps_i64 m n (by omega) (by omega)
  have h:=Nat.xor_lt_two_pow hm hn
  rw [e1,e2]
  refine ⟨rfl,by omega,by omega⟩
def fnvStep (x b:Int):Int:=(Go.bits .xor .u32 x b*16777619) % 4294967296
def fnv (s:ByteArray):Int:=(bytesOf s).foldl fnvStep 2166136261
theorem fnvStep_range (x b:Int):0≤fnvStep x b∧fnvStep x b<4294967296:=by unfold fnvStep;omega
theorem spec_fnv_l0 (s:ByteArray) (hs:s.size≤140737488351232):∀ (r:List Int) (i:Nat),(bytesOf s).drop i=r→i≤s.size→∀ x:Int,0≤x→x<4294967296→Ev (fun k=>Y44.l0 k s x (i:Int)) (r.foldl fnvStep x)
  | [],i,h,hi,x,h0,h1=>by
    have:=dropNil h
    rw [bytesOf_length] at this
    refine Ev.step (f:=fun _=>some x) (fun k=>?_) (Ev.now _)
    simp only [Y44.l0]
    rw [if_neg (by omega)]
  | c :: r,i,h,hi,x,h0,h1=>by
    obtain ⟨g1,g2,g3⟩:=dropCons h 0
    rw [bytesOf_length] at g1
    have hb:=bt_of g2
    have hr:=bt_range s (i:Int)
    rw [hb] at hr
    have hx:=xor_range x c h0 h1 hr.1 (by omega)
    have hq:=fnvStep_range x c
    refine Ev.step (fun k=>?_) (spec_fnv_l0 s hs r (i+1) g3 (by omega) (fnvStep x c) hq.1 hq.2)
    simp only [Y44.l0,hb]
    rw [if_pos (by omega),if_pos (by omega),w64 (x:=c) (by omega) (by omega),hx.1,w64 (x:=_*16777619) (by omega) (by omega),w64 (by omega) (by omega),Int.tmod_eq_emod_of_nonneg (by omega)]
    rfl
theorem impl_fnv_l0 (s:ByteArray) (hs:s.size≤140737488351232):∀ (r:List Int) (i:Nat),(bytesOf s).drop i=r→i≤s.size→∀ x:Int,0≤x→x<4294967296→Ev (fun k=>Y56.l0 k s x (s.size:Int) (i:Int)) (r.foldl fnvStep x)
  | [],i,h,hi,x,h0,h1=>by
    have:=dropNil h
    rw [bytesOf_length] at this
    refine Ev.step (f:=fun _=>some x) (fun k=>?_) (Ev.now _)
    simp only [Y56.l0]
    rw [if_neg (by omega),w64 (by omega) (by omega)]
  | c :: r,i,h,hi,x,h0,h1=>by
    obtain ⟨g1,g2,g3⟩:=dropCons h 0
    rw [bytesOf_length] at g1
    have hb:=bt_of g2
    have hr:=bt_range s (i:Int)
    rw [hb] at hr
    have hq:=fnvStep_range x c
    refine Ev.step (fun k=>?_) (impl_fnv_l0 s hs r (i+1) g3 (by omega) (fnvStep x c) hq.1 hq.2)
    simp only [Y56.l0,hb]
    rw [if_pos (by omega),if_pos (by omega),if_pos (by omega),show c % 4294967296=c from by omega,w64 (by omega) (by omega)]
    rfl
theorem spec_l04Fnv_ev (s:ByteArray) (hs:s.size≤140737488351232):Ev (fun k=>Y44.f k s) (fnv s):=spec_fnv_l0 s hs _ 0 rfl (by omega) _ (by omega) (by omega)
theorem impl_fnv_ev (s:ByteArray) (hs:s.size≤140737488351232):Ev (fun k=>Y56.f k s) (fnv s):=impl_fnv_l0 s hs _ 0 rfl (by omega) _ (by omega) (by omega)
def fnvOut (s:ByteArray):Int:=if 8000<s.size then 0 else fnv s
theorem spec_Fnv_ev (s:ByteArray):Ev (fun k=>Y64.f k s) (fnvOut s):=by
  unfold Y64.f fnvOut
  by_cases h:8000<s.size
  · rw [if_pos h];exact evPos (by omega) (Ev.now _)
  · rw [if_neg h];exact evNeg (by omega) (Ev.bind (spec_l04Fnv_ev s (by omega)) (Ev.now _))
theorem impl_Fnv_ev (s:ByteArray):Ev (fun k=>Y67.f k s) (fnvOut s):=by
  unfold Y67.f fnvOut
  refine Ev.bind (isLong1_ev s) ?_
  by_cases h:8000<s.size
  · rw [if_pos h];exact evPos (by simpa using h) (Ev.now _)
  · rw [if_neg h];exact evNeg (by simpa using h) (Ev.bind (impl_fnv_ev s (by omega)) (Ev.now _))
end Go.Proofs.YtelecnmflodkkaaGreatDoor.Q

namespace Go.Proofs.YtelecnmflodkkaaGreatDoor.P
open Go.RowKit Go.Proofs.YtelecnmflodkkaaGreatDoorW.PrintWords Go.Proofs.YtelecnmflodkkaaGreatDoorW.PrintLast Go.Proofs.YtelecnmflodkkaaGreatDoorW.PrintMore
attribute [local go_sem] max2_int min2_int max_two min_two max_three min_three max_four min_four   -- for this text's walks alone
set_option linter.unusedVariables false
set_option linter.unusedSimpArgs false

/-! ### Y80: function 82 -/
def Y80.l0:Nat→List Int→List Int→Int→Option (Bool)
 | 0,_,_,_=>none
 | k+1,x0,x1,x5=>if x5<(x0.length:Int) then (if 0≤x5 then (if x5<(x1.length:Int) then (if (rd x0 x5)=(rd x1 x5) then (Y80.l0 k x0 x1 (wrap64 (x5+1))) else (none)) else (none)) else (none)) else (some true)
def Y80.f (k:Nat) (l0:List Int) (l1:List Int):Option (Bool):=if (l0.length:Int)=(l1.length:Int) then (Y80.l0 k l0 l1 0) else (none)
theorem Y80.mono_l:∀ k,(∀ y0 y1 y2,LeO (Y80.l0 k y0 y1 y2) (Y80.l0 (k+1) y0 y1 y2))
 | 0=>by intros <;> exact LeO.none _
 | k+1=>by
  have ih0:=Y80.mono_l k
  ·intros
   unfold Y80.l0
   exact mO
theorem Y80.mono:∀ a0 a1 k,LeO (Y80.f k a0 a1) (Y80.f (k+1) a0 a1):=by
 intro a0 a1 k
 have ih0:=Y80.mono_l k
 unfold Y80.f
 exact mO

/-! ### Y75: function 88 -/
def Y75.l0:Nat→List Int→Int→Int→Option (Int × List Int)
 | 0,_,_,_=>none
 | k+1,x0,x1,x5=>if x5<(x0.length:Int) then (if 0≤x5 then (Y75.l0 k (x0.set (x5:Int).toNat x1) (wrap64 (x1+1)) (wrap64 (x5+1))) else (none)) else (some (x1,x0))
def Y75.f (k:Nat) (l0:List Int) (a1:Int):Option (Int × List Int):=Y75.l0 k l0 a1 0
theorem Y75.mono_l:∀ k,(∀ y0 y1 y2,LeO (Y75.l0 k y0 y1 y2) (Y75.l0 (k+1) y0 y1 y2))
 | 0=>by intros <;> exact LeO.none _
 | k+1=>by
  have ih0:=Y75.mono_l k
  ·intros
   unfold Y75.l0
   exact mO
theorem Y75.mono:∀ a0 a1 k,LeO (Y75.f k a0 a1) (Y75.f (k+1) a0 a1):=by
 intro a0 a1 k
 have ih0:=Y75.mono_l k
 unfold Y75.f
 exact mO

/-! ### Y76: function 94 -/
def Y76.l0:Nat→List Int→Int→Int→Option (Int)
 | 0,_,_,_=>none
 | k+1,x0,x1,x5=>if x5<(x0.length:Int) then (if 0≤x5 then (if (rd x0 x5)=x1 then (Y76.l0 k x0 (wrap64 (x1+1)) (wrap64 (x5+1))) else (none)) else (none)) else (some x1)
def Y76.f (k:Nat) (l0:List Int) (a1:Int):Option (Int):=Y76.l0 k l0 a1 0
theorem Y76.mono_l:∀ k,(∀ y0 y1 y2,LeO (Y76.l0 k y0 y1 y2) (Y76.l0 (k+1) y0 y1 y2))
 | 0=>by intros <;> exact LeO.none _
 | k+1=>by
  have ih0:=Y76.mono_l k
  ·intros
   unfold Y76.l0
   exact mO
theorem Y76.mono:∀ a0 a1 k,LeO (Y76.f k a0 a1) (Y76.f (k+1) a0 a1):=by
 intro a0 a1 k
 have ih0:=Y76.mono_l k
 unfold Y76.f
 exact mO
end Go.Proofs.YtelecnmflodkkaaGreatDoor.P

namespace Go.Proofs.YtelecnmflodkkaaGreatDoor.Q
open Go.RowKit Go.Proofs.YtelecnmflodkkaaGreatDoor.P Go.Proofs.YtelecnmflodkkaaGreatDoorW.PrintWords Go.Proofs.YtelecnmflodkkaaGreatDoorW.PrintMore

theorem rd_of {l:List Int} {i:Nat} {m:Int} (h:l.getD i 0=m):rd l (i:Int)=m:=by simpa [rd] using h
end Go.Proofs.YtelecnmflodkkaaGreatDoor.Q

namespace Go.Proofs.YtelecnmflodkkaaGreatDoor.Q
open Go.RowKit Go.Proofs.YtelecnmflodkkaaGreatDoor.P Go.Proofs.YtelecnmflodkkaaGreatDoorW.PrintWords Go.Proofs.YtelecnmflodkkaaGreatDoorW.PrintMore

theorem among_l0 (l:List Int) (n:Int) (hl:l.length≤4611686018427387904):∀ (s:List Int) (i:Nat),l.drop i=s→i≤l.length→Ev (fun k=>Y36.l0 k l n (i:Int)) (decide (n ∈ s))
  | [],i,h,hi=>by
    have:=dropNil' h hi
    refine Ev.step (f:=fun _=>some false) (fun k=>?_) (by simp;exact Ev.now _)
    simp only [Y36.l0]
    rw [if_neg (by omega)]
  | m :: s,i,h,hi=>by
    obtain ⟨h1,h2,h3⟩:=dropCons h 0
    have hr:=rd_of h2
    by_cases e:m=n
    · refine Ev.step (f:=fun _=>some true) (fun k=>?_) (by simp [e];exact Ev.now _)
      simp only [Y36.l0,hr]
      rw [if_pos (by omega),if_pos (by omega),if_pos e]
    · have ih:=among_l0 l n hl s (i+1) h3 (by omega)
      have e2:decide (n ∈ m :: s)=decide (n ∈ s):=by simp [show ¬ n=m from fun h=>e h.symm]
      rw [e2]
      refine Ev.step (fun k=>?_) ih
      simp only [Y36.l0,hr]
      rw [if_pos (by omega),if_pos (by omega),if_neg e,w64 (by omega) (by omega)]
      rfl
theorem among_ev (l:List Int) (n:Int) (hl:l.length≤4611686018427387904):Ev (fun k=>Y36.f k l n) (decide (n ∈ l)):=among_l0 l n hl l 0 rfl (by omega)
theorem indexI_l0 (l:List Int) (n:Int) (hl:l.length≤4611686018427387904):∀ (s:List Int) (i:Nat),l.drop i=s→i≤l.length→∃ r,Ev (fun k=>Y30.l0 k l n (l.length:Int) (i:Int)) r∧decide (r≥0)=decide (n ∈ s)
  | [],i,h,hi=>by
    have:=dropNil' h hi
    refine ⟨-1,Ev.step (f:=fun _=>some (-1)) (fun k=>?_) (Ev.now _),by simp⟩
    simp only [Y30.l0]
    rw [if_neg (by omega)]
  | m :: s,i,h,hi=>by
    obtain ⟨h1,h2,h3⟩:=dropCons h 0
    have hr:=rd_of h2
    by_cases e:n=m
    · refine ⟨i,Ev.step (f:=fun _=>some (i:Int)) (fun k=>?_) (Ev.now _),by simp [e]⟩
      simp only [Y30.l0,hr]
      rw [if_pos (by omega),if_pos (by omega),if_pos (by omega),if_pos e]
    · obtain ⟨r,e1,e2⟩:=indexI_l0 l n hl s (i+1) h3 (by omega)
      refine ⟨r,Ev.step (fun k=>?_) e1,by rw [e2];simp [e]⟩
      simp only [Y30.l0,hr]
      rw [if_pos (by omega),if_pos (by omega),if_pos (by omega),if_neg e,w64 (by omega) (by omega)]
      rfl
theorem Contains_ev (l:List Int) (n:Int) (hl:l.length≤4611686018427387904):Ev (fun k=>Y26.f k l n) (decide (n ∈ l)):=by
  obtain ⟨r,e1,e2⟩:=indexI_l0 l n hl l 0 rfl (by omega)
  unfold Y26.f
  rw [← e2]
  exact Ev.bind e1 (Ev.now _)
/-- How many tokens lie ahead. -/
def firstAt (h:Int):List Tok→Nat→Nat
  | [],i=>i
  | t :: r,i=>if t.f0<h then firstAt h r (i+1) else i
theorem firstAt_le (h:Int):∀ (s:List Tok) (i:Nat),i≤firstAt h s i∧firstAt h s i≤i+s.length
  | [],i=>by simp [firstAt]
  | t :: r,i=>by
    have:=firstAt_le h r (i+1)
    simp only [firstAt,List.length_cons]
    split <;> omega
def ordFrom (l:List Tok) (first:Nat):Nat→Nat→List Int→List Int
  | 0,_,acc=>acc
  | f+1,i,acc=>ordFrom l first f (i+1) (if (l.getD ((first+i) % l.length) z78).f1 ∈ acc then acc else acc ++ [(l.getD ((first+i) % l.length) z78).f1])
theorem ordFrom_mod (l:List Tok) (a b:Nat) (h:a % l.length=b % l.length):∀ (f i:Nat) (acc:List Int),ordFrom l a f i acc=ordFrom l b f i acc
  | 0,_,_=>rfl
  | f+1,i,acc=>by
    simp only [ordFrom]
    have e:(a+i) % l.length=(b+i) % l.length:=by rw [Nat.add_mod,h,← Nat.add_mod]
    rw [e]
    exact ordFrom_mod l a b h f (i+1) _
theorem ordFrom_length (l:List Tok) (a:Nat):∀ (f i:Nat) (acc:List Int),(ordFrom l a f i acc).length≤acc.length+f
  | 0,_,_=>by simp [ordFrom]
  | f+1,i,acc=>by
    simp only [ordFrom]
    split
    · have:=ordFrom_length l a f (i+1) acc;omega
    · have:=ordFrom_length l a f (i+1) (acc ++ [(l.getD ((a+i) % l.length) z78).f1])
      simp only [List.length_append,List.length_cons,List.length_nil] at this
      omega
def orderL (l:List Tok) (h:Int):List Int:=ordFrom l (firstAt h l 0) l.length 0 []
theorem orderL_length (l:List Tok) (h:Int):(orderL l h).length≤l.length:=by
  have:=ordFrom_length l (firstAt h l 0) l.length 0 []
  simp only [List.length_nil,Nat.zero_add] at this
  exact this
theorem tmod_at (l:List Tok) (a i:Nat) (ha:a≤l.length) (hi:i<l.length) (hl:l.length≤1048576) :
    Int.tmod (wrap64 ((a:Int)+(i:Int))) (l.length:Int)=(((a+i) % l.length:Nat):Int)∧(((a+i) % l.length:Nat):Int)<(l.length:Int):=by
  have hm:=Nat.mod_lt (a+i) (show 0<l.length by omega)
  rw [w64 (by omega) (by omega),Int.tmod_eq_emod_of_nonneg (by omega)]
  refine ⟨?_,by omega⟩
  rw [show (a:Int)+(i:Int)=((a+i:Nat):Int) by omega]
  exact (Int.natCast_emod (a+i) l.length).symm
theorem rdT_at (l:List Tok) (a:Nat):rd_T78 l (a:Int)=l.getD a z78:=by simp [rd_T78]
theorem specOrder_l1 (n:Int) (l:List Tok) (a:Nat) (ha:a≤l.length) (hl:l.length≤1048576):∀ (f i:Nat) (acc:List Int),i+f=l.length→acc.length≤i →
    Ev (fun k=>Y17.l1 k (a:Int) acc (i:Int) n l) (ordFrom l a f i acc)
  | 0,i,acc,h,hc=>by
    refine Ev.step (f:=fun _=>some acc) (fun k=>?_) (Ev.now _)
    simp only [Y17.l1]
    rw [if_neg (by omega)]
  | f+1,i,acc,h,hc=>by
    obtain ⟨t1,t2⟩:=tmod_at l a i ha (by omega) hl
    refine Ev.step (fun k=>by simp only [Y17.l1,t1,rdT_at];rw [if_pos (by omega),if_neg (by omega),if_pos (by omega),if_pos t2]) (Ev.bind (among_ev acc _ (by omega)) ?_)
    simp only [ordFrom]
    by_cases e:(l.getD ((a+i) % l.length) z78).f1 ∈ acc
    · rw [if_pos e,decide_eq_true e]
      refine evPos rfl ?_
      rw [w64 (by omega) (by omega)]
      exact specOrder_l1 n l a ha hl f (i+1) acc (by omega) (by omega)
    · rw [if_neg e,decide_eq_false e]
      refine evNeg (by simp) (evPos (by omega) ?_)
      rw [w64 (by omega) (by omega)]
      exact specOrder_l1 n l a ha hl f (i+1) _ (by omega) (by simp;omega)
theorem specOrder_l0 (n h:Int) (l:List Tok) (hl:l.length≤1048576):∀ (s:List Tok) (i:Nat),l.drop i=s→i≤l.length →
    Ev (fun k=>Y17.l0 k h (i:Int) n l) (ordFrom l (firstAt h s i) l.length 0 [])
  | [],i,hd,hi=>by
    have:=dropNil' hd hi
    refine Ev.step (f:=fun k=>Y17.j1 k h (i:Int) false n l) (fun k=>?_) (Ev.step (fun k=>?_) (specOrder_l1 n l i (by omega) hl l.length 0 [] (by omega) (by simp)))
    · simp only [Y17.l0]
      rw [if_neg (by omega)]
    · simp only [Y17.j1]
      rw [if_neg (by simp)]
      rfl
  | t :: s,i,hd,hi=>by
    obtain ⟨h1,h2,h3⟩:=dropCons hd z78
    have hr:rd_T78 l (i:Int)=t:=by simpa [rd_T78] using h2
    simp only [firstAt]
    by_cases e:t.f0<h
    · rw [if_pos e]
      refine Ev.step (f:=fun k=>Y17.j1 k h (i:Int) true n l) (fun k=>?_) (Ev.step (fun k=>?_) (specOrder_l0 n h l hl s (i+1) h3 (by omega)))
      · simp only [Y17.l0,hr]
        rw [if_pos (by omega),if_pos (by omega),decide_eq_true e]
      · simp only [Y17.j1]
        rw [if_pos trivial,w64 (by omega) (by omega)]
        rfl
    · rw [if_neg e]
      refine Ev.step (f:=fun k=>Y17.j1 k h (i:Int) false n l) (fun k=>?_) (Ev.step (fun k=>?_) (specOrder_l1 n l i hi hl l.length 0 [] (by omega) (by simp)))
      · simp only [Y17.l0,hr]
        rw [if_pos (by omega),if_pos (by omega),decide_eq_false e]
      · simp only [Y17.j1]
        rw [if_neg (by simp)]
        rfl
theorem l04Order_ev (n:Int) (l:List Tok) (key:ByteArray) (hl:l.length≤1048576) (hk:key.size≤1048576):Ev (fun k=>Y17.f k n l key) (orderL l (fnv key)) :=
  Ev.bind (spec_l04Fnv_ev key (by omega)) (specOrder_l0 n (fnv key) l hl l 0 rfl (by omega))
def atOr (n L:Nat):Int:=if n=L then -1 else (n:Int)
theorem atOr_eq {n L:Nat} (h:n=L):atOr n L = -1:=if_pos h
theorem atOr_ne {n L:Nat} (h:¬ n=L):atOr n L=(n:Int):=if_neg h
theorem indexT_l0 (l:List Tok) (h:Int) (hl:l.length≤1048576):∀ (s:List Tok) (i:Nat),l.drop i=s→i≤l.length →
    Ev (fun k=>Y7.l0 k l (l.length:Int) (i:Int) h) (atOr (firstAt h s i) l.length)
  | [],i,hd,hi=>by
    have:=dropNil' hd hi
    simp only [firstAt]
    rw [atOr_eq (by omega)]
    refine Ev.step (f:=fun _=>some (-1)) (fun k=>?_) (Ev.now _)
    simp only [Y7.l0]
    rw [if_neg (by omega)]
  | t :: s,i,hd,hi=>by
    obtain ⟨h1,h2,h3⟩:=dropCons hd z78
    have hr:rd_T78 l (i:Int)=t:=by simpa [rd_T78] using h2
    simp only [firstAt]
    by_cases e:t.f0<h
    · rw [if_pos e]
      refine Ev.step (fun k=>?_) (indexT_l0 l h hl s (i+1) h3 (by omega))
      simp only [Y7.l0,hr,Y86.f,Option.bind_some]
      rw [if_pos (by omega),if_pos (by omega),if_pos (by omega),if_neg (by simp;omega),w64 (by omega) (by omega)]
      rfl
    · rw [if_neg e,atOr_ne (by omega)]
      refine Ev.step (f:=fun _=>some (i:Int)) (fun k=>?_) (Ev.now _)
      simp only [Y7.l0,hr,Y86.f,Option.bind_some]
      rw [if_pos (by omega),if_pos (by omega),if_pos (by omega),if_pos (by simp;omega)]
theorem implOrder_l0 (n:Int) (l:List Tok) (a:Nat) (ha:a≤l.length) (hl:l.length≤1048576):∀ (f i:Nat) (acc:List Int),i+f=l.length→acc.length≤i →
    Ev (fun k=>Y31.l0 k (a:Int) acc (l.length:Int) (i:Int) n l) (ordFrom l a f i acc)
  | 0,i,acc,h,hc=>by
    refine Ev.step (f:=fun _=>some acc) (fun k=>?_) (Ev.now _)
    simp only [Y31.l0]
    rw [if_neg (by omega)]
  | f+1,i,acc,h,hc=>by
    obtain ⟨t1,t2⟩:=tmod_at l a i ha (by omega) hl
    refine Ev.step (fun k=>by simp only [Y31.l0,t1,rdT_at];rw [if_pos (by omega),if_neg (by omega),if_pos (by omega),if_pos t2]) (Ev.bind (Contains_ev acc _ (by omega)) ?_)
    simp only [ordFrom]
    by_cases e:(l.getD ((a+i) % l.length) z78).f1 ∈ acc
    · rw [if_pos e,decide_eq_true e]
      refine evPos rfl ?_
      rw [w64 (by omega) (by omega)]
      exact implOrder_l0 n l a ha hl f (i+1) acc (by omega) (by omega)
    · rw [if_neg e,decide_eq_false e]
      refine evNeg (by simp) (evPos (by omega) ?_)
      rw [w64 (by omega) (by omega)]
      exact implOrder_l0 n l a ha hl f (i+1) _ (by omega) (by simp;omega)
theorem order_ev (n:Int) (l:List Tok) (key:ByteArray) (hl:l.length≤1048576) (hk:key.size≤1048576):Ev (fun k=>Y31.f k n l key) (orderL l (fnv key)):=by
  refine Ev.bind (impl_fnv_ev key (by omega)) (Ev.bind (indexT_l0 l (fnv key) hl l 0 rfl (by omega)) ?_)
  have hf:=(firstAt_le (fnv key) l 0).2
  by_cases e:firstAt (fnv key) l 0=l.length
  · rw [atOr_eq e]
    refine evPos (by omega) (Ev.step (f:=fun k=>Y31.l0 k 0 [] (l.length:Int) 0 n l) (fun k=>by simp only [Y31.j0]) ?_)
    unfold orderL
    rw [ordFrom_mod l (firstAt (fnv key) l 0) 0 (by rw [e];simp)]
    exact implOrder_l0 n l 0 (by omega) hl l.length 0 [] (by omega) (by simp)
  · rw [atOr_ne e]
    refine evNeg (by omega) (Ev.step (f:=fun k=>Y31.l0 k (firstAt (fnv key) l 0:Int) [] (l.length:Int) 0 n l) (fun k=>by simp only [Y31.j0]) ?_)
    exact implOrder_l0 n l (firstAt (fnv key) l 0) (by omega) hl l.length 0 [] (by omega) (by simp)
def keyed (n:Int) (l:List Tok) (key:ByteArray):Bool:=ringOk n l && nameOk key
theorem nameOk_size {key:ByteArray} (h:nameOk key=true):key.size≤20:=by
  simp only [nameOk,Bool.and_eq_true,decide_eq_true_eq] at h
  exact h.1
theorem isKeyed_ev (n:Int) (l:List Tok) (key:ByteArray) (hl:l.length≤1048576) (hk:key.size≤1048576):Ev (fun k=>Y57.f k n l key) (keyed n l key):=by
  unfold Y57.f keyed
  refine Ev.bind (isLong1_ev key) ?_
  by_cases h:8000<key.size
  · have e:nameOk key=false:=by
      cases e:nameOk key with
      | false=>rfl
      | true=>have:=nameOk_size e;omega
    rw [e,Bool.and_false]
    exact evPos (by simpa using h) (Ev.now _)
  · refine evNeg (by simpa using h) (Ev.bind (impl_RingRight_ev n l hl) ?_)
    cases ringOk n l with
    | false=>exact evNeg (by simp) (Ev.now _)
    | true=>exact evPos rfl (Ev.bind (impl_NameRight_ev key (by omega)) (Ev.now _))
def orderOut (n:Int) (l:List Tok) (key:ByteArray):List Int:=if keyed n l key=true then orderL l (fnv key) else []
theorem orderOut_length (n:Int) (l:List Tok) (key:ByteArray) (hl:l.length≤1048576):(orderOut n l key).length≤1048576:=by
  unfold orderOut
  split
  · have:=orderL_length l (fnv key);omega
  · simp
theorem impl_Order_ev (n:Int) (l:List Tok) (key:ByteArray) (hl:l.length≤1048576) (hk:key.size≤1048576):Ev (fun k=>Y83.f k n l key) (orderOut n l key):=by
  unfold Y83.f orderOut
  refine Ev.bind (isKeyed_ev n l key hl hk) (evIte (fun h=>?_) (fun h=>?_))
  · rw [if_pos h];exact Ev.bind (order_ev n l key hl hk) (Ev.now _)
  · rw [if_neg h];exact Ev.now _
theorem spec_Order_ev (n:Int) (l:List Tok) (key:ByteArray) (hl:l.length≤1048576) (hk:key.size≤1048576):Ev (fun k=>Y46.f k n l key) (orderOut n l key):=by
  unfold Y46.f orderOut keyed
  have jT:Ev (fun k=>Y46.j0 k key true n l) []:=Ev.step (f:=fun _=>some []) (fun k=>by simp [Y46.j0]) (Ev.now _)
  refine Ev.bind (spec_RingRight_ev n l hl) ?_
  cases ringOk n l with
  | false=>exact evNeg (by simp) jT
  | true =>
    refine evPos rfl (Ev.bind (spec_NameRight_ev key hk) ?_)
    cases nameOk key with
    | false=>exact jT
    | true=>exact Ev.step (fun k=>by simp only [Y46.j0];rw [if_neg (by simp)]) (Ev.bind (l04Order_ev n l key hl hk) (Ev.now _))
def ownersL (l:List Tok) (h:Int) (m:Nat):List Int:=(orderL l h).take (min m (orderL l h).length)
theorem l01Min_is (a b:Int):Y89.f a b=some (if a<b then a else b):=by
  unfold Y89.f
  split <;> rfl
theorem l04Owners_ev (n:Int) (l:List Tok) (key:ByteArray) (m:Nat) (hl:l.length≤1048576) (hk:key.size≤1048576):Ev (fun k=>Y63.f k n l key (m:Int)) (ownersL l (fnv key) m):=by
  refine Ev.bind (l04Order_ev n l key hl hk) (evBind1 (l01Min_is _ _) ?_)
  have e:(if (m:Int)<((orderL l (fnv key)).length:Int) then (m:Int) else ((orderL l (fnv key)).length:Int))=((min m (orderL l (fnv key)).length:Nat):Int):=by split <;> omega
  rw [e]
  exact evPos (by omega) (evPos (by omega) (Ev.now _))
theorem owners_ev (n:Int) (l:List Tok) (key:ByteArray) (m:Nat) (hl:l.length≤1048576) (hk:key.size≤1048576):Ev (fun k=>Y85.f k n l key (m:Int)) (ownersL l (fnv key) m):=by
  refine Ev.bind (order_ev n l key hl hk) ?_
  have e:mn (m:Int) ((orderL l (fnv key)).length:Int)=((min m (orderL l (fnv key)).length:Nat):Int):=by unfold mn;split <;> omega
  rw [e]
  exact evPos (by omega) (evPos (by omega) (Ev.now _))
def ownersOut (n:Int) (l:List Tok) (key:ByteArray) (m:Int):List Int:=if (keyed n l key && isNode m)=true then ownersL l (fnv key) m.toNat else []
theorem ownersL_length (l:List Tok) (h:Int) (m:Nat):(ownersL l h m).length≤l.length:=by
  have:=orderL_length l h
  unfold ownersL
  rw [List.length_take]
  omega
theorem ownersOut_length (n:Int) (l:List Tok) (key:ByteArray) (m:Int) (hl:l.length≤1048576):(ownersOut n l key m).length≤1048576:=by
  unfold ownersOut
  split
  · have:=ownersL_length l (fnv key) m.toNat;omega
  · simp
theorem impl_Owners_ev (n:Int) (l:List Tok) (key:ByteArray) (m:Int) (hl:l.length≤1048576) (hk:key.size≤1048576):Ev (fun k=>Y33.f k n l key m) (ownersOut n l key m):=by
  unfold Y33.f ownersOut
  have jT:Ev (fun k=>Y33.j0 k key m true n l) []:=Ev.step (f:=fun _=>some []) (fun k=>by simp [Y33.j0]) (Ev.now _)
  refine Ev.bind (isKeyed_ev n l key hl hk) ?_
  cases keyed n l key with
  | false=>exact evNeg (by simp) jT
  | true =>
    refine evPos rfl (evBind1 (isNode_is _) ?_)
    cases hm:isNode m with
    | false=>exact jT
    | true =>
      have hm':=(isNode_iff m).1 hm
      obtain ⟨m,rfl⟩:=Int.eq_ofNat_of_zero_le (show 0≤m by omega)
      have hL:=ownersL_length l (fnv key) m
      refine Ev.step (fun k=>by simp only [Y33.j0];rw [if_neg (by simp)]) (Ev.bind (owners_ev n l key m hl hk) (evBind1 (a:=ownersL l (fnv key) m) ?_ (Ev.now _)))
      simp only [Y49.f,Option.bind_some,List.length_nil,List.nil_append]
      rw [if_pos (by omega)]
theorem spec_Owners_ev (n:Int) (l:List Tok) (key:ByteArray) (m:Int) (hl:l.length≤1048576) (hk:key.size≤1048576):Ev (fun k=>Y32.f k n l key m) (ownersOut n l key m):=by
  unfold Y32.f ownersOut keyed
  have jT:Ev (fun k=>Y32.j0 k key m true n l) []:=Ev.step (f:=fun _=>some []) (fun k=>by simp [Y32.j0]) (Ev.now _)
  refine Ev.bind (spec_RingRight_ev n l hl) ?_
  cases ringOk n l with
  | false=>exact evNeg (by simp) jT
  | true =>
    refine evPos rfl (Ev.bind (spec_NameRight_ev key hk) ?_)
    cases nameOk key with
    | false=>exact evNeg (by simp) jT
    | true =>
      refine evPos rfl (evBind1 (l02Node_is _) ?_)
      cases hm:isNode m with
      | false=>exact jT
      | true =>
        have hm':=(isNode_iff m).1 hm
        obtain ⟨m,rfl⟩:=Int.eq_ofNat_of_zero_le (show 0≤m by omega)
        have hL:=ownersL_length l (fnv key) m
        refine Ev.step (f:=fun k=>(Y63.f k n l key (m:Int)).bind fun t=>if ([]:List Int).length+t.length<17592186044416 then some ([] ++ t) else none) (fun k=>by simp only [Y32.j0];rw [if_neg (by simp)];rfl) (Ev.bind (l04Owners_ev n l key m hl hk) (evPos (by simp only [List.length_nil];omega) (Ev.now _)))
def notIn (d:List Int) (x:Int):Bool:=!decide (x ∈ d)
theorem notIn_pos {d:List Int} {x:Int} (h:x ∉ d):notIn d x=true:=by simp [notIn,h]
theorem notIn_neg {d:List Int} {x:Int} (h:x ∈ d):¬ notIn d x=true:=by simp [notIn,h]
end Go.Proofs.YtelecnmflodkkaaGreatDoor.Q

namespace Go.Proofs.YtelecnmflodkkaaGreatDoor.Q
open Go.RowKit Go.Proofs.YtelecnmflodkkaaGreatDoor.P Go.Proofs.YtelecnmflodkkaaGreatDoorW.PrintWords Go.Proofs.YtelecnmflodkkaaGreatDoorW.PrintMore

def dedup:List Int→List Tok→List Int
  | acc,[]=>acc
  | acc,t :: r=>dedup (if t.f1 ∈ acc then acc else acc ++ [t.f1]) r
def rot (l:List Tok) (a:Nat):List Tok:=l.drop a ++ l.take a
theorem rot_length (l:List Tok) (a:Nat) (h:a≤l.length):(rot l a).length=l.length:=by
  unfold rot
  rw [List.length_append,List.length_drop,List.length_take]
  omega
theorem rot_at (l:List Tok) (a i:Nat) (z:Tok) (h:a≤l.length) (hi:i<l.length):(rot l a).getD i z=l.getD ((a+i) % l.length) z:=by
  unfold rot
  rw [List.getD_eq_getElem?_getD,List.getD_eq_getElem?_getD]
  by_cases c:a+i<l.length
  · rw [List.getElem?_append_left (by rw [List.length_drop];omega),List.getElem?_drop,Nat.mod_eq_of_lt c]
  · rw [List.getElem?_append_right (by rw [List.length_drop];omega),List.length_drop,List.getElem?_take_of_lt (by omega)]
    have e:(a+i) % l.length=i-(l.length-a):=by
      rw [Nat.mod_eq_sub_mod (by omega),Nat.mod_eq_of_lt (by omega)]
      omega
    rw [e]
theorem ordFrom_rot (l:List Tok) (a:Nat) (h:a≤l.length):∀ (f i:Nat) (acc:List Int),i+f=l.length→ordFrom l a f i acc=dedup acc ((rot l a).drop i)
  | 0,i,acc,hi=>by
    rw [List.drop_eq_nil_of_le (by rw [rot_length l a h];omega)]
    rfl
  | f+1,i,acc,hi=>by
    have hr:=rot_length l a h
    rw [List.drop_eq_getElem_cons (show i<(rot l a).length by omega)]
    have e:(rot l a)[i]'(by omega)=l.getD ((a+i) % l.length) z78:=by
      rw [← rot_at l a i z78 h (by omega),List.getD_eq_getElem?_getD,List.getElem?_eq_getElem (by omega)]
      rfl
    simp only [ordFrom,dedup,e]
    exact ordFrom_rot l a h f (i+1) _ (by omega)
def below (h:Int) (t:Tok):Bool:=decide (t.f0<h)
theorem firstAt_tw (h:Int):∀ (s:List Tok) (i:Nat),firstAt h s i=i+(s.takeWhile (below h)).length
  | [],i=>rfl
  | t :: r,i=>by
    simp only [firstAt,List.takeWhile_cons]
    by_cases c:t.f0<h
    · have e:below h t=true:=decide_eq_true c
      rw [if_pos c,if_pos e,firstAt_tw h r (i+1),List.length_cons]
      omega
    · have e:¬ below h t=true:=by simp [below,c]
      rw [if_neg c,if_neg e]
      rfl
theorem drop_tw (p:Tok→Bool):∀ s:List Tok,s.drop (s.takeWhile p).length=s.dropWhile p∧s.take (s.takeWhile p).length=s.takeWhile p
  | []=>⟨rfl,rfl⟩
  | t :: r=>by
    have ih:=drop_tw p r
    rw [List.takeWhile_cons,List.dropWhile_cons]
    cases p t with
    | true=>exact ⟨by simpa using ih.1,by simpa using ih.2⟩
    | false=>exact ⟨rfl,rfl⟩
theorem orderL_eq (l:List Tok) (h:Int):orderL l h=dedup [] (l.dropWhile (below h) ++ l.takeWhile (below h)):=by
  unfold orderL
  have hf:=(firstAt_le h l 0).2
  rw [ordFrom_rot l _ (by omega) l.length 0 [] (by omega),List.drop_zero,firstAt_tw,Nat.zero_add]
  unfold rot
  rw [(drop_tw (below h) l).1,(drop_tw (below h) l).2]
def sortedB:List Tok→Bool
  | []=>true
  | [_]=>true
  | x :: y :: r=>decide (x.f0≤y.f0) && sortedB (y :: r)
def other (N:Int) (t:Tok):Bool:=decide (t.f1≠N)
theorem dedup_nodup:∀ (s:List Tok) (acc:List Int),acc.Nodup→(dedup acc s).Nodup
  | [],_,h=>h
  | t :: r,acc,h=>by
    simp only [dedup]
    refine dedup_nodup r _ ?_
    split
    · exact h
    · rename_i c
      rw [List.nodup_append]
      refine ⟨h,by simp,fun a ha b hb=>?_⟩
      rw [List.mem_singleton] at hb
      rintro rfl
      exact c (hb ▸ ha)
theorem mem_dedup (x:Int):∀ (s:List Tok) (acc:List Int),x ∈ dedup acc s ↔ x ∈ acc∨∃ t ∈ s,t.f1=x
  | [],acc=>by simp [dedup]
  | t :: r,acc=>by
    simp only [dedup]
    rw [mem_dedup x r]
    by_cases c:t.f1 ∈ acc
    · rw [if_pos c]
      constructor
      · rintro (h | ⟨y,h1,h2⟩)
        · exact .inl h
        · exact .inr ⟨y,List.mem_cons_of_mem _ h1,h2⟩
      · rintro (h | ⟨y,h1,h2⟩)
        · exact .inl h
        · rcases List.mem_cons.1 h1 with rfl | h1
          · exact .inl (h2 ▸ c)
          · exact .inr ⟨y,h1,h2⟩
    · rw [if_neg c,List.mem_append,List.mem_singleton]
      constructor
      · rintro ((h | h) | ⟨y,h1,h2⟩)
        · exact .inl h
        · exact .inr ⟨t,by simp,h.symm⟩
        · exact .inr ⟨y,List.mem_cons_of_mem _ h1,h2⟩
      · rintro (h | ⟨y,h1,h2⟩)
        · exact .inl (.inl h)
        · rcases List.mem_cons.1 h1 with rfl | h1
          · exact .inl (.inr h2.symm)
          · exact .inr ⟨y,h1,h2⟩
theorem orderL_nodup (l:List Tok) (h:Int):(orderL l h).Nodup:=by
  rw [orderL_eq]
  exact dedup_nodup _ _ List.nodup_nil
theorem mem_orderL (l:List Tok) (h x:Int):x ∈ orderL l h ↔ ∃ t ∈ l,t.f1=x:=by
  rw [orderL_eq,mem_dedup]
  have e:∀ t:Tok,t ∈ l.dropWhile (below h) ++ l.takeWhile (below h) ↔ t ∈ l:=fun t=>by
    rw [List.mem_append,Or.comm,← List.mem_append,List.takeWhile_append_dropWhile]
  simp only [e,List.not_mem_nil,false_or]
theorem ownersL_take (l:List Tok) (h:Int) (m:Nat):ownersL l h m=(orderL l h).take m:=by
  unfold ownersL
  by_cases c:m≤(orderL l h).length
  · rw [Nat.min_eq_left c]
  · rw [Nat.min_eq_right (by omega),List.take_of_length_le (by omega),List.take_of_length_le (by omega)]
/-- What the forty rings are like. -/
def nodeIn (l:List Tok) (n:Int):Bool:=l.any (fun t=>t.f1 == n)
def ringLook (n e:Nat):Bool:=sortedB (ringT (n:Int) (e:Int)) && ((ringT (n:Int) (e:Int)).all (fun t=>decide (1≤t.f1) && decide (t.f1≤(n:Int))) && ((List.range n).all (fun j=>nodeIn (ringT (n:Int) (e:Int)) ((j:Int)+1)) &&
  (decide (n=1) || eqToks ((ringT (n:Int) (e:Int)).filter (other (n:Int))) (ringT ((n:Int)-1) (e:Int)))))
set_option maxRecDepth 1000000 in
theorem look_all:(List.range 40).all (fun j=>ringLook (j / 8+1) (j % 8+1))=true:=by kernel_rfl
theorem ring_look {n e:Int} (hn:isNode n=true) (he:isWithin e 1 8=true) :
    sortedB (ringT n e)=true∧(∀ t ∈ ringT n e,1≤t.f1∧t.f1≤n)∧(∀ m:Int,1≤m→m≤n→∃ t ∈ ringT n e,t.f1=m)∧(n≠1→(ringT n e).filter (other n)=ringT (n-1) e):=by
  rw [isNode_iff] at hn
  simp only [isWithin,Bool.and_eq_true,decide_eq_true_eq] at he
  obtain ⟨n,rfl⟩:=Int.eq_ofNat_of_zero_le (show 0≤n by omega)
  obtain ⟨e,rfl⟩:=Int.eq_ofNat_of_zero_le (show 0≤e by omega)
  have h:=List.all_eq_true.1 look_all ((n-1)*8+(e-1)) (List.mem_range.2 (by omega))
  rw [show ((n-1)*8+(e-1)) / 8+1=n by omega,show ((n-1)*8+(e-1)) % 8+1=e by omega] at h
  unfold ringLook at h
  simp only [Bool.and_eq_true,Bool.or_eq_true,decide_eq_true_eq] at h
  obtain ⟨h1,h2,h3,h4⟩:=h
  refine ⟨h1,fun t ht=>?_,fun m hm1 hm2=>?_,fun hne=>?_⟩
  · have:=List.all_eq_true.1 h2 t ht
    simp only [Bool.and_eq_true,decide_eq_true_eq] at this
    exact this
  · obtain ⟨m,rfl⟩:=Int.eq_ofNat_of_zero_le (show 0≤m by omega)
    have:=List.all_eq_true.1 h3 (m-1) (List.mem_range.2 (by omega))
    rw [show ((m-1:Nat):Int)+1=(m:Int) by omega] at this
    obtain ⟨t,ht,h5⟩:=List.any_eq_true.1 this
    exact ⟨t,ht,by simpa using h5⟩
  · rcases h4 with h4 | h4
    · exact absurd (by rw [h4];rfl) hne
    · exact eqToks_eq _ _ h4
theorem ringOk_is {n:Int} {l:List Tok} (h:ringOk n l=true):isNode n=true∧isWithin ((l.length:Int) / n) 1 8=true∧l=ringT n ((l.length:Int) / n):=by
  simp only [ringOk,Bool.and_eq_true] at h
  exact ⟨h.1,h.2.1,eqToks_eq _ _ h.2.2⟩
/-- A right ring's order holds as many nodes as the ring has. -/
theorem order_nodes {n:Int} {l:List Tok} (h:ringOk n l=true) (k:Int):((orderL l k).length:Int)=n:=by
  obtain ⟨hn,he,hl⟩:=ringOk_is h
  generalize (l.length:Int) / n=e at he hl
  obtain ⟨_,h2,h3,_⟩:=ring_look hn he
  rw [← hl] at h2 h3
  have hn':=(isNode_iff n).1 hn
  obtain ⟨n,rfl⟩:=Int.eq_ofNat_of_zero_le (show 0≤n by omega)
  have hd:((List.range n).map (fun j:Nat=>((j:Int)+1))).Nodup:=by
    rw [List.nodup_iff_pairwise_ne,List.pairwise_map]
    exact (List.nodup_iff_pairwise_ne.1 List.nodup_range).imp (fun {a b} h e=>h (by have e:(a:Int)+1=(b:Int)+1:=e;omega))
  have hp:=(List.perm_ext_iff_of_nodup (orderL_nodup l k) hd).2 (fun x=>by
    rw [mem_orderL,List.mem_map]
    constructor
    · rintro ⟨t,ht,rfl⟩
      have:=h2 t ht
      exact ⟨(t.f1-1).toNat,List.mem_range.2 (by omega),by omega⟩
    · rintro ⟨j,hj,rfl⟩
      have:=List.mem_range.1 hj
      exact h3 _ (by omega) (by omega))
  have:=hp.length_eq
  rw [List.length_map,List.length_range] at this
  omega
end Go.Proofs.YtelecnmflodkkaaGreatDoor.Q

namespace Go.Proofs.YtelecnmflodkkaaGreatDoor.Q
open Go.RowKit Go.Proofs.YtelecnmflodkkaaGreatDoor.P Go.Proofs.YtelecnmflodkkaaGreatDoorW.PrintWords Go.Proofs.YtelecnmflodkkaaGreatDoorW.PrintMore

def risesFrom:Int→List Int→Bool
  | _,[]=>true
  | p,n :: r=>isNode n && (decide (p<n) && risesFrom n r)
theorem rises_length:∀ (s:List Int) (p:Int),p≤5→risesFrom p s=true→(s.length:Int)≤5-p
  | [],p,h,_=>by simp;omega
  | n :: r,p,h,hs=>by
    simp only [risesFrom,Bool.and_eq_true,decide_eq_true_eq] at hs
    have:=rises_length r n ((isNode_iff n).1 hs.1).2 hs.2.2
    simp only [List.length_cons]
    omega
def prevI (l:List Int) (i:Nat):Int:=if i=0 then 0 else l.getD (i-1) 0
theorem prevI_succ {l:List Int} {i:Nat} {m:Int} (h:l.getD i 0=m):prevI l (i+1)=m:=by
  unfold prevI
  rw [if_neg (by omega),Nat.add_sub_cancel]
  exact h
theorem down_l0 (l:List Int) (hl:l.length≤1048576):∀ (s:List Int) (i:Nat),l.drop i=s→i≤l.length→Ev (fun k=>Y29.l0 k l (i:Int)) (risesFrom (prevI l i) s)
  | [],i,h,hi=>by
    have:=dropNil' h hi
    refine Ev.step (f:=fun _=>some true) (fun k=>?_) (by simp only [risesFrom];exact Ev.now _)
    simp only [Y29.l0]
    rw [if_neg (by omega)]
  | m :: s,i,h,hi=>by
    obtain ⟨h1,h2,h3⟩:=dropCons h 0
    have hr:=rd_of h2
    have ih:=down_l0 l hl s (i+1) h3 (by omega)
    rw [prevI_succ h2] at ih
    refine Ev.step (fun k=>by simp only [Y29.l0,hr];rw [if_pos (by omega),if_pos (by omega)]) (evBind1 (l02Node_is m) ?_)
    have jT:Ev (fun k=>Y29.j1 k l (i:Int) true) false:=Ev.step (f:=fun _=>some false) (fun k=>by simp [Y29.j1]) (Ev.now _)
    have jF:Ev (fun k=>Y29.j1 k l (i:Int) false) (risesFrom m s):=Ev.step (f:=fun k=>Y29.l0 k l ((i+1:Nat):Int)) (fun k=>by simp only [Y29.j1];rw [if_neg (by simp),w64 (by omega) (by omega)];rfl) ih
    simp only [risesFrom]
    cases hn:isNode m with
    | false=>exact evNeg (by simp) jT
    | true =>
      have hm:=(isNode_iff m).1 hn
      refine evPos rfl ?_
      by_cases h0:i=0
      · have e:prevI l i=0:=if_pos h0
        rw [e,decide_eq_true (show (0:Int)<m by omega)]
        exact evNeg (by omega) jF
      · have e:prevI l i=l.getD (i-1) 0:=if_neg h0
        have hp:rd l ((i:Int)-1)=prevI l i:=by
          rw [e,show (i:Int)-1=((i-1:Nat):Int) by omega]
          simp [rd]
        rw [w64 (by omega) (by omega),hp]
        refine evPos (by omega) (evPos (by omega) (evPos (by omega) ?_))
        by_cases hlt:prevI l i<m
        · rw [decide_eq_true hlt,decide_eq_false (show ¬ prevI l i≥m by omega)]
          exact jF
        · rw [decide_eq_false hlt,decide_eq_true (show prevI l i≥m by omega)]
          exact jT
theorem down_ev (l:List Int) (hl:l.length≤1048576):Ev (fun k=>Y29.f k l) (risesFrom 0 l):=down_l0 l hl l 0 rfl (by omega)
theorem rising_l0 (l:List Int) (hl:l.length≤1048576):∀ (s:List Int) (i:Nat),l.drop i=s→i≤l.length→Ev (fun k=>Y27.l0 k l 5 l (l.length:Int) (i:Int)) (risesFrom (prevI l i) s)
  | [],i,h,hi=>by
    have:=dropNil' h hi
    refine Ev.step (f:=fun _=>some true) (fun k=>?_) (by simp only [risesFrom];exact Ev.now _)
    simp only [Y27.l0]
    rw [if_neg (by omega)]
  | m :: s,i,h,hi=>by
    obtain ⟨h1,h2,h3⟩:=dropCons h 0
    have hr:=rd_of h2
    have ih:=rising_l0 l hl s (i+1) h3 (by omega)
    rw [prevI_succ h2] at ih
    refine Ev.step (fun k=>by simp only [Y27.l0,hr];rw [if_pos (by omega),if_pos (by omega),if_pos (by omega)]) (evBind1 (within_is m 1 5) ?_)
    have jT:Ev (fun k=>Y27.j1 k l 5 l (l.length:Int) (i:Int) true) false:=Ev.step (f:=fun _=>some false) (fun k=>by simp [Y27.j1]) (Ev.now _)
    have jF:Ev (fun k=>Y27.j1 k l 5 l (l.length:Int) (i:Int) false) (risesFrom m s):=Ev.step (f:=fun k=>Y27.l0 k l 5 l (l.length:Int) ((i+1:Nat):Int)) (fun k=>by simp only [Y27.j1];rw [if_neg (by simp),w64 (by omega) (by omega)];rfl) ih
    simp only [risesFrom]
    show Ev (fun k=>if isNode m=true then _ else _) _
    cases hn:isNode m with
    | false=>exact evNeg (by simp) jT
    | true =>
      have hm:=(isNode_iff m).1 hn
      refine evPos rfl ?_
      by_cases h0:i=0
      · have e:prevI l i=0:=if_pos h0
        rw [e,decide_eq_true (show (0:Int)<m by omega)]
        exact evNeg (by omega) jF
      · have e:prevI l i=l.getD (i-1) 0:=if_neg h0
        have hp:rd l ((i:Int)-1)=prevI l i:=by
          rw [e,show (i:Int)-1=((i-1:Nat):Int) by omega]
          simp [rd]
        rw [w64 (by omega) (by omega),hp]
        refine evPos (by omega) (evPos (by omega) (evPos (by omega) ?_))
        by_cases hlt:prevI l i<m
        · rw [decide_eq_true hlt,decide_eq_false (show ¬ prevI l i≥m by omega)]
          exact jF
        · rw [decide_eq_false hlt,decide_eq_true (show prevI l i≥m by omega)]
          exact jT
theorem rising_ev (l:List Int) (hl:l.length≤1048576):Ev (fun k=>Y27.f k l 5) (risesFrom 0 l):=rising_l0 l hl l 0 rfl (by omega)
theorem cap_ev (d:List Int) (x:Int) (hd:d.length≤1048576):Ev (fun k=>Y60.f k x d) (decide (x ∈ d)):=Ev.bind (Contains_ev d x (by omega)) (Ev.now _)
theorem indexP_l0 (l d:List Int) (hl:l.length≤1048576) (hd:d.length≤1048576):∀ (s:List Int) (i:Nat),l.drop i=s→i≤l.length →
    ∃ r,Ev (fun k=>Y10.l0 k l (l.length:Int) (i:Int) d) r∧((r = -1∧∀ x ∈ s,x ∉ d)∨∃ a b:List Int,∃ m:Int,s=a ++ m :: b∧r=((i+a.length:Nat):Int)∧(∀ x ∈ a,x ∉ d)∧m ∈ d)
  | [],i,h,hi=>by
    have:=dropNil' h hi
    refine ⟨-1,Ev.step (f:=fun _=>some (-1)) (fun k=>?_) (Ev.now _),.inl ⟨rfl,fun _ h=>by cases h⟩⟩
    simp only [Y10.l0]
    rw [if_neg (by omega)]
  | m :: s,i,h,hi=>by
    obtain ⟨h1,h2,h3⟩:=dropCons h 0
    have hr:=rd_of h2
    have st:∀ {R:Int},Ev (fun k=>if decide (m ∈ d)=true then some (i:Int) else Y10.l0 k l (l.length:Int) (wrap64 ((i:Int)+1)) d) R→Ev (fun k=>Y10.l0 k l (l.length:Int) (i:Int) d) R:=fun h =>
      Ev.step (fun k=>by simp only [Y10.l0,hr];rw [if_pos (by omega),if_pos (by omega),if_pos (by omega)]) (Ev.bind (cap_ev d m hd) h)
    by_cases hm:m ∈ d
    · exact ⟨i,st (evPos (decide_eq_true hm) (Ev.now _)),.inr ⟨[],s,m,rfl,by simp,(fun _ h=>by cases h),hm⟩⟩
    · obtain ⟨r,e1,e2⟩:=indexP_l0 l d hl hd s (i+1) h3 (by omega)
      refine ⟨r,st (evNeg (by simp [hm]) (by rw [w64 (by omega) (by omega)];exact e1)),?_⟩
      rcases e2 with ⟨rfl,e2⟩ | ⟨a,b,c,rfl,rfl,e3,e4⟩
      · refine .inl ⟨rfl,fun x hx=>?_⟩
        rcases List.mem_cons.1 hx with rfl | hx
        · exact hm
        · exact e2 x hx
      · refine .inr ⟨m :: a,b,c,rfl,by simp only [List.length_cons];omega,fun x hx=>?_,e4⟩
        rcases List.mem_cons.1 hx with rfl | hx
        · exact hm
        · exact e3 x hx
theorem delete_l0 (d:List Int) (hd:d.length≤1048576):∀ (s cur:List Int) (a j:Nat),cur.drop j=s→j≤cur.length→a≤j→cur.length≤1048576 →
    Ev (fun k=>Y5.l0 k cur (a:Int) (j:Int) d) (cur.take a ++ s.filter (notIn d))
  | [],cur,a,j,h,hj,ha,hl=>by
    have:=dropNil' h hj
    refine Ev.step (f:=fun _=>some (cur.take a)) (fun k=>?_) (by simp only [List.filter_nil,List.append_nil];exact Ev.now _)
    simp only [Y5.l0]
    rw [if_neg (by omega),if_pos (by omega),if_pos (by omega),Int.toNat_natCast]
  | m :: s,cur,a,j,h,hj,ha,hl=>by
    obtain ⟨h1,h2,h3⟩:=dropCons h 0
    have hr:=rd_of h2
    refine Ev.step (fun k=>by simp only [Y5.l0,hr];rw [if_pos (by omega),if_pos (by omega)]) (Ev.bind (cap_ev d m hd) ?_)
    by_cases hm:m ∈ d
    · rw [List.filter_cons_of_neg (notIn_neg hm)]
      refine evPos (decide_eq_true hm) ?_
      rw [w64 (by omega) (by omega)]
      exact delete_l0 d hd s cur a (j+1) h3 (by omega) (by omega) hl
    · rw [List.filter_cons_of_pos (notIn_pos hm)]
      refine evNeg (by simp [hm]) (evPos (by omega) (evPos (by omega) ?_))
      rw [w64 (by omega) (by omega),w64 (by omega) (by omega),Int.toNat_natCast]
      have ih:=delete_l0 d hd s (cur.set a m) (a+1) (j+1) (by rw [List.drop_set_of_lt (by omega)];exact h3) (by rw [List.length_set];omega) (by omega) (by rw [List.length_set];exact hl)
      have e:(cur.set a m).take (a+1)=cur.take a ++ [m]:=by
        rw [List.take_succ_eq_append_getElem (by simp;omega),List.take_set_of_le (by omega)]
        simp
      rw [e,List.append_assoc,List.singleton_append] at ih
      exact ih
theorem DeleteFunc_ev (l d:List Int) (hl:l.length≤1048576) (hd:d.length≤1048576):Ev (fun k=>Y5.f k l d) (l.filter (notIn d)):=by
  obtain ⟨r,e1,e2⟩:=indexP_l0 l d hl hd l 0 rfl (by omega)
  refine Ev.bind e1 ?_
  rcases e2 with ⟨rfl,e2⟩ | ⟨a,b,m,rfl,rfl,e3,e4⟩
  · refine evPos rfl ?_
    rw [List.filter_eq_self.2 (fun x hx=>notIn_pos (e2 x hx))]
    exact Ev.now _
  · refine evNeg (by omega) ?_
    have ih:=delete_l0 d hd b (a ++ m :: b) a.length (a.length+1) (by simp) (by simp) (by omega) hl
    have ef:(a ++ m :: b).filter (notIn d)=(a ++ m :: b).take a.length ++ b.filter (notIn d):=by
      rw [List.filter_append,List.filter_cons_of_neg (notIn_neg e4),List.filter_eq_self.2 (fun x hx=>notIn_pos (e3 x hx))]
      simp
    simp only [List.length_append,List.length_cons] at hl
    rw [ef,Nat.zero_add,w64 (by omega) (by omega)]
    exact ih
def standL (d:List Int):List Int→List Int→List Int
  | [],_=>[]
  | o :: r,q=>if o ∈ d then (match q with
      | []=>standL d r []
      | x :: q'=>x :: standL d r q') else o :: standL d r q
theorem standL_length (d:List Int):∀ s q:List Int,(standL d s q).length≤s.length
  | [],_=>by simp [standL]
  | o :: r,q=>by
    simp only [standL]
    split
    · cases q with
      | nil=>have:=standL_length d r [];simp only [List.length_cons];omega
      | cons x q'=>have:=standL_length d r q';simp only [List.length_cons];omega
    · have:=standL_length d r q;simp only [List.length_cons];omega
abbrev Pl:=S75
def placeS (d:List Int):List Int→List Int→List Pl
  | [],_=>[]
  | o :: r,q=>if o ∈ d then (match q with
      | []=>placeS d r []
      | x :: q'=>⟨x,o⟩ :: placeS d r q') else ⟨o,o⟩ :: placeS d r q
theorem placeS_length (d:List Int):∀ s q:List Int,(placeS d s q).length≤s.length
  | [],_=>by simp [placeS]
  | o :: r,q=>by
    simp only [placeS]
    split
    · cases q with
      | nil=>have:=placeS_length d r [];simp only [List.length_cons];omega
      | cons x q'=>have:=placeS_length d r q';simp only [List.length_cons];omega
    · have:=placeS_length d r q;simp only [List.length_cons];omega
theorem placeS_map (d:List Int):∀ s q:List Int,(placeS d s q).map (fun x=>x.f0)=standL d s q
  | [],_=>rfl
  | o :: r,q=>by
    simp only [placeS,standL]
    split
    · cases q with
      | nil=>exact placeS_map d r []
      | cons x q'=>simp only [List.map_cons,placeS_map d r q']
    · simp only [List.map_cons,placeS_map d r q]
theorem places_l0 (own d:List Int) (ho:own.length≤1048576) (hd:d.length≤1048576):∀ (s:List Int) (i:Nat) (q:List Int) (out:List Pl),own.drop i=s→i≤own.length→q.length≤1048576→out.length≤i →
    Ev (fun k=>Y42.l0 k q out own (own.length:Int) (i:Int) d) (out ++ placeS d s q)
  | [],i,q,out,h,hi,hq,hc=>by
    have:=dropNil' h hi
    refine Ev.step (f:=fun _=>some out) (fun k=>?_) (by simp only [placeS,List.append_nil];exact Ev.now _)
    simp only [Y42.l0]
    rw [if_neg (by omega)]
  | o :: s,i,q,out,h,hi,hq,hc=>by
    obtain ⟨h1,h2,h3⟩:=dropCons h 0
    have hr:=rd_of h2
    refine Ev.step (fun k=>by simp only [Y42.l0,hr];rw [if_pos (by omega),if_pos (by omega),if_pos (by omega)]) (Ev.bind (Contains_ev d o (by omega)) ?_)
    simp only [placeS]
    by_cases hm:o ∈ d
    · rw [if_pos hm]
      refine evPos (decide_eq_true hm) ?_
      cases q with
      | nil =>
        refine evNeg (by simp) ?_
        rw [w64 (by omega) (by omega)]
        exact places_l0 own d ho hd s (i+1) [] out h3 (by omega) (by simp) (by omega)
      | cons x q' =>
        simp only [List.length_cons] at hq ⊢
        refine evPos (by omega) (evPos (by omega) (evPos (by omega) (evPos (by omega) ?_)))
        rw [w64 (by omega) (by omega)]
        have ih:=places_l0 own d ho hd s (i+1) q' (out ++ [⟨x,o⟩]) h3 (by omega) (by omega) (by simp;omega)
        rw [List.append_assoc,List.singleton_append] at ih
        exact ih
    · rw [if_neg hm]
      refine evNeg (by simp [hm]) (evPos (by omega) ?_)
      rw [w64 (by omega) (by omega)]
      have ih:=places_l0 own d ho hd s (i+1) q (out ++ [⟨o,o⟩]) h3 (by omega) hq (by simp;omega)
      rw [List.append_assoc,List.singleton_append] at ih
      exact ih
def standAt (l:List Tok) (h:Int) (m:Nat) (d:List Int):List Int:=standL d (ownersL l h m) (((orderL l h).drop (ownersL l h m).length).filter (notIn d))
theorem places_ev (n:Int) (l:List Tok) (key:ByteArray) (m:Nat) (d:List Int) (hl:l.length≤1048576) (hk:key.size≤1048576) (hd:d.length≤1048576) :
    Ev (fun k=>Y42.f k n l key (m:Int) d) (placeS d (ownersL l (fnv key) m) (((orderL l (fnv key)).drop (ownersL l (fnv key) m).length).filter (notIn d))):=by
  have hol:=orderL_length l (fnv key)
  have hwl:=ownersL_length l (fnv key) m
  refine Ev.bind (order_ev n l key hl hk) ?_
  have e:mn (m:Int) ((orderL l (fnv key)).length:Int)=((min m (orderL l (fnv key)).length:Nat):Int):=by unfold mn;split <;> omega
  rw [e,Int.toNat_natCast]
  refine evPos (by omega) (evPos (by omega) (evBind1 (a:=ownersL l (fnv key) m) rfl ?_))
  have hwo:(ownersL l (fnv key) m).length≤(orderL l (fnv key)).length:=by
    unfold ownersL
    rw [List.length_take]
    omega
  rw [Int.toNat_natCast]
  refine evPos (by omega) (evPos (by omega) (evBind1 (a:=(orderL l (fnv key)).drop (ownersL l (fnv key) m).length) ?_ ?_))
  · simp only [Y49.f,Option.bind_some,List.length_nil,List.nil_append]
    rw [if_pos (by rw [List.length_drop];omega)]
  · refine Ev.bind (DeleteFunc_ev _ d (by rw [List.length_drop];omega) hd) ?_
    have hf:=List.length_filter_le (notIn d) ((orderL l (fnv key)).drop (ownersL l (fnv key) m).length)
    rw [List.length_drop] at hf
    exact places_l0 (ownersL l (fnv key) m) d (by omega) hd _ 0 _ [] rfl (by omega) (by omega) (by simp)
theorem stand_l0 (ps:List Pl) (hp:ps.length≤1048576):∀ (s:List Pl) (i:Nat) (acc:List Int),ps.drop i=s→i≤ps.length→acc.length≤i→Ev (fun k=>Y21.l0 k acc ps (ps.length:Int) (i:Int)) (acc ++ s.map (fun x=>x.f0))
  | [],i,acc,h,hi,hc=>by
    have:=dropNil' h hi
    refine Ev.step (f:=fun _=>some acc) (fun k=>?_) (by simp only [List.map_nil,List.append_nil];exact Ev.now _)
    simp only [Y21.l0]
    rw [if_neg (by omega)]
  | x :: s,i,acc,h,hi,hc=>by
    obtain ⟨h1,h2,h3⟩:=dropCons h z75
    have hr:rd_T75 ps (i:Int)=x:=by simpa [rd_T75] using h2
    have ih:=stand_l0 ps hp s (i+1) (acc ++ [x.f0]) h3 (by omega) (by simp;omega)
    rw [List.append_assoc,List.singleton_append] at ih
    refine Ev.step (fun k=>?_) ih
    simp only [Y21.l0,hr]
    rw [if_pos (by omega),if_pos (by omega),if_pos (by omega),if_pos (by omega),w64 (by omega) (by omega)]
    rfl
def standOut (n:Int) (l:List Tok) (key:ByteArray) (m:Int) (d:List Int):List Int:=if (keyed n l key && (isNode m && risesFrom 0 d))=true then standAt l (fnv key) m.toNat d else []
theorem standOut_length (n:Int) (l:List Tok) (key:ByteArray) (m:Int) (d:List Int) (hl:l.length≤1048576):(standOut n l key m d).length≤1048576:=by
  unfold standOut
  split
  · have a:=standL_length d (ownersL l (fnv key) m.toNat) (((orderL l (fnv key)).drop (ownersL l (fnv key) m.toNat).length).filter (notIn d))
    have b:=ownersL_length l (fnv key) m.toNat
    unfold standAt
    omega
  · simp
theorem impl_StandIns_ev (n:Int) (l:List Tok) (key:ByteArray) (m:Int) (d:List Int) (hl:l.length≤1048576) (hk:key.size≤1048576) (hd:d.length≤1048576):Ev (fun k=>Y21.f k n l key m d) (standOut n l key m d):=by
  unfold Y21.f standOut
  have jT:Ev (fun k=>Y21.j0 k key m d true n l) []:=Ev.step (f:=fun _=>some []) (fun k=>by simp [Y21.j0]) (Ev.now _)
  refine evBind1 rfl ?_
  by_cases h4:(d.length:Int)>400
  · have e:risesFrom 0 d=false:=by
      cases e:risesFrom 0 d with
      | false=>rfl
      | true=>have:=rises_length d 0 (by omega) e;omega
    rw [e,Bool.and_false,Bool.and_false]
    exact evPos (decide_eq_true h4) jT
  · refine evNeg (by simp;omega) (Ev.bind (isKeyed_ev n l key hl hk) ?_)
    cases keyed n l key with
    | false=>exact evNeg (by simp) jT
    | true =>
      refine evPos rfl (evBind1 (isNode_is _) ?_)
      cases hm:isNode m with
      | false=>exact evNeg (by simp) jT
      | true =>
        refine evPos rfl (Ev.bind (rising_ev d hd) ?_)
        cases risesFrom 0 d with
        | false=>exact jT
        | true =>
          have hm':=(isNode_iff m).1 hm
          obtain ⟨m,rfl⟩:=Int.eq_ofNat_of_zero_le (show 0≤m by omega)
          have hp:=placeS_length d (ownersL l (fnv key) m) (((orderL l (fnv key)).drop (ownersL l (fnv key) m).length).filter (notIn d))
          have hw:=ownersL_length l (fnv key) m
          refine Ev.step (fun k=>by simp only [Y21.j0];rw [if_neg (by simp)]) (Ev.bind (places_ev n l key m d hl hk hd) ?_)
          have ih:=stand_l0 _ (show (placeS d (ownersL l (fnv key) m) (((orderL l (fnv key)).drop (ownersL l (fnv key) m).length).filter (notIn d))).length≤1048576 by omega) _ 0 [] rfl (by omega) (by simp)
          rw [List.nil_append,List.drop_zero,placeS_map] at ih
          exact ih
theorem list_l1 (d order own:List Int) (hd:d.length≤1048576) (ho:order.length≤1048576) (hw:own.length≤1048576) (o:Int) (i:Nat) (hi:i<own.length) (hr:rd own (i:Int)=o) {R:List Int × List Int}:∀ (n next:Nat) (who of:List Int) (x:Int),next+n=order.length+1→who.length≤i→of.length≤i →
    (x ∉ d→Ev (fun k=>Y19.l0 k d order own (next:Int) (who ++ [x]) (of ++ [o]) ((i+1:Nat):Int)) R) →
    (x ∈ d→∀ y q,(order.drop next).filter (notIn d)=y :: q→∀ nx:Nat,nx≤order.length+1→(order.drop nx).filter (notIn d)=q→Ev (fun k=>Y19.l0 k d order own (nx:Int) (who ++ [y]) (of ++ [o]) ((i+1:Nat):Int)) R) →
    (x ∈ d→(order.drop next).filter (notIn d)=[]→∀ nx:Nat,nx≤order.length+1→(order.drop nx).filter (notIn d)=[]→Ev (fun k=>Y19.l0 k d order own (nx:Int) who of ((i+1:Nat):Int)) R) →
    Ev (fun k=>Y19.l1 k d order own (next:Int) who of (i:Int) x) R:=by
  have put:∀ (next:Nat) (who of:List Int) (x:Int),who.length≤i→of.length≤i→x ∉ d→Ev (fun k=>Y19.l0 k d order own (next:Int) (who ++ [x]) (of ++ [o]) ((i+1:Nat):Int)) R→Ev (fun k=>Y19.l1 k d order own (next:Int) who of (i:Int) x) R:=fun next who of x h1 h2 hx h=>by
    refine Ev.step (fun k=>by rw [Y19.l1]) (Ev.bind (among_ev d x (by omega)) ?_)
    refine evNeg (by simp [hx]) ?_
    refine Ev.step (fun k=>by simp only [Y19.j2];rw [if_neg (by simp)]) (Ev.bind (among_ev d x (by omega)) ?_)
    refine evNeg (by simp [hx]) (evPos (by omega) (evPos (by omega) (evPos (by omega) (evPos (by omega) ?_))))
    rw [hr,w64 (by omega) (by omega)]
    exact h
  intro n
  induction n with
  | zero =>
    intro next who of x hn h1 h2 ha hb hc
    by_cases hx:x ∈ d
    · have e:(order.drop next).filter (notIn d)=[]:=by rw [List.drop_eq_nil_of_le (by omega)];rfl
      refine Ev.step (fun k=>by rw [Y19.l1]) (Ev.bind (among_ev d x (by omega)) ?_)
      refine evPos (decide_eq_true hx) ?_
      rw [decide_eq_false (show ¬ (next:Int)≤(order.length:Int) by omega)]
      refine Ev.step (fun k=>by simp only [Y19.j2];rw [if_neg (by simp)]) (Ev.bind (among_ev d x (by omega)) ?_)
      refine evPos (decide_eq_true hx) ?_
      rw [w64 (by omega) (by omega)]
      exact hc hx e next (by omega) e
    · exact put next who of x h1 h2 hx (ha hx)
  | succ n ih =>
    intro next who of x hn h1 h2 ha hb hc
    by_cases hx:x ∈ d
    · refine Ev.step (fun k=>by rw [Y19.l1]) (Ev.bind (among_ev d x (by omega)) ?_)
      refine evPos (decide_eq_true hx) ?_
      rw [decide_eq_true (show (next:Int)≤(order.length:Int) by omega)]
      by_cases hlt:next<order.length
      · refine Ev.step (fun k=>by simp only [Y19.j2];rw [if_pos trivial,if_pos (by omega),if_pos (by omega),w64 (by omega) (by omega)];first | done | rfl) (ih (next+1) who of (rd order (next:Int)) (by omega) h1 h2 ?_ ?_ ?_)
        · intro hy
          have e:(order.drop next).filter (notIn d)=rd order (next:Int) :: (order.drop (next+1)).filter (notIn d):=by
            rw [List.drop_eq_getElem_cons hlt,show order[next]=rd order (next:Int) by simp [rd,List.getD_eq_getElem?_getD,List.getElem?_eq_getElem hlt],List.filter_cons_of_pos (notIn_pos hy)]
          exact hb hx _ _ e (next+1) (by omega) rfl
        · intro hy y q hq nx h3 h4
          have e:(order.drop next).filter (notIn d)=(order.drop (next+1)).filter (notIn d):=by
            rw [List.drop_eq_getElem_cons hlt,show order[next]=rd order (next:Int) by simp [rd,List.getD_eq_getElem?_getD,List.getElem?_eq_getElem hlt],List.filter_cons_of_neg (notIn_neg hy)]
          exact hb hx y q (e.trans hq) nx h3 h4
        · intro hy hq nx h3 h4
          have e:(order.drop next).filter (notIn d)=(order.drop (next+1)).filter (notIn d):=by
            rw [List.drop_eq_getElem_cons hlt,show order[next]=rd order (next:Int) by simp [rd,List.getD_eq_getElem?_getD,List.getElem?_eq_getElem hlt],List.filter_cons_of_neg (notIn_neg hy)]
          exact hc hx (e.trans hq) nx h3 h4
      · have e0:(order.drop next).filter (notIn d)=[]:=by rw [List.drop_eq_nil_of_le (by omega)];rfl
        refine Ev.step (fun k=>by simp only [Y19.j2];rw [if_pos trivial,if_neg (by omega),w64 (by omega) (by omega)];first | done | rfl) (ih (next+1) who of x (by omega) h1 h2 (fun h=>absurd hx h) ?_ ?_)
        · intro _ y q hq
          rw [List.drop_eq_nil_of_le (by omega)] at hq
          cases hq
        · intro _ _ nx h3 h4
          exact hc hx e0 nx h3 h4
    · exact put next who of x h1 h2 hx (ha hx)
def standO (d:List Int):List Int→List Int→List Int
  | [],_=>[]
  | o :: r,q=>if o ∈ d then (match q with
      | []=>standO d r []
      | _ :: q'=>o :: standO d r q') else o :: standO d r q
theorem list_l0 (d order own:List Int) (hd:d.length≤1048576) (ho:order.length≤1048576) (hw:own.length≤1048576):∀ (s:List Int) (i next:Nat) (who of q:List Int),own.drop i=s→i≤own.length→next≤order.length+1→who.length≤i→of.length≤i→(order.drop next).filter (notIn d)=q →
    Ev (fun k=>Y19.l0 k d order own (next:Int) who of (i:Int)) (who ++ standL d s q,of ++ standO d s q)
  | [],i,next,who,of,q,h,hi,hn,h1,h2,_=>by
    have:=dropNil' h hi
    refine Ev.step (f:=fun _=>some (who,of)) (fun k=>?_) (by simp only [standL,standO,List.append_nil];exact Ev.now _)
    simp only [Y19.l0]
    rw [if_neg (by omega)]
  | o :: s,i,next,who,of,q,h,hi,hn,h1,h2,hq=>by
    obtain ⟨g1,g2,g3⟩:=dropCons h 0
    have hr:=rd_of g2
    have st:∀ {R:List Int × List Int},Ev (fun k=>Y19.l1 k d order own (next:Int) who of (i:Int) o) R→Ev (fun k=>Y19.l0 k d order own (next:Int) who of (i:Int)) R:=fun h =>
      Ev.step (fun k=>by simp only [Y19.l0,hr];rw [if_pos (by omega),if_pos (by omega)]) h
    simp only [standL,standO]
    by_cases hx:o ∈ d
    · rw [if_pos hx,if_pos hx]
      cases q with
      | nil =>
        refine st (list_l1 d order own hd ho hw o i g1 hr (order.length+1-next) next who of o (by omega) h1 h2 (fun h=>absurd hx h) (fun _ y q e=>?_) (fun _ _ nx h3 h4=>?_))
        · rw [hq] at e;cases e
        · exact list_l0 d order own hd ho hw s (i+1) nx who of [] g3 (by omega) h3 (by omega) (by omega) h4
      | cons y q =>
        refine st (list_l1 d order own hd ho hw o i g1 hr (order.length+1-next) next who of o (by omega) h1 h2 (fun h=>absurd hx h) (fun _ y2 q2 e nx h3 h4=>?_) (fun _ e=>?_))
        · rw [hq] at e
          injection e with e1 e2
          subst e1
          subst e2
          have:=list_l0 d order own hd ho hw s (i+1) nx (who ++ [y]) (of ++ [o]) q g3 (by omega) h3 (by simp;omega) (by simp;omega) h4
          rw [List.append_assoc,List.singleton_append,List.append_assoc,List.singleton_append] at this
          exact this
        · rw [hq] at e;cases e
    · rw [if_neg hx,if_neg hx]
      have:=list_l0 d order own hd ho hw s (i+1) next (who ++ [o]) (of ++ [o]) q g3 (by omega) hn (by simp;omega) (by simp;omega) hq
      rw [List.append_assoc,List.singleton_append,List.append_assoc,List.singleton_append] at this
      exact st (list_l1 d order own hd ho hw o i g1 hr (order.length+1-next) next who of o (by omega) h1 h2 (fun _=>this) (fun h=>absurd h hx) (fun h=>absurd h hx))
theorem l04List_ev (n:Int) (l:List Tok) (key:ByteArray) (m:Nat) (d:List Int) (hl:l.length≤1048576) (hk:key.size≤1048576) (hd:d.length≤1048576) :
    Ev (fun k=>Y19.f k n l key (m:Int) d) (standAt l (fnv key) m d,standO d (ownersL l (fnv key) m) (((orderL l (fnv key)).drop (ownersL l (fnv key) m).length).filter (notIn d))):=by
  have hol:=orderL_length l (fnv key)
  have hwl:=ownersL_length l (fnv key) m
  have hwo:(ownersL l (fnv key) m).length≤(orderL l (fnv key)).length:=by
    unfold ownersL
    rw [List.length_take]
    omega
  refine Ev.bind (l04Order_ev n l key hl hk) (Ev.bind (l04Owners_ev n l key m hl hk) ?_)
  have:=list_l0 d (orderL l (fnv key)) (ownersL l (fnv key) m) hd (by omega) (by omega) (ownersL l (fnv key) m) 0 (ownersL l (fnv key) m).length [] [] _ rfl (by omega) (by omega) (by simp) (by simp) rfl
  rw [List.nil_append,List.nil_append] at this
  exact this
theorem spec_StandIns_ev (n:Int) (l:List Tok) (key:ByteArray) (m:Int) (d:List Int) (hl:l.length≤1048576) (hk:key.size≤1048576) (hd:d.length≤1048576):Ev (fun k=>Y24.f k n l key m d) (standOut n l key m d):=by
  unfold Y24.f standOut keyed
  have jT:Ev (fun k=>Y24.j0 k key m d true n l) []:=Ev.step (f:=fun _=>some []) (fun k=>by simp [Y24.j0]) (Ev.now _)
  refine Ev.bind (spec_RingRight_ev n l hl) ?_
  cases ringOk n l with
  | false=>exact evNeg (by simp) jT
  | true =>
    refine evPos rfl (Ev.bind (spec_NameRight_ev key hk) ?_)
    cases nameOk key with
    | false=>exact evNeg (by simp) jT
    | true =>
      refine evPos rfl (evBind1 (l02Node_is _) ?_)
      cases hm:isNode m with
      | false=>exact evNeg (by simp) jT
      | true =>
        refine evPos rfl (Ev.bind (down_ev d hd) ?_)
        cases risesFrom 0 d with
        | false=>exact jT
        | true =>
          have hm':=(isNode_iff m).1 hm
          obtain ⟨m,rfl⟩:=Int.eq_ofNat_of_zero_le (show 0≤m by omega)
          exact Ev.step (fun k=>by simp only [Y24.j0];rw [if_neg (by simp)]) (Ev.bind (l04List_ev n l key m d hl hk hd) (Ev.now _))
end Go.Proofs.YtelecnmflodkkaaGreatDoor.Q

namespace Go.Proofs.YtelecnmflodkkaaGreatDoor.Q
open Go.RowKit Go.Proofs.YtelecnmflodkkaaGreatDoor.P Go.Proofs.YtelecnmflodkkaaGreatDoorW.PrintWords Go.Proofs.YtelecnmflodkkaaGreatDoorW.PrintMore

/-- A source in order: where it stands, its mix, its size. -/
def SrcOk (b:List Int) (a m z:Int):Prop:=(0≤a∧a≤(b.length:Int))∧(0≤m∧m<18446744073709551616)∧(0≤z∧z≤12)∧b.length≤1048576
theorem xorw_range (x y:Int):0≤Go.bits .xor .u64 x y∧Go.bits .xor .u64 x y<18446744073709551616:=by
  have key:∀ n:Int,0≤IntKind.u64.wrap n∧IntKind.u64.wrap n<18446744073709551616:=fun n=>by rw [u64w];omega
  exact key _
theorem n_end {q most:Int} (hm:1<most) (hm2:most≤9223372036854775807):IntKind.u64.wrap most=most∧wrap64 (Int.tmod (IntKind.u64.wrap q) most)=(q % 18446744073709551616) % most:=by
  refine ⟨by rw [u64w];omega,?_⟩
  rw [u64w,Int.tmod_eq_emod_of_nonneg (by omega)]
  have h1:=Int.emod_nonneg (q % 18446744073709551616) (show most≠0 by omega)
  have h2:=Int.emod_lt_of_pos (q % 18446744073709551616) (show 0<most by omega)
  exact w64 (by omega) (by omega)
theorem n_ok {b:List Int} {a m z:Int} (h:SrcOk b a m z) (most:Int) (h2:most≤9223372036854775807) :
    ∃ r a' m',Y4.f b a m z most=some (r,a',m',z)∧0≤r∧(1<most→r<most)∧(most≤1→r=0)∧SrcOk b a' m' z:=by
  obtain ⟨⟨a0,a1⟩,hm,hz,hb⟩:=h
  by_cases h1:most≤1
  · exact ⟨0,a,m,by unfold Y4.f;rw [if_pos h1],by omega,by omega,fun _=>rfl,⟨a0,a1⟩,hm,hz,hb⟩
  · have hx:=fun x y=>xorw_range x y
    have fin:∀ q:Int,0≤(q % 18446744073709551616) % most∧(q % 18446744073709551616) % most<most:=fun q=>⟨Int.emod_nonneg _ (by omega),Int.emod_lt_of_pos _ (by omega)⟩
    unfold Y4.f
    rw [if_neg h1]
    by_cases ha:a<(b.length:Int)
    · rw [if_pos ha,if_pos a0,if_neg (by rw [(n_end (q:=0) (by omega) h2).1];omega)]
      refine ⟨_,_,_,by rw [(n_end (q:=0) (by omega) h2).1,(n_end (by omega) h2).2],(fin _).1,fun _=>(fin _).2,by omega,?_,hx _ _,hz,hb⟩
      rw [w64 (by omega) (by omega)];omega
    · rw [if_neg ha,if_neg (by rw [(n_end (q:=0) (by omega) h2).1];omega)]
      exact ⟨_,_,_,by rw [(n_end (q:=0) (by omega) h2).1,(n_end (by omega) h2).2],(fin _).1,fun _=>(fin _).2,by omega,⟨a0,a1⟩,hx _ _,hz,hb⟩
theorem one_ok {b:List Int} {a m z:Int} (h:SrcOk b a m z) (of:Int) (h2:of≤9223372036854775807):∃ r a' m',Y55.f b a m z of=some (r,a',m',z)∧SrcOk b a' m' z:=by
  obtain ⟨r,a',m',e,_,_,_,g⟩:=n_ok h of h2
  exact ⟨_,a',m',by unfold Y55.f;rw [e];rfl,g⟩
theorem source_l0 (l:List Int) (hl:l.length≤1048576):∀ (d i:Nat),l.length-i=d→i≤l.length→∀ m:Int,0≤m→m<18446744073709551616 →
    ∃ m' z,Ev (fun k=>Y20.l0 k l (i:Int) l 0 m 0) (l,0,m',z)∧SrcOk l 0 m' z:=by
  have stop:∀ (i:Int) (m:Int),0≤m→m<18446744073709551616→∃ m' z,Ev (fun k=>Y20.j1 k l i false l 0 m 0) (l,0,m',z)∧SrcOk l 0 m' z:=by
    intro i m h0 h1
    by_cases h:wrap64 ((l.length:Int) / 20)>12
    · exact ⟨m,12,Ev.step (f:=fun _=>some (l,0,m,12)) (fun k=>by simp only [Y20.j1];rw [if_neg (by simp),if_pos h]) (Ev.now _),⟨by omega,by omega⟩,⟨h0,h1⟩,by omega,hl⟩
    · refine ⟨m,wrap64 ((l.length:Int) / 20),Ev.step (f:=fun _=>some (l,0,m,wrap64 ((l.length:Int) / 20))) (fun k=>by simp only [Y20.j1];rw [if_neg (by simp),if_neg h]) (Ev.now _),⟨by omega,by omega⟩,⟨h0,h1⟩,?_,hl⟩
      rw [w64 (by omega) (by omega)] at h ⊢
      omega
  intro d
  induction d with
  | zero =>
    intro i hd hi m h0 h1
    obtain ⟨m',z,e,g⟩:=stop i m h0 h1
    refine ⟨m',z,Ev.step (fun k=>?_) e,g⟩
    simp only [Y20.l0]
    rw [if_neg (by omega)]
  | succ d ih =>
    intro i hd hi m h0 h1
    by_cases h64:i<64
    · have hw:∀ q:Int,0≤IntKind.u64.wrap q∧IntKind.u64.wrap q<18446744073709551616:=fun q=>by rw [u64w];omega
      obtain ⟨m',z,e,g⟩:=ih (i+1) (by omega) (by omega) (IntKind.u64.wrap ((Go.bits .xor .u64 m (IntKind.u64.wrap (rd l (i:Int))))*1099511628211)) (hw _).1 (hw _).2
      refine ⟨m',z,Ev.step (f:=fun k=>Y20.j1 k l (i:Int) true l 0 m 0) (fun k=>?_) (Ev.step (fun k=>?_) e),g⟩
      · simp only [Y20.l0]
        rw [if_pos (by omega)]
        congr 1
        simp;omega
      · simp only [Y20.j1]
        rw [if_pos trivial,if_pos (by omega),if_pos (by omega),w64 (x:=(i:Int)+1) (by omega) (by omega)]
        rfl
    · obtain ⟨m',z,e,g⟩:=stop i m h0 h1
      refine ⟨m',z,Ev.step (fun k=>?_) e,g⟩
      simp only [Y20.l0]
      rw [if_pos (by omega)]
      congr 1
      simp;omega
theorem source_ok (l:List Int) (hl:l.length≤1048576):∃ m z,Ev (fun k=>Y20.f k l) (l,0,m,z)∧SrcOk l 0 m z :=
  source_l0 l hl _ 0 rfl (by omega) _ (by omega) (by omega)
theorem strOfNums_size (l:List Int):(strOfNums l).size=l.length:=by
  rw [← data_length]
  simp [strOfNums]
theorem bytes_l0 {b:List Int} {z c:Int} (hc:c≤1048576):∀ (d:Nat) (i:Int),c-i=(d:Int)→0≤i→∀ (acc:List Int) (a m:Int),(acc.length:Int)=i→SrcOk b a m z →
    ∃ t a' m',Ev (fun k=>Y37.l0 k c acc i b a m z) (t,a',m',z)∧(t.size:Int)=c∧SrcOk b a' m' z
  | 0,i,hd,hi,acc,a,m,ha,h=>by
    refine ⟨strOfNums acc,a,m,Ev.step (f:=fun _=>some (strOfNums acc,a,m,z)) (fun k=>?_) (Ev.now _),by rw [strOfNums_size];omega,h⟩
    simp only [Y37.l0]
    rw [if_neg (by omega)]
  | d+1,i,hd,hi,acc,a,m,ha,h=>by
    obtain ⟨r,a1,m1,e,_,_,_,g⟩:=n_ok h 256 (by omega)
    obtain ⟨t,a2,m2,e2,h2,g2⟩:=bytes_l0 hc d (i+1) (by omega) (by omega) (acc ++ [r % 256]) a1 m1 (by simp;omega) g
    refine ⟨t,a2,m2,Ev.step (fun k=>?_) e2,h2,g2⟩
    simp only [Y37.l0,e,Option.bind_some]
    rw [if_pos (by omega),if_pos (by omega),w64 (x:=i+1) (by omega) (by omega)]
theorem bytes_ok {b:List Int} {a m z c:Int} (h:SrcOk b a m z) (h0:0≤c) (h1:c≤1048576):∃ t a' m',Ev (fun k=>Y37.f k b a m z c) (t,a',m',z)∧(t.size:Int)=c∧SrcOk b a' m' z :=
  bytes_l0 h1 c.toNat 0 (by omega) (by omega) [] a m rfl h
end Go.Proofs.YtelecnmflodkkaaGreatDoor.Q

namespace Go.Proofs.YtelecnmflodkkaaGreatDoor.Q
open Go.RowKit Go.Proofs.YtelecnmflodkkaaGreatDoor.P Go.Proofs.YtelecnmflodkkaaGreatDoorW.PrintWords Go.Proofs.YtelecnmflodkkaaGreatDoorW.PrintMore
theorem l04Ring_ok {b:List Int} {a m z:Int} (h:SrcOk b a m z):∃ n l a' m',Ev (fun k=>Y47.f k b a m z) (n,l,a',m',z)∧l.length≤40∧SrcOk b a' m' z:=by
  obtain ⟨r1,a1,m1,e1,p0,p1,_,g1⟩:=n_ok h 5 (by omega)
  have p1:=p1 (by omega)
  obtain ⟨r2,a2,m2,e2,q0,q1,_,g2⟩:=n_ok g1 4 (by omega)
  have q1:=q1 (by omega)
  have hn:isNode (1+r1)=true:=(isNode_iff _).2 (by omega)
  have he:isWithin (1+r2) 1 8=true:=by simp only [isWithin,Bool.and_eq_true,decide_eq_true_eq];omega
  have hT:=(ring_is hn he).2.1
  have hL:=ringT_length hn he
  have hL1:=(ring_is hn he).2.2
  have hw1:wrap64 (1+r1)=1+r1:=w64 (by omega) (by omega)
  have hw2:wrap64 (1+r2)=1+r2:=w64 (by omega) (by omega)
  obtain ⟨r3,a3,m3,e3,g3⟩:=one_ok g2 15 (by omega)
  cases r3 with
  | false =>
    refine ⟨1+r1,ringT (1+r1) (1+r2),a3,m3,evBind1 e1 (evBind1 e2 ?_),hL,g3⟩
    simp only [hw1,hw2]
    exact Ev.bind hT (evBind1 e3 (evNeg (by simp) (Ev.now _)))
  | true =>
    obtain ⟨r4,a4,m4,e4,t0,t1,_,g4⟩:=n_ok g3 2 (by omega)
    by_cases c:r4=0
    · obtain ⟨r5,a5,m5,e5,_,_,_,g5⟩:=n_ok g4 7 (by omega)
      refine ⟨r5,ringT (1+r1) (1+r2),a5,m5,evBind1 e1 (evBind1 e2 ?_),hL,g5⟩
      simp only [hw1,hw2]
      exact Ev.bind hT (evBind1 e3 (evPos rfl (evBind1 e4 (evPos c (evBind1 e5 (Ev.now _))))))
    · obtain ⟨r5,a5,m5,e5,_,_,_,g5⟩:=n_ok g4 6 (by omega)
      have h1:1*1≤(1+r1)*(1+r2):=Int.mul_le_mul (by omega) (by omega) (by omega) (by omega)
      refine ⟨1+r1,(ringT (1+r1) (1+r2)).set (0:Int).toNat ⟨(rd_T78 (ringT (1+r1) (1+r2)) 0).f0,r5⟩,a5,m5,evBind1 e1 (evBind1 e2 ?_),by rw [List.length_set];exact hL,g5⟩
      simp only [hw1,hw2]
      exact Ev.bind hT (evBind1 e3 (evPos rfl (evBind1 e4 (evNeg c (evBind1 e5 (evPos (by show (0:Int)<((ringT (1+r1) (1+r2)).length:Int);omega) (Ev.now _)))))))
theorem pick_ok {b:List Int} {a m z:Int} (h:SrcOk b a m z) (l:List ByteArray) (h1:1<l.length) (h2:l.length≤1000) (hb:∀ x ∈ l,x.size≤10):∃ t a' m',Y65.f b a m z l=some (t,a',m',z)∧t.size≤10∧SrcOk b a' m' z:=by
  obtain ⟨r,a1,m1,e,p0,p1,_,g⟩:=n_ok h (l.length:Int) (by omega)
  have p1:=p1 (by omega)
  refine ⟨rdOf ByteArray.empty l r,a1,m1,?_,?_,g⟩
  · unfold Y65.f
    simp only [e,Option.bind_some]
    rw [if_pos p0,if_pos p1]
  · unfold rdOf
    rw [List.getD_eq_getElem?_getD,List.getElem?_eq_getElem (show r.toNat<l.length by omega)]
    exact hb _ (List.getElem_mem _)
theorem l04Key_ok {b:List Int} {a m z:Int} (h:SrcOk b a m z):∃ t a' m',Y51.f b a m z=some (t,a',m',z)∧t.size≤10∧SrcOk b a' m' z:=by
  obtain ⟨r,a1,m1,e,g⟩:=one_ok h 20 (by omega)
  unfold Y51.f
  simp only [e,Option.bind_some]
  cases r with
  | true =>
    obtain ⟨t,a2,m2,e2,h2,g2⟩:=pick_ok g [(⟨#[]⟩:ByteArray),(⟨#[65]⟩:ByteArray)] (by simp) (by simp) (by
      intro x hx
      simp only [List.mem_cons,List.not_mem_nil,or_false] at hx
      rcases hx with rfl | rfl <;> decide)
    rw [if_pos rfl,e2]
    exact ⟨t,a2,m2,rfl,h2,g2⟩
  | false =>
    obtain ⟨t,a2,m2,e2,h2,g2⟩:=pick_ok g [(⟨#[99,97,114,116]⟩:ByteArray),(⟨#[117,115,101,114]⟩:ByteArray),(⟨#[120]⟩:ByteArray),(⟨#[121]⟩:ByteArray)] (by simp) (by simp) (by
      intro x hx
      simp only [List.mem_cons,List.not_mem_nil,or_false] at hx
      rcases hx with rfl | rfl | rfl | rfl <;> decide)
    rw [if_neg (by simp),e2]
    exact ⟨t,a2,m2,rfl,h2,g2⟩
theorem DrawOrder_ok (l:List Int) (hl:l.length≤1048576):∃ n r key,Ev (fun k=>Y79.f k l) (n,r,key)∧r.length≤40∧key.size≤10:=by
  obtain ⟨m,z,e,g⟩:=source_ok l hl
  obtain ⟨n,r,a1,m1,e1,h1,g1⟩:=l04Ring_ok g
  obtain ⟨t,a2,m2,e2,h2,g2⟩:=l04Key_ok g1
  exact ⟨n,r,t,Ev.bind e (Ev.bind e1 (evBind1 e2 (Ev.now _))),h1,h2⟩
theorem DrawOwners_ok (l:List Int) (hl:l.length≤1048576):∃ n r key q,Ev (fun k=>Y70.f k l) (n,r,key,q)∧r.length≤40∧key.size≤10:=by
  obtain ⟨m,z,e,g⟩:=source_ok l hl
  obtain ⟨n,r,a1,m1,e1,h1,g1⟩:=l04Ring_ok g
  obtain ⟨t,a2,m2,e2,h2,g2⟩:=l04Key_ok g1
  obtain ⟨q,a3,m3,e3,_⟩:=n_ok g2 7 (by omega)
  exact ⟨n,r,t,q,Ev.bind e (Ev.bind e1 (evBind1 e2 (evBind1 e3 (Ev.now _)))),h1,h2⟩
theorem DrawRingNew_ok (l:List Int) (hl:l.length≤1048576):∃ n q,Ev (fun k=>Y77.f k l) (n,q):=by
  obtain ⟨m,z,e,g⟩:=source_ok l hl
  obtain ⟨n,a1,m1,e1,_,_,_,g1⟩:=n_ok g 7 (by omega)
  obtain ⟨q,a2,m2,e2,_⟩:=n_ok g1 10 (by omega)
  exact ⟨n,q,Ev.bind e (evBind1 e1 (evBind1 e2 (Ev.now _)))⟩
theorem DrawFnv_ok (l:List Int) (hl:l.length≤1048576):∃ t,Ev (fun k=>Y74.f k l) t:=by
  obtain ⟨m,z,e,g⟩:=source_ok l hl
  obtain ⟨n,a1,m1,e1,h0,h1,_,g1⟩:=n_ok g 9 (by omega)
  have h1:=h1 (by omega)
  obtain ⟨t,a2,m2,e2,_⟩:=bytes_ok g1 h0 (by omega)
  exact ⟨t,Ev.bind e (evBind1 e1 (Ev.bind e2 (Ev.now _)))⟩
theorem drawStand_l0 {b:List Int} {z:Int} (key:ByteArray) (n:Int) (r:List Tok):∀ (j:Nat) (i:Int) (d:List Int) (a m:Int),i+j=6→1≤i→(d.length:Int)<i→SrcOk b a m z →
    ∃ q d',Ev (fun k=>Y22.l0 k key d i b a m z n r) (n,r,key,q,d')∧d'.length≤6
  | 0,i,d,a,m,hi,h1,hd,h=>by
    obtain ⟨t,a1,m1,e1,g1⟩:=one_ok h 15 (by omega)
    cases t with
    | true =>
      obtain ⟨x,a2,m2,e2,_,_,_,g2⟩:=n_ok g1 8 (by omega)
      obtain ⟨y,a3,m3,e3,_⟩:=n_ok g2 4 (by omega)
      refine ⟨wrap64 (1+y),d ++ [x],Ev.step (f:=fun _=>some (n,r,key,wrap64 (1+y),d ++ [x])) (fun k=>?_) (Ev.now _),by simp;omega⟩
      simp only [Y22.l0,e1,e2,e3,Option.bind_some]
      rw [if_neg (by omega),if_pos trivial,if_pos (by omega)]
    | false =>
      obtain ⟨y,a3,m3,e3,_⟩:=n_ok g1 4 (by omega)
      refine ⟨wrap64 (1+y),d,Ev.step (f:=fun _=>some (n,r,key,wrap64 (1+y),d)) (fun k=>?_) (Ev.now _),by omega⟩
      simp only [Y22.l0,e1,e3,Option.bind_some]
      rw [if_neg (by omega),if_neg (by simp)]
  | j+1,i,d,a,m,hi,h1,hd,h=>by
    obtain ⟨t,a1,m1,e1,g1⟩:=one_ok h 3 (by omega)
    have hw:wrap64 (i+1)=i+1:=w64 (by omega) (by omega)
    cases t with
    | true =>
      obtain ⟨q,d',e2,h2⟩:=drawStand_l0 key n r j (i+1) (d ++ [i]) a1 m1 (by omega) (by omega) (by simp;omega) g1
      refine ⟨q,d',Ev.step (fun k=>?_) e2,h2⟩
      simp only [Y22.l0,e1,Option.bind_some,hw]
      rw [if_pos (by omega),if_pos trivial,if_pos (by omega)]
    | false =>
      obtain ⟨q,d',e2,h2⟩:=drawStand_l0 key n r j (i+1) d a1 m1 (by omega) (by omega) (by omega) g1
      refine ⟨q,d',Ev.step (fun k=>?_) e2,h2⟩
      simp only [Y22.l0,e1,Option.bind_some,hw]
      rw [if_pos (by omega),if_neg (by simp)]
theorem DrawStandIns_ok (l:List Int) (hl:l.length≤1048576):∃ n r key q d,Ev (fun k=>Y22.f k l) (n,r,key,q,d)∧r.length≤40∧key.size≤10∧d.length≤6:=by
  obtain ⟨m,z,e,g⟩:=source_ok l hl
  obtain ⟨n,r,a1,m1,e1,h1,g1⟩:=l04Ring_ok g
  obtain ⟨t,a2,m2,e2,h2,g2⟩:=l04Key_ok g1
  obtain ⟨q,d,e3,h3⟩:=drawStand_l0 t n r 5 1 [] a2 m2 (by omega) (by omega) (by simp) g2
  exact ⟨n,r,t,q,d,Ev.bind e (Ev.bind e1 (evBind1 e2 e3)),h1,h2,h3⟩
end Go.Proofs.YtelecnmflodkkaaGreatDoor.Q

namespace Go.Proofs.YtelecnmflodkkaaGreatDoor.Q
open Go.RowKit Go.Proofs.YtelecnmflodkkaaGreatDoor.P Go.Proofs.YtelecnmflodkkaaGreatDoorW.PrintWords Go.Proofs.YtelecnmflodkkaaGreatDoorW.PrintMore
theorem lwNums_l0 (l:List Int) (hl:l.length≤4611686018427387904):∀ (d i:Nat),i+d=l.length→Ev (fun k=>Y18.l0 k l l (i:Int)) true
  | 0,i,h=>by
    refine Ev.step (f:=fun _=>some true) (fun k=>?_) (Ev.now _)
    simp only [Y18.l0]
    rw [if_neg (by omega)]
  | d+1,i,h=>by
    refine Ev.step (fun k=>?_) (lwNums_l0 l hl d (i+1) (by omega))
    simp only [Y18.l0]
    rw [if_pos (by omega),if_pos (by omega),if_pos (by omega),if_pos trivial,w64 (by omega) (by omega)]
    rfl
theorem lwNums_ev (l:List Int) (hl:l.length≤4611686018427387904):Ev (fun k=>Y18.f k l l) true:=by
  unfold Y18.f
  exact evPos rfl (lwNums_l0 l hl l.length 0 (by omega))
theorem lwRing_l0 (n c:Int) (l:List S78) (hl:l.length≤4611686018427387904):∀ (d i:Nat),i+d=l.length→Ev (fun k=>Y48.l0 k (i:Int) n l c n l c) true
  | 0,i,h=>by
    refine Ev.step (f:=fun _=>some true) (fun k=>?_) (Ev.now _)
    simp only [Y48.l0]
    rw [if_neg (by omega)]
  | d+1,i,h=>by
    refine Ev.step (fun k=>?_) (lwRing_l0 n c l hl d (i+1) (by omega))
    simp only [Y48.l0]
    rw [if_pos (by omega),if_pos (by omega),if_pos (by omega),if_neg (by simp),w64 (by omega) (by omega)]
    rfl
theorem lwRing_ev (n c:Int) (l:List S78) (hl:l.length≤4611686018427387904):Ev (fun k=>Y48.f k n l c n l c) true:=by
  unfold Y48.f
  exact evPos rfl (evPos rfl (evPos rfl (lwRing_l0 n c l hl l.length 0 (by omega))))
end Go.Proofs.YtelecnmflodkkaaGreatDoor.Q

namespace Go.Proofs.YtelecnmflodkkaaGreatDoor.Pure
open Go.RowKit Go.Proofs.YtelecnmflodkkaaGreatDoor.P Go.Proofs.YtelecnmflodkkaaGreatDoor.Q Go.Proofs.YtelecnmflodkkaaGreatDoorW.PrintWords Go.Proofs.YtelecnmflodkkaaGreatDoorW.PrintMore
theorem stand_mem (d:List Int) (x:Int):∀ own q:List Int,x ∈ standL d own q→(x ∈ own∧x ∉ d)∨x ∈ q
  | [],_,h=>by simp [standL] at h
  | o :: r,q,h=>by
    simp only [standL] at h
    by_cases c:o ∈ d
    · rw [if_pos c] at h
      cases q with
      | nil =>
        rcases stand_mem d x r [] h with h | h
        · exact .inl ⟨List.mem_cons_of_mem _ h.1,h.2⟩
        · exact .inr h
      | cons y q =>
        rcases List.mem_cons.1 h with h | h
        · exact .inr (by rw [h];simp)
        · rcases stand_mem d x r q h with h | h
          · exact .inl ⟨List.mem_cons_of_mem _ h.1,h.2⟩
          · exact .inr (List.mem_cons_of_mem _ h)
    · rw [if_neg c] at h
      rcases List.mem_cons.1 h with h | h
      · exact .inl ⟨by rw [h];simp,by rw [h];exact c⟩
      · rcases stand_mem d x r q h with h | h
        · exact .inl ⟨List.mem_cons_of_mem _ h.1,h.2⟩
        · exact .inr h
theorem stand_nodup (d:List Int):∀ own q:List Int,own.Nodup→q.Nodup→(∀ x ∈ own,x ∉ q)→(standL d own q).Nodup
  | [],_,_,_,_=>by simp [standL]
  | o :: r,q,ho,hq,hd=>by
    rw [List.nodup_cons] at ho
    simp only [standL]
    by_cases c:o ∈ d
    · rw [if_pos c]
      cases q with
      | nil=>exact stand_nodup d r [] ho.2 hq (fun x _=>by simp)
      | cons y q =>
        rw [List.nodup_cons] at hq
        rw [List.nodup_cons]
        refine ⟨fun h=>?_,stand_nodup d r q ho.2 hq.2 (fun x hx h=>hd x (List.mem_cons_of_mem _ hx) (List.mem_cons_of_mem _ h))⟩
        rcases stand_mem d y r q h with h | h
        · exact hd y (List.mem_cons_of_mem _ h.1) (by simp)
        · exact hq.1 h
    · rw [if_neg c,List.nodup_cons]
      refine ⟨fun h=>?_,stand_nodup d r q ho.2 hq (fun x hx=>hd x (List.mem_cons_of_mem _ hx))⟩
      rcases stand_mem d o r q h with h | h
      · exact ho.1 h.1
      · exact hd o (by simp) h
theorem standOut_good (n:Int) (l:List S78) (key:ByteArray) (m:Int) (d:List Int):(standOut n l key m d).Nodup∧∀ x ∈ standOut n l key m d,x ∉ d:=by
  unfold standOut
  split
  · unfold standAt ownersL
    have hn:=orderL_nodup l (fnv key)
    generalize orderL l (fnv key)=O at hn
    have hlen:(O.take (min m.toNat O.length)).length=min m.toNat O.length:=by rw [List.length_take];omega
    rw [hlen]
    have hs:=hn
    rw [← List.take_append_drop (min m.toNat O.length) O,List.nodup_append] at hs
    refine ⟨stand_nodup d _ _ hs.1 (hs.2.1.filter _) (fun x hx h=>hs.2.2 x hx x (List.mem_filter.1 h).1 rfl),fun x hx=>?_⟩
    rcases stand_mem d x _ _ hx with h | h
    · exact h.2
    · have:=(List.mem_filter.1 h).2
      simpa [notIn] using this
  · exact ⟨List.nodup_nil,fun x hx=>by cases hx⟩
theorem rd_ne {o:List Int} (hn:o.Nodup) {j i:Nat} (h:j<i) (hi:i<o.length):rd o (j:Int)≠rd o (i:Int):=by
  have e:∀ a:Nat,∀ ha:a<o.length,rd o (a:Int)=o[a]:=fun a ha=>by simp [rd,List.getD_eq_getElem?_getD,List.getElem?_eq_getElem ha]
  rw [e j (by omega),e i hi]
  exact List.pairwise_iff_getElem.1 (List.nodup_iff_pairwise_ne.1 hn) j i (by omega) hi h
theorem rd_mem {o:List Int} {i:Nat} (hi:i<o.length):rd o (i:Int) ∈ o:=by
  simp [rd,List.getD_eq_getElem?_getD,List.getElem?_eq_getElem hi]
theorem ord_l1 (key:ByteArray) (o d t:List Int) (n:Int) (l:List S78) (ho:o.length≤1048576) (hn:o.Nodup) {R:Bool} (i:Nat) (hi:i<o.length) (fin:Ev (fun k=>Y3.l0 k key o d t ((i+1:Nat):Int) n l) R):∀ (s j:Nat),j+s=i →
    Ev (fun k=>Y3.l1 k key o d t (i:Int) (j:Int) n l) R
  | 0,j,h=>by
    refine Ev.step (fun k=>?_) fin
    simp only [Y3.l1]
    rw [if_neg (by omega),w64 (by omega) (by omega)]
    rfl
  | s+1,j,h=>by
    refine Ev.step (fun k=>?_) (ord_l1 key o d t n l ho hn i hi fin s (j+1) (by omega))
    simp only [Y3.l1]
    rw [if_pos (by omega),if_pos (by omega),if_pos (by omega),if_pos (by omega),if_pos (by omega),if_neg (rd_ne hn (by omega) hi),w64 (by omega) (by omega)]
    rfl
theorem ord_l0 (key:ByteArray) (o d t:List Int) (n:Int) (l:List S78) (ho:o.length≤1048576) (hn:o.Nodup) {R:Bool} (fin:Ev (fun k=>Y3.l0 k key o d t (o.length:Int) n l) R):∀ (s i:Nat),i+s=o.length →
    Ev (fun k=>Y3.l0 k key o d t (i:Int) n l) R
  | 0,i,h=>by
    rw [show i=o.length by omega]
    exact fin
  | s+1,i,h=>by
    refine Ev.step (fun k=>?_) (ord_l1 key o d t n l ho hn i (by omega) (ord_l0 key o d t n l ho hn fin s (i+1) (by omega)) i 0 (by omega))
    simp only [Y3.l0]
    rw [if_pos (by omega)]
    rfl
theorem st_l4 (d t:List Int) (ht:t.length≤1048576) (hn:t.Nodup) {R:Bool} (i:Nat) (hi:i<t.length) (fin:Ev (fun k=>Y3.l2 k d t ((i+1:Nat):Int)) R):∀ (s j:Nat),j+s=i →
    Ev (fun k=>Y3.l4 k d t (i:Int) (j:Int)) R
  | 0,j,h=>by
    refine Ev.step (fun k=>?_) fin
    simp only [Y3.l4]
    rw [if_neg (by omega),w64 (by omega) (by omega)]
    rfl
  | s+1,j,h=>by
    refine Ev.step (fun k=>?_) (st_l4 d t ht hn i hi fin s (j+1) (by omega))
    simp only [Y3.l4]
    rw [if_pos (by omega),if_pos (by omega),if_pos (by omega),if_pos (by omega),if_pos (by omega),if_neg (rd_ne hn (by omega) hi),w64 (by omega) (by omega)]
    rfl
theorem st_l3 (d t:List Int) (hd:d.length≤1048576) (hx:∀ x ∈ t,x ∉ d) {R:Bool} (i:Nat) (hi:i<t.length) (fin:Ev (fun k=>Y3.l4 k d t (i:Int) 0) R):∀ (s j:Nat),j+s=d.length →
    Ev (fun k=>Y3.l3 k d t (i:Int) (j:Int)) R
  | 0,j,h=>by
    refine Ev.step (fun k=>?_) fin
    simp only [Y3.l3]
    rw [if_neg (by omega)]
  | s+1,j,h=>by
    refine Ev.step (fun k=>?_) (st_l3 d t hd hx i hi fin s (j+1) (by omega))
    simp only [Y3.l3]
    rw [if_pos (by omega),if_pos (by omega),if_pos (by omega),if_pos (by omega),if_neg (fun e:rd d (j:Int)=rd t (i:Int)=>hx _ (rd_mem hi) (by rw [← e];exact rd_mem (by omega))),w64 (by omega) (by omega)]
    rfl
theorem st_l2 (d t:List Int) (hd:d.length≤1048576) (ht:t.length≤1048576) (hn:t.Nodup) (hx:∀ x ∈ t,x ∉ d):∀ (s i:Nat),i+s=t.length →
    Ev (fun k=>Y3.l2 k d t (i:Int)) true
  | 0,i,h=>by
    refine Ev.step (f:=fun _=>some true) (fun k=>?_) (Ev.now _)
    simp only [Y3.l2]
    rw [if_neg (by omega)]
  | s+1,i,h=>by
    refine Ev.step (fun k=>?_) (st_l3 d t hd hx i (by omega) (st_l4 d t ht hn i (by omega) (st_l2 d t hd ht hn hx s (i+1) (by omega)) i 0 (by omega)) d.length 0 (by omega))
    simp only [Y3.l2]
    rw [if_pos (by omega)]
    rfl
theorem FnRing:Y3.Pure:=by
  intro l0 l1 hl0 hl1
  obtain ⟨hl0,_⟩:=hl0
  obtain ⟨hl1,_⟩:=hl1
  refine Ev.rounds ?_
  have j0T:Ev (fun k=>Y3.j0 k l0 l1 true) true:=Ev.step (f:=fun _=>some true) (fun k=>by simp [Y3.j0]) (Ev.now _)
  unfold Y3.f
  refine evIte (fun _=>j0T) (fun h0=>?_)
  by_cases h1:(l1.length:Int)>1048576
  · rw [decide_eq_true h1];exact j0T
  · rw [decide_eq_false h1]
    obtain ⟨nodes,each,e1⟩:=DrawRingNew_ok l0 (by omega)
    obtain ⟨n,l,key,e2,hl,hk⟩:=DrawOrder_ok l1 (by omega)
    obtain ⟨w,lw,kw,mw,e3,hlw,hkw⟩:=DrawOwners_ok l0 (by omega)
    obtain ⟨s,ls,ks,ms,d,e4,hls,hks,hd⟩:=DrawStandIns_ok l1 (by omega)
    obtain ⟨f,e5⟩:=DrawFnv_ok l0 (by omega)
    have b1:=orderOut_length n l key (by omega)
    have b2:=ownersOut_length w lw kw mw (by omega)
    have b3:=standOut_length s ls ks ms d (by omega)
    have b4:=ringNew_length nodes each
    obtain ⟨s1,s2⟩:=standOut_good s ls ks ms d
    refine Ev.step (fun k=>by simp only [Y3.j0];rw [if_neg (by simp)]) (Ev.bind e1 (Ev.bind e2 (Ev.bind (impl_Order_ev n l key (by omega) (by omega)) (Ev.bind e3 (Ev.bind e4 (Ev.bind (impl_StandIns_ev s ls ks ms d (by omega) (by omega) (by omega)) (Ev.bind e5 ?_)))))))
    refine Ev.bind (impl_RingNew_ev nodes each) (Ev.bind (spec_RingNew_ev nodes each) (Ev.bind (lwRing_ev (ringNew nodes each).1 (ringNew nodes each).2.2 (ringNew nodes each).2.1 (by omega)) (evPos rfl ?_)))
    refine Ev.bind (spec_Order_ev n l key (by omega) (by omega)) (Ev.bind (lwNums_ev (orderOut n l key) (by omega)) (evPos rfl ?_))
    refine Ev.bind (impl_Owners_ev w lw kw mw (by omega) (by omega)) (Ev.bind (spec_Owners_ev w lw kw mw (by omega) (by omega)) (Ev.bind (lwNums_ev (ownersOut w lw kw mw) (by omega)) (evPos rfl ?_)))
    refine Ev.bind (spec_StandIns_ev s ls ks ms d (by omega) (by omega) (by omega)) (Ev.bind (lwNums_ev (standOut s ls ks ms d) (by omega)) (evPos rfl ?_))
    refine Ev.bind (impl_Fnv_ev f) (Ev.bind (spec_Fnv_ev f) (evPos rfl (Ev.bind (impl_RingRight_ev n l (by omega)) (Ev.bind (spec_RingRight_ev n l (by omega)) (evNeg (by simp) ?_)))))
    have fin:Ev (fun k=>Y3.j3 k d (standOut s ls ks ms d) false) true:=by
      refine Ev.step (fun k=>?_) (st_l2 d (standOut s ls ks ms d) (by omega) (by omega) s1 s2 (standOut s ls ks ms d).length 0 (by omega))
      simp only [Y3.j3]
      rw [if_neg (by simp)]
      rfl
    have on:(orderOut n l key).Nodup:=by
      unfold orderOut
      split
      · exact orderL_nodup l (fnv key)
      · exact List.nodup_nil
    refine ord_l0 key (orderOut n l key) d (standOut s ls ks ms d) n l (by omega) on ?_ (orderOut n l key).length 0 (by omega)
    refine Ev.step (fun k=>by simp only [Y3.l0];rw [if_neg (by omega)]) (Ev.bind (spec_RingRight_ev n l (by omega)) ?_)
    cases ho:ringOk n l with
    | false=>exact evNeg (by simp) fin
    | true =>
      refine evPos rfl (Ev.bind (spec_NameRight_ev key (by omega)) ?_)
      cases hname:nameOk key with
      | false=>exact evNeg (by simp) fin
      | true =>
        have hk2:keyed n l key=true:=by unfold keyed;rw [ho,hname];rfl
        have o2:orderOut n l key=orderL l (fnv key):=by unfold orderOut;rw [if_pos hk2]
        have hlen:=order_nodes ho (fnv key)
        have hn:=(isNode_iff n).1 (ringOk_is ho).1
        rw [← o2] at hlen
        have w1:=impl_Owners_ev n l key 1 (by omega) (by omega)
        have e6:ownersOut n l key 1=(orderOut n l key).take 1:=by
          unfold ownersOut
          rw [hk2,o2,if_pos (by decide),ownersL_take]
          rfl
        rw [e6] at w1
        refine evPos rfl (evPos hlen (Ev.bind w1 (evPos (by omega) (Ev.bind (lwNums_ev ((orderOut n l key).take 1) (by rw [List.length_take];omega)) fin))))
end Go.Proofs.YtelecnmflodkkaaGreatDoor.Pure

namespace Go.Proofs.YtelecnmflodkkaaGreatDoor.fnRing
open Go.ChangeShapes Go.WideShapes Go.ChangeAt Go.RowKit Go.Proofs.YtelecnmflodkkaaGreatDoor.P Go.Proofs.YtelecnmflodkkaaGreatDoor.Open Go.Proofs.YtelecnmflodkkaaGreatDoorW.PrintWords
open Go.ChangeMaps (open_string shut_string)
set_option linter.unusedVariables false
theorem own:ownKnob Tryz.prog.godebug=none:=by kernel_rfl
theorem laidOut:laidOutB Tryz.prog=true:=by kernel_rfl
set_option maxRecDepth 100000 in
theorem lifted (os:Os) (started:os.Started) (H:Type) (enc:TypeId × Value→H) :
    ReturnsInHanded {} Tryz.checked os 3 .any (fun w args=>(Rows.fnRingSpec.pre enc Tryz.prog Tryz.f3 Rows.fnRingRow.domain false w args∧laidMetH Tryz.prog Rows.fnRingRow.laid w)∧sizedMet enc Tryz.prog Tryz.f3 (OpenSpec.ofChange Rows.fnRingSpec) false w args) (Rows.fnRingSpec.post enc Tryz.prog Tryz.f3 false true false false):=by
  refine returnsInHanded_of_change_and (C:=Tryz.checked) (X:=fun w _=>laidMetH Tryz.prog Rows.fnRingRow.laid w) (fun _ _ _ hh h=>h.of_heap hh) own started (by kernel_rfl) Tryz.func3
    (ChangeSpec.witness_shaped (enc:=enc) (C:=Tryz.checked) (X:=fun w _=>laidMetH Tryz.prog Rows.fnRingRow.laid w) false (World.laidAll Tryz.prog os Rows.fnRingRow.laid) #[.slice none 0 0,.slice none 0 0] 8 (World.laidAll_os _ _ _) (World.shaped_of_ZipB (by kernel_rfl) (by kernel_rfl)) (by kernel_rfl) (by kernel_rfl) (by kernel_rfl)
      (by rw [MakeChecks.laidMetH_plain _ _ _ (by kernel_rfl)];exact laidMet_laidAll _ (by kernel_rfl) (by kernel_rfl))) ?_
  intro W base args ds gs before hval0 hW hcnd hsz0 hL_ _
  have hsz:(DataW.weightsEach Tryz.prog (Tryz.f3.params.toList ++ Rows.fnRingSpec.plain.varTypes Tryz.prog) (ds ++ gs)).all (· ≤ reachBytes)=true:=hsz0
  have hval:∀ (j:Nat) t v,Tryz.f3.params[j]? = some t→args[j]? = some v→Value.okWide Tryz.prog W .any base t v:=hval0
  have hW':=hW
  obtain ⟨p,q,hA0,hV,rfl,hfz,hnd⟩:=hW
  have hA:DataW.TrodAll enc Tryz.prog W 0 (fun _=>true) true Tryz.f3.params.toList args.toList ds p:=hA0
  rw [Tryz.params3] at hA hval hsz
  obtain ⟨v0,vs0,d0,ds0,p0,q0,hargs,rfl,rfl,h0,r0⟩:=trodAll_cons hA
  obtain ⟨v1,vs1,d1,ds1,p1,q1,rfl,rfl,rfl,h1,r1⟩:=trodAll_cons r0
  obtain ⟨rfl,rfl,rfl⟩:=trodAll_nil r1
  obtain rfl:args=#[v0,v1]:=by cases args;simp_all
  obtain ⟨rfl,rfl⟩:=trodVars_none hV
  have k0:=h0
  have lt0:∀ x ∈ p0,x.block<W.heap.size:=by obtain ⟨m,hm⟩:=k0;exact DataW.trod_lt m _ _ _ hm
  obtain ⟨a0,len0,cap0,rfl⟩:=okWide_slice Tryz.underlying22 (hval 0 22 v0 rfl rfl)
  obtain ⟨fuel0,hf0⟩:=h0
  obtain ⟨x0,hk0,w0⟩:=(opens_slice Tryz.underlying22 (by kernel_rfl) (opens_int Tryz.underlying5)) hf0
  obtain ⟨A0,c0,B40,hl0,hr0⟩:=hk0
  simp only [Value.cells] at B40
  injection B40 with B40 _
  injection B40 with DA3 DA4 DA5
  subst DA3 DA4 DA5
  have k1:=h1
  have lt1:∀ x ∈ p1,x.block<W.heap.size:=by obtain ⟨m,hm⟩:=k1;exact DataW.trod_lt m _ _ _ hm
  obtain ⟨a1,len1,cap1,rfl⟩:=okWide_slice Tryz.underlying22 (hval 1 22 v1 rfl rfl)
  obtain ⟨fuel1,hf1⟩:=h1
  obtain ⟨x1,hk1,w1⟩:=(opens_slice Tryz.underlying22 (by kernel_rfl) (opens_int Tryz.underlying5)) hf1
  obtain ⟨A1,c1,hcs1,hl1,hr1⟩:=hk1
  simp only [Value.cells] at hcs1
  injection hcs1 with hcs1 _
  injection hcs1 with DA6 DA7 DA8
  subst DA6 DA7 DA8
  clear hA0 hval0 hsz0 hsz
  obtain ⟨k,hp⟩:=Pure.FnRing x0 x1 w0 w1
  refine (P.Y3.calls k _ _ x0 _ _ x1 true W hr0 hl0 hr1 hl1 hp).mono fun e W' ⟨he,DA9⟩=>?_
  have bel:Below W.heap.size W W':=DA9
  subst he
  exact ⟨_,rfl,_,_,_,[],_,[],hW',trodAll_mk1 (shut_bool Tryz.underlying4 _),(trodAll_cons_mk (Below.trod laidOut (by kernel_rfl) (of_decide_eq_true (by kernel_rfl)) k0 bel lt0) (trodAll_cons_mk (Below.trod laidOut (by kernel_rfl) (of_decide_eq_true (by kernel_rfl)) k1 bel lt1) trodAll_mk0)),rfl,bel.frame _,fun h=>by cases h⟩
theorem over:Rows.fnRingRow.holds Tryz.pinned (OpenSpec.ofChange Rows.fnRingSpec) :=
  OpenClaim.holds_of_wide 3 Tryz.f3 rfl rfl rfl rfl rfl rfl rfl ⟨rfl,rfl,rfl,rfl,rfl⟩ rfl rfl rfl rfl rfl (by kernel_rfl) Tryz.func3 (by kernel_rfl)
    (of_decide_eq_true (by kernel_rfl)) (by unfold Func.isWrapper;first | (rw [if_pos (by decide +kernel)];kernel_rfl) | (rw [if_neg (by decide +kernel)];exact ⟨rfl,rfl⟩))
    (fun os started H enc _=>lifted os started H enc)
theorem proved:Rows.FnRingSaid:=over
theorem card:Rows.FnRingCardSaid :=
  Claim7.holds_tied_plain_at .later [] [.data,.data,.data] true (true, "c2ccd6f13fabb8619b34b06c14f235c999d1a9e931be1183d441577abaf287ce") false proved (fun _ h=>by cases h) (by kernel_rfl) (fun _ h=>by cases h) fnRing_row_tie rfl ⟨rfl,rfl⟩ (by kernel_rfl) rfl
    (fun f fn hf hfn=>by
      obtain rfl:f=3:=Option.some.inj ((show Tryz.prog.funcNamed Rows.fnRingRow.func=some 3 by kernel_rfl).symm.trans hf) |>.symm
      obtain rfl:fn=Tryz.f3:=(Option.some.inj (Tryz.func3.symm.trans hfn)).symm
      exact ⟨by kernel_rfl,fun j t ht=>by
        rw [Tryz.params3] at ht
        have h_:t ∈ [22,22]:=by have:=Array.mem_of_getElem? ht;simpa using this
        have hs_:∀ x ∈ [22,22],Tryz.prog.wantsStandIn x=false:=by
          intro x hx
          simp only [List.mem_cons,List.not_mem_nil,or_false] at hx
          rcases hx with rfl | rfl <;> kernel_rfl
        exact hs_ t h_⟩)
    (by kernel_rfl)
#print axioms card
#print axioms proved
end Go.Proofs.YtelecnmflodkkaaGreatDoor.fnRing
namespace Go.Proofs.YtelecnmflodkkaaGreatDoor
/-- The row, under a short name, for the claim. -/
theorem fnRing_holds:Rows.FnRingCardSaid:=fnRing.card
end Go.Proofs.YtelecnmflodkkaaGreatDoor
