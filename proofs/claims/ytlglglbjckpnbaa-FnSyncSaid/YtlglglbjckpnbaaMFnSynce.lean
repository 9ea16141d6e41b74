/- Of drawn sets: merging is commutative, associative with what was merged, and idempotent; a set that has seen all of another one takes nothing from it; and the program's merging is the reference's. No condition. (Part 5 of 6: written by programs of this workplace and by hand, merged.) -/
import Derived.Test.YtlglglbjckpnbaaMFnSynca
import Derived.Test.YtlglglbjckpnbaaMFnSyncb
import Derived.Test.YtlglglbjckpnbaaMFnSyncc
import Derived.Test.YtlglglbjckpnbaaMFnSyncd
import Derived.Test.YtlglglbjckpnbaaMFnSyncWWords
import Derived.Test.YtlglglbjckpnbaaMFnSyncWMore
import Derived.Laws.BitsLemmas
set_option linter.unusedVariables false
set_option linter.unusedSimpArgs false
set_option maxHeartbeats 8000000
set_option maxRecDepth 100000

namespace Go.Proofs.Ytlglglbjckpnbaa.P
open Go.RowKit Go.Proofs.YtlglglbjckpnbaaW.PrintWords Go.Proofs.YtlglglbjckpnbaaW.PrintLast Go.Proofs.YtlglglbjckpnbaaW.PrintMore
attribute [local go_sem] max2_int min2_int max_two min_two max_three min_three max_four min_four   -- for this text's walks alone
set_option linter.unusedVariables false
set_option linter.unusedSimpArgs false

attribute [local go_sem high] eqA30 eqA36
/-! ### Y6: function 3 -/
mutual
def Y6.j0:Nat→List Int→List Int→Bool→Option (Bool)
 | 0,_,_,_=>none
 | k+1,x0,x1,x21=>if x21=true then (some true) else ((Y21.f k x0).bind fun bt365=>((Y10.f k bt365.1 bt365.2.1 bt365.2.2.1 bt365.2.2.2).bind fun bt379=>((Y10.f k bt365.2.2.1 bt365.2.2.2 bt365.1 bt365.2.1).bind fun bt388=>((Y21.f k x1).bind fun bt399=>((Y19.f k bt365.1 bt365.2.1 bt365.2.2.1 bt365.2.2.2).bind fun bt413=>((Y38.f k bt379.1 bt379.2.1 bt379.2.2.1 bt379.2.2.2.1 bt379.2.2.2.2 bt413.1 bt413.2.1 bt413.2.2.1 bt413.2.2.2.1 bt413.2.2.2.2).bind fun t422=>(if t422=true then ((Y10.f k bt399.1 bt399.2.1 bt399.2.2.1 bt399.2.2.2).bind fun bt423=>((Y19.f k bt399.1 bt399.2.1 bt399.2.2.1 bt399.2.2.2).bind fun bt432=>((Y38.f k bt423.1 bt423.2.1 bt423.2.2.1 bt423.2.2.2.1 bt423.2.2.2.2 bt432.1 bt432.2.1 bt432.2.2.1 bt432.2.2.2.1 bt432.2.2.2.2).bind fun t441=>(if t441=true then (if bt379.2.2.2.2=0 then (Y6.l0 k 0 bt365.1 bt365.2.1 bt365.2.2.1 bt365.2.2.2 bt379.1 bt379.2.1 bt379.2.2.1 bt379.2.2.2.1 bt379.2.2.2.2 bt388.1 bt388.2.1 bt388.2.2.1 bt388.2.2.2.1 bt388.2.2.2.2) else (some true)) else (none))))) else (none))))))))
def Y6.l0:Nat→Int→List (S30)→List (S36)→List (S30)→List (S36)→List (S30)→List (S36)→Int→Int→Int→List (S30)→List (S36)→Int→Int→Int→Option (Bool)
 | 0,_,_,_,_,_,_,_,_,_,_,_,_,_,_,_=>none
 | k+1,x11,x378000,x378001,x379000,x379001,x398000,x398001,x398002,x398003,x398004,x399000,x399001,x399002,x399003,x399004=>if x11<(x378001.length:Int) then (Y6.l1 k x11 0 x378000 x378001 x379000 x379001 x398000 x398001 x398002 x398003 x398004 x399000 x399001 x399002 x399003 x399004) else ((Y10.f k x378000 x378001 x378000 x378001).bind fun bt446=>((Y26.f k bt446.1 bt446.2.1 x378000 x378001).bind fun t455=>(if t455=true then ((Y10.f k x398000 x398001 x378000 x378001).bind fun bt456=>((Y26.f k bt456.1 bt456.2.1 x398000 x398001).bind fun t465=>(if t465=true then ((Y10.f k x379000 x379001 x398000 x398001).bind fun bt466=>((Y26.f k bt466.1 bt466.2.1 x398000 x398001).bind fun t475=>(if t475=true then (if (x398001.length:Int)=(x399001.length:Int) then ((Y27.f k x398000 x399000).bind fun t476=>(if t476=true then (Y6.l2 k 0 x398000 x398001 x398002 x398003 x398004 x399000 x399001 x399002 x399003 x399004) else (none))) else (none)) else (none)))) else (none)))) else (none))))
def Y6.l1:Nat→Int→Int→List (S30)→List (S36)→List (S30)→List (S36)→List (S30)→List (S36)→Int→Int→Int→List (S30)→List (S36)→Int→Int→Int→Option (Bool)
 | 0,_,_,_,_,_,_,_,_,_,_,_,_,_,_,_,_=>none
 | k+1,x11,x12,x378000,x378001,x379000,x379001,x398000,x398001,x398002,x398003,x398004,x399000,x399001,x399002,x399003,x399004=>if x12<(x379001.length:Int) then (if 0≤x11 then (if x11<(x378001.length:Int) then (if 0≤x12 then (if (((rd_T36 x378001 x11).f0.f0) == ((rd_T36 x379001 x12).f0.f0) && (((rd_T36 x378001 x11).f0.f1) == ((rd_T36 x379001 x12).f0.f1)))=true then (Y6.j3 k x11 x12 ((!(((rd_T36 x378001 x11).f0.f0) == ((rd_T36 x379001 x12).f0.f0)) || (!(((rd_T36 x378001 x11).f0.f1) == ((rd_T36 x379001 x12).f0.f1)))) || (!(((rd_T36 x378001 x11).f1) == ((rd_T36 x379001 x12).f1)) || (!((((rd_T36 x378001 x11).f2).toList) == (((rd_T36 x379001 x12).f2).toList))))) x378000 x378001 x379000 x379001 x398000 x398001 x398002 x398003 x398004 x399000 x399001 x399002 x399003 x399004) else (Y6.j3 k x11 x12 false x378000 x378001 x379000 x379001 x398000 x398001 x398002 x398003 x398004 x399000 x399001 x399002 x399003 x399004)) else (none)) else (none)) else (none)) else (Y6.l0 k (wrap64 (x11+1)) x378000 x378001 x379000 x379001 x398000 x398001 x398002 x398003 x398004 x399000 x399001 x399002 x399003 x399004)
def Y6.j3:Nat→Int→Int→Bool→List (S30)→List (S36)→List (S30)→List (S36)→List (S30)→List (S36)→Int→Int→Int→List (S30)→List (S36)→Int→Int→Int→Option (Bool)
 | 0,_,_,_,_,_,_,_,_,_,_,_,_,_,_,_,_,_=>none
 | k+1,x11,x12,x96,x378000,x378001,x379000,x379001,x398000,x398001,x398002,x398003,x398004,x399000,x399001,x399002,x399003,x399004=>if x96=true then (some true) else (Y6.l1 k x11 (wrap64 (x12+1)) x378000 x378001 x379000 x379001 x398000 x398001 x398002 x398003 x398004 x399000 x399001 x399002 x399003 x399004)
def Y6.l2:Nat→Int→List (S30)→List (S36)→Int→Int→Int→List (S30)→List (S36)→Int→Int→Int→Option (Bool)
 | 0,_,_,_,_,_,_,_,_,_,_,_=>none
 | k+1,x13,x398000,x398001,x398002,x398003,x398004,x399000,x399001,x399002,x399003,x399004=>if x13<(x398001.length:Int) then (if 0≤x13 then (if x13<(x399001.length:Int) then (if (!(((rd_T36 x398001 x13).f0.f0) == ((rd_T36 x399001 x13).f0.f0)) || (!(((rd_T36 x398001 x13).f0.f1) == ((rd_T36 x399001 x13).f0.f1))))=true then (none) else (Y6.l2 k (wrap64 (x13+1)) x398000 x398001 x398002 x398003 x398004 x399000 x399001 x399002 x399003 x399004)) else (none)) else (none)) else (some true)
end
def Y6.f (k:Nat) (l0:List Int) (l1:List Int):Option (Bool):=if (l0.length:Int)>1048576 then (Y6.j0 k l0 l1 true) else (Y6.j0 k l0 l1 (decide ((l1.length:Int)>1048576)))
theorem Y6.mono_l:∀ k,(∀ y0 y1 y2,LeO (Y6.j0 k y0 y1 y2) (Y6.j0 (k+1) y0 y1 y2))∧(∀ y0 y1 y2 y3 y4 y5 y6 y7 y8 y9 y10 y11 y12 y13 y14,LeO (Y6.l0 k y0 y1 y2 y3 y4 y5 y6 y7 y8 y9 y10 y11 y12 y13 y14) (Y6.l0 (k+1) y0 y1 y2 y3 y4 y5 y6 y7 y8 y9 y10 y11 y12 y13 y14))∧(∀ y0 y1 y2 y3 y4 y5 y6 y7 y8 y9 y10 y11 y12 y13 y14 y15,LeO (Y6.l1 k y0 y1 y2 y3 y4 y5 y6 y7 y8 y9 y10 y11 y12 y13 y14 y15) (Y6.l1 (k+1) y0 y1 y2 y3 y4 y5 y6 y7 y8 y9 y10 y11 y12 y13 y14 y15))∧(∀ y0 y1 y2 y3 y4 y5 y6 y7 y8 y9 y10 y11 y12 y13 y14 y15 y16,LeO (Y6.j3 k y0 y1 y2 y3 y4 y5 y6 y7 y8 y9 y10 y11 y12 y13 y14 y15 y16) (Y6.j3 (k+1) y0 y1 y2 y3 y4 y5 y6 y7 y8 y9 y10 y11 y12 y13 y14 y15 y16))∧(∀ y0 y1 y2 y3 y4 y5 y6 y7 y8 y9 y10,LeO (Y6.l2 k y0 y1 y2 y3 y4 y5 y6 y7 y8 y9 y10) (Y6.l2 (k+1) y0 y1 y2 y3 y4 y5 y6 y7 y8 y9 y10))
 | 0=>by refine ⟨?_,?_,?_,?_,?_⟩ <;> intros <;> exact LeO.none _
 | k+1=>by
  obtain ⟨ih0,ih1,ih2,ih3,ih4⟩:=Y6.mono_l k;have m0:=@Y10.mono;have m1:=@Y27.mono;have m2:=@Y26.mono;have m3:=@Y38.mono;have m4:=@Y21.mono;have m5:=@Y19.mono;refine ⟨?_,?_,?_,?_,?_⟩
  ·intros;unfold Y6.j0;exact mO
  ·intros;unfold Y6.l0;exact mO
  ·intros;unfold Y6.l1;exact mO
  ·intros;unfold Y6.j3;exact mO
  ·intros;unfold Y6.l2;exact mO
theorem Y6.mono:∀ a0 a1 k,LeO (Y6.f k a0 a1) (Y6.f (k+1) a0 a1):=by
 intro a0 a1 k;have m0:=@Y10.mono;have m1:=@Y27.mono;have m2:=@Y26.mono;have m3:=@Y38.mono;have m4:=@Y21.mono;have m5:=@Y19.mono;obtain ⟨ih0,ih1,ih2,ih3,ih4⟩:=Y6.mono_l k;unfold Y6.f;exact mO
/-! ### A region in which a chain of two calls and two new boxes may come up in any order -/
def mixA (b:Bool) (n:Tmp) (v:Value) (a:Act):Act:=if b=true then a.put (some n) v else a
theorem mixA_put {b:Bool} {n m:Tmp} {v u:Value} {a:Act} (h:m≠n):(mixA b n v a).put (some m) u=mixA b n v (a.put (some m) u):=by
 cases b with
 | false=>rfl
 | true =>
  show (a.put (some n) v).put (some m) u=(a.put (some m) u).put (some n) v;simp only [Act.put];rw [Array.setIfInBounds_comm _ _ (Ne.symm h)]
def mixB (a:Act) (b2 b5 b6 b7:Bool) (v2 v5 v6 v7:Value):Act:=mixA b7 8 v7 (mixA b6 7 v6 (mixA b5 32 v5 (mixA b2 29 v2 a)))
def mixL (b2 b5 b6 b7:Bool):Array Bool:=#[true,true,b2,true,true,b5,b6,b7,false,false]
theorem mix4 {P:Program} {ops:Array Oper} {Q:Exit→Act→World→Prop} {md:Region.Mode} {S:World→Prop} {T:Bool × List (List Nat × List Nat)} (hT:rtab md ops=T) (a:Act) {o2 o5 o6 o7:Oper}
  (h2:ops[2]? = some o2) (h5:ops[5]? = some o5) (h6:ops[6]? = some o6) (h7:ops[7]? = some o7)
  (hr:∀ b2 b5 b6 b7:Bool,(b2 && b5 && b6 && b7)=false→readyT T.2 (mixL b2 b5 b6 b7).toList=(if b2 then (if b5 then [] else [5]) else if b5 then [2] else [2]) ++ (if b6 then [] else [6]) ++ (if b7 then [] else [7]))
  (F:Bool→Bool→Bool→Bool→Value→Value→Value→Value→World→Prop)
  (hF:∀ b6 b7 v2 v5 v6 v7 w,¬ F false true b6 b7 v2 v5 v6 v7 w)
  (s2:∀ b6 b7 v2 v5 v6 v7 w,F false false b6 b7 v2 v5 v6 v7 w→∀ K,(∀ v w',S w'→F true false b6 b7 v v5 v6 v7 w'→K ((mixB a false false b6 b7 v2 v5 v6 v7).put (some 29) v) w')→if Region.wanted o2 (yielded ops (mixB a false false b6 b7 v2 v5 v6 v7).tmps)=true then Oper.wp P o2 (mixB a false false b6 b7 v2 v5 v6 v7) w K Q else K ((mixB a false false b6 b7 v2 v5 v6 v7).put o2.dst undef) w)
  (s5:∀ b6 b7 v2 v5 v6 v7 w,F true false b6 b7 v2 v5 v6 v7 w→∀ K,(∀ v w',S w'→F true true b6 b7 v2 v v6 v7 w'→K ((mixB a true false b6 b7 v2 v5 v6 v7).put (some 32) v) w')→if Region.wanted o5 (yielded ops (mixB a true false b6 b7 v2 v5 v6 v7).tmps)=true then Oper.wp P o5 (mixB a true false b6 b7 v2 v5 v6 v7) w K Q else K ((mixB a true false b6 b7 v2 v5 v6 v7).put o5.dst undef) w)
  (s6:∀ b2 b5 b7 v2 v5 v6 v7 w,F b2 b5 false b7 v2 v5 v6 v7 w→∀ K,(∀ v w',S w'→F b2 b5 true b7 v2 v5 v v7 w'→K ((mixB a b2 b5 false b7 v2 v5 v6 v7).put (some 7) v) w')→if Region.wanted o6 (yielded ops (mixB a b2 b5 false b7 v2 v5 v6 v7).tmps)=true then Oper.wp P o6 (mixB a b2 b5 false b7 v2 v5 v6 v7) w K Q else K ((mixB a b2 b5 false b7 v2 v5 v6 v7).put o6.dst undef) w)
  (s7:∀ b2 b5 b6 v2 v5 v6 v7 w,F b2 b5 b6 false v2 v5 v6 v7 w→∀ K,(∀ v w',S w'→F b2 b5 b6 true v2 v5 v6 v w'→K ((mixB a b2 b5 b6 false v2 v5 v6 v7).put (some 8) v) w')→if Region.wanted o7 (yielded ops (mixB a b2 b5 b6 false v2 v5 v6 v7).tmps)=true then Oper.wp P o7 (mixB a b2 b5 b6 false v2 v5 v6 v7) w K Q else K ((mixB a b2 b5 b6 false v2 v5 v6 v7).put o7.dst undef) w)
  (hend:∀ v2 v5 v6 v7 w,F true true true true v2 v5 v6 v7 w→wpAnyLast P md ops Q S [] 2 (mixL true true true true) (mixB a true true true true v2 v5 v6 v7) w) :
  ∀ (n:Nat) (b2 b5 b6 b7:Bool) (v2 v5 v6 v7:Value) (w:World),(!b2).toNat+(!b5).toNat+(!b6).toNat+(!b7).toNat=n→F b2 b5 b6 b7 v2 v5 v6 v7 w→wpAnyLast P md ops Q S [] (n+2) (mixL b2 b5 b6 b7) (mixB a b2 b5 b6 b7 v2 v5 v6 v7) w:=by
 intro n
 induction n with
 | zero =>
  intro b2 b5 b6 b7 v2 v5 v6 v7 w hn hf;cases b2 <;> cases b5 <;> cases b6 <;> cases b7 <;> first | exact hend _ _ _ _ _ hf | (exfalso;revert hn;decide)
 | succ n ih =>
  intro b2 b5 b6 b7 v2 v5 v6 v7 w hn hf
  have hall:(b2 && b5 && b6 && b7)=false:=by
   cases b2 <;> cases b5 <;> cases b6 <;> cases b7 <;> first | rfl | (exfalso;revert hn;simp)
  have hrd:=hr b2 b5 b6 b7 hall;rw [← hT] at hrd;rw [← ready_eq] at hrd
  have p2:b2=false→wpOp P ops Q 2 (fun a' w'=>(2 ∉ []→S w→S w')∧wpAnyLast P md ops Q S [] (n+2) ((mixL b2 b5 b6 b7).setIfInBounds 2 true) a' w') (mixB a b2 b5 b6 b7 v2 v5 v6 v7) w:=by
   rintro rfl
   cases b5 with
   | true=>exact absurd hf (hF _ _ _ _ _ _ _)
   | false =>
    refine wpOp_step h2 (fun K' hK=>s2 _ _ _ _ _ _ _ hf K' (fun v w' hs hf'=>hK _ _ ⟨fun _ _=>hs,?_⟩));have:=ih true false b6 b7 v v5 v6 v7 w' (by revert hn;cases b6 <;> cases b7 <;> simp <;> omega) hf';simp only [mixB,mixA_put (show (29:Nat)≠8 by decide),mixA_put (show (29:Nat)≠7 by decide),mixA_put (show (29:Nat)≠32 by decide)];exact this
  have p5:b2=true→b5=false→wpOp P ops Q 5 (fun a' w'=>(5 ∉ []→S w→S w')∧wpAnyLast P md ops Q S [] (n+2) ((mixL b2 b5 b6 b7).setIfInBounds 5 true) a' w') (mixB a b2 b5 b6 b7 v2 v5 v6 v7) w:=by
   rintro rfl rfl;refine wpOp_step h5 (fun K' hK=>s5 _ _ _ _ _ _ _ hf K' (fun v w' hs hf'=>hK _ _ ⟨fun _ _=>hs,?_⟩));have:=ih true true b6 b7 v2 v v6 v7 w' (by revert hn;cases b6 <;> cases b7 <;> simp <;> omega) hf';simp only [mixB,mixA_put (show (32:Nat)≠8 by decide),mixA_put (show (32:Nat)≠7 by decide)];exact this
  have p6:b6=false→wpOp P ops Q 6 (fun a' w'=>(6 ∉ []→S w→S w')∧wpAnyLast P md ops Q S [] (n+2) ((mixL b2 b5 b6 b7).setIfInBounds 6 true) a' w') (mixB a b2 b5 b6 b7 v2 v5 v6 v7) w:=by
   rintro rfl;refine wpOp_step h6 (fun K' hK=>s6 _ _ _ _ _ _ _ _ hf K' (fun v w' hs hf'=>hK _ _ ⟨fun _ _=>hs,?_⟩));have:=ih b2 b5 true b7 v2 v5 v v7 w' (by revert hn;cases b2 <;> cases b5 <;> cases b7 <;> simp <;> omega) hf';simp only [mixB,mixA_put (show (7:Nat)≠8 by decide)];exact this
  have p7:b7=false→wpOp P ops Q 7 (fun a' w'=>(7 ∉ []→S w→S w')∧wpAnyLast P md ops Q S [] (n+2) ((mixL b2 b5 b6 b7).setIfInBounds 7 true) a' w') (mixB a b2 b5 b6 b7 v2 v5 v6 v7) w:=by
   rintro rfl;refine wpOp_step h7 (fun K' hK=>s7 _ _ _ _ _ _ _ _ hf K' (fun v w' hs hf'=>hK _ _ ⟨fun _ _=>hs,?_⟩));exact ih b2 b5 b6 true v2 v5 v6 v w' (by revert hn;cases b2 <;> cases b5 <;> cases b6 <;> simp <;> omega) hf'
  refine wpAnyLast_all hrd (by cases b2 <;> cases b5 <;> cases b6 <;> cases b7 <;> simp at hall ⊢) (fun i hi=>?_)
  have hi':(i=2∧b2=false)∨(i=5∧b2=true∧b5=false)∨(i=6∧b6=false)∨(i=7∧b7=false):=by
   revert hi;cases b2 <;> cases b5 <;> cases b6 <;> cases b7 <;> simp <;> omega
  rcases hi' with ⟨rfl,h⟩ | ⟨rfl,h,h'⟩ | ⟨rfl,h⟩ | ⟨rfl,h⟩
  · exact p2 h
  · exact p5 h h'
  · exact p6 h
  · exact p7 h
/-! ### Five cells of a box written -/
def set5 (w:World) (g:Nat) (a b c d e:Value):World:=((((w.setCell ⟨g,0,none⟩ a).setCell ⟨g,1,none⟩ b).setCell ⟨g,2,none⟩ c).setCell ⟨g,3,none⟩ d).setCell ⟨g,4,none⟩ e
theorem set5_R {α:Type} {k:Kd α} {t n g T:Nat} {ok:Nat→Prop} {w:World} {v:Value} {xs:List α} {cs:Array Value} (h:Kd.R k t w n ok v xs) (hb:w.heap[g]? = some (.cells cs T (0,0))) (ht:∀ q,q ∈ t :: k.E→q≠T) (a b c d e:Value):Kd.R k t (set5 w g a b c d e) n (fun _=>True) v xs :=
 Kd.R_mono (Kd.R_far (p:=⟨g,4,none⟩) (Kd.R_far (p:=⟨g,3,none⟩) (Kd.R_far (p:=⟨g,2,none⟩) (Kd.R_far (p:=⟨g,1,none⟩) (Kd.R_far (p:=⟨g,0,none⟩) (Kd.R_types h hb ht) (fun _ hk=>hk.2) a) (fun _ hk=>hk.2) b) (fun _ hk=>hk.2) c) (fun _ hk=>hk.2) d) (fun _ hk=>hk.2) e) (fun _ _=>trivial)
theorem set5_blk {g T:Nat} {w:World} {x0 x1 x2 x3 x4:Value} (h:w.heap[g]? = some (.cells #[x0,x1,x2,x3,x4] T (0,0))) (a b c d e:Value):(set5 w g a b c d e).heap[g]? = some (.cells #[a,b,c,d,e] T (0,0)) :=
 blk_put (blk_put (blk_put (blk_put (blk_put h 0 a rfl) 1 b rfl) 2 c rfl) 3 d rfl) 4 e rfl
theorem set5_far {g g' T:Nat} {w:World} {cs:Array Value} (h:w.heap[g']? = some (.cells cs T (0,0))) (hne:g'≠g) (a b c d e:Value):(set5 w g a b c d e).heap[g']? = some (.cells cs T (0,0)) :=
 blk_far (blk_far (blk_far (blk_far (blk_far h hne a) hne b) hne c) hne d) hne e
theorem set5_below {g:Nat} {w0 w:World} (h:Below w0.heap.size w0 w) (hg:w0.heap.size≤g) (a b c d e:Value):Below w0.heap.size w0 (set5 w g a b c d e) :=
 below_set (below_set (below_set (below_set (below_set h hg) hg) hg) hg) hg
def Y6.T4:Bool × List (List Nat × List Nat):=(true,[([],[]),([],[]),([0,1],[0,1]),([],[]),([],[]),([3,4,2],[3,4]),([],[]),([],[]),([6,2,5,0,1,2,6,7],[2,6]),([7,5,8,0,1,2,3,4,5,6,7,8],[5,7])])
def Y6.B4:List Nat:=[0,0,3,0,0,31,0,0,255,511]
theorem Y6.tab4:rtab .any (opsOf Try.f3 4)=Y6.T4:=by kernel_rfl
theorem Y6.bits4:waitsOk Y6.T4.2 Y6.B4=true:=by kernel_rfl
def Y6.T6:Bool × List (List Nat × List Nat):=(true,[([],[]),([],[]),([],[]),([1,2],[1,2]),([0,3,3],[0,3]),([4],[4]),([5,4],[5]),([6],[6]),([6],[6]),([7,8,6,6],[6,7,8]),([6],[6]),([6],[6]),([10,11,9,6],[6,10,11]),([9,12,12,6],[6,9,12]),([13,6],[6,13]),([6,14],[6,14])])
def Y6.B6:List Nat:=[0,0,0,6,15,31,63,127,127,511,127,127,4095,8191,16383,32767]
theorem Y6.tab6:rtab .any (opsOf Try.f3 6)=Y6.T6:=by kernel_rfl
theorem Y6.bits6:waitsOk Y6.T6.2 Y6.B6=true:=by kernel_rfl
def Y6.T16:Bool × List (List Nat × List Nat):=(true,[([],[]),([0],[0]),([],[]),([1,2],[1,2]),([3],[3]),([4],[4]),([],[]),([6],[6]),([],[]),([7,8],[7,8]),([9],[9]),([10],[10]),([5,11],[5,11]),([12],[12]),([13],[13]),([14,13],[13,14]),([13],[13]),([15,16,13],[13,15,16]),([17,13],[13,17]),([13],[13]),([19,13],[13,19]),([13],[13]),([20,21,13],[13,20,21]),([22,13],[13,22]),([18,23,13],[13,18,23]),([13,24],[13,24])])
def Y6.B16:List Nat:=[0,1,0,7,15,31,0,64,0,448,960,1984,4095,8191,16383,32767,16383,131071,262143,16383,540671,16383,3686399,7880703,16777215,33554431]
theorem Y6.tab16:rtab .any (opsOf Try.f3 16)=Y6.T16:=by kernel_rfl
theorem Y6.bits16:waitsOk Y6.T16.2 Y6.B16=true:=by kernel_rfl
def Y6.T18:Bool × List (List Nat × List Nat):=(true,[([],[]),([],[]),([0,1],[0,1]),([2],[2]),([],[]),([3,4,2],[3,4]),([5],[5]),([6,5],[6]),([7],[7]),([8,7],[7,8]),([7],[7]),([9,10,7,7],[7,9,10]),([11,7],[7,11]),([7],[7]),([13,7],[7,13]),([12,14,11,7],[7,12,14]),([15,7],[7,15]),([7,16],[7,16]),([17,15],[17]),([18],[18]),([18],[18]),([20,18],[18,20]),([19,21,18,18],[18,19,21]),([22,18],[18,22]),([18],[18]),([24,18],[18,24]),([23,25,22,18],[18,23,25]),([26,18],[18,26]),([18,27],[18,27]),([28,26],[28]),([29],[29]),([30,29],[29,30]),([31,29],[29,31]),([32,29],[29,32]),([29],[29]),([34,29],[29,34]),([35,29],[29,35]),([36,29],[29,36]),([33,37,29],[29,33,37]),([29,38],[29,38]),([39,29],[39]),([40],[40]),([41,40],[40,41]),([42,40],[40,42]),([40],[40]),([44,40],[40,44]),([45,40],[40,45]),([43,46,40,40],[40,43,46]),([47,40],[40,47]),([40,48],[40,48])])
def Y6.B18:List Nat:=[0,0,3,7,0,31,63,127,255,511,255,2047,4095,255,8447,32767,65535,131071,262143,524287,524287,1572863,4194303,8388607,524287,17301503,67108863,134217727,268435455,536870911,1073741823,2147483647,4294967295,8589934591,1073741823,18253611007,52613349375,121332826111,274877906943,549755813887,1099511627775,2199023255551,4398046511103,8796093022207,2199023255551,19791209299967,54975581388799,140737488355327,281474976710655,562949953421311]
theorem Y6.tab18:rtab .any (opsOf Try.f3 18)=Y6.T18:=by kernel_rfl
theorem Y6.bits18:waitsOk Y6.T18.2 Y6.B18=true:=by kernel_rfl
def Y6.T23:Bool × List (List Nat × List Nat):=(true,[([],[]),([0],[0]),([1],[1]),([],[]),([2,3],[2,3]),([4],[4]),([5],[5]),([],[]),([7],[7]),([8],[8]),([],[]),([9,10],[9,10]),([11],[11]),([12],[12]),([6,13],[6,13])])
def Y6.B23:List Nat:=[0,1,3,0,15,31,63,0,128,384,0,1920,3968,8064,16383]
theorem Y6.tab23:rtab .any (opsOf Try.f3 23)=Y6.T23:=by kernel_rfl
theorem Y6.bits23:waitsOk Y6.T23.2 Y6.B23=true:=by kernel_rfl
abbrev Y6.q0:Array Bool:=#[O,O,O,O,O,O,O,O,O,O,O,O,O,O,O,O]
abbrev Y6.q1:Array Bool:=#[I,O,O,O,O,O,O,O,O,O,O,O,O,O,O,O]
abbrev Y6.q2:Array Bool:=#[I,I,O,O,O,O,O,O,O,O,O,O,O,O,O,O]
abbrev Y6.q3:Array Bool:=#[I,I,I,O,O,O,O,O,O,O,O,O,O,O,O,O]
abbrev Y6.q4:Array Bool:=#[I,I,I,I,O,O,O,O,O,O,O,O,O,O,O,O]
abbrev Y6.q5:Array Bool:=#[I,I,I,I,I,O,O,O,O,O,O,O,O,O,O,O]
abbrev Y6.q6:Array Bool:=#[I,I,I,I,I,I,O,O,O,O,O,O,O,O,O,O]
abbrev Y6.q7:Array Bool:=#[I,I,I,I,I,I,I,O,O,O,O,O,O,O,O,O]
abbrev Y6.q8:Array Bool:=#[I,I,I,I,I,I,I,I,O,O,O,O,O,O,O,O]
abbrev Y6.q9:Array Bool:=#[I,I,I,I,I,I,I,I,I,O,O,O,O,O,O,O]
abbrev Y6.q10:Array Bool:=#[I,I,I,I,I,I,I,I,I,O,I,O,O,O,O,O]
abbrev Y6.q11:Array Bool:=#[I,I,I,I,I,I,I,I,I,O,I,I,O,O,O,O]
abbrev Y6.q12:Array Bool:=#[I,I,I,I,I,I,I,I,I,I,I,I,O,O,O,O]
abbrev Y6.q13:Array Bool:=#[I,I,I,I,I,I,I,I,I,I,I,I,I,O,O,O]
abbrev Y6.q14:Array Bool:=#[I,I,I,I,I,I,I,I,I,I,I,I,I,I,O,O]
abbrev Y6.q15:Array Bool:=#[I,I,I,I,I,I,I,I,I,I,I,I,I,I,I,O]
abbrev Y6.q16:Array Bool:=#[I,I,I,I,I,I,I,I,I,I,I,I,I,I,I,I]
abbrev Y6.q17:Array Bool:=#[O,O,O,O,O,O,O,O,O,O,O,O,O,O,O,O,O,O,O,O,O,O,O,O,O,O]
abbrev Y6.q18:Array Bool:=#[I,O,O,O,O,O,O,O,O,O,O,O,O,O,O,O,O,O,O,O,O,O,O,O,O,O]
abbrev Y6.q19:Array Bool:=#[I,O,I,O,O,O,O,O,O,O,O,O,O,O,O,O,O,O,O,O,O,O,O,O,O,O]
abbrev Y6.q20:Array Bool:=#[I,O,I,O,O,O,I,O,O,O,O,O,O,O,O,O,O,O,O,O,O,O,O,O,O,O]
abbrev Y6.q21:Array Bool:=#[I,O,I,O,O,O,I,O,I,O,O,O,O,O,O,O,O,O,O,O,O,O,O,O,O,O]
abbrev Y6.q22:Array Bool:=#[I,I,I,O,O,O,I,O,I,O,O,O,O,O,O,O,O,O,O,O,O,O,O,O,O,O]
abbrev Y6.q23:Array Bool:=#[I,I,I,I,O,O,I,O,I,O,O,O,O,O,O,O,O,O,O,O,O,O,O,O,O,O]
abbrev Y6.q24:Array Bool:=#[I,I,I,I,I,O,I,O,I,O,O,O,O,O,O,O,O,O,O,O,O,O,O,O,O,O]
abbrev Y6.q25:Array Bool:=#[I,I,I,I,I,I,I,O,I,O,O,O,O,O,O,O,O,O,O,O,O,O,O,O,O,O]
abbrev Y6.q26:Array Bool:=#[I,I,I,I,I,I,I,I,I,O,O,O,O,O,O,O,O,O,O,O,O,O,O,O,O,O]
abbrev Y6.q27:Array Bool:=#[I,I,I,I,I,I,I,I,I,I,O,O,O,O,O,O,O,O,O,O,O,O,O,O,O,O]
abbrev Y6.q28:Array Bool:=#[I,I,I,I,I,I,I,I,I,I,I,O,O,O,O,O,O,O,O,O,O,O,O,O,O,O]
abbrev Y6.q29:Array Bool:=#[I,I,I,I,I,I,I,I,I,I,I,I,O,O,O,O,O,O,O,O,O,O,O,O,O,O]
abbrev Y6.q30:Array Bool:=#[I,I,I,I,I,I,I,I,I,I,I,I,I,O,O,O,O,O,O,O,O,O,O,O,O,O]
abbrev Y6.q31:Array Bool:=#[I,I,I,I,I,I,I,I,I,I,I,I,I,I,O,O,O,O,O,O,O,O,O,O,O,O]
abbrev Y6.q32:Array Bool:=#[I,I,I,I,I,I,I,I,I,I,I,I,I,I,I,O,O,O,O,O,O,O,O,O,O,O]
abbrev Y6.q33:Array Bool:=#[I,I,I,I,I,I,I,I,I,I,I,I,I,I,I,I,I,I,I,I,I,I,O,O,O,O]
abbrev Y6.q34:Array Bool:=#[I,I,I,I,I,I,I,I,I,I,I,I,I,I,I,I,I,I,I,I,I,I,I,O,O,O]
abbrev Y6.q35:Array Bool:=#[I,I,I,I,I,I,I,I,I,I,I,I,I,I,I,I,I,I,I,I,I,I,I,I,O,O]
abbrev Y6.q36:Array Bool:=#[I,I,I,I,I,I,I,I,I,I,I,I,I,I,I,I,I,I,I,I,I,I,I,I,I,O]
abbrev Y6.q37:Array Bool:=#[I,I,I,I,I,I,I,I,I,I,I,I,I,I,I,I,I,I,I,I,I,I,I,I,I,I]
set_option maxHeartbeats 30000000 in
theorem Y6.calls (k:Nat) (A0:Option Addr) (c0:Nat) (l0:List Int) (A1:Option Addr) (c1:Nat) (l1:List Int) (r:Bool) (w:World) (hr0:Kd.C (Kd.int .u8) w A0 l0.length l0) (hc0:l0.length≤c0) (hr1:Kd.C (Kd.int .u8) w A1 l1.length l1) (hc1:l1.length≤c1) (h:Y6.f k l0 l1=some r) :
  Calls Try.prog 3 #[.slice A0 l0.length c0,.slice A1 l1.length c1] w fun e w'=>e = .returned (.bool r)∧Below w.heap.size w w':=by
 have hu26:=Try.underlying26;(have hfd_:∀ (a_ b_ c_ d_ e_:Value) (W_:World),(Instr.field 32 (.agg #[a_,b_,c_,d_,e_]) 0).run Try.prog W_ = .ok (.agg #[a_,b_]) W_:=fun _ _ _ _ _ _=>by kernel_rfl);have hu32:=Try.underlying32;have hu30:=Try.underlying30;have hu36:=Try.underlying36;have HR0:=aM hr0;have HC0:=aM hc0;clear hr0 hc0;have HR1:=aM hr1;have HC1:=aM hc1;clear hr1 hc1;have HB:=aM (Below.refl w.heap.size w);have H:(if (l0.length:Int)>1048576 then (Y6.j0 k l0 l1 true) else (Y6.j0 k l0 l1 (decide ((l1.length:Int)>1048576))))=some r:=h;clear h;have HC3:=aM H;clear H;go_enter Try.func3,Try.ntmps3;go_upto_region 1 with (fail);go_cut [21] (fun v21 wc=>∃ (kq:Nat) (x21_2:Bool),v21 = .bool x21_2∧Aside0 (Y6.j0 kq l0 l1 x21_2=some r)∧Aside0 (kq≤k)∧Aside0 (Below w.heap.size w wc))
 case first=>as_aux_lemma =>
  have H:=HC3.out;clear HC3;by_cases c4:(l0.length:Int)>1048576
  ·rw [if_pos c4] at H;have c4b0:decide (1048576<(l0.length:Int))=true:=dE c4;have c4b1:decide (1048576<l0.length)=true:=dE (by omega);clear c4;(first | rw [c4b0] | (simp only [i64_w,i32_w];rw [c4b0]) | skip);have H':=aM H;clear H;go_wp2;go_meet;case rel=>exact ⟨_,(true),(z3_),H',⟨by first | omega | exact Nat.le_refl _⟩,⟨z5_ HB.out⟩⟩
  ·rw [if_neg c4] at H;have c4b0:decide (1048576<(l0.length:Int))=false:=dF c4;have c4b1:decide (1048576<l0.length)=false:=dF (by omega);clear c4;(first | rw [c4b0] | (simp only [i64_w,i32_w];rw [c4b0]) | skip);have H':=aM H;clear H;go_wp2;go_meet;case rel=>exact ⟨_,(decide ((l1.length:Int)>1048576)),(z3_),H',⟨by first | omega | exact Nat.le_refl _⟩,⟨z5_ HB.out⟩⟩
 case rest=>as_aux_lemma =>
  clear HC3;(try clear c1);(try clear p2);(try clear c3);(try clear c4);(try clear c4b0);(try clear c4b1);obtain ⟨kq,x21_2,rfl,HA,HJ2,HB⟩:=hcut
  cases kq with
  | zero=>exact absurd HA.out (by simp [Y6.j0])
  | succ kj2 =>
   have H:=HA.out;clear HA;simp only [Y6.j0] at H;by_cases c5:x21_2=true
   ·subst c5;(have H1:(some true)=some r:=by rw [if_pos rfl] at H;exact H);clear H;have H:=H1;clear H1;obtain rfl:=sI H;go_wp2;go_ret;exact ⟨z8_,z5_ HB.out⟩
   ·replace c5:=Bool.eq_false_iff.mpr c5;subst c5;(have H1:((Y21.f kj2 l0).bind fun bt365=>((Y10.f kj2 bt365.1 bt365.2.1 bt365.2.2.1 bt365.2.2.2).bind fun bt379=>((Y10.f kj2 bt365.2.2.1 bt365.2.2.2 bt365.1 bt365.2.1).bind fun bt388=>((Y21.f kj2 l1).bind fun bt399=>((Y19.f kj2 bt365.1 bt365.2.1 bt365.2.2.1 bt365.2.2.2).bind fun bt413=>((Y38.f kj2 bt379.1 bt379.2.1 bt379.2.2.1 bt379.2.2.2.1 bt379.2.2.2.2 bt413.1 bt413.2.1 bt413.2.2.1 bt413.2.2.2.1 bt413.2.2.2.2).bind fun t422=>(if t422=true then ((Y10.f kj2 bt399.1 bt399.2.1 bt399.2.2.1 bt399.2.2.2).bind fun bt423=>((Y19.f kj2 bt399.1 bt399.2.1 bt399.2.2.1 bt399.2.2.2).bind fun bt432=>((Y38.f kj2 bt423.1 bt423.2.1 bt423.2.2.1 bt423.2.2.2.1 bt423.2.2.2.2 bt432.1 bt432.2.1 bt432.2.2.1 bt432.2.2.2.1 bt432.2.2.2.2).bind fun t441=>(if t441=true then (if bt379.2.2.2.2=0 then (Y6.l0 kj2 0 bt365.1 bt365.2.1 bt365.2.2.1 bt365.2.2.2 bt379.1 bt379.2.1 bt379.2.2.1 bt379.2.2.2.1 bt379.2.2.2.2 bt388.1 bt388.2.1 bt388.2.2.1 bt388.2.2.2.1 bt388.2.2.2.2) else (some true)) else (none))))) else (none))))))))=some r:=by rw [if_neg (show ¬ (false=true) by decide)] at H;exact H);clear H;have H:=H1;clear H1;replace H:=bS H;obtain ⟨⟨O2,H9,t371,t374⟩,A60,H⟩:=H;replace H:((Y10.f kj2 O2 H9 t371 t374).bind fun bt379=>((Y10.f kj2 t371 t374 O2 H9).bind fun bt388=>((Y21.f kj2 l1).bind fun bt399=>((Y19.f kj2 O2 H9 t371 t374).bind fun bt413=>((Y38.f kj2 bt379.1 bt379.2.1 bt379.2.2.1 bt379.2.2.2.1 bt379.2.2.2.2 bt413.1 bt413.2.1 bt413.2.2.1 bt413.2.2.2.1 bt413.2.2.2.2).bind fun t422=>(if t422=true then ((Y10.f kj2 bt399.1 bt399.2.1 bt399.2.2.1 bt399.2.2.2).bind fun bt423=>((Y19.f kj2 bt399.1 bt399.2.1 bt399.2.2.1 bt399.2.2.2).bind fun bt432=>((Y38.f kj2 bt423.1 bt423.2.1 bt423.2.2.1 bt423.2.2.2.1 bt423.2.2.2.2 bt432.1 bt432.2.1 bt432.2.2.1 bt432.2.2.2.1 bt432.2.2.2.2).bind fun t441=>(if t441=true then (if bt379.2.2.2.2=0 then (Y6.l0 kj2 0 O2 H9 t371 t374 bt379.1 bt379.2.1 bt379.2.2.1 bt379.2.2.2.1 bt379.2.2.2.2 bt388.1 bt388.2.1 bt388.2.2.1 bt388.2.2.2.1 bt388.2.2.2.2) else (some true)) else (none))))) else (none)))))))=some r:=H;have A6:=aM A60;clear A60;replace H:=bS H;obtain ⟨⟨t379,t382,t385,t386,t387⟩,A70,H⟩:=H;replace H:((Y10.f kj2 t371 t374 O2 H9).bind fun bt388=>((Y21.f kj2 l1).bind fun bt399=>((Y19.f kj2 O2 H9 t371 t374).bind fun bt413=>((Y38.f kj2 t379 t382 t385 t386 t387 bt413.1 bt413.2.1 bt413.2.2.1 bt413.2.2.2.1 bt413.2.2.2.2).bind fun t422=>(if t422=true then ((Y10.f kj2 bt399.1 bt399.2.1 bt399.2.2.1 bt399.2.2.2).bind fun bt423=>((Y19.f kj2 bt399.1 bt399.2.1 bt399.2.2.1 bt399.2.2.2).bind fun bt432=>((Y38.f kj2 bt423.1 bt423.2.1 bt423.2.2.1 bt423.2.2.2.1 bt423.2.2.2.2 bt432.1 bt432.2.1 bt432.2.2.1 bt432.2.2.2.1 bt432.2.2.2.2).bind fun t441=>(if t441=true then (if t387=0 then (Y6.l0 kj2 0 O2 H9 t371 t374 t379 t382 t385 t386 t387 bt388.1 bt388.2.1 bt388.2.2.1 bt388.2.2.2.1 bt388.2.2.2.2) else (some true)) else (none))))) else (none))))))=some r:=H;have A7:=aM A70;clear A70;replace H:=bS H;obtain ⟨⟨t388,t391,t394,t395,t396⟩,A80,H⟩:=H;replace H:((Y21.f kj2 l1).bind fun bt399=>((Y19.f kj2 O2 H9 t371 t374).bind fun bt413=>((Y38.f kj2 t379 t382 t385 t386 t387 bt413.1 bt413.2.1 bt413.2.2.1 bt413.2.2.2.1 bt413.2.2.2.2).bind fun t422=>(if t422=true then ((Y10.f kj2 bt399.1 bt399.2.1 bt399.2.2.1 bt399.2.2.2).bind fun bt423=>((Y19.f kj2 bt399.1 bt399.2.1 bt399.2.2.1 bt399.2.2.2).bind fun bt432=>((Y38.f kj2 bt423.1 bt423.2.1 bt423.2.2.1 bt423.2.2.2.1 bt423.2.2.2.2 bt432.1 bt432.2.1 bt432.2.2.1 bt432.2.2.2.1 bt432.2.2.2.2).bind fun t441=>(if t441=true then (if t387=0 then (Y6.l0 kj2 0 O2 H9 t371 t374 t379 t382 t385 t386 t387 t388 t391 t394 t395 t396) else (some true)) else (none))))) else (none)))))=some r:=H;have A8:=aM A80;clear A80;replace H:=bS H;obtain ⟨⟨AI8,AI9,t405,t408⟩,A90,H⟩:=H;replace H:((Y19.f kj2 O2 H9 t371 t374).bind fun bt413=>((Y38.f kj2 t379 t382 t385 t386 t387 bt413.1 bt413.2.1 bt413.2.2.1 bt413.2.2.2.1 bt413.2.2.2.2).bind fun t422=>(if t422=true then ((Y10.f kj2 AI8 AI9 t405 t408).bind fun bt423=>((Y19.f kj2 AI8 AI9 t405 t408).bind fun bt432=>((Y38.f kj2 bt423.1 bt423.2.1 bt423.2.2.1 bt423.2.2.2.1 bt423.2.2.2.2 bt432.1 bt432.2.1 bt432.2.2.1 bt432.2.2.2.1 bt432.2.2.2.2).bind fun t441=>(if t441=true then (if t387=0 then (Y6.l0 kj2 0 O2 H9 t371 t374 t379 t382 t385 t386 t387 t388 t391 t394 t395 t396) else (some true)) else (none))))) else (none))))=some r:=H;have A9:=aM A90;clear A90;replace H:=bS H;obtain ⟨⟨t413,t416,t419,t420,t421⟩,A100,H⟩:=H;replace H:((Y38.f kj2 t379 t382 t385 t386 t387 t413 t416 t419 t420 t421).bind fun t422=>(if t422=true then ((Y10.f kj2 AI8 AI9 t405 t408).bind fun bt423=>((Y19.f kj2 AI8 AI9 t405 t408).bind fun bt432=>((Y38.f kj2 bt423.1 bt423.2.1 bt423.2.2.1 bt423.2.2.2.1 bt423.2.2.2.2 bt432.1 bt432.2.1 bt432.2.2.1 bt432.2.2.2.1 bt432.2.2.2.2).bind fun t441=>(if t441=true then (if t387=0 then (Y6.l0 kj2 0 O2 H9 t371 t374 t379 t382 t385 t386 t387 t388 t391 t394 t395 t396) else (some true)) else (none))))) else (none)))=some r:=H;have A10:=aM A100;clear A100;replace H:=bS H;obtain ⟨t422,A110,H⟩:=H;replace H:(if t422=true then ((Y10.f kj2 AI8 AI9 t405 t408).bind fun bt423=>((Y19.f kj2 AI8 AI9 t405 t408).bind fun bt432=>((Y38.f kj2 bt423.1 bt423.2.1 bt423.2.2.1 bt423.2.2.2.1 bt423.2.2.2.2 bt432.1 bt432.2.1 bt432.2.2.1 bt432.2.2.2.1 bt432.2.2.2.2).bind fun t441=>(if t441=true then (if t387=0 then (Y6.l0 kj2 0 O2 H9 t371 t374 t379 t382 t385 t386 t387 t388 t391 t394 t395 t396) else (some true)) else (none))))) else (none))=some r:=H;have A11:=aM A110;clear A110;by_cases c12:t422=true
    ·subst c12;(have H1:((Y10.f kj2 AI8 AI9 t405 t408).bind fun bt423=>((Y19.f kj2 AI8 AI9 t405 t408).bind fun bt432=>((Y38.f kj2 bt423.1 bt423.2.1 bt423.2.2.1 bt423.2.2.2.1 bt423.2.2.2.2 bt432.1 bt432.2.1 bt432.2.2.1 bt432.2.2.2.1 bt432.2.2.2.2).bind fun t441=>(if t441=true then (if t387=0 then (Y6.l0 kj2 0 O2 H9 t371 t374 t379 t382 t385 t386 t387 t388 t391 t394 t395 t396) else (some true)) else (none)))))=some r:=by rw [if_pos rfl] at H;exact H);clear H;have H:=H1;clear H1;replace H:=bS H;obtain ⟨⟨t423,t426,t429,t430,t431⟩,A130,H⟩:=H;replace H:((Y19.f kj2 AI8 AI9 t405 t408).bind fun bt432=>((Y38.f kj2 t423 t426 t429 t430 t431 bt432.1 bt432.2.1 bt432.2.2.1 bt432.2.2.2.1 bt432.2.2.2.2).bind fun t441=>(if t441=true then (if t387=0 then (Y6.l0 kj2 0 O2 H9 t371 t374 t379 t382 t385 t386 t387 t388 t391 t394 t395 t396) else (some true)) else (none))))=some r:=H;have A13:=aM A130;clear A130;replace H:=bS H;obtain ⟨⟨t432,t435,t438,t439,t440⟩,A140,H⟩:=H;replace H:((Y38.f kj2 t423 t426 t429 t430 t431 t432 t435 t438 t439 t440).bind fun t441=>(if t441=true then (if t387=0 then (Y6.l0 kj2 0 O2 H9 t371 t374 t379 t382 t385 t386 t387 t388 t391 t394 t395 t396) else (some true)) else (none)))=some r:=H;have A14:=aM A140;clear A140;replace H:=bS H;obtain ⟨t441,A150,H⟩:=H;replace H:(if t441=true then (if t387=0 then (Y6.l0 kj2 0 O2 H9 t371 t374 t379 t382 t385 t386 t387 t388 t391 t394 t395 t396) else (some true)) else (none))=some r:=H;have A15:=aM A150;clear A150;by_cases c16:t441=true
     ·subst c16;(have H1:(if t387=0 then (Y6.l0 kj2 0 O2 H9 t371 t374 t379 t382 t385 t386 t387 t388 t391 t394 t395 t396) else (some true))=some r:=by rw [if_pos rfl] at H;exact H);clear H;have H:=H1;clear H1;(try go_wp2_with (first | ((with_reducible refine gc_ 7 ?_);refine gl_ (some 24) Try.func7 #[.slice A0 l0.length c0] ?_;(with_reducible refine (Y21.calls kj2 _ _ l0 O2 H9 t371 t374 _ ?s1 ?s2 A6.out).mono ?_);(case s1=>repeat (first | exact (Kd.C_below HR0.out HB.out) | (with_reducible refine Kd.C_alloc ?_ _) | (with_reducible refine Kd.C_drewN ?_ _) | (with_reducible refine Kd.C_drew ?_)));(case s2=>exact HC0.out);rintro e w18 ⟨v366,v369,v372,v375,rfl,ho0,ho1,ho2,ho3,hb⟩;refine ⟨_,rfl,?_⟩;have n0_:=aM (Kd.R_lower ho0 (below_size (z5_ HB.out)));have n1_:=aM (Kd.R_lower ho1 (below_size (z5_ HB.out)));have n2_:=aM (Kd.R_lower ho2 (below_size (z5_ HB.out)));have n3_:=aM (Kd.R_lower ho3 (below_size (z5_ HB.out)));have n4_:=aM (below_step (z5_ HB.out) hb);clear HB;have HO367:=n0_;have HO370:=n1_;have HO373:=n2_;have HO376:=n3_;have HB:=n4_;clear n0_ n1_ n2_ n3_ n4_;(try clear hb);(try clear ho0);(try clear ho1);(try clear ho2);(try clear ho3)) | ((with_reducible refine gd_ 5 ?_);(try (refine gate_guard (by rfl) ?_;dsimp only));refine be_ 5 #[.slice none 0 0,.slice none 0 0] 26 ?_;intro M7 hg w19 hbox hb;have n0_:=aM (Kd.R_below (z0_ HO367.out) hb);have n1_:=aM (Kd.R_below (z0_ HO370.out) hb);have n2_:=aM (Kd.R_below (z0_ HO373.out) hb);have n3_:=aM (Kd.R_below (z0_ HO376.out) hb);have n4_:=aM (below_step (z5_ HB.out) hb);have n5_:=aM (hbox);have n6_:=aM ((z7_ HB.out:w.heap.size≤M7));have n7_:=aM ((z7_ HB.out:w.heap.size≤M7));clear HO367;clear HO370;clear HO373;clear HO376;clear HB;have HO367:=n0_;have HO370:=n1_;have HO373:=n2_;have HO376:=n3_;have HB:=n4_;have BK377:=n5_;have GW377:=n6_;have GE377:=n7_;clear n0_ n1_ n2_ n3_ n4_ n5_ n6_ n7_;clear hb hbox hg) | ((with_reducible refine gd_ 6 ?_);(try (refine gate_guard (by rfl) ?_;dsimp only));refine be_ 6 #[.slice none 0 0,.slice none 0 0] 26 ?_;intro gb378 hg w20 hbox hb;have n0_:=aM (Kd.R_below (z0_ HO367.out) hb);have n1_:=aM (Kd.R_below (z0_ HO370.out) hb);have n2_:=aM (Kd.R_below (z0_ HO373.out) hb);have n3_:=aM (Kd.R_below (z0_ HO376.out) hb);have n4_:=aM (blkB_ BK377.out hb);have n5_:=aM (below_step (z6_ HB.out GE377.out) hb);have n6_:=aM (hbox);have n7_:=aM ((z9_ HB.out GE377.out:w.heap.size≤gb378));have n8_:=aM ((z9_ HB.out GE377.out:w.heap.size≤gb378));have n9_:=aM (neL_ BK377.out hg);have n10_:=aM (neG_ BK377.out hg);clear HO367;clear HO370;clear HO373;clear HO376;clear BK377;clear HB;have HO367:=n0_;have HO370:=n1_;have HO373:=n2_;have HO376:=n3_;have BK377:=n4_;have HB:=n5_;have BK378:=n6_;have GW378:=n7_;have GE378:=n8_;have NB377_378:=n9_;have NB378_377:=n10_;clear n0_ n1_ n2_ n3_ n4_ n5_ n6_ n7_ n8_ n9_ n10_;clear hb hbox hg;obtain ⟨AB8,AB9,eo21⟩:=Kd.R_slice HO367.out;subst eo21;have hnb22:=NB377_378.out;have hnc22:=NB378_377.out;have ⟨hcz23_0,hcz23_1,hfz23_0,hfz23_1⟩:=cz2_ BK377.out;obtain ⟨AC2,u7,eo24⟩:=Kd.R_slice HO370.out;subst eo24;obtain ⟨Ao25,co25,eo25⟩:=Kd.R_slice HO373.out;subst eo25;have ⟨hcz26_0,hcz26_1,hfz26_0,hfz26_1⟩:=cz2_ BK378.out;obtain ⟨Ao27,co27,eo27⟩:=Kd.R_slice HO376.out;subst eo27)));have n0_:Aside0 (Kd.R k30 30 ((((w20.setCell ⟨M7,0,none⟩ (.slice AB8 O2.length AB9)).setCell ⟨M7,1,none⟩ (.slice AC2 H9.length u7)).setCell ⟨gb378,0,none⟩ (.slice Ao25 t371.length co25)).setCell ⟨gb378,1,none⟩ (.slice Ao27 t374.length co27)) w.heap.size (fun _=>True) (.slice AB8 O2.length AB9) O2):=⟨z61_ HO367.out BK377.out BK378.out⟩;have n1_:Aside0 (Kd.R k36 36 ((((w20.setCell ⟨M7,0,none⟩ (.slice AB8 O2.length AB9)).setCell ⟨M7,1,none⟩ (.slice AC2 H9.length u7)).setCell ⟨gb378,0,none⟩ (.slice Ao25 t371.length co25)).setCell ⟨gb378,1,none⟩ (.slice Ao27 t374.length co27)) w.heap.size (fun _=>True) (.slice AC2 H9.length u7) H9):=⟨z61_ HO370.out BK377.out BK378.out⟩;have n2_:Aside0 (Kd.R k30 30 ((((w20.setCell ⟨M7,0,none⟩ (.slice AB8 O2.length AB9)).setCell ⟨M7,1,none⟩ (.slice AC2 H9.length u7)).setCell ⟨gb378,0,none⟩ (.slice Ao25 t371.length co25)).setCell ⟨gb378,1,none⟩ (.slice Ao27 t374.length co27)) w.heap.size (fun _=>True) (.slice Ao25 t371.length co25) t371):=⟨z61_ HO373.out BK377.out BK378.out⟩;have n3_:Aside0 (Kd.R k36 36 ((((w20.setCell ⟨M7,0,none⟩ (.slice AB8 O2.length AB9)).setCell ⟨M7,1,none⟩ (.slice AC2 H9.length u7)).setCell ⟨gb378,0,none⟩ (.slice Ao25 t371.length co25)).setCell ⟨gb378,1,none⟩ (.slice Ao27 t374.length co27)) w.heap.size (fun _=>True) (.slice Ao27 t374.length co27) t374):=⟨z61_ HO376.out BK377.out BK378.out⟩;have n4_:Aside0 (((((w20.setCell ⟨M7,0,none⟩ (.slice AB8 O2.length AB9)).setCell ⟨M7,1,none⟩ (.slice AC2 H9.length u7)).setCell ⟨gb378,0,none⟩ (.slice Ao25 t371.length co25)).setCell ⟨gb378,1,none⟩ (.slice Ao27 t374.length co27)).heap[M7]? = some (.cells #[.slice AB8 O2.length AB9,.slice AC2 H9.length u7] 26 (0,0))):=⟨z55_ NB377_378.out BK377.out⟩;have n5_:Aside0 (((((w20.setCell ⟨M7,0,none⟩ (.slice AB8 O2.length AB9)).setCell ⟨M7,1,none⟩ (.slice AC2 H9.length u7)).setCell ⟨gb378,0,none⟩ (.slice Ao25 t371.length co25)).setCell ⟨gb378,1,none⟩ (.slice Ao27 t374.length co27)).heap[gb378]? = some (.cells #[.slice Ao25 t371.length co25,.slice Ao27 t374.length co27] 26 (0,0))):=⟨z56_ NB378_377.out BK378.out⟩;have n6_:Aside0 (Below w.heap.size w ((((w20.setCell ⟨M7,0,none⟩ (.slice AB8 O2.length AB9)).setCell ⟨M7,1,none⟩ (.slice AC2 H9.length u7)).setCell ⟨gb378,0,none⟩ (.slice Ao25 t371.length co25)).setCell ⟨gb378,1,none⟩ (.slice Ao27 t374.length co27))):=⟨z4_ HB.out GE377.out GE378.out⟩;(try clear HO367);(try clear HO370);(try clear HO373);(try clear HO376);(try clear BK377);(try clear BK378);(try clear HB);generalize ((((w20.setCell ⟨M7,0,none⟩ (.slice AB8 O2.length AB9)).setCell ⟨M7,1,none⟩ (.slice AC2 H9.length u7)).setCell ⟨gb378,0,none⟩ (.slice Ao25 t371.length co25)).setCell ⟨gb378,1,none⟩ (.slice Ao27 t374.length co27))=w28 at n0_ n1_ n2_ n3_ n4_ n5_ n6_ ⊢;have HO367:=n0_;have HO370:=n1_;have HO373:=n2_;have HO376:=n3_;have BK377:=n4_;have BK378:=n5_;have HB:=n6_;clear n0_ n1_ n2_ n3_ n4_ n5_ n6_;have n0_:=aM (Kd.R_drew HO367.out);have n1_:=aM (Kd.R_drew HO370.out);have n2_:=aM (Kd.R_drew HO373.out);have n3_:=aM (Kd.R_drew HO376.out);have n4_:=aM (blk_drew BK377.out);have n5_:=aM (blk_drew BK378.out);have n6_:=aM (below_drew1 HB.out);clear HO367 HO370 HO373 HO376 BK377 BK378 HB;have HO367:=n0_;have HO370:=n1_;have HO373:=n2_;have HO376:=n3_;have BK377:=n4_;have BK378:=n5_;have HB:=n6_;clear n0_ n1_ n2_ n3_ n4_ n5_ n6_;refine start_ (n:=10) (S:=fun w'=>w'.cell? ⟨M7,0,none⟩=some (.slice AB8 O2.length AB9)∧w'.cell? ⟨M7,1,none⟩=some (.slice AC2 H9.length u7)∧w'.cell? ⟨gb378,0,none⟩=some (.slice Ao25 t371.length co25)∧w'.cell? ⟨gb378,1,none⟩=some (.slice Ao27 t374.length co27)) (ds:=[]) #[O,O,O,O,O,O,O,O,O,O] (by kernel_rfl) rfl rfl (cj2_ BK377.out (cc2_ BK378.out)) (fun hHeld=>?_);refine with_tabW Y6.tab4 Y6.bits4 (fun HT_ HW_=>?_);generalize w28.drew=w29 at HO367 HO370 HO373 HO376 BK377 BK378 HB hHeld ⊢;refine tk4_ 0 27 #[I,O,O,O,O,O,O,O,O,O] HT_.out HW_.out hHeld ?_;refine tk4_ 1 28 #[I,I,O,O,O,O,O,O,O,O] HT_.out HW_.out hHeld ?_;refine tk4_ 3 30 #[I,I,O,I,O,O,O,O,O,O] HT_.out HW_.out hHeld ?_;refine tk4_ 4 31 #[I,I,O,I,I,O,O,O,O,O] HT_.out HW_.out hHeld ?_;refine join_ (σ:=Value × Value × Value × Value × Nat × Nat) 2 #[I,I,I,I,I,I,I,I,O,O] (fun s_=>[(29,.agg #[s_.1,s_.2.1,.int .i64 t385,.int .i64 t386,.int .i64 t387]),(32,.agg #[s_.2.2.1,s_.2.2.2.1,.int .i64 t394,.int .i64 t395,.int .i64 t396]),(7,.pointer (some ⟨s_.2.2.2.2.1,0,none⟩)),(8,.pointer (some ⟨s_.2.2.2.2.2,0,none⟩))]) (fun s_ w'=>Below w29.heap.size w29 w'∧Kd.R k30 30 w' w29.heap.size (fun _=>True) s_.1 t379∧Kd.R k36 36 w' w29.heap.size (fun _=>True) s_.2.1 t382∧Kd.R k30 30 w' w29.heap.size (fun _=>True) s_.2.2.1 t388∧Kd.R k36 36 w' w29.heap.size (fun _=>True) s_.2.2.2.1 t391∧w29.heap.size≤s_.2.2.2.2.1∧w29.heap.size≤s_.2.2.2.2.2∧s_.2.2.2.2.1≠s_.2.2.2.2.2∧w'.heap[s_.2.2.2.2.1]? = some (.cells #[.slice none 0 0,.slice none 0 0,.int .i64 0,.int .i64 0,.int .i64 0] 32 (0,0))∧w'.heap[s_.2.2.2.2.2]? = some (.cells #[.slice none 0 0,.slice none 0 0,.int .i64 0,.int .i64 0,.int .i64 0] 32 (0,0))) ?_ ?_;rotate_left
      ·intro hJ;(have hS:∀ w1,Below w29.heap.size w29 w1→(w1.cell? ⟨M7,0,none⟩=some (.slice AB8 O2.length AB9)∧w1.cell? ⟨M7,1,none⟩=some (.slice AC2 H9.length u7)∧w1.cell? ⟨gb378,0,none⟩=some (.slice Ao25 t371.length co25)∧w1.cell? ⟨gb378,1,none⟩=some (.slice Ao27 t374.length co27)):=fun w1 h=>(cj2_ (blk_below BK377.out h) (cc2_ (blk_below BK378.out h))));refine mix4 HT_.out _ rfl rfl rfl rfl (by decide) (fun b2 b5 b6 b7 v2 v5 v6 v7 w'=>(b5=true→b2=true)∧Below w29.heap.size w29 w'∧(b2=true→∃ p q,v2 = .agg #[p,q,.int .i64 t385,.int .i64 t386,.int .i64 t387]∧Kd.R k30 30 w' w29.heap.size (fun _=>True) p t379∧Kd.R k36 36 w' w29.heap.size (fun _=>True) q t382)∧(b5=true→∃ p q,v5 = .agg #[p,q,.int .i64 t394,.int .i64 t395,.int .i64 t396]∧Kd.R k30 30 w' w29.heap.size (fun _=>True) p t388∧Kd.R k36 36 w' w29.heap.size (fun _=>True) q t391)∧(b6=true→∃ g,v6 = .pointer (some ⟨g,0,none⟩)∧w29.heap.size≤g∧w'.heap[g]? = some (.cells #[.slice none 0 0,.slice none 0 0,.int .i64 0,.int .i64 0,.int .i64 0] 32 (0,0)))∧(b7=true→∃ g,v7 = .pointer (some ⟨g,0,none⟩)∧w29.heap.size≤g∧w'.heap[g]? = some (.cells #[.slice none 0 0,.slice none 0 0,.int .i64 0,.int .i64 0,.int .i64 0] 32 (0,0)))∧(b6=true→b7=true→v6≠v7)) ?hF ?s2 ?s5 ?s6 ?s7 ?hend 4 false false false false undef undef undef undef w29 rfl ⟨fun h=>(by cases h),Below.refl _ _,fun h=>(by cases h),fun h=>(by cases h),fun h=>(by cases h),fun h=>(by cases h),fun h=>(by cases h)⟩;case hF=>rintro b6 b7 v2 v5 v6 v7 w' ⟨h,_⟩;exact absurd (h rfl) (by decide)
       case s2 =>
        rintro b6 b7 v2 v5 v6 v7 w' ⟨_,hG,_,_,h6,h7,h67⟩ K hK
        have hd:=(Y10.calls kj2 _ _ O2 _ _ H9 _ _ t371 _ _ t374 t379 t382 t385 t386 t387 w' (Kd.C_below (Kd.R_reads' HO367.out).2.2 hG) (Kd.R_reads' HO367.out).2.1 (Kd.C_below (Kd.R_reads' HO370.out).2.2 hG) (Kd.R_reads' HO370.out).2.1 (Kd.C_below (Kd.R_reads' HO373.out).2.2 hG) (Kd.R_reads' HO373.out).2.1 (Kd.C_below (Kd.R_reads' HO376.out).2.2 hG) (Kd.R_reads' HO376.out).2.1 A7.out).mono (R':=fun e w''=>∃ v,e = .returned v∧K (Act.put _ (some 29) v) w'') (by
         rintro e w'' ⟨p,q,rfl,ho0,ho1,hb⟩
         exact ⟨_,rfl,hK _ _ (hS _ (below_step hG hb)) ⟨fun _=>rfl,below_step hG hb,fun _=>⟨p,q,rfl,Kd.R_lower ho0 (below_size hG),Kd.R_lower ho1 (below_size hG)⟩,fun h=>(by cases h),fun h=>let ⟨g',e',l',b'⟩:=h6 h;⟨g',e',l',blk_below b' hb⟩,fun h=>let ⟨g',e',l',b'⟩:=h7 h;⟨g',e',l',blk_below b' hb⟩,h67⟩⟩)
        cases b6 <;> cases b7 <;> exact goes_ Try.func8 (by kernel_rfl) rfl _ (by rfl) rfl rfl (by (try simp only [List.map_toArray,List.map_cons,List.map_nil]);first | done | rfl) hd
       case s5 =>
        rintro b6 b7 v2 v5 v6 v7 w' ⟨_,hG,h2,_,h6,h7,h67⟩ K hK
        have hd:=(Y10.calls kj2 _ _ t371 _ _ t374 _ _ O2 _ _ H9 t388 t391 t394 t395 t396 w' (Kd.C_below (Kd.R_reads' HO373.out).2.2 hG) (Kd.R_reads' HO373.out).2.1 (Kd.C_below (Kd.R_reads' HO376.out).2.2 hG) (Kd.R_reads' HO376.out).2.1 (Kd.C_below (Kd.R_reads' HO367.out).2.2 hG) (Kd.R_reads' HO367.out).2.1 (Kd.C_below (Kd.R_reads' HO370.out).2.2 hG) (Kd.R_reads' HO370.out).2.1 A8.out).mono (R':=fun e w''=>∃ v,e = .returned v∧K (Act.put _ (some 32) v) w'') (by
         rintro e w'' ⟨p,q,rfl,ho0,ho1,hb⟩
         exact ⟨_,rfl,hK _ _ (hS _ (below_step hG hb)) ⟨fun _=>rfl,below_step hG hb,fun h=>let ⟨p',q',e',r',s'⟩:=h2 h;⟨p',q',e',Kd.R_below r' hb,Kd.R_below s' hb⟩,fun _=>⟨p,q,rfl,Kd.R_lower ho0 (below_size hG),Kd.R_lower ho1 (below_size hG)⟩,fun h=>let ⟨g',e',l',b'⟩:=h6 h;⟨g',e',l',blk_below b' hb⟩,fun h=>let ⟨g',e',l',b'⟩:=h7 h;⟨g',e',l',blk_below b' hb⟩,h67⟩⟩)
        cases b6 <;> cases b7 <;> exact goes_ Try.func8 (by kernel_rfl) rfl _ (by rfl) rfl rfl (by (try simp only [List.map_toArray,List.map_cons,List.map_nil]);first | done | rfl) hd
       case s6 =>
        rintro b2 b5 b7 v2 v5 v6 v7 w' ⟨h25,hG,h2,h5,_,h7,_⟩ K hK;refine bs_ 7 #[.slice none 0 0,.slice none 0 0,.int .i64 0,.int .i64 0,.int .i64 0] 32 ?_;intro g_ hg w'' hbox hb;refine hK _ _ (hS _ (below_step hG hb)) ⟨h25,below_step hG hb,fun h=>let ⟨p',q',e',r',s'⟩:=h2 h;⟨p',q',e',Kd.R_below r' hb,Kd.R_below s' hb⟩,fun h=>let ⟨p',q',e',r',s'⟩:=h5 h;⟨p',q',e',Kd.R_below r' hb,Kd.R_below s' hb⟩,fun _=>⟨g_,rfl,by rw [hg];exact below_size hG,hbox⟩,fun h=>let ⟨g',e',l',b'⟩:=h7 h;⟨g',e',l',blk_below b' hb⟩,fun _ h e=>?_⟩;obtain ⟨g',e',_,b'⟩:=h7 h;have:=blk_lt b';rw [e'] at e;simp only [Value.pointer.injEq,Option.some.injEq,Addr.mk.injEq] at e;omega
       case s7 =>
        rintro b2 b5 b6 v2 v5 v6 v7 w' ⟨h25,hG,h2,h5,h6,_,_⟩ K hK;refine bs_ 8 #[.slice none 0 0,.slice none 0 0,.int .i64 0,.int .i64 0,.int .i64 0] 32 ?_;intro g_ hg w'' hbox hb;refine hK _ _ (hS _ (below_step hG hb)) ⟨h25,below_step hG hb,fun h=>let ⟨p',q',e',r',s'⟩:=h2 h;⟨p',q',e',Kd.R_below r' hb,Kd.R_below s' hb⟩,fun h=>let ⟨p',q',e',r',s'⟩:=h5 h;⟨p',q',e',Kd.R_below r' hb,Kd.R_below s' hb⟩,fun h=>let ⟨g',e',l',b'⟩:=h6 h;⟨g',e',l',blk_below b' hb⟩,fun _=>⟨g_,rfl,by rw [hg];exact below_size hG,hbox⟩,fun h _ e=>?_⟩;obtain ⟨g',e',_,b'⟩:=h6 h;have:=blk_lt b';rw [e'] at e;simp only [Value.pointer.injEq,Option.some.injEq,Addr.mk.injEq] at e;omega
       case hend =>
        rintro v2 v5 v6 v7 w' ⟨_,hG,h2,h5,h6,h7,h67⟩;obtain ⟨p2,q2,rfl,r1,r2⟩:=h2 rfl;obtain ⟨p5,q5,rfl,r3,r4⟩:=h5 rfl;obtain ⟨g6,rfl,l6,k6⟩:=h6 rfl;obtain ⟨g7,rfl,l7,k7⟩:=h7 rfl;exact hJ (p2,q2,p5,q5,g6,g7) w' ⟨hG,r1,r2,r3,r4,l6,l7,fun e=>h67 rfl rfl (by rw [show g6=g7 from e]),k6,k7⟩
      rintro ⟨v380,v383,v389,v392,gb397,gb398⟩ w34 ⟨hG_,r1_,r2_,r3_,r4_,g1_,g2_,g12_,b1_,b2_⟩;have HG:=aM hG_;have HO381:Aside0 (Kd.R k30 30 w34 w29.heap.size (fun _=>True) v380 t379):=⟨r1_⟩;have HO384:Aside0 (Kd.R k36 36 w34 w29.heap.size (fun _=>True) v383 t382):=⟨r2_⟩;have HO390:Aside0 (Kd.R k30 30 w34 w29.heap.size (fun _=>True) v389 t388):=⟨r3_⟩;have HO393:Aside0 (Kd.R k36 36 w34 w29.heap.size (fun _=>True) v392 t391):=⟨r4_⟩;have BK397:Aside0 (w34.heap[gb397]? = some (.cells #[.slice none 0 0,.slice none 0 0,.int .i64 0,.int .i64 0,.int .i64 0] 32 (0,0))):=⟨b1_⟩;have BK398:Aside0 (w34.heap[gb398]? = some (.cells #[.slice none 0 0,.slice none 0 0,.int .i64 0,.int .i64 0,.int .i64 0] 32 (0,0))):=⟨b2_⟩;have G397:Aside0 (w29.heap.size≤gb397):=⟨g1_⟩;have G398:Aside0 (w29.heap.size≤gb398):=⟨g2_⟩;have NB397_398:Aside0 (gb397≠gb398):=⟨g12_⟩;clear r1_ r2_ r3_ r4_ g1_ g2_ g12_ b1_ b2_ hG_;have NB398_397:=aM NB397_398.out.symm;have NB377_397:=aM (Nat.ne_of_lt (Nat.lt_of_lt_of_le (blk_lt BK377.out) G397.out));have NB397_377:=aM NB377_397.out.symm;have NB378_397:=aM (Nat.ne_of_lt (Nat.lt_of_lt_of_le (blk_lt BK378.out) G397.out));have NB397_378:=aM NB378_397.out.symm;have NB377_398:=aM (Nat.ne_of_lt (Nat.lt_of_lt_of_le (blk_lt BK377.out) G398.out));have NB398_377:=aM NB377_398.out.symm;have NB378_398:=aM (Nat.ne_of_lt (Nat.lt_of_lt_of_le (blk_lt BK378.out) G398.out));have NB398_378:=aM NB378_398.out.symm;have GE397:=aM (Nat.le_trans (below_size HB.out) G397.out);have GE398:=aM (Nat.le_trans (below_size HB.out) G398.out);have hHeld:w34.cell? ⟨M7,0,none⟩=some (.slice AB8 O2.length AB9)∧w34.cell? ⟨M7,1,none⟩=some (.slice AC2 H9.length u7)∧w34.cell? ⟨gb378,0,none⟩=some (.slice Ao25 t371.length co25)∧w34.cell? ⟨gb378,1,none⟩=some (.slice Ao27 t374.length co27):=(cj2_ (blk_below BK377.out HG.out) (cc2_ (blk_below BK378.out HG.out)));obtain ⟨Ao35,co35,rfl⟩:=Kd.R_slice HO381.out;obtain ⟨Ao37,co37,rfl⟩:=Kd.R_slice HO384.out;obtain ⟨Ao42,co42,rfl⟩:=Kd.R_slice HO390.out;obtain ⟨Ao44,co44,rfl⟩:=Kd.R_slice HO393.out;refine norm_ (a':=?_) ?_ ?_;rotate_left
      ·simp only [putAll,Act.put,List.setIfInBounds_toArray,List.set_cons_zero,List.set_cons_succ];rfl
      refine one_ (i:=8) (N:=none) #[I,I,I,I,I,I,I,I,I,O] rfl rfl (one_of HT_.out (by kernel_rfl)) (by decide) (fun K hK=>?_);have hs8_0:w34.cell? ⟨gb397,0,none⟩=some (.slice none 0 0):=(blk_cell BK397.out 0).trans rfl;have hf8_0:=blk_frozen BK397.out 0;have hs8_1:w34.cell? ⟨gb397,1,none⟩=some (.slice none 0 0):=(blk_cell BK397.out 1).trans rfl;have hf8_1:=blk_frozen BK397.out 1;have hs8_2:w34.cell? ⟨gb397,2,none⟩=some (.int .i64 0):=(blk_cell BK397.out 2).trans rfl;have hf8_2:=blk_frozen BK397.out 2;have hs8_3:w34.cell? ⟨gb397,3,none⟩=some (.int .i64 0):=(blk_cell BK397.out 3).trans rfl;have hf8_3:=blk_frozen BK397.out 3;have hs8_4:w34.cell? ⟨gb397,4,none⟩=some (.int .i64 0):=(blk_cell BK397.out 4).trans rfl;have hf8_4:=blk_frozen BK397.out 4;refine skip_ (w1:=?_) (by rfl) rfl ?_ ?_;rotate_left
      ·go_simp;rfl
      refine hK.out _ _ (cj2_ (set5_far (blk_below BK377.out HG.out) NB377_397.out (.slice Ao35 t379.length co35) (.slice Ao37 t382.length co37) (.int .i64 t385) (.int .i64 t386) (.int .i64 t387)) (cc2_ (set5_far (blk_below BK378.out HG.out) NB378_397.out (.slice Ao35 t379.length co35) (.slice Ao37 t382.length co37) (.int .i64 t385) (.int .i64 t386) (.int .i64 t387)))) (fun hHeld=>?_);clear hK K hs8_0 hf8_0 hs8_1 hf8_1 hs8_2 hf8_2 hs8_3 hf8_3 hs8_4 hf8_4;obtain ⟨w34b,hw34b⟩:∃ x_,set5 w34 gb397 (.slice Ao35 t379.length co35) (.slice Ao37 t382.length co37) (.int .i64 t385) (.int .i64 t386) (.int .i64 t387)=x_:=⟨_,rfl⟩;have n13_:=aM (set5_below HG.out G397.out (.slice Ao35 t379.length co35) (.slice Ao37 t382.length co37) (.int .i64 t385) (.int .i64 t386) (.int .i64 t387));have n4_:=aM (set5_R HO381.out BK397.out (by decide) (.slice Ao35 t379.length co35) (.slice Ao37 t382.length co37) (.int .i64 t385) (.int .i64 t386) (.int .i64 t387));have n5_:=aM (set5_R HO384.out BK397.out (by decide) (.slice Ao35 t379.length co35) (.slice Ao37 t382.length co37) (.int .i64 t385) (.int .i64 t386) (.int .i64 t387));have n6_:=aM (set5_R HO390.out BK397.out (by decide) (.slice Ao35 t379.length co35) (.slice Ao37 t382.length co37) (.int .i64 t385) (.int .i64 t386) (.int .i64 t387));have n7_:=aM (set5_R HO393.out BK397.out (by decide) (.slice Ao35 t379.length co35) (.slice Ao37 t382.length co37) (.int .i64 t385) (.int .i64 t386) (.int .i64 t387));have n10_:=aM (set5_blk BK397.out (.slice Ao35 t379.length co35) (.slice Ao37 t382.length co37) (.int .i64 t385) (.int .i64 t386) (.int .i64 t387));have n11_:=aM (set5_far BK398.out NB398_397.out (.slice Ao35 t379.length co35) (.slice Ao37 t382.length co37) (.int .i64 t385) (.int .i64 t386) (.int .i64 t387));rw [hw34b] at n4_ n5_ n6_ n7_ n10_ n11_ n13_;clear HO381 HO384 HO390 HO393 BK397 BK398 HG;have HO381:=n4_;have HO384:=n5_;have HO390:=n6_;have HO393:=n7_;have BK397:=n10_;have BK398:=n11_;have HG:=n13_;clear n4_ n5_ n6_ n7_ n10_ n11_ n13_;simp only [set5] at hw34b;rw [hw34b] at hHeld ⊢;clear hw34b;refine one_ (i:=9) (N:=none) #[I,I,I,I,I,I,I,I,I,I] rfl rfl (one_of HT_.out (by kernel_rfl)) (by decide) (fun K hK=>?_);have hs9_0:w34b.cell? ⟨gb398,0,none⟩=some (.slice none 0 0):=(blk_cell BK398.out 0).trans rfl;have hf9_0:=blk_frozen BK398.out 0;have hs9_1:w34b.cell? ⟨gb398,1,none⟩=some (.slice none 0 0):=(blk_cell BK398.out 1).trans rfl;have hf9_1:=blk_frozen BK398.out 1;have hs9_2:w34b.cell? ⟨gb398,2,none⟩=some (.int .i64 0):=(blk_cell BK398.out 2).trans rfl;have hf9_2:=blk_frozen BK398.out 2;have hs9_3:w34b.cell? ⟨gb398,3,none⟩=some (.int .i64 0):=(blk_cell BK398.out 3).trans rfl;have hf9_3:=blk_frozen BK398.out 3;have hs9_4:w34b.cell? ⟨gb398,4,none⟩=some (.int .i64 0):=(blk_cell BK398.out 4).trans rfl;have hf9_4:=blk_frozen BK398.out 4;refine skip_ (w1:=?_) (by rfl) rfl ?_ ?_;rotate_left
      ·go_simp;rfl
      refine hK.out _ _ (cj2_ (set5_far (blk_below BK377.out HG.out) NB377_398.out (.slice Ao42 t388.length co42) (.slice Ao44 t391.length co44) (.int .i64 t394) (.int .i64 t395) (.int .i64 t396)) (cc2_ (set5_far (blk_below BK378.out HG.out) NB378_398.out (.slice Ao42 t388.length co42) (.slice Ao44 t391.length co44) (.int .i64 t394) (.int .i64 t395) (.int .i64 t396)))) (fun hHeld=>?_);clear hK K hs9_0 hf9_0 hs9_1 hf9_1 hs9_2 hf9_2 hs9_3 hf9_3 hs9_4 hf9_4;obtain ⟨w35,hw35⟩:∃ x_,set5 w34b gb398 (.slice Ao42 t388.length co42) (.slice Ao44 t391.length co44) (.int .i64 t394) (.int .i64 t395) (.int .i64 t396)=x_:=⟨_,rfl⟩;refine done_ (done_of HT_.out (by kernel_rfl)) ?_;have HGE:=set5_below HG.out G398.out (.slice Ao42 t388.length co42) (.slice Ao44 t391.length co44) (.int .i64 t394) (.int .i64 t395) (.int .i64 t396);rw [hw35] at HGE;have n0_:=aM (Kd.R_mono (Kd.R_below HO367.out HGE) (ok':=fun _=>True) (fun _ _=>trivial));have n1_:=aM (Kd.R_mono (Kd.R_below HO370.out HGE) (ok':=fun _=>True) (fun _ _=>trivial));have n2_:=aM (Kd.R_mono (Kd.R_below HO373.out HGE) (ok':=fun _=>True) (fun _ _=>trivial));have n3_:=aM (Kd.R_mono (Kd.R_below HO376.out HGE) (ok':=fun _=>True) (fun _ _=>trivial));have n4_:=aM (Kd.R_lower (set5_R HO381.out BK398.out (by decide) (.slice Ao42 t388.length co42) (.slice Ao44 t391.length co44) (.int .i64 t394) (.int .i64 t395) (.int .i64 t396)) (below_size HB.out));have n5_:=aM (Kd.R_lower (set5_R HO384.out BK398.out (by decide) (.slice Ao42 t388.length co42) (.slice Ao44 t391.length co44) (.int .i64 t394) (.int .i64 t395) (.int .i64 t396)) (below_size HB.out));have n6_:=aM (Kd.R_lower (set5_R HO390.out BK398.out (by decide) (.slice Ao42 t388.length co42) (.slice Ao44 t391.length co44) (.int .i64 t394) (.int .i64 t395) (.int .i64 t396)) (below_size HB.out));have n7_:=aM (Kd.R_lower (set5_R HO393.out BK398.out (by decide) (.slice Ao42 t388.length co42) (.slice Ao44 t391.length co44) (.int .i64 t394) (.int .i64 t395) (.int .i64 t396)) (below_size HB.out));have n8_:=aM (blk_below BK377.out HGE);have n9_:=aM (blk_below BK378.out HGE);have n10_:=aM (set5_far BK397.out NB397_398.out (.slice Ao42 t388.length co42) (.slice Ao44 t391.length co44) (.int .i64 t394) (.int .i64 t395) (.int .i64 t396));have n11_:=aM (set5_blk BK398.out (.slice Ao42 t388.length co42) (.slice Ao44 t391.length co44) (.int .i64 t394) (.int .i64 t395) (.int .i64 t396));have n12_:=aM (below_step HB.out HGE);rw [hw35] at n4_ n5_ n6_ n7_ n10_ n11_;clear HO367 HO370 HO373 HO376 HO381 HO384 HO390 HO393 BK377 BK378 BK397 BK398 HB HG hHeld;have HO367:=n0_;have HO370:=n1_;have HO373:=n2_;have HO376:=n3_;have HO381:=n4_;have HO384:=n5_;have HO390:=n6_;have HO393:=n7_;have BK377:=n8_;have BK378:=n9_;have BK397:=n10_;have BK398:=n11_;have HB:=n12_;clear n0_ n1_ n2_ n3_ n4_ n5_ n6_ n7_ n8_ n9_ n10_ n11_ n12_;have HF:=aM (Below.refl w35.heap.size w35);simp only [set5] at hw35;rw [hw35];clear hw35 HGE;(try go_wp2_with (first | ((with_reducible refine gc_ 7 ?_);refine gl_ (some 35) Try.func7 #[.slice A1 l1.length c1] ?_;(with_reducible refine (Y21.calls kj2 _ _ l1 AI8 AI9 t405 t408 _ ?s1 ?s2 A9.out).mono ?_);(case s1=>exact Kd.C_below HR1.out (below_step HB.out HF.out));(case s2=>exact HC1.out);rintro e w49 ⟨v400,v403,v406,v409,rfl,ho0,ho1,ho2,ho3,hb⟩;refine ⟨_,rfl,?_⟩;have n8_:=aM (Kd.R_lower ho0 (below_size (below_step HB.out HF.out)));have n9_:=aM (Kd.R_lower ho1 (below_size (below_step HB.out HF.out)));have n10_:=aM (Kd.R_lower ho2 (below_size (below_step HB.out HF.out)));have n11_:=aM (Kd.R_lower ho3 (below_size (below_step HB.out HF.out)));have n16_:=aM (below_step (HF.out) hb);clear HF;have HO401:=n8_;have HO404:=n9_;have HO407:=n10_;have HO410:=n11_;have HF:=n16_;clear n8_ n9_ n10_ n11_ n16_;(try clear hb);(try clear ho0);(try clear ho1);(try clear ho2);(try clear ho3)) | ((with_reducible refine gd_ 9 ?_);(try (refine gate_guard (by rfl) ?_;dsimp only));refine be_ 9 #[.slice none 0 0,.slice none 0 0] 26 ?_;intro U7 hg w50 hbox hb;have n8_:=aM (Kd.R_below (z0_ HO401.out) hb);have n9_:=aM (Kd.R_below (z0_ HO404.out) hb);have n10_:=aM (Kd.R_below (z0_ HO407.out) hb);have n11_:=aM (Kd.R_below (z0_ HO410.out) hb);have n16_:=aM (below_step (HF.out) hb);have n17_:=aM (hbox);have n18_:=aM ((by rw [hg];exact (below_size (below_step HB.out HF.out)):w.heap.size≤U7));have n19_:=aM ((by rw [hg];exact (below_size (below_step HB.out HF.out)):w.heap.size≤U7));have n19f_:=aM ((by rw [hg];exact (below_size (HF.out)):w35.heap.size≤U7));have n20_:=aM ((by rw [hg];exact Nat.ne_of_lt (blk_lt (g:=M7) (o:=.cells #[.slice AB8 O2.length AB9,.slice AC2 H9.length u7] 26 (0,0)) (blk_below BK377.out HF.out)):M7≠U7));have n21_:=aM ((by rw [hg];exact Nat.ne_of_gt (blk_lt (g:=M7) (o:=.cells #[.slice AB8 O2.length AB9,.slice AC2 H9.length u7] 26 (0,0)) (blk_below BK377.out HF.out)):U7≠M7));have n22_:=aM ((by rw [hg];exact Nat.ne_of_lt (blk_lt (g:=gb378) (o:=.cells #[.slice Ao25 t371.length co25,.slice Ao27 t374.length co27] 26 (0,0)) (blk_below BK378.out HF.out)):gb378≠U7));have n23_:=aM ((by rw [hg];exact Nat.ne_of_gt (blk_lt (g:=gb378) (o:=.cells #[.slice Ao25 t371.length co25,.slice Ao27 t374.length co27] 26 (0,0)) (blk_below BK378.out HF.out)):U7≠gb378));have n24_:=aM ((by rw [hg];exact Nat.ne_of_lt (blk_lt (g:=gb397) (o:=.cells #[.slice Ao35 t379.length co35,.slice Ao37 t382.length co37,.int .i64 t385,.int .i64 t386,.int .i64 t387] 32 (0,0)) (blk_below BK397.out HF.out)):gb397≠U7));have n25_:=aM ((by rw [hg];exact Nat.ne_of_gt (blk_lt (g:=gb397) (o:=.cells #[.slice Ao35 t379.length co35,.slice Ao37 t382.length co37,.int .i64 t385,.int .i64 t386,.int .i64 t387] 32 (0,0)) (blk_below BK397.out HF.out)):U7≠gb397));have n26_:=aM ((by rw [hg];exact Nat.ne_of_lt (blk_lt (g:=gb398) (o:=.cells #[.slice Ao42 t388.length co42,.slice Ao44 t391.length co44,.int .i64 t394,.int .i64 t395,.int .i64 t396] 32 (0,0)) (blk_below BK398.out HF.out)):gb398≠U7));have n27_:=aM ((by rw [hg];exact Nat.ne_of_gt (blk_lt (g:=gb398) (o:=.cells #[.slice Ao42 t388.length co42,.slice Ao44 t391.length co44,.int .i64 t394,.int .i64 t395,.int .i64 t396] 32 (0,0)) (blk_below BK398.out HF.out)):U7≠gb398));clear HO401;clear HO404;clear HO407;clear HO410;clear HF;have HO401:=n8_;have HO404:=n9_;have HO407:=n10_;have HO410:=n11_;have HF:=n16_;have BK411:=n17_;have GW411:=n18_;have GE411:=n19_;have GF411:=n19f_;have NB377_411:=n20_;have NB411_377:=n21_;have NB378_411:=n22_;have NB411_378:=n23_;have NB397_411:=n24_;have NB411_397:=n25_;have NB398_411:=n26_;have NB411_398:=n27_;clear n8_ n9_ n10_ n11_ n16_ n17_ n18_ n19_ n20_ n21_ n22_ n23_ n24_ n25_ n26_ n27_ n19f_;clear hb hbox hg) | ((with_reducible refine gd_ 10 ?_);(try (refine gate_guard (by rfl) ?_;dsimp only));refine be_ 10 #[.slice none 0 0,.slice none 0 0] 26 ?_;intro gb412 hg w51 hbox hb;have n8_:=aM (Kd.R_below (z0_ HO401.out) hb);have n9_:=aM (Kd.R_below (z0_ HO404.out) hb);have n10_:=aM (Kd.R_below (z0_ HO407.out) hb);have n11_:=aM (Kd.R_below (z0_ HO410.out) hb);have n16_:=aM (blkB_ BK411.out hb);have n17_:=aM (below_step (HF.out) hb);have n18_:=aM (hbox);have n19_:=aM ((by rw [hg];exact (below_size (below_step HB.out HF.out)):w.heap.size≤gb412));have n20_:=aM ((by rw [hg];exact (below_size (below_step HB.out HF.out)):w.heap.size≤gb412));have n20f_:=aM ((by rw [hg];exact (below_size (HF.out)):w35.heap.size≤gb412));have n21_:=aM ((by rw [hg];exact Nat.ne_of_lt (blk_lt (g:=M7) (o:=.cells #[.slice AB8 O2.length AB9,.slice AC2 H9.length u7] 26 (0,0)) (blk_below BK377.out HF.out)):M7≠gb412));have n22_:=aM ((by rw [hg];exact Nat.ne_of_gt (blk_lt (g:=M7) (o:=.cells #[.slice AB8 O2.length AB9,.slice AC2 H9.length u7] 26 (0,0)) (blk_below BK377.out HF.out)):gb412≠M7));have n23_:=aM ((by rw [hg];exact Nat.ne_of_lt (blk_lt (g:=gb378) (o:=.cells #[.slice Ao25 t371.length co25,.slice Ao27 t374.length co27] 26 (0,0)) (blk_below BK378.out HF.out)):gb378≠gb412));have n24_:=aM ((by rw [hg];exact Nat.ne_of_gt (blk_lt (g:=gb378) (o:=.cells #[.slice Ao25 t371.length co25,.slice Ao27 t374.length co27] 26 (0,0)) (blk_below BK378.out HF.out)):gb412≠gb378));have n25_:=aM ((by rw [hg];exact Nat.ne_of_lt (blk_lt (g:=gb397) (o:=.cells #[.slice Ao35 t379.length co35,.slice Ao37 t382.length co37,.int .i64 t385,.int .i64 t386,.int .i64 t387] 32 (0,0)) (blk_below BK397.out HF.out)):gb397≠gb412));have n26_:=aM ((by rw [hg];exact Nat.ne_of_gt (blk_lt (g:=gb397) (o:=.cells #[.slice Ao35 t379.length co35,.slice Ao37 t382.length co37,.int .i64 t385,.int .i64 t386,.int .i64 t387] 32 (0,0)) (blk_below BK397.out HF.out)):gb412≠gb397));have n27_:=aM ((by rw [hg];exact Nat.ne_of_lt (blk_lt (g:=gb398) (o:=.cells #[.slice Ao42 t388.length co42,.slice Ao44 t391.length co44,.int .i64 t394,.int .i64 t395,.int .i64 t396] 32 (0,0)) (blk_below BK398.out HF.out)):gb398≠gb412));have n28_:=aM ((by rw [hg];exact Nat.ne_of_gt (blk_lt (g:=gb398) (o:=.cells #[.slice Ao42 t388.length co42,.slice Ao44 t391.length co44,.int .i64 t394,.int .i64 t395,.int .i64 t396] 32 (0,0)) (blk_below BK398.out HF.out)):gb412≠gb398));have n29_:=aM (neL_ BK411.out hg);have n30_:=aM (neG_ BK411.out hg);clear HO401;clear HO404;clear HO407;clear HO410;clear BK411;clear HF;have HO401:=n8_;have HO404:=n9_;have HO407:=n10_;have HO410:=n11_;have BK411:=n16_;have HF:=n17_;have BK412:=n18_;have GW412:=n19_;have GE412:=n20_;have GF412:=n20f_;have NB377_412:=n21_;have NB412_377:=n22_;have NB378_412:=n23_;have NB412_378:=n24_;have NB397_412:=n25_;have NB412_397:=n26_;have NB398_412:=n27_;have NB412_398:=n28_;have NB411_412:=n29_;have NB412_411:=n30_;clear n8_ n9_ n10_ n11_ n16_ n17_ n18_ n19_ n20_ n21_ n22_ n23_ n24_ n25_ n26_ n27_ n28_ n29_ n30_ n20f_;clear hb hbox hg;obtain ⟨Aa7,Aa8,eo52⟩:=Kd.R_slice HO401.out;subst eo52;have hnb53:=NB411_377.out;have hnc53:=NB377_411.out;have hnb54:=NB411_378.out;have hnc54:=NB378_411.out;have hnb55:=NB411_397.out;have hnc55:=NB397_411.out;have hnb56:=NB411_398.out;have hnc56:=NB398_411.out;have hnb57:=NB411_412.out;have hnc57:=NB412_411.out;have ⟨hcz58_0,hcz58_1,hfz58_0,hfz58_1⟩:=cz2_ BK411.out;obtain ⟨Ar9,As0,eo59⟩:=Kd.R_slice HO404.out;subst eo59;obtain ⟨Ao60,co60,eo60⟩:=Kd.R_slice HO407.out;subst eo60;have hnb61:=NB412_377.out;have hnc61:=NB377_412.out;have hnb62:=NB412_378.out;have hnc62:=NB378_412.out;have hnb63:=NB412_397.out;have hnc63:=NB397_412.out;have hnb64:=NB412_398.out;have hnc64:=NB398_412.out;have ⟨hcz65_0,hcz65_1,hfz65_0,hfz65_1⟩:=cz2_ BK412.out;obtain ⟨Ao66,co66,eo66⟩:=Kd.R_slice HO410.out;subst eo66)));have n8_:Aside0 (Kd.R k30 30 ((((w51.setCell ⟨U7,0,none⟩ (.slice Aa7 AI8.length Aa8)).setCell ⟨U7,1,none⟩ (.slice Ar9 AI9.length As0)).setCell ⟨gb412,0,none⟩ (.slice Ao60 t405.length co60)).setCell ⟨gb412,1,none⟩ (.slice Ao66 t408.length co66)) w.heap.size (fun _=>True) (.slice Aa7 AI8.length Aa8) AI8):=⟨z62_ HO401.out BK411.out BK412.out⟩;have n9_:Aside0 (Kd.R k36 36 ((((w51.setCell ⟨U7,0,none⟩ (.slice Aa7 AI8.length Aa8)).setCell ⟨U7,1,none⟩ (.slice Ar9 AI9.length As0)).setCell ⟨gb412,0,none⟩ (.slice Ao60 t405.length co60)).setCell ⟨gb412,1,none⟩ (.slice Ao66 t408.length co66)) w.heap.size (fun _=>True) (.slice Ar9 AI9.length As0) AI9):=⟨z62_ HO404.out BK411.out BK412.out⟩;have n10_:Aside0 (Kd.R k30 30 ((((w51.setCell ⟨U7,0,none⟩ (.slice Aa7 AI8.length Aa8)).setCell ⟨U7,1,none⟩ (.slice Ar9 AI9.length As0)).setCell ⟨gb412,0,none⟩ (.slice Ao60 t405.length co60)).setCell ⟨gb412,1,none⟩ (.slice Ao66 t408.length co66)) w.heap.size (fun _=>True) (.slice Ao60 t405.length co60) t405):=⟨z62_ HO407.out BK411.out BK412.out⟩;have n11_:Aside0 (Kd.R k36 36 ((((w51.setCell ⟨U7,0,none⟩ (.slice Aa7 AI8.length Aa8)).setCell ⟨U7,1,none⟩ (.slice Ar9 AI9.length As0)).setCell ⟨gb412,0,none⟩ (.slice Ao60 t405.length co60)).setCell ⟨gb412,1,none⟩ (.slice Ao66 t408.length co66)) w.heap.size (fun _=>True) (.slice Ao66 t408.length co66) t408):=⟨z62_ HO410.out BK411.out BK412.out⟩;have n16_:Aside0 (((((w51.setCell ⟨U7,0,none⟩ (.slice Aa7 AI8.length Aa8)).setCell ⟨U7,1,none⟩ (.slice Ar9 AI9.length As0)).setCell ⟨gb412,0,none⟩ (.slice Ao60 t405.length co60)).setCell ⟨gb412,1,none⟩ (.slice Ao66 t408.length co66)).heap[U7]? = some (.cells #[.slice Aa7 AI8.length Aa8,.slice Ar9 AI9.length As0] 26 (0,0))):=⟨z55_ NB411_412.out BK411.out⟩;have n17_:Aside0 (((((w51.setCell ⟨U7,0,none⟩ (.slice Aa7 AI8.length Aa8)).setCell ⟨U7,1,none⟩ (.slice Ar9 AI9.length As0)).setCell ⟨gb412,0,none⟩ (.slice Ao60 t405.length co60)).setCell ⟨gb412,1,none⟩ (.slice Ao66 t408.length co66)).heap[gb412]? = some (.cells #[.slice Ao60 t405.length co60,.slice Ao66 t408.length co66] 26 (0,0))):=⟨z56_ NB412_411.out BK412.out⟩;have n18_:Aside0 (Below w35.heap.size w35 ((((w51.setCell ⟨U7,0,none⟩ (.slice Aa7 AI8.length Aa8)).setCell ⟨U7,1,none⟩ (.slice Ar9 AI9.length As0)).setCell ⟨gb412,0,none⟩ (.slice Ao60 t405.length co60)).setCell ⟨gb412,1,none⟩ (.slice Ao66 t408.length co66))):=⟨z4_ HF.out GF411.out GF412.out⟩;(try clear HO401);(try clear HO404);(try clear HO407);(try clear HO410);(try clear BK411);(try clear BK412);(try clear HF);generalize ((((w51.setCell ⟨U7,0,none⟩ (.slice Aa7 AI8.length Aa8)).setCell ⟨U7,1,none⟩ (.slice Ar9 AI9.length As0)).setCell ⟨gb412,0,none⟩ (.slice Ao60 t405.length co60)).setCell ⟨gb412,1,none⟩ (.slice Ao66 t408.length co66))=w67 at n8_ n9_ n10_ n11_ n16_ n17_ n18_ ⊢;have HO401:=n8_;have HO404:=n9_;have HO407:=n10_;have HO410:=n11_;have BK411:=n16_;have BK412:=n17_;have HF:=n18_;clear n8_ n9_ n10_ n11_ n16_ n17_ n18_;have n0_:=aM (Kd.R_below HO367.out HF.out);have n1_:=aM (Kd.R_below HO370.out HF.out);have n2_:=aM (Kd.R_below HO373.out HF.out);have n3_:=aM (Kd.R_below HO376.out HF.out);have n4_:=aM (Kd.R_below HO381.out HF.out);have n5_:=aM (Kd.R_below HO384.out HF.out);have n6_:=aM (Kd.R_below HO390.out HF.out);have n7_:=aM (Kd.R_below HO393.out HF.out);have n8_:=aM (blk_below BK377.out HF.out);have n9_:=aM (blk_below BK378.out HF.out);have n10_:=aM (blk_below BK397.out HF.out);have n11_:=aM (blk_below BK398.out HF.out);have n12_:=aM (below_step HB.out HF.out);clear HO367 HO370 HO373 HO376 HO381 HO384 HO390 HO393 BK377 BK378 BK397 BK398 HB HF;have HO367:=n0_;have HO370:=n1_;have HO373:=n2_;have HO376:=n3_;have HO381:=n4_;have HO384:=n5_;have HO390:=n6_;have HO393:=n7_;have BK377:=n8_;have BK378:=n9_;have BK397:=n10_;have BK398:=n11_;have HB:=n12_;clear n0_ n1_ n2_ n3_ n4_ n5_ n6_ n7_ n8_ n9_ n10_ n11_ n12_;have HF:=aM (Below.refl w67.heap.size w67);have n18_:=aM (below_drew1 HF.out);clear HF;have HF:=n18_;clear n18_;refine start_ (n:=16) (S:=fun w'=>w'.cell? ⟨gb397,0,none⟩=some (.slice Ao35 t379.length co35)∧w'.cell? ⟨gb397,1,none⟩=some (.slice Ao37 t382.length co37)∧w'.cell? ⟨gb397,2,none⟩=some (.int .i64 t385)∧w'.cell? ⟨gb397,3,none⟩=some (.int .i64 t386)∧w'.cell? ⟨gb397,4,none⟩=some (.int .i64 t387)∧w'.cell? ⟨M7,0,none⟩=some (.slice AB8 O2.length AB9)∧w'.cell? ⟨M7,1,none⟩=some (.slice AC2 H9.length u7)∧w'.cell? ⟨gb378,0,none⟩=some (.slice Ao25 t371.length co25)∧w'.cell? ⟨gb378,1,none⟩=some (.slice Ao27 t374.length co27)∧w'.cell? ⟨U7,0,none⟩=some (.slice Aa7 AI8.length Aa8)∧w'.cell? ⟨U7,1,none⟩=some (.slice Ar9 AI9.length As0)∧w'.cell? ⟨gb412,0,none⟩=some (.slice Ao60 t405.length co60)∧w'.cell? ⟨gb412,1,none⟩=some (.slice Ao66 t408.length co66)) (ds:=[]) Y6.q0 (by kernel_rfl) rfl rfl (cj5_ (blk_below BK397.out HF.out) (cj2_ (blk_below BK377.out HF.out) (cj2_ (blk_below BK378.out HF.out) (cj2_ (blk_below BK411.out HF.out) (cc2_ (blk_below BK412.out HF.out)))))) (fun hHeld=>?_);refine with_tabW Y6.tab6 Y6.bits6 (fun HT_ HW_=>?_);generalize w67.drew=w68 at HF hHeld ⊢;refine tk13_ 0 38 Y6.q1 HT_.out HW_.out hHeld ?_;refine tk13_ 1 39 Y6.q2 HT_.out HW_.out hHeld ?_;refine tk13_ 2 40 Y6.q3 HT_.out HW_.out hHeld ?_;refine o1_ 3 41 Y6.q4 HT_.out (fun K hK=>?_);refine gs_ Try.func10 #[.agg #[.slice AB8 O2.length AB9,.slice AC2 H9.length u7],.agg #[.slice Ao25 t371.length co25,.slice Ao27 t374.length co27]] ?_;(with_reducible refine (Y19.calls kj2 _ _ O2 _ _ H9 _ _ t371 _ _ t374 t413 t416 t419 t420 t421 _ ?s1 ?s2 ?s3 ?s4 ?s5 ?s6 ?s7 ?s8 A10.out).mono ?_);(case s1=>repeat (first | exact (Kd.R_reads' (Kd.R_below HO367.out HF.out)).2.2 | (with_reducible refine Kd.C_alloc ?_ _) | (with_reducible refine Kd.C_drewN ?_ _) | (with_reducible refine Kd.C_drew ?_)));(case s2=>exact (Kd.R_reads' (Kd.R_below HO367.out HF.out)).2.1);(case s3=>repeat (first | exact (Kd.R_reads' (Kd.R_below HO370.out HF.out)).2.2 | (with_reducible refine Kd.C_alloc ?_ _) | (with_reducible refine Kd.C_drewN ?_ _) | (with_reducible refine Kd.C_drew ?_)));(case s4=>exact (Kd.R_reads' (Kd.R_below HO370.out HF.out)).2.1);(case s5=>repeat (first | exact (Kd.R_reads' (Kd.R_below HO373.out HF.out)).2.2 | (with_reducible refine Kd.C_alloc ?_ _) | (with_reducible refine Kd.C_drewN ?_ _) | (with_reducible refine Kd.C_drew ?_)));(case s6=>exact (Kd.R_reads' (Kd.R_below HO373.out HF.out)).2.1);(case s7=>repeat (first | exact (Kd.R_reads' (Kd.R_below HO376.out HF.out)).2.2 | (with_reducible refine Kd.C_alloc ?_ _) | (with_reducible refine Kd.C_drewN ?_ _) | (with_reducible refine Kd.C_drew ?_)));(case s8=>exact (Kd.R_reads' (Kd.R_below HO376.out HF.out)).2.1);rintro e w69 ⟨v414,v417,rfl,ho0,ho1,hb⟩;refine ⟨_,rfl,?_⟩;have n12_:=aM (Kd.R_lower ho0 (below_size (below_step HB.out HF.out)));have n13_:=aM (Kd.R_lower ho1 (below_size (below_step HB.out HF.out)));have n20_:=aM (below_step (HF.out) hb);clear HF;have HO415:=n12_;have HO418:=n13_;have HF:=n20_;clear n12_ n13_ n20_;(try clear hb);(try clear ho0);(try clear ho1);obtain ⟨Ao70,co70,eo70⟩:=Kd.R_slice HO415.out;(first | subst eo70 | (injection eo70 with f1_ f2_ f3_;have f4_:=f1_.symm;have f5_:=f3_.symm;clear f1_ f2_ f3_;subst f4_;subst f5_));obtain ⟨Ao71,co71,eo71⟩:=Kd.R_slice HO418.out;(first | subst eo71 | (injection eo71 with f1_ f2_ f3_;have f4_:=f1_.symm;have f5_:=f3_.symm;clear f1_ f2_ f3_;subst f4_;subst f5_));refine hK.out _ _ (cj5_ (blk_below BK397.out HF.out) (cj2_ (blk_below BK377.out HF.out) (cj2_ (blk_below BK378.out HF.out) (cj2_ (blk_below BK411.out HF.out) (cc2_ (blk_below BK412.out HF.out)))))) (fun hHeld=>?_);clear hK K;refine nm_ 41 ?_;refine o1_ 4 42 Y6.q5 HT_.out (fun K hK=>?_);refine gs_ Try.func9 #[.agg #[.slice Ao35 t379.length co35,.slice Ao37 t382.length co37,.int .i64 t385,.int .i64 t386,.int .i64 t387],.agg #[.slice Ao70 t413.length co70,.slice Ao71 t416.length co71,.int .i64 t419,.int .i64 t420,.int .i64 t421]] ?_;(with_reducible refine (Y38.calls kj2 _ _ t379 _ _ t382 t385 t386 t387 _ _ t413 _ _ t416 t419 t420 t421 true _ ?s1 ?s2 ?s3 ?s4 ?s5 ?s6 ?s7 ?s8 A11.out).mono ?_);(case s1=>repeat (first | exact (Kd.R_reads' (Kd.R_below HO381.out HF.out)).2.2 | (with_reducible refine Kd.C_alloc ?_ _) | (with_reducible refine Kd.C_drewN ?_ _) | (with_reducible refine Kd.C_drew ?_)));(case s2=>exact (Kd.R_reads' (Kd.R_below HO381.out HF.out)).2.1);(case s3=>repeat (first | exact (Kd.R_reads' (Kd.R_below HO384.out HF.out)).2.2 | (with_reducible refine Kd.C_alloc ?_ _) | (with_reducible refine Kd.C_drewN ?_ _) | (with_reducible refine Kd.C_drew ?_)));(case s4=>exact (Kd.R_reads' (Kd.R_below HO384.out HF.out)).2.1);(case s5=>repeat (first | exact (Kd.R_reads' HO415.out).2.2 | (with_reducible refine Kd.C_alloc ?_ _) | (with_reducible refine Kd.C_drewN ?_ _) | (with_reducible refine Kd.C_drew ?_)));(case s6=>exact (Kd.R_reads' HO415.out).2.1);(case s7=>repeat (first | exact (Kd.R_reads' HO418.out).2.2 | (with_reducible refine Kd.C_alloc ?_ _) | (with_reducible refine Kd.C_drewN ?_ _) | (with_reducible refine Kd.C_drew ?_)));(case s8=>exact (Kd.R_reads' HO418.out).2.1);rintro e w72 ⟨rfl,hb⟩;refine ⟨_,rfl,?_⟩;have n12_:=aM (Kd.R_below (z0_ HO415.out) hb);have n13_:=aM (Kd.R_below (z0_ HO418.out) hb);have n20_:=aM (below_step (HF.out) hb);clear HO415 HO418 HF;have HO415:=n12_;have HO418:=n13_;have HF:=n20_;clear n12_ n13_ n20_;(try clear hb);refine hK.out _ _ (cj5_ (blk_below BK397.out HF.out) (cj2_ (blk_below BK377.out HF.out) (cj2_ (blk_below BK378.out HF.out) (cj2_ (blk_below BK411.out HF.out) (cc2_ (blk_below BK412.out HF.out)))))) (fun hHeld=>?_);clear hK K;refine nm_ 42 ?_;refine pu_ 5 43 Y6.q6 HT_.out ?_;refine pu_ 6 44 Y6.q7 HT_.out ?_;refine tk13_ 7 45 Y6.q8 HT_.out HW_.out hHeld ?_;refine tk13_ 8 46 Y6.q9 HT_.out HW_.out hHeld ?_;refine tk13_ 10 48 Y6.q10 HT_.out HW_.out hHeld ?_;refine tk13_ 11 49 Y6.q11 HT_.out HW_.out hHeld ?_;refine o1_ 9 47 Y6.q12 HT_.out (fun K hK=>?_);refine gs_ Try.func8 #[.agg #[.slice Aa7 AI8.length Aa8,.slice Ar9 AI9.length As0],.agg #[.slice Ao60 t405.length co60,.slice Ao66 t408.length co66]] ?_;(with_reducible refine (Y10.calls kj2 _ _ AI8 _ _ AI9 _ _ t405 _ _ t408 t423 t426 t429 t430 t431 _ ?s1 ?s2 ?s3 ?s4 ?s5 ?s6 ?s7 ?s8 A13.out).mono ?_);(case s1=>repeat (first | exact (Kd.R_reads' (Kd.R_below HO401.out HF.out)).2.2 | (with_reducible refine Kd.C_alloc ?_ _) | (with_reducible refine Kd.C_drewN ?_ _) | (with_reducible refine Kd.C_drew ?_)));(case s2=>exact (Kd.R_reads' (Kd.R_below HO401.out HF.out)).2.1);(case s3=>repeat (first | exact (Kd.R_reads' (Kd.R_below HO404.out HF.out)).2.2 | (with_reducible refine Kd.C_alloc ?_ _) | (with_reducible refine Kd.C_drewN ?_ _) | (with_reducible refine Kd.C_drew ?_)));(case s4=>exact (Kd.R_reads' (Kd.R_below HO404.out HF.out)).2.1);(case s5=>repeat (first | exact (Kd.R_reads' (Kd.R_below HO407.out HF.out)).2.2 | (with_reducible refine Kd.C_alloc ?_ _) | (with_reducible refine Kd.C_drewN ?_ _) | (with_reducible refine Kd.C_drew ?_)));(case s6=>exact (Kd.R_reads' (Kd.R_below HO407.out HF.out)).2.1);(case s7=>repeat (first | exact (Kd.R_reads' (Kd.R_below HO410.out HF.out)).2.2 | (with_reducible refine Kd.C_alloc ?_ _) | (with_reducible refine Kd.C_drewN ?_ _) | (with_reducible refine Kd.C_drew ?_)));(case s8=>exact (Kd.R_reads' (Kd.R_below HO410.out HF.out)).2.1);rintro e w73 ⟨v424,v427,rfl,ho0,ho1,hb⟩;refine ⟨_,rfl,?_⟩;have n12_:=aM (Kd.R_elder' (z0_ HO415.out) (Kd.R_base ho0) hb);have n13_:=aM (Kd.R_elder' (z0_ HO418.out) (Kd.R_base ho1) hb);have n14_:=aM (Kd.R_lower ho0 (below_size (below_step HB.out HF.out)));have n15_:=aM (Kd.R_lower ho1 (below_size (below_step HB.out HF.out)));have n22_:=aM (below_step (HF.out) hb);clear HO415 HO418 HF;have HO415:=n12_;have HO418:=n13_;have HO425:=n14_;have HO428:=n15_;have HF:=n22_;clear n12_ n13_ n14_ n15_ n22_;(try clear hb);(try clear ho0);(try clear ho1);refine hK.out _ _ (cj5_ (blk_below BK397.out HF.out) (cj2_ (blk_below BK377.out HF.out) (cj2_ (blk_below BK378.out HF.out) (cj2_ (blk_below BK411.out HF.out) (cc2_ (blk_below BK412.out HF.out)))))) (fun hHeld=>?_);clear hK K;refine nm_ 47 ?_;refine o1_ 12 50 Y6.q13 HT_.out (fun K hK=>?_);refine gs_ Try.func10 #[.agg #[.slice Aa7 AI8.length Aa8,.slice Ar9 AI9.length As0],.agg #[.slice Ao60 t405.length co60,.slice Ao66 t408.length co66]] ?_;(with_reducible refine (Y19.calls kj2 _ _ AI8 _ _ AI9 _ _ t405 _ _ t408 t432 t435 t438 t439 t440 _ ?s1 ?s2 ?s3 ?s4 ?s5 ?s6 ?s7 ?s8 A14.out).mono ?_);(case s1=>repeat (first | exact (Kd.R_reads' (Kd.R_below HO401.out HF.out)).2.2 | (with_reducible refine Kd.C_alloc ?_ _) | (with_reducible refine Kd.C_drewN ?_ _) | (with_reducible refine Kd.C_drew ?_)));(case s2=>exact (Kd.R_reads' (Kd.R_below HO401.out HF.out)).2.1);(case s3=>repeat (first | exact (Kd.R_reads' (Kd.R_below HO404.out HF.out)).2.2 | (with_reducible refine Kd.C_alloc ?_ _) | (with_reducible refine Kd.C_drewN ?_ _) | (with_reducible refine Kd.C_drew ?_)));(case s4=>exact (Kd.R_reads' (Kd.R_below HO404.out HF.out)).2.1);(case s5=>repeat (first | exact (Kd.R_reads' (Kd.R_below HO407.out HF.out)).2.2 | (with_reducible refine Kd.C_alloc ?_ _) | (with_reducible refine Kd.C_drewN ?_ _) | (with_reducible refine Kd.C_drew ?_)));(case s6=>exact (Kd.R_reads' (Kd.R_below HO407.out HF.out)).2.1);(case s7=>repeat (first | exact (Kd.R_reads' (Kd.R_below HO410.out HF.out)).2.2 | (with_reducible refine Kd.C_alloc ?_ _) | (with_reducible refine Kd.C_drewN ?_ _) | (with_reducible refine Kd.C_drew ?_)));(case s8=>exact (Kd.R_reads' (Kd.R_below HO410.out HF.out)).2.1);rintro e w74 ⟨v433,v436,rfl,ho0,ho1,hb⟩;refine ⟨_,rfl,?_⟩;have n12_:=aM (Kd.R_elder' (z0_ HO415.out) (Kd.R_base ho0) hb);have n13_:=aM (Kd.R_elder' (z0_ HO418.out) (Kd.R_base ho1) hb);have n14_:=aM (Kd.R_elder' (z0_ HO425.out) (Kd.R_base ho0) hb);have n15_:=aM (Kd.R_elder' (z0_ HO428.out) (Kd.R_base ho1) hb);have n16_:=aM (Kd.R_lower ho0 (below_size (below_step HB.out HF.out)));have n17_:=aM (Kd.R_lower ho1 (below_size (below_step HB.out HF.out)));have n24_:=aM (below_step (HF.out) hb);clear HO415 HO418 HO425 HO428 HF;have HO415:=n12_;have HO418:=n13_;have HO425:=n14_;have HO428:=n15_;have HO434:=n16_;have HO437:=n17_;have HF:=n24_;clear n12_ n13_ n14_ n15_ n16_ n17_ n24_;(try clear hb);(try clear ho0);(try clear ho1);obtain ⟨Ao75,co75,eo75⟩:=Kd.R_slice HO425.out;(first | subst eo75 | (injection eo75 with f1_ f2_ f3_;have f4_:=f1_.symm;have f5_:=f3_.symm;clear f1_ f2_ f3_;subst f4_;subst f5_));obtain ⟨Ao76,co76,eo76⟩:=Kd.R_slice HO428.out;(first | subst eo76 | (injection eo76 with f1_ f2_ f3_;have f4_:=f1_.symm;have f5_:=f3_.symm;clear f1_ f2_ f3_;subst f4_;subst f5_));obtain ⟨Ao77,co77,eo77⟩:=Kd.R_slice HO434.out;(first | subst eo77 | (injection eo77 with f1_ f2_ f3_;have f4_:=f1_.symm;have f5_:=f3_.symm;clear f1_ f2_ f3_;subst f4_;subst f5_));obtain ⟨Ao78,co78,eo78⟩:=Kd.R_slice HO437.out;(first | subst eo78 | (injection eo78 with f1_ f2_ f3_;have f4_:=f1_.symm;have f5_:=f3_.symm;clear f1_ f2_ f3_;subst f4_;subst f5_));refine hK.out _ _ (cj5_ (blk_below BK397.out HF.out) (cj2_ (blk_below BK377.out HF.out) (cj2_ (blk_below BK378.out HF.out) (cj2_ (blk_below BK411.out HF.out) (cc2_ (blk_below BK412.out HF.out)))))) (fun hHeld=>?_);clear hK K;refine nm_ 50 ?_;refine o1_ 13 51 Y6.q14 HT_.out (fun K hK=>?_);refine gs_ Try.func9 #[.agg #[.slice Ao75 t423.length co75,.slice Ao76 t426.length co76,.int .i64 t429,.int .i64 t430,.int .i64 t431],.agg #[.slice Ao77 t432.length co77,.slice Ao78 t435.length co78,.int .i64 t438,.int .i64 t439,.int .i64 t440]] ?_;(with_reducible refine (Y38.calls kj2 _ _ t423 _ _ t426 t429 t430 t431 _ _ t432 _ _ t435 t438 t439 t440 true _ ?s1 ?s2 ?s3 ?s4 ?s5 ?s6 ?s7 ?s8 A15.out).mono ?_);(case s1=>repeat (first | exact (Kd.R_reads' HO425.out).2.2 | (with_reducible refine Kd.C_alloc ?_ _) | (with_reducible refine Kd.C_drewN ?_ _) | (with_reducible refine Kd.C_drew ?_)));(case s2=>exact (Kd.R_reads' HO425.out).2.1);(case s3=>repeat (first | exact (Kd.R_reads' HO428.out).2.2 | (with_reducible refine Kd.C_alloc ?_ _) | (with_reducible refine Kd.C_drewN ?_ _) | (with_reducible refine Kd.C_drew ?_)));(case s4=>exact (Kd.R_reads' HO428.out).2.1);(case s5=>repeat (first | exact (Kd.R_reads' HO434.out).2.2 | (with_reducible refine Kd.C_alloc ?_ _) | (with_reducible refine Kd.C_drewN ?_ _) | (with_reducible refine Kd.C_drew ?_)));(case s6=>exact (Kd.R_reads' HO434.out).2.1);(case s7=>repeat (first | exact (Kd.R_reads' HO437.out).2.2 | (with_reducible refine Kd.C_alloc ?_ _) | (with_reducible refine Kd.C_drewN ?_ _) | (with_reducible refine Kd.C_drew ?_)));(case s8=>exact (Kd.R_reads' HO437.out).2.1);rintro e w79 ⟨rfl,hb⟩;refine ⟨_,rfl,?_⟩;have n12_:=aM (Kd.R_below (z0_ HO415.out) hb);have n13_:=aM (Kd.R_below (z0_ HO418.out) hb);have n14_:=aM (Kd.R_below (z0_ HO425.out) hb);have n15_:=aM (Kd.R_below (z0_ HO428.out) hb);have n16_:=aM (Kd.R_below (z0_ HO434.out) hb);have n17_:=aM (Kd.R_below (z0_ HO437.out) hb);have n24_:=aM (below_step (HF.out) hb);clear HO415 HO418 HO425 HO428 HO434 HO437 HF;have HO415:=n12_;have HO418:=n13_;have HO425:=n14_;have HO428:=n15_;have HO434:=n16_;have HO437:=n17_;have HF:=n24_;clear n12_ n13_ n14_ n15_ n16_ n17_ n24_;(try clear hb);refine hK.out _ _ (cj5_ (blk_below BK397.out HF.out) (cj2_ (blk_below BK377.out HF.out) (cj2_ (blk_below BK378.out HF.out) (cj2_ (blk_below BK411.out HF.out) (cc2_ (blk_below BK412.out HF.out)))))) (fun hHeld=>?_);clear hK K;refine nm_ 51 ?_;refine pu_ 14 52 Y6.q15 HT_.out ?_;refine pu_ 15 53 Y6.q16 HT_.out ?_;refine done_ (done_of HT_.out (by kernel_rfl)) ?_;have hnb80:=NB397_377.out;have hnc80:=NB377_397.out;have hnb81:=NB397_378.out;have hnc81:=NB378_397.out;have hnb82:=NB397_398.out;have hnc82:=NB398_397.out;have hcz83_0:w79.cell? ⟨gb397,0,none⟩=some (.slice Ao35 t379.length co35):=(blk_cell (blk_below BK397.out HF.out) 0).trans rfl;have hcz83_1:w79.cell? ⟨gb397,1,none⟩=some (.slice Ao37 t382.length co37):=(blk_cell (blk_below BK397.out HF.out) 1).trans rfl;have hcz83_2:w79.cell? ⟨gb397,2,none⟩=some (.int .i64 t385):=(blk_cell (blk_below BK397.out HF.out) 2).trans rfl;have hcz83_3:w79.cell? ⟨gb397,3,none⟩=some (.int .i64 t386):=(blk_cell (blk_below BK397.out HF.out) 3).trans rfl;have hcz83_4:w79.cell? ⟨gb397,4,none⟩=some (.int .i64 t387):=(blk_cell (blk_below BK397.out HF.out) 4).trans rfl;have hfz83_0:=blk_frozen (blk_below BK397.out HF.out) 0;have hfz83_1:=blk_frozen (blk_below BK397.out HF.out) 1;have hfz83_2:=blk_frozen (blk_below BK397.out HF.out) 2;have hfz83_3:=blk_frozen (blk_below BK397.out HF.out) 3;have hfz83_4:=blk_frozen (blk_below BK397.out HF.out) 4;by_cases c17:t387=0
      ·rw [if_pos c17] at H;have c17b0:(t387 == 0)=true:=beq_iff_eq.mpr c17;have c17b1:(t387 != 0)=false:=bne_eq_false_iff_eq.mpr c17;clear c17;have H':=aM H;clear H;(try go_wp2);go_loopg [11] kj2 (fun kq v11 w'=>∃ (x11_2:Int),v11 = .int .i64 x11_2∧Aside0 (Y6.l0 kq x11_2 O2 H9 t371 t374 t379 t382 t385 t386 t387 t388 t391 t394 t395 t396=some r)∧Aside0 (kq≤kj2)∧Aside0 (Below w67.heap.size w67 w'));case atStart=>exact ⟨(0),(z3_),H',⟨Nat.le_refl _⟩,⟨z5_ HF.out⟩⟩
       case round=>as_aux_lemma =>
        clear H';(try clear c1);(try clear p2);(try clear c8);(try clear c9);(try clear c10);(try clear c80);(try clear c81);(try clear c82);(try clear hcz83_0);(try clear hcz83_1);(try clear hcz83_2);(try clear hcz83_3);(try clear hcz83_4);(try clear hfz83_0);(try clear hfz83_1);(try clear hfz83_2);(try clear hfz83_3);(try clear hfz83_4);obtain ⟨x11_2,rfl,HA,HK2,HF⟩:=hrel
        cases gk with
        | zero=>exact absurd HA.out (by simp [Y6.l0])
        | succ k2 =>
         have H:=HA.out;clear HA;simp only [Y6.l0] at H;by_cases c84:x11_2<(H9.length:Int)
         ·rw [if_pos c84] at H;have c84b0:decide (x11_2<(H9.length:Int))=true:=dE c84;clear c84;have H':=aM H;clear H;have hnb85:=NB377_378.out;have hnc85:=NB378_377.out;have hnb86:=NB377_397.out;have hnc86:=NB397_377.out;have hnb87:=NB377_398.out;have hnc87:=NB398_377.out;have hnb88:=NB377_411.out;have hnc88:=NB411_377.out;have hnb89:=NB377_412.out;have hnc89:=NB412_377.out;have hcz90_0:wr.cell? ⟨M7,0,none⟩=some (.slice AB8 O2.length AB9):=(blk_cell (blk_below BK377.out HF.out) 0).trans rfl;have hcz90_1:wr.cell? ⟨M7,1,none⟩=some (.slice AC2 H9.length u7):=(blk_cell (blk_below BK377.out HF.out) 1).trans rfl;have hfz90_0:=blk_frozen (blk_below BK377.out HF.out) 0;have hfz90_1:=blk_frozen (blk_below BK377.out HF.out) 1;go_wp2;go_loopg [12] k2 (fun kq v12 w'=>∃ (x12_3:Int),v12 = .int .i64 x12_3∧Aside0 (Y6.l1 kq x11_2 x12_3 O2 H9 t371 t374 t379 t382 t385 t386 t387 t388 t391 t394 t395 t396=some r)∧Aside0 (kq≤k2)∧Aside0 (Below w67.heap.size w67 w'));case atStart=>exact ⟨(0),(z3_),H',⟨Nat.le_refl _⟩,⟨z5_ HF.out⟩⟩
          case round=>as_aux_lemma =>
           clear H';(try clear c1);(try clear p2);(try clear c8);(try clear c9);(try clear c10);(try clear c80);(try clear c81);(try clear c82);(try clear c84);(try clear c84b0);(try clear c85);(try clear c86);(try clear c87);(try clear c88);(try clear c89);(try clear hcz83_0);(try clear hcz83_1);(try clear hcz83_2);(try clear hcz83_3);(try clear hcz83_4);(try clear hcz90_0);(try clear hcz90_1);(try clear hfz83_0);(try clear hfz83_1);(try clear hfz83_2);(try clear hfz83_3);(try clear hfz83_4);(try clear hfz90_0);(try clear hfz90_1);(try clear p2);obtain ⟨x12_3,rfl,HA,HK3,HF⟩:=hrel
           cases gk with
           | zero=>exact absurd HA.out (by simp [Y6.l1])
           | succ k3 =>
            have H:=HA.out;clear HA;simp only [Y6.l1] at H;by_cases c91:x12_3<(t374.length:Int)
            ·rw [if_pos c91] at H;have c91b0:decide (x12_3<(t374.length:Int))=true:=dE c91;clear c91;have HC92:=aM H;clear H;have hnb93:=NB378_377.out;have hnc93:=NB377_378.out;have hnb94:=NB378_397.out;have hnc94:=NB397_378.out;have hnb95:=NB378_398.out;have hnc95:=NB398_378.out;have hnb96:=NB378_411.out;have hnc96:=NB411_378.out;have hnb97:=NB378_412.out;have hnc97:=NB412_378.out;have hcz98_0:wr.cell? ⟨gb378,0,none⟩=some (.slice Ao25 t371.length co25):=(blk_cell (blk_below BK378.out HF.out) 0).trans rfl;have hcz98_1:wr.cell? ⟨gb378,1,none⟩=some (.slice Ao27 t374.length co27):=(blk_cell (blk_below BK378.out HF.out) 1).trans rfl;have hfz98_0:=blk_frozen (blk_below BK378.out HF.out) 0;have hfz98_1:=blk_frozen (blk_below BK378.out HF.out) 1;go_upto_region 16 with (fail);go_cut [96] (fun v96 wc=>∃ (kq:Nat) (x96_91:Bool),v96 = .bool x96_91∧Aside0 (Y6.j3 kq x11_2 x12_3 x96_91 O2 H9 t371 t374 t379 t382 t385 t386 t387 t388 t391 t394 t395 t396=some r)∧Aside0 (kq≤k3)∧Aside0 (Below w67.heap.size w67 wc))
             case first=>as_aux_lemma =>
              have H:=HC92.out;clear HC92;by_cases c99:0≤x11_2
              ·rw [if_pos c99] at H;have c99b0:decide (0≤x11_2)=true:=dE c99;clear c99;(first | rw [c99b0] | (simp only [i64_w,i32_w];rw [c99b0]) | skip);by_cases c100:x11_2<(H9.length:Int)
               ·rw [if_pos c100] at H;have c100b0:decide (x11_2<(H9.length:Int))=true:=dE c100;clear c100;by_cases c101:0≤x12_3
                ·rw [if_pos c101] at H;have c101b0:decide (0≤x12_3)=true:=dE c101;clear c101;by_cases c102:(((rd_T36 H9 x11_2).f0.f0) == ((rd_T36 t374 x12_3).f0.f0) && (((rd_T36 H9 x11_2).f0.f1) == ((rd_T36 t374 x12_3).f0.f1)))=true
                 ·rw [if_pos c102] at H;have c102b0:(((rd_T36 H9 x11_2).f0.f0) == ((rd_T36 t374 x12_3).f0.f0) && (((rd_T36 H9 x11_2).f0.f1) == ((rd_T36 t374 x12_3).f0.f1)))=true:=c102;(try (have c102b1:decide (((rd_T36 H9 x11_2).f0.f0)=((rd_T36 t374 x12_3).f0.f0) && (((rd_T36 H9 x11_2).f0.f1) == ((rd_T36 t374 x12_3).f0.f1)))=true:=by simpa using c102));(try (have c102b2:(((rd_T36 H9 x11_2).f0.f0) == ((rd_T36 t374 x12_3).f0.f0) && (((rd_T36 H9 x11_2).f0.f1) == ((rd_T36 t374 x12_3).f0.f1)))=true:=by simpa using c102));clear c102;have H':=aM H;clear H;(try go_wp2);have n18_:=aM (below_drew1 HF.out);clear HF;have HF:=n18_;clear n18_;have p442:0≤(x11_2:Int):=dT (z2_);have q442:x11_2<(H9.length:Int):=dT (z2_);obtain ⟨ad442,e442,hx442_0,hx442_1,hx442_2,hx442_3⟩:=at_T36 (Kd.R_reads' (Kd.R_below HO370.out HF.out)).2.2 x11_2 p442 q442;cases e442;replace p442:=eq_true p442;replace q442:=eq_true q442;have p443:0≤(x12_3:Int):=dT (z2_);have q443:x12_3<(t374.length:Int):=dT (z2_);obtain ⟨ad443,e443,hx443_0,hx443_1,hx443_2,hx443_3⟩:=at_T36 (Kd.R_reads' (Kd.R_below HO376.out HF.out)).2.2 x12_3 p443 q443;cases e443;replace p443:=eq_true p443;replace q443:=eq_true q443;have p444:0≤(x11_2:Int):=dT (z2_);have q444:x11_2<(H9.length:Int):=dT (z2_);obtain ⟨ad444,e444,hx444_0,hx444_1,hx444_2,hx444_3⟩:=at_T36 (Kd.R_reads' (Kd.R_below HO370.out HF.out)).2.2 x11_2 p444 q444;obtain rfl:ad442=ad444:=(by injection e444);replace p444:=eq_true p444;replace q444:=eq_true q444;have p445:0≤(x12_3:Int):=dT (z2_);have q445:x12_3<(t374.length:Int):=dT (z2_);obtain ⟨ad445,e445,hx445_0,hx445_1,hx445_2,hx445_3⟩:=at_T36 (Kd.R_reads' (Kd.R_below HO376.out HF.out)).2.2 x12_3 p445 q445;obtain rfl:ad443=ad445:=(by injection e445);replace p445:=eq_true p445;replace q445:=eq_true q445;refine start_ (n:=26) (S:=fun w'=>w'.cell? ⟨M7,0,none⟩=some (.slice AB8 O2.length AB9)∧w'.cell? ⟨M7,1,none⟩=some (.slice (some ad442) H9.length u7)∧w'.cell? ⟨gb378,0,none⟩=some (.slice Ao25 t371.length co25)∧w'.cell? ⟨gb378,1,none⟩=some (.slice (some ad443) t374.length co27)∧w'.cell? (ad442.add ((x11_2).toNat*4))=some (.int .i64 ((rd_T36 H9 x11_2).f0.f0))∧w'.cell? ⟨(ad442.add ((x11_2).toNat*4)).block,(ad442.add ((x11_2).toNat*4)).off+1,none⟩=some (.int .i64 ((rd_T36 H9 x11_2).f0.f1))∧w'.cell? ⟨(ad442.add ((x11_2).toNat*4)).block,(ad442.add ((x11_2).toNat*4)).off+2,none⟩=some (.bool ((rd_T36 H9 x11_2).f1))∧w'.cell? ⟨(ad442.add ((x11_2).toNat*4)).block,(ad442.add ((x11_2).toNat*4)).off+3,none⟩=some (.string ((rd_T36 H9 x11_2).f2))∧w'.cell? (ad443.add ((x12_3).toNat*4))=some (.int .i64 ((rd_T36 t374 x12_3).f0.f0))∧w'.cell? ⟨(ad443.add ((x12_3).toNat*4)).block,(ad443.add ((x12_3).toNat*4)).off+1,none⟩=some (.int .i64 ((rd_T36 t374 x12_3).f0.f1))∧w'.cell? ⟨(ad443.add ((x12_3).toNat*4)).block,(ad443.add ((x12_3).toNat*4)).off+2,none⟩=some (.bool ((rd_T36 t374 x12_3).f1))∧w'.cell? ⟨(ad443.add ((x12_3).toNat*4)).block,(ad443.add ((x12_3).toNat*4)).off+3,none⟩=some (.string ((rd_T36 t374 x12_3).f2))∧w'.cell? (ad442.add ((x11_2).toNat*4))=some (.int .i64 ((rd_T36 H9 x11_2).f0.f0))∧w'.cell? ⟨(ad442.add ((x11_2).toNat*4)).block,(ad442.add ((x11_2).toNat*4)).off+1,none⟩=some (.int .i64 ((rd_T36 H9 x11_2).f0.f1))∧w'.cell? ⟨(ad442.add ((x11_2).toNat*4)).block,(ad442.add ((x11_2).toNat*4)).off+2,none⟩=some (.bool ((rd_T36 H9 x11_2).f1))∧w'.cell? ⟨(ad442.add ((x11_2).toNat*4)).block,(ad442.add ((x11_2).toNat*4)).off+3,none⟩=some (.string ((rd_T36 H9 x11_2).f2))∧w'.cell? (ad443.add ((x12_3).toNat*4))=some (.int .i64 ((rd_T36 t374 x12_3).f0.f0))∧w'.cell? ⟨(ad443.add ((x12_3).toNat*4)).block,(ad443.add ((x12_3).toNat*4)).off+1,none⟩=some (.int .i64 ((rd_T36 t374 x12_3).f0.f1))∧w'.cell? ⟨(ad443.add ((x12_3).toNat*4)).block,(ad443.add ((x12_3).toNat*4)).off+2,none⟩=some (.bool ((rd_T36 t374 x12_3).f1))∧w'.cell? ⟨(ad443.add ((x12_3).toNat*4)).block,(ad443.add ((x12_3).toNat*4)).off+3,none⟩=some (.string ((rd_T36 t374 x12_3).f2))) (ds:=[]) Y6.q17 (by kernel_rfl) rfl rfl (cj2_ (blk_below BK377.out HF.out) (cj2_ (blk_below BK378.out HF.out) ⟨hx442_0,⟨hx442_1,⟨hx442_2,⟨hx442_3,⟨hx443_0,⟨hx443_1,⟨hx443_2,⟨hx443_3,⟨hx444_0,⟨hx444_1,⟨hx444_2,⟨hx444_3,⟨hx445_0,⟨hx445_1,⟨hx445_2,hx445_3⟩⟩⟩⟩⟩⟩⟩⟩⟩⟩⟩⟩⟩⟩⟩)) (fun hHeld=>?_);refine with_tabW Y6.tab16 Y6.bits16 (fun HT_ HW_=>?_);generalize wr.drew=w103 at HF hx442_0 hx442_1 hx442_2 hx442_3 hx443_0 hx443_1 hx443_2 hx443_3 hx444_0 hx444_1 hx444_2 hx444_3 hx445_0 hx445_1 hx445_2 hx445_3 hHeld ⊢;refine pu_ 0 71 Y6.q18 HT_.out ?_;refine pu_ 2 73 Y6.q19 HT_.out ?_;refine pu_ 6 77 Y6.q20 HT_.out ?_;refine pu_ 8 79 Y6.q21 HT_.out ?_;refine take_ (i:=1) (N:=some 72) (v:=?_) (a':=?_) Y6.q22 rfl rfl (take_ofW HT_.out HW_.out (by kernel_rfl)) (fun _ _ _ h=>h) (Or.inl ⟨by rfl,?_⟩) hHeld ?_ ?_;rotate_left
                  ·rintro w' ⟨s0,s1,s2,s3,s4,s5,s6,s7,s8,s9,s10,s11,s12,s13,s14,s15,s16,s17,s18,s19⟩;go_simp;with_reducible rfl
                  rotate_left
                  ·simp only [Act.put,sa_,s0_,ss_,i64_w,i32_w];rfl
                  refine pu_ 3 74 Y6.q23 HT_.out ?_;refine pu_ 4 75 Y6.q24 HT_.out ?_;refine take_ (i:=5) (N:=some 76) (v:=?_) (a':=?_) Y6.q25 rfl rfl (take_ofW HT_.out HW_.out (by kernel_rfl)) (fun _ _ _ h=>h) (Or.inl ⟨by rfl,?_⟩) hHeld ?_ ?_;rotate_left
                  ·rintro w' ⟨s0,s1,s2,s3,s4,s5,s6,s7,s8,s9,s10,s11,s12,s13,s14,s15,s16,s17,s18,s19⟩;go_simp;with_reducible rfl
                  rotate_left
                  ·simp only [Act.put,sa_,s0_,ss_,i64_w,i32_w];rfl
                  refine take_ (i:=7) (N:=some 78) (v:=?_) (a':=?_) Y6.q26 rfl rfl (take_ofW HT_.out HW_.out (by kernel_rfl)) (fun _ _ _ h=>h) (Or.inl ⟨by rfl,?_⟩) hHeld ?_ ?_;rotate_left
                  ·rintro w' ⟨s0,s1,s2,s3,s4,s5,s6,s7,s8,s9,s10,s11,s12,s13,s14,s15,s16,s17,s18,s19⟩;go_simp;with_reducible rfl
                  rotate_left
                  ·simp only [Act.put,sa_,s0_,ss_,i64_w,i32_w];rfl
                  refine pu_ 9 80 Y6.q27 HT_.out ?_;refine pu_ 10 81 Y6.q28 HT_.out ?_;refine take_ (i:=11) (N:=some 82) (v:=?_) (a':=?_) Y6.q29 rfl rfl (take_ofW HT_.out HW_.out (by kernel_rfl)) (fun _ _ _ h=>h) (Or.inl ⟨by rfl,?_⟩) hHeld ?_ ?_;rotate_left
                  ·rintro w' ⟨s0,s1,s2,s3,s4,s5,s6,s7,s8,s9,s10,s11,s12,s13,s14,s15,s16,s17,s18,s19⟩;go_simp;with_reducible rfl
                  rotate_left
                  ·simp only [Act.put,sa_,s0_,ss_,i64_w,i32_w];rfl
                  refine pu_ 12 83 Y6.q30 HT_.out ?_;refine pu_ 13 84 Y6.q31 HT_.out ?_;refine pu_ 14 85 Y6.q32 HT_.out ?_;refine pu_ 16 87 #[I,I,I,I,I,I,I,I,I,I,I,I,I,I,I,O,I,O,O,O,O,O,O,O,O,O] HT_.out ?_;refine pu_ 19 90 #[I,I,I,I,I,I,I,I,I,I,I,I,I,I,I,O,I,O,O,I,O,O,O,O,O,O] HT_.out ?_;refine pu_ 21 92 #[I,I,I,I,I,I,I,I,I,I,I,I,I,I,I,O,I,O,O,I,O,I,O,O,O,O] HT_.out ?_;refine take_ (i:=15) (N:=some 86) (v:=?_) (a':=?_) #[I,I,I,I,I,I,I,I,I,I,I,I,I,I,I,I,I,O,O,I,O,I,O,O,O,O] rfl rfl (take_ofW HT_.out HW_.out (by kernel_rfl)) (fun _ _ _ h=>h) (Or.inl ⟨by rfl,?_⟩) hHeld ?_ ?_;rotate_left
                  ·rintro w' ⟨s0,s1,s2,s3,s4,s5,s6,s7,s8,s9,s10,s11,s12,s13,s14,s15,s16,s17,s18,s19⟩;go_simp;with_reducible rfl
                  rotate_left
                  ·simp only [Act.put,sa_,s0_,ss_,i64_w,i32_w];rfl
                  refine pu_ 17 88 #[I,I,I,I,I,I,I,I,I,I,I,I,I,I,I,I,I,I,O,I,O,I,O,O,O,O] HT_.out ?_;refine take_ (i:=18) (N:=some 89) (v:=?_) (a':=?_) #[I,I,I,I,I,I,I,I,I,I,I,I,I,I,I,I,I,I,I,I,O,I,O,O,O,O] rfl rfl (take_ofW HT_.out HW_.out (by kernel_rfl)) (fun _ _ _ h=>h) (Or.inl ⟨by rfl,?_⟩) hHeld ?_ ?_;rotate_left
                  ·rintro w' ⟨s0,s1,s2,s3,s4,s5,s6,s7,s8,s9,s10,s11,s12,s13,s14,s15,s16,s17,s18,s19⟩;go_simp;with_reducible rfl
                  rotate_left
                  ·simp only [Act.put,sa_,s0_,ss_,i64_w,i32_w];rfl
                  refine take_ (i:=20) (N:=some 91) (v:=?_) (a':=?_) Y6.q33 rfl rfl (take_ofW HT_.out HW_.out (by kernel_rfl)) (fun _ _ _ h=>h) (Or.inl ⟨by rfl,?_⟩) hHeld ?_ ?_;rotate_left
                  ·rintro w' ⟨s0,s1,s2,s3,s4,s5,s6,s7,s8,s9,s10,s11,s12,s13,s14,s15,s16,s17,s18,s19⟩;go_simp;with_reducible rfl
                  rotate_left
                  ·simp only [Act.put,sa_,s0_,ss_,i64_w,i32_w];rfl
                  refine pu_ 22 93 Y6.q34 HT_.out ?_;refine take_ (i:=23) (N:=some 94) (v:=?_) (a':=?_) Y6.q35 rfl rfl (take_ofW HT_.out HW_.out (by kernel_rfl)) (fun _ _ _ h=>h) (Or.inl ⟨by rfl,?_⟩) hHeld ?_ ?_;rotate_left
                  ·rintro w' ⟨s0,s1,s2,s3,s4,s5,s6,s7,s8,s9,s10,s11,s12,s13,s14,s15,s16,s17,s18,s19⟩;go_simp;with_reducible rfl
                  rotate_left
                  ·simp only [Act.put,sa_,s0_,ss_,i64_w,i32_w];rfl
                  refine pu_ 24 95 Y6.q36 HT_.out ?_;refine pu_ 25 96 Y6.q37 HT_.out ?_;refine done_ (done_of HT_.out (by kernel_rfl)) ?_;(try go_wp2);go_meet;case rel=>exact ⟨_,(((!(((rd_T36 H9 x11_2).f0.f0) == ((rd_T36 t374 x12_3).f0.f0)) || (!(((rd_T36 H9 x11_2).f0.f1) == ((rd_T36 t374 x12_3).f0.f1)))) || (!(((rd_T36 H9 x11_2).f1) == ((rd_T36 t374 x12_3).f1)) || (!((((rd_T36 H9 x11_2).f2).toList) == (((rd_T36 t374 x12_3).f2).toList)))))),(by first | rfl | (simp;done) | (simp [*];done) | (simp [bne];done) | (simp;have z_:=Bool.and_eq_true_iff.mp c102b0;have z1_:=beq_iff_eq.mp z_.1;have z2_:=beq_iff_eq.mp z_.2;intro z3_;exact absurd z1_ (z3_.resolve_right (fun q_=>q_ z2_)))),H',⟨z46_ HJ2.out HK2.out HK3.out⟩,⟨z5_ HF.out⟩⟩
                 ·rw [if_neg c102] at H;(have c102b0:(((rd_T36 H9 x11_2).f0.f0) == ((rd_T36 t374 x12_3).f0.f0) && (((rd_T36 H9 x11_2).f0.f1) == ((rd_T36 t374 x12_3).f0.f1)))=false:=by simpa using c102);(try (have c102b1:decide (((rd_T36 H9 x11_2).f0.f0)=((rd_T36 t374 x12_3).f0.f0) && (((rd_T36 H9 x11_2).f0.f1) == ((rd_T36 t374 x12_3).f0.f1)))=false:=by simpa using c102));(try (have c102b2:(((rd_T36 H9 x11_2).f0.f0) == ((rd_T36 t374 x12_3).f0.f0) && (((rd_T36 H9 x11_2).f0.f1) == ((rd_T36 t374 x12_3).f0.f1)))=false:=by simpa using c102));(try (have c102b3:¬ (((rd_T36 H9 x11_2).f0.f0)=((rd_T36 t374 x12_3).f0.f0) && (((rd_T36 H9 x11_2).f0.f1) == ((rd_T36 t374 x12_3).f0.f1))):=by simpa using c102));clear c102;have H':=aM H;clear H;(try go_wp2);have n18_:=aM (below_drew1 HF.out);clear HF;have HF:=n18_;clear n18_;have p442:0≤(x11_2:Int):=dT (z2_);have q442:x11_2<(H9.length:Int):=dT (z2_);obtain ⟨ad442,e442,hx442_0,hx442_1,hx442_2,hx442_3⟩:=at_T36 (Kd.R_reads' (Kd.R_below HO370.out HF.out)).2.2 x11_2 p442 q442;cases e442;replace p442:=eq_true p442;replace q442:=eq_true q442;have p443:0≤(x12_3:Int):=dT (z2_);have q443:x12_3<(t374.length:Int):=dT (z2_);obtain ⟨ad443,e443,hx443_0,hx443_1,hx443_2,hx443_3⟩:=at_T36 (Kd.R_reads' (Kd.R_below HO376.out HF.out)).2.2 x12_3 p443 q443;cases e443;replace p443:=eq_true p443;replace q443:=eq_true q443;refine start_ (n:=26) (S:=fun w'=>w'.cell? ⟨M7,0,none⟩=some (.slice AB8 O2.length AB9)∧w'.cell? ⟨M7,1,none⟩=some (.slice (some ad442) H9.length u7)∧w'.cell? ⟨gb378,0,none⟩=some (.slice Ao25 t371.length co25)∧w'.cell? ⟨gb378,1,none⟩=some (.slice (some ad443) t374.length co27)∧w'.cell? (ad442.add ((x11_2).toNat*4))=some (.int .i64 ((rd_T36 H9 x11_2).f0.f0))∧w'.cell? ⟨(ad442.add ((x11_2).toNat*4)).block,(ad442.add ((x11_2).toNat*4)).off+1,none⟩=some (.int .i64 ((rd_T36 H9 x11_2).f0.f1))∧w'.cell? ⟨(ad442.add ((x11_2).toNat*4)).block,(ad442.add ((x11_2).toNat*4)).off+2,none⟩=some (.bool ((rd_T36 H9 x11_2).f1))∧w'.cell? ⟨(ad442.add ((x11_2).toNat*4)).block,(ad442.add ((x11_2).toNat*4)).off+3,none⟩=some (.string ((rd_T36 H9 x11_2).f2))∧w'.cell? (ad443.add ((x12_3).toNat*4))=some (.int .i64 ((rd_T36 t374 x12_3).f0.f0))∧w'.cell? ⟨(ad443.add ((x12_3).toNat*4)).block,(ad443.add ((x12_3).toNat*4)).off+1,none⟩=some (.int .i64 ((rd_T36 t374 x12_3).f0.f1))∧w'.cell? ⟨(ad443.add ((x12_3).toNat*4)).block,(ad443.add ((x12_3).toNat*4)).off+2,none⟩=some (.bool ((rd_T36 t374 x12_3).f1))∧w'.cell? ⟨(ad443.add ((x12_3).toNat*4)).block,(ad443.add ((x12_3).toNat*4)).off+3,none⟩=some (.string ((rd_T36 t374 x12_3).f2))) (ds:=[]) Y6.q17 (by kernel_rfl) rfl rfl (cj2_ (blk_below BK377.out HF.out) (cj2_ (blk_below BK378.out HF.out) ⟨hx442_0,⟨hx442_1,⟨hx442_2,⟨hx442_3,⟨hx443_0,⟨hx443_1,⟨hx443_2,hx443_3⟩⟩⟩⟩⟩⟩⟩)) (fun hHeld=>?_);refine with_tabW Y6.tab16 Y6.bits16 (fun HT_ HW_=>?_);generalize wr.drew=w104 at HF hx442_0 hx442_1 hx442_2 hx442_3 hx443_0 hx443_1 hx443_2 hx443_3 hHeld ⊢;refine pu_ 0 71 Y6.q18 HT_.out ?_;refine pu_ 2 73 Y6.q19 HT_.out ?_;refine pu_ 6 77 Y6.q20 HT_.out ?_;refine pu_ 8 79 Y6.q21 HT_.out ?_;refine tk12_ 1 72 Y6.q22 HT_.out HW_.out hHeld ?_;refine pu_ 3 74 Y6.q23 HT_.out ?_;refine pu_ 4 75 Y6.q24 HT_.out ?_;refine tk12_ 5 76 Y6.q25 HT_.out HW_.out hHeld ?_;refine tk12_ 7 78 Y6.q26 HT_.out HW_.out hHeld ?_;refine pu_ 9 80 Y6.q27 HT_.out ?_;refine pu_ 10 81 Y6.q28 HT_.out ?_;refine tk12_ 11 82 Y6.q29 HT_.out HW_.out hHeld ?_;refine pu_ 12 83 Y6.q30 HT_.out ?_;refine pu_ 13 84 Y6.q31 HT_.out ?_;refine pn_ 14 85 Y6.q32 HT_.out ?_;refine pn_ 15 86 #[I,I,I,I,I,I,I,I,I,I,I,I,I,I,I,I,O,O,O,O,O,O,O,O,O,O] HT_.out ?_;refine pn_ 16 87 #[I,I,I,I,I,I,I,I,I,I,I,I,I,I,I,I,I,O,O,O,O,O,O,O,O,O] HT_.out ?_;refine pn_ 17 88 #[I,I,I,I,I,I,I,I,I,I,I,I,I,I,I,I,I,I,O,O,O,O,O,O,O,O] HT_.out ?_;refine pn_ 18 89 #[I,I,I,I,I,I,I,I,I,I,I,I,I,I,I,I,I,I,I,O,O,O,O,O,O,O] HT_.out ?_;refine pn_ 19 90 #[I,I,I,I,I,I,I,I,I,I,I,I,I,I,I,I,I,I,I,I,O,O,O,O,O,O] HT_.out ?_;refine pn_ 20 91 #[I,I,I,I,I,I,I,I,I,I,I,I,I,I,I,I,I,I,I,I,I,O,O,O,O,O] HT_.out ?_;refine pn_ 21 92 Y6.q33 HT_.out ?_;refine pn_ 22 93 Y6.q34 HT_.out ?_;refine pn_ 23 94 Y6.q35 HT_.out ?_;refine pn_ 24 95 Y6.q36 HT_.out ?_;refine pu_ 25 96 Y6.q37 HT_.out ?_;refine done_ (done_of HT_.out (by kernel_rfl)) ?_;(try go_wp2);go_meet;case rel=>exact ⟨_,(false),(z3_),H',⟨z46_ HJ2.out HK2.out HK3.out⟩,⟨z5_ HF.out⟩⟩
                ·rw [if_neg c101] at H;exact nO H
               ·rw [if_neg c100] at H;exact nO H
              ·rw [if_neg c99] at H;exact nO H
             case rest=>as_aux_lemma =>
              clear HC92;(try clear c1);(try clear p2);(try clear p4);(try clear q4);(try clear hx4);(try clear c9);(try clear c10);(try clear p44);(try clear q44);(try clear hx44);(try clear c91);(try clear c91b0);(try clear c93);(try clear c94);(try clear c95);(try clear c96);(try clear c97);(try clear c99);(try clear c99b0);(try clear c100);(try clear c100b0);(try clear c101);(try clear c101b0);(try clear c102);(try clear c102b0);(try clear c102b1);(try clear c102b2);(try clear hcz98_0);(try clear hcz98_1);(try clear hfz98_0);(try clear hfz98_1);(try clear hx442_0);(try clear hx442_1);(try clear hx442_2);(try clear hx442_3);(try clear hx443_0);(try clear hx443_1);(try clear hx443_2);(try clear hx443_3);(try clear hx444_0);(try clear hx444_1);(try clear hx444_2);(try clear hx444_3);(try clear hx445_0);(try clear hx445_1);(try clear hx445_2);(try clear hx445_3);(try clear p442);(try clear p443);(try clear p444);(try clear p445);(try clear q442);(try clear q443);(try clear q444);(try clear q445);obtain ⟨kq,x96_91,rfl,HA,HJ91,HF⟩:=hcut
              cases kq with
              | zero=>exact absurd HA.out (by simp [Y6.j3])
              | succ kj91 =>
               have H:=HA.out;clear HA;simp only [Y6.j3] at H;by_cases c105:x96_91=true
               ·subst c105;(have H1:(some true)=some r:=by rw [if_pos rfl] at H;exact H);clear H;have H:=H1;clear H1;obtain rfl:=sI H;go_wp2;go_ret;exact ⟨z8_,below_step HB.out HF.out⟩
               ·replace c105:=Bool.eq_false_iff.mpr c105;subst c105;(have H1:(Y6.l1 kj91 x11_2 (wrap64 (x12_3+1)) O2 H9 t371 t374 t379 t382 t385 t386 t387 t388 t391 t394 t395 t396)=some r:=by rw [if_neg (show ¬ (false=true) by decide)] at H;exact H);clear H;have H:=H1;clear H1;have H':=aM H;clear H;go_wp2;go_roundg kj91;(case measure=>have:=HJ2.out;have:=HK2.out;have:=HK3.out;have:=HJ91.out;omega);case rel=>exact ⟨(wrap64 (x12_3+1)),(z3_),H',⟨by have:=HJ2.out;have:=HK2.out;have:=HK3.out;have:=HJ91.out;omega⟩,⟨z5_ HF.out⟩⟩
            ·rw [if_neg c91] at H;have c91b0:decide (x12_3<(t374.length:Int))=false:=dF c91;clear c91;have H':=aM H;clear H;have hnb106:=NB378_377.out;have hnc106:=NB377_378.out;have hnb107:=NB378_397.out;have hnc107:=NB397_378.out;have hnb108:=NB378_398.out;have hnc108:=NB398_378.out;have hnb109:=NB378_411.out;have hnc109:=NB411_378.out;have hnb110:=NB378_412.out;have hnc110:=NB412_378.out;have hcz111_0:wr.cell? ⟨gb378,0,none⟩=some (.slice Ao25 t371.length co25):=(blk_cell (blk_below BK378.out HF.out) 0).trans rfl;have hcz111_1:wr.cell? ⟨gb378,1,none⟩=some (.slice Ao27 t374.length co27):=(blk_cell (blk_below BK378.out HF.out) 1).trans rfl;have hfz111_0:=blk_frozen (blk_below BK378.out HF.out) 0;have hfz111_1:=blk_frozen (blk_below BK378.out HF.out) 1;go_wp2;go_roundg k3;(case measure=>have:=HJ2.out;have:=HK2.out;have:=HK3.out;omega);case rel=>exact ⟨(wrap64 (x11_2+1)),(z3_),H',⟨by have:=HJ2.out;have:=HK2.out;have:=HK3.out;omega⟩,⟨z5_ HF.out⟩⟩
         ·rw [if_neg c84] at H;have c84b0:decide (x11_2<(H9.length:Int))=false:=dF c84;clear c84;replace H:=bS H;obtain ⟨⟨t446,t449,t452,t453,t454⟩,A1120,H⟩:=H;replace H:((Y26.f k2 t446 t449 O2 H9).bind fun t455=>(if t455=true then ((Y10.f k2 t379 t382 O2 H9).bind fun bt456=>((Y26.f k2 bt456.1 bt456.2.1 t379 t382).bind fun t465=>(if t465=true then ((Y10.f k2 t371 t374 t379 t382).bind fun bt466=>((Y26.f k2 bt466.1 bt466.2.1 t379 t382).bind fun t475=>(if t475=true then (if (t382.length:Int)=(t391.length:Int) then ((Y27.f k2 t379 t388).bind fun t476=>(if t476=true then (Y6.l2 k2 0 t379 t382 t385 t386 t387 t388 t391 t394 t395 t396) else (none))) else (none)) else (none)))) else (none)))) else (none)))=some r:=H;have A112:=aM A1120;clear A1120;replace H:=bS H;obtain ⟨t455,A1130,H⟩:=H;replace H:(if t455=true then ((Y10.f k2 t379 t382 O2 H9).bind fun bt456=>((Y26.f k2 bt456.1 bt456.2.1 t379 t382).bind fun t465=>(if t465=true then ((Y10.f k2 t371 t374 t379 t382).bind fun bt466=>((Y26.f k2 bt466.1 bt466.2.1 t379 t382).bind fun t475=>(if t475=true then (if (t382.length:Int)=(t391.length:Int) then ((Y27.f k2 t379 t388).bind fun t476=>(if t476=true then (Y6.l2 k2 0 t379 t382 t385 t386 t387 t388 t391 t394 t395 t396) else (none))) else (none)) else (none)))) else (none)))) else (none))=some r:=H;have A113:=aM A1130;clear A1130;by_cases c114:t455=true
          ·subst c114;(have H1:((Y10.f k2 t379 t382 O2 H9).bind fun bt456=>((Y26.f k2 bt456.1 bt456.2.1 t379 t382).bind fun t465=>(if t465=true then ((Y10.f k2 t371 t374 t379 t382).bind fun bt466=>((Y26.f k2 bt466.1 bt466.2.1 t379 t382).bind fun t475=>(if t475=true then (if (t382.length:Int)=(t391.length:Int) then ((Y27.f k2 t379 t388).bind fun t476=>(if t476=true then (Y6.l2 k2 0 t379 t382 t385 t386 t387 t388 t391 t394 t395 t396) else (none))) else (none)) else (none)))) else (none))))=some r:=by rw [if_pos rfl] at H;exact H);clear H;have H:=H1;clear H1;replace H:=bS H;obtain ⟨⟨t456,t459,t462,t463,t464⟩,A1150,H⟩:=H;replace H:((Y26.f k2 t456 t459 t379 t382).bind fun t465=>(if t465=true then ((Y10.f k2 t371 t374 t379 t382).bind fun bt466=>((Y26.f k2 bt466.1 bt466.2.1 t379 t382).bind fun t475=>(if t475=true then (if (t382.length:Int)=(t391.length:Int) then ((Y27.f k2 t379 t388).bind fun t476=>(if t476=true then (Y6.l2 k2 0 t379 t382 t385 t386 t387 t388 t391 t394 t395 t396) else (none))) else (none)) else (none)))) else (none)))=some r:=H;have A115:=aM A1150;clear A1150;replace H:=bS H;obtain ⟨t465,A1160,H⟩:=H;replace H:(if t465=true then ((Y10.f k2 t371 t374 t379 t382).bind fun bt466=>((Y26.f k2 bt466.1 bt466.2.1 t379 t382).bind fun t475=>(if t475=true then (if (t382.length:Int)=(t391.length:Int) then ((Y27.f k2 t379 t388).bind fun t476=>(if t476=true then (Y6.l2 k2 0 t379 t382 t385 t386 t387 t388 t391 t394 t395 t396) else (none))) else (none)) else (none)))) else (none))=some r:=H;have A116:=aM A1160;clear A1160;by_cases c117:t465=true
           ·subst c117;(have H1:((Y10.f k2 t371 t374 t379 t382).bind fun bt466=>((Y26.f k2 bt466.1 bt466.2.1 t379 t382).bind fun t475=>(if t475=true then (if (t382.length:Int)=(t391.length:Int) then ((Y27.f k2 t379 t388).bind fun t476=>(if t476=true then (Y6.l2 k2 0 t379 t382 t385 t386 t387 t388 t391 t394 t395 t396) else (none))) else (none)) else (none))))=some r:=by rw [if_pos rfl] at H;exact H);clear H;have H:=H1;clear H1;replace H:=bS H;obtain ⟨⟨t466,t469,t472,t473,t474⟩,A1180,H⟩:=H;replace H:((Y26.f k2 t466 t469 t379 t382).bind fun t475=>(if t475=true then (if (t382.length:Int)=(t391.length:Int) then ((Y27.f k2 t379 t388).bind fun t476=>(if t476=true then (Y6.l2 k2 0 t379 t382 t385 t386 t387 t388 t391 t394 t395 t396) else (none))) else (none)) else (none)))=some r:=H;have A118:=aM A1180;clear A1180;replace H:=bS H;obtain ⟨t475,A1190,H⟩:=H;replace H:(if t475=true then (if (t382.length:Int)=(t391.length:Int) then ((Y27.f k2 t379 t388).bind fun t476=>(if t476=true then (Y6.l2 k2 0 t379 t382 t385 t386 t387 t388 t391 t394 t395 t396) else (none))) else (none)) else (none))=some r:=H;have A119:=aM A1190;clear A1190;by_cases c120:t475=true
            ·subst c120;(have H1:(if (t382.length:Int)=(t391.length:Int) then ((Y27.f k2 t379 t388).bind fun t476=>(if t476=true then (Y6.l2 k2 0 t379 t382 t385 t386 t387 t388 t391 t394 t395 t396) else (none))) else (none))=some r:=by rw [if_pos rfl] at H;exact H);clear H;have H:=H1;clear H1;by_cases c121:(t382.length:Int)=(t391.length:Int)
             ·rw [if_pos c121] at H;have c121b0:((t382.length:Int) == (t391.length:Int))=true:=beq_iff_eq.mpr c121;have c121b1:((t382.length:Int) != (t391.length:Int))=false:=bne_eq_false_iff_eq.mpr c121;(have c121b2:(t382.length == t391.length)=true:=by first | simpa using c121 | (simp at c121 ⊢;omega));clear c121;replace H:=bS H;obtain ⟨t476,A1220,H⟩:=H;replace H:(if t476=true then (Y6.l2 k2 0 t379 t382 t385 t386 t387 t388 t391 t394 t395 t396) else (none))=some r:=H;have A122:=aM A1220;clear A1220;by_cases c123:t476=true
              ·subst c123;(have H1:(Y6.l2 k2 0 t379 t382 t385 t386 t387 t388 t391 t394 t395 t396)=some r:=by rw [if_pos rfl] at H;exact H);clear H;have H:=H1;clear H1;have H':=aM H;clear H;have hnb124:=NB377_378.out;have hnc124:=NB378_377.out;have hnb125:=NB377_397.out;have hnc125:=NB397_377.out;have hnb126:=NB377_398.out;have hnc126:=NB398_377.out;have hnb127:=NB377_411.out;have hnc127:=NB411_377.out;have hnb128:=NB377_412.out;have hnc128:=NB412_377.out;have hcz129_0:wr.cell? ⟨M7,0,none⟩=some (.slice AB8 O2.length AB9):=(blk_cell (blk_below BK377.out HF.out) 0).trans rfl;have hcz129_1:wr.cell? ⟨M7,1,none⟩=some (.slice AC2 H9.length u7):=(blk_cell (blk_below BK377.out HF.out) 1).trans rfl;have hfz129_0:=blk_frozen (blk_below BK377.out HF.out) 0;have hfz129_1:=blk_frozen (blk_below BK377.out HF.out) 1;(try go_wp2);have n18_:=aM (below_drew1 HF.out);clear HF;have HF:=n18_;clear n18_;refine start_ (n:=50) (S:=fun w'=>w'.cell? ⟨M7,0,none⟩=some (.slice AB8 O2.length AB9)∧w'.cell? ⟨M7,1,none⟩=some (.slice AC2 H9.length u7)∧w'.cell? ⟨gb397,0,none⟩=some (.slice Ao35 t379.length co35)∧w'.cell? ⟨gb397,1,none⟩=some (.slice Ao37 t382.length co37)∧w'.cell? ⟨gb397,2,none⟩=some (.int .i64 t385)∧w'.cell? ⟨gb397,3,none⟩=some (.int .i64 t386)∧w'.cell? ⟨gb397,4,none⟩=some (.int .i64 t387)∧w'.cell? ⟨gb378,0,none⟩=some (.slice Ao25 t371.length co25)∧w'.cell? ⟨gb378,1,none⟩=some (.slice Ao27 t374.length co27)∧w'.cell? ⟨gb398,0,none⟩=some (.slice Ao42 t388.length co42)∧w'.cell? ⟨gb398,1,none⟩=some (.slice Ao44 t391.length co44)∧w'.cell? ⟨gb398,2,none⟩=some (.int .i64 t394)∧w'.cell? ⟨gb398,3,none⟩=some (.int .i64 t395)∧w'.cell? ⟨gb398,4,none⟩=some (.int .i64 t396)) (ds:=[]) #[O,O,O,O,O,O,O,O,O,O,O,O,O,O,O,O,O,O,O,O,O,O,O,O,O,O,O,O,O,O,O,O,O,O,O,O,O,O,O,O,O,O,O,O,O,O,O,O,O,O] (by kernel_rfl) rfl rfl (cj2_ (blk_below BK377.out HF.out) (cj5_ (blk_below BK397.out HF.out) (cj2_ (blk_below BK378.out HF.out) (cc5_ (blk_below BK398.out HF.out))))) (fun hHeld=>?_);refine with_tabW Y6.tab18 Y6.bits18 (fun HT_ HW_=>?_);generalize wr.drew=w130 at HF hHeld ⊢;refine tk14_ 0 97 #[I,O,O,O,O,O,O,O,O,O,O,O,O,O,O,O,O,O,O,O,O,O,O,O,O,O,O,O,O,O,O,O,O,O,O,O,O,O,O,O,O,O,O,O,O,O,O,O,O,O] HT_.out HW_.out hHeld ?_;refine tk14_ 1 98 #[I,I,O,O,O,O,O,O,O,O,O,O,O,O,O,O,O,O,O,O,O,O,O,O,O,O,O,O,O,O,O,O,O,O,O,O,O,O,O,O,O,O,O,O,O,O,O,O,O,O] HT_.out HW_.out hHeld ?_;refine tk14_ 4 101 #[I,I,O,O,I,O,O,O,O,O,O,O,O,O,O,O,O,O,O,O,O,O,O,O,O,O,O,O,O,O,O,O,O,O,O,O,O,O,O,O,O,O,O,O,O,O,O,O,O,O] HT_.out HW_.out hHeld ?_;refine o1_ 2 99 #[I,I,I,O,I,O,O,O,O,O,O,O,O,O,O,O,O,O,O,O,O,O,O,O,O,O,O,O,O,O,O,O,O,O,O,O,O,O,O,O,O,O,O,O,O,O,O,O,O,O] HT_.out (fun K hK=>?_);refine gs_ Try.func8 #[.agg #[.slice AB8 O2.length AB9,.slice AC2 H9.length u7],.agg #[.slice AB8 O2.length AB9,.slice AC2 H9.length u7]] ?_;(with_reducible refine (Y10.calls k2 _ _ O2 _ _ H9 _ _ O2 _ _ H9 t446 t449 t452 t453 t454 _ ?s1 ?s2 ?s3 ?s4 ?s5 ?s6 ?s7 ?s8 A112.out).mono ?_);(case s1=>repeat (first | exact (Kd.R_reads' (Kd.R_below HO367.out HF.out)).2.2 | (with_reducible refine Kd.C_alloc ?_ _) | (with_reducible refine Kd.C_drewN ?_ _) | (with_reducible refine Kd.C_drew ?_)));(case s2=>exact (Kd.R_reads' (Kd.R_below HO367.out HF.out)).2.1);(case s3=>repeat (first | exact (Kd.R_reads' (Kd.R_below HO370.out HF.out)).2.2 | (with_reducible refine Kd.C_alloc ?_ _) | (with_reducible refine Kd.C_drewN ?_ _) | (with_reducible refine Kd.C_drew ?_)));(case s4=>exact (Kd.R_reads' (Kd.R_below HO370.out HF.out)).2.1);(case s5=>repeat (first | exact (Kd.R_reads' (Kd.R_below HO367.out HF.out)).2.2 | (with_reducible refine Kd.C_alloc ?_ _) | (with_reducible refine Kd.C_drewN ?_ _) | (with_reducible refine Kd.C_drew ?_)));(case s6=>exact (Kd.R_reads' (Kd.R_below HO367.out HF.out)).2.1);(case s7=>repeat (first | exact (Kd.R_reads' (Kd.R_below HO370.out HF.out)).2.2 | (with_reducible refine Kd.C_alloc ?_ _) | (with_reducible refine Kd.C_drewN ?_ _) | (with_reducible refine Kd.C_drew ?_)));(case s8=>exact (Kd.R_reads' (Kd.R_below HO370.out HF.out)).2.1);rintro e w131 ⟨v447,v450,rfl,ho0,ho1,hb⟩;refine ⟨_,rfl,?_⟩;have n12_:=aM (Kd.R_lower ho0 (below_size (below_step HB.out HF.out)));have n13_:=aM (Kd.R_lower ho1 (below_size (below_step HB.out HF.out)));have n20_:=aM (below_step (HF.out) hb);clear HF;have HO448:=n12_;have HO451:=n13_;have HF:=n20_;clear n12_ n13_ n20_;(try clear hb);(try clear ho0);(try clear ho1);obtain ⟨Ao132,co132,eo132⟩:=Kd.R_slice HO448.out;(first | subst eo132 | (injection eo132 with f1_ f2_ f3_;have f4_:=f1_.symm;have f5_:=f3_.symm;clear f1_ f2_ f3_;subst f4_;subst f5_));obtain ⟨Ao133,co133,eo133⟩:=Kd.R_slice HO451.out;(first | subst eo133 | (injection eo133 with f1_ f2_ f3_;have f4_:=f1_.symm;have f5_:=f3_.symm;clear f1_ f2_ f3_;subst f4_;subst f5_));refine hK.out _ _ (cj2_ (blk_below BK377.out HF.out) (cj5_ (blk_below BK397.out HF.out) (cj2_ (blk_below BK378.out HF.out) (cc5_ (blk_below BK398.out HF.out))))) (fun hHeld=>?_);clear hK K;refine nm_ 99 ?_;refine pu_ 3 100 #[I,I,I,I,I,O,O,O,O,O,O,O,O,O,O,O,O,O,O,O,O,O,O,O,O,O,O,O,O,O,O,O,O,O,O,O,O,O,O,O,O,O,O,O,O,O,O,O,O,O] HT_.out ?_;refine o1_ 5 102 #[I,I,I,I,I,I,O,O,O,O,O,O,O,O,O,O,O,O,O,O,O,O,O,O,O,O,O,O,O,O,O,O,O,O,O,O,O,O,O,O,O,O,O,O,O,O,O,O,O,O] HT_.out (fun K hK=>?_);refine gs_ Try.func11 #[.agg #[.slice Ao132 t446.length co132,.slice Ao133 t449.length co133],.agg #[.slice AB8 O2.length AB9,.slice AC2 H9.length u7]] ?_;(with_reducible refine (Y26.calls k2 _ _ t446 _ _ t449 _ _ O2 _ _ H9 true _ ?s1 ?s2 ?s3 ?s4 ?s5 ?s6 ?s7 ?s8 A113.out).mono ?_);(case s1=>repeat (first | exact (Kd.R_reads' HO448.out).2.2 | (with_reducible refine Kd.C_alloc ?_ _) | (with_reducible refine Kd.C_drewN ?_ _) | (with_reducible refine Kd.C_drew ?_)));(case s2=>exact (Kd.R_reads' HO448.out).2.1);(case s3=>repeat (first | exact (Kd.R_reads' HO451.out).2.2 | (with_reducible refine Kd.C_alloc ?_ _) | (with_reducible refine Kd.C_drewN ?_ _) | (with_reducible refine Kd.C_drew ?_)));(case s4=>exact (Kd.R_reads' HO451.out).2.1);(case s5=>repeat (first | exact (Kd.R_reads' (Kd.R_below HO367.out HF.out)).2.2 | (with_reducible refine Kd.C_alloc ?_ _) | (with_reducible refine Kd.C_drewN ?_ _) | (with_reducible refine Kd.C_drew ?_)));(case s6=>exact (Kd.R_reads' (Kd.R_below HO367.out HF.out)).2.1);(case s7=>repeat (first | exact (Kd.R_reads' (Kd.R_below HO370.out HF.out)).2.2 | (with_reducible refine Kd.C_alloc ?_ _) | (with_reducible refine Kd.C_drewN ?_ _) | (with_reducible refine Kd.C_drew ?_)));(case s8=>exact (Kd.R_reads' (Kd.R_below HO370.out HF.out)).2.1);rintro e w134 ⟨rfl,hb⟩;refine ⟨_,rfl,?_⟩;have n12_:=aM (Kd.R_below (z0_ HO448.out) hb);have n13_:=aM (Kd.R_below (z0_ HO451.out) hb);have n20_:=aM (below_step (HF.out) hb);clear HO448 HO451 HF;have HO448:=n12_;have HO451:=n13_;have HF:=n20_;clear n12_ n13_ n20_;(try clear hb);refine hK.out _ _ (cj2_ (blk_below BK377.out HF.out) (cj5_ (blk_below BK397.out HF.out) (cj2_ (blk_below BK378.out HF.out) (cc5_ (blk_below BK398.out HF.out))))) (fun hHeld=>?_);clear hK K;refine nm_ 102 ?_;refine pu_ 6 103 #[I,I,I,I,I,I,I,O,O,O,O,O,O,O,O,O,O,O,O,O,O,O,O,O,O,O,O,O,O,O,O,O,O,O,O,O,O,O,O,O,O,O,O,O,O,O,O,O,O,O] HT_.out ?_;refine pu_ 7 104 #[I,I,I,I,I,I,I,I,O,O,O,O,O,O,O,O,O,O,O,O,O,O,O,O,O,O,O,O,O,O,O,O,O,O,O,O,O,O,O,O,O,O,O,O,O,O,O,O,O,O] HT_.out ?_;refine pu_ 8 105 #[I,I,I,I,I,I,I,I,I,O,O,O,O,O,O,O,O,O,O,O,O,O,O,O,O,O,O,O,O,O,O,O,O,O,O,O,O,O,O,O,O,O,O,O,O,O,O,O,O,O] HT_.out ?_;refine pu_ 13 110 #[I,I,I,I,I,I,I,I,I,O,O,O,O,I,O,O,O,O,O,O,O,O,O,O,O,O,O,O,O,O,O,O,O,O,O,O,O,O,O,O,O,O,O,O,O,O,O,O,O,O] HT_.out ?_;refine tk14_ 9 106 #[I,I,I,I,I,I,I,I,I,I,O,O,O,I,O,O,O,O,O,O,O,O,O,O,O,O,O,O,O,O,O,O,O,O,O,O,O,O,O,O,O,O,O,O,O,O,O,O,O,O] HT_.out HW_.out hHeld ?_;refine tk14_ 10 107 #[I,I,I,I,I,I,I,I,I,I,I,O,O,I,O,O,O,O,O,O,O,O,O,O,O,O,O,O,O,O,O,O,O,O,O,O,O,O,O,O,O,O,O,O,O,O,O,O,O,O] HT_.out HW_.out hHeld ?_;refine tk14_ 14 111 #[I,I,I,I,I,I,I,I,I,I,I,O,O,I,I,O,O,O,O,O,O,O,O,O,O,O,O,O,O,O,O,O,O,O,O,O,O,O,O,O,O,O,O,O,O,O,O,O,O,O] HT_.out HW_.out hHeld ?_;refine o1_ 11 108 #[I,I,I,I,I,I,I,I,I,I,I,I,O,I,I,O,O,O,O,O,O,O,O,O,O,O,O,O,O,O,O,O,O,O,O,O,O,O,O,O,O,O,O,O,O,O,O,O,O,O] HT_.out (fun K hK=>?_);refine gs_ Try.func8 #[.agg #[.slice Ao35 t379.length co35,.slice Ao37 t382.length co37],.agg #[.slice AB8 O2.length AB9,.slice AC2 H9.length u7]] ?_;(with_reducible refine (Y10.calls k2 _ _ t379 _ _ t382 _ _ O2 _ _ H9 t456 t459 t462 t463 t464 _ ?s1 ?s2 ?s3 ?s4 ?s5 ?s6 ?s7 ?s8 A115.out).mono ?_);(case s1=>repeat (first | exact (Kd.R_reads' (Kd.R_below HO381.out HF.out)).2.2 | (with_reducible refine Kd.C_alloc ?_ _) | (with_reducible refine Kd.C_drewN ?_ _) | (with_reducible refine Kd.C_drew ?_)));(case s2=>exact (Kd.R_reads' (Kd.R_below HO381.out HF.out)).2.1);(case s3=>repeat (first | exact (Kd.R_reads' (Kd.R_below HO384.out HF.out)).2.2 | (with_reducible refine Kd.C_alloc ?_ _) | (with_reducible refine Kd.C_drewN ?_ _) | (with_reducible refine Kd.C_drew ?_)));(case s4=>exact (Kd.R_reads' (Kd.R_below HO384.out HF.out)).2.1);(case s5=>repeat (first | exact (Kd.R_reads' (Kd.R_below HO367.out HF.out)).2.2 | (with_reducible refine Kd.C_alloc ?_ _) | (with_reducible refine Kd.C_drewN ?_ _) | (with_reducible refine Kd.C_drew ?_)));(case s6=>exact (Kd.R_reads' (Kd.R_below HO367.out HF.out)).2.1);(case s7=>repeat (first | exact (Kd.R_reads' (Kd.R_below HO370.out HF.out)).2.2 | (with_reducible refine Kd.C_alloc ?_ _) | (with_reducible refine Kd.C_drewN ?_ _) | (with_reducible refine Kd.C_drew ?_)));(case s8=>exact (Kd.R_reads' (Kd.R_below HO370.out HF.out)).2.1);rintro e w135 ⟨v457,v460,rfl,ho0,ho1,hb⟩;refine ⟨_,rfl,?_⟩;have n12_:=aM (Kd.R_elder' (z0_ HO448.out) (Kd.R_base ho0) hb);have n13_:=aM (Kd.R_elder' (z0_ HO451.out) (Kd.R_base ho1) hb);have n14_:=aM (Kd.R_lower ho0 (below_size (below_step HB.out HF.out)));have n15_:=aM (Kd.R_lower ho1 (below_size (below_step HB.out HF.out)));have n22_:=aM (below_step (HF.out) hb);clear HO448 HO451 HF;have HO448:=n12_;have HO451:=n13_;have HO458:=n14_;have HO461:=n15_;have HF:=n22_;clear n12_ n13_ n14_ n15_ n22_;(try clear hb);(try clear ho0);(try clear ho1);obtain ⟨Ao136,co136,eo136⟩:=Kd.R_slice HO458.out;(first | subst eo136 | (injection eo136 with f1_ f2_ f3_;have f4_:=f1_.symm;have f5_:=f3_.symm;clear f1_ f2_ f3_;subst f4_;subst f5_));obtain ⟨Ao137,co137,eo137⟩:=Kd.R_slice HO461.out;(first | subst eo137 | (injection eo137 with f1_ f2_ f3_;have f4_:=f1_.symm;have f5_:=f3_.symm;clear f1_ f2_ f3_;subst f4_;subst f5_));refine hK.out _ _ (cj2_ (blk_below BK377.out HF.out) (cj5_ (blk_below BK397.out HF.out) (cj2_ (blk_below BK378.out HF.out) (cc5_ (blk_below BK398.out HF.out))))) (fun hHeld=>?_);clear hK K;refine nm_ 108 ?_;refine pu_ 12 109 #[I,I,I,I,I,I,I,I,I,I,I,I,I,I,I,O,O,O,O,O,O,O,O,O,O,O,O,O,O,O,O,O,O,O,O,O,O,O,O,O,O,O,O,O,O,O,O,O,O,O] HT_.out ?_;refine o1_ 15 112 #[I,I,I,I,I,I,I,I,I,I,I,I,I,I,I,I,O,O,O,O,O,O,O,O,O,O,O,O,O,O,O,O,O,O,O,O,O,O,O,O,O,O,O,O,O,O,O,O,O,O] HT_.out (fun K hK=>?_);refine gs_ Try.func11 #[.agg #[.slice Ao136 t456.length co136,.slice Ao137 t459.length co137],.agg #[.slice Ao35 t379.length co35,.slice Ao37 t382.length co37]] ?_;(with_reducible refine (Y26.calls k2 _ _ t456 _ _ t459 _ _ t379 _ _ t382 true _ ?s1 ?s2 ?s3 ?s4 ?s5 ?s6 ?s7 ?s8 A116.out).mono ?_);(case s1=>repeat (first | exact (Kd.R_reads' HO458.out).2.2 | (with_reducible refine Kd.C_alloc ?_ _) | (with_reducible refine Kd.C_drewN ?_ _) | (with_reducible refine Kd.C_drew ?_)));(case s2=>exact (Kd.R_reads' HO458.out).2.1);(case s3=>repeat (first | exact (Kd.R_reads' HO461.out).2.2 | (with_reducible refine Kd.C_alloc ?_ _) | (with_reducible refine Kd.C_drewN ?_ _) | (with_reducible refine Kd.C_drew ?_)));(case s4=>exact (Kd.R_reads' HO461.out).2.1);(case s5=>repeat (first | exact (Kd.R_reads' (Kd.R_below HO381.out HF.out)).2.2 | (with_reducible refine Kd.C_alloc ?_ _) | (with_reducible refine Kd.C_drewN ?_ _) | (with_reducible refine Kd.C_drew ?_)));(case s6=>exact (Kd.R_reads' (Kd.R_below HO381.out HF.out)).2.1);(case s7=>repeat (first | exact (Kd.R_reads' (Kd.R_below HO384.out HF.out)).2.2 | (with_reducible refine Kd.C_alloc ?_ _) | (with_reducible refine Kd.C_drewN ?_ _) | (with_reducible refine Kd.C_drew ?_)));(case s8=>exact (Kd.R_reads' (Kd.R_below HO384.out HF.out)).2.1);rintro e w138 ⟨rfl,hb⟩;refine ⟨_,rfl,?_⟩;have n12_:=aM (Kd.R_below (z0_ HO448.out) hb);have n13_:=aM (Kd.R_below (z0_ HO451.out) hb);have n14_:=aM (Kd.R_below (z0_ HO458.out) hb);have n15_:=aM (Kd.R_below (z0_ HO461.out) hb);have n22_:=aM (below_step (HF.out) hb);clear HO448 HO451 HO458 HO461 HF;have HO448:=n12_;have HO451:=n13_;have HO458:=n14_;have HO461:=n15_;have HF:=n22_;clear n12_ n13_ n14_ n15_ n22_;(try clear hb);refine hK.out _ _ (cj2_ (blk_below BK377.out HF.out) (cj5_ (blk_below BK397.out HF.out) (cj2_ (blk_below BK378.out HF.out) (cc5_ (blk_below BK398.out HF.out))))) (fun hHeld=>?_);clear hK K;refine nm_ 112 ?_;refine pu_ 16 113 #[I,I,I,I,I,I,I,I,I,I,I,I,I,I,I,I,I,O,O,O,O,O,O,O,O,O,O,O,O,O,O,O,O,O,O,O,O,O,O,O,O,O,O,O,O,O,O,O,O,O] HT_.out ?_;refine pu_ 17 114 #[I,I,I,I,I,I,I,I,I,I,I,I,I,I,I,I,I,I,O,O,O,O,O,O,O,O,O,O,O,O,O,O,O,O,O,O,O,O,O,O,O,O,O,O,O,O,O,O,O,O] HT_.out ?_;refine pu_ 18 115 #[I,I,I,I,I,I,I,I,I,I,I,I,I,I,I,I,I,I,I,O,O,O,O,O,O,O,O,O,O,O,O,O,O,O,O,O,O,O,O,O,O,O,O,O,O,O,O,O,O,O] HT_.out ?_;refine pu_ 20 117 #[I,I,I,I,I,I,I,I,I,I,I,I,I,I,I,I,I,I,I,O,I,O,O,O,O,O,O,O,O,O,O,O,O,O,O,O,O,O,O,O,O,O,O,O,O,O,O,O,O,O] HT_.out ?_;refine pu_ 24 121 #[I,I,I,I,I,I,I,I,I,I,I,I,I,I,I,I,I,I,I,O,I,O,O,O,I,O,O,O,O,O,O,O,O,O,O,O,O,O,O,O,O,O,O,O,O,O,O,O,O,O] HT_.out ?_;refine tk14_ 19 116 #[I,I,I,I,I,I,I,I,I,I,I,I,I,I,I,I,I,I,I,I,I,O,O,O,I,O,O,O,O,O,O,O,O,O,O,O,O,O,O,O,O,O,O,O,O,O,O,O,O,O] HT_.out HW_.out hHeld ?_;refine tk14_ 21 118 #[I,I,I,I,I,I,I,I,I,I,I,I,I,I,I,I,I,I,I,I,I,I,O,O,I,O,O,O,O,O,O,O,O,O,O,O,O,O,O,O,O,O,O,O,O,O,O,O,O,O] HT_.out HW_.out hHeld ?_;refine tk14_ 25 122 #[I,I,I,I,I,I,I,I,I,I,I,I,I,I,I,I,I,I,I,I,I,I,O,O,I,I,O,O,O,O,O,O,O,O,O,O,O,O,O,O,O,O,O,O,O,O,O,O,O,O] HT_.out HW_.out hHeld ?_;refine o1_ 22 119 #[I,I,I,I,I,I,I,I,I,I,I,I,I,I,I,I,I,I,I,I,I,I,I,O,I,I,O,O,O,O,O,O,O,O,O,O,O,O,O,O,O,O,O,O,O,O,O,O,O,O] HT_.out (fun K hK=>?_);refine gs_ Try.func8 #[.agg #[.slice Ao25 t371.length co25,.slice Ao27 t374.length co27],.agg #[.slice Ao35 t379.length co35,.slice Ao37 t382.length co37]] ?_;(with_reducible refine (Y10.calls k2 _ _ t371 _ _ t374 _ _ t379 _ _ t382 t466 t469 t472 t473 t474 _ ?s1 ?s2 ?s3 ?s4 ?s5 ?s6 ?s7 ?s8 A118.out).mono ?_);(case s1=>repeat (first | exact (Kd.R_reads' (Kd.R_below HO373.out HF.out)).2.2 | (with_reducible refine Kd.C_alloc ?_ _) | (with_reducible refine Kd.C_drewN ?_ _) | (with_reducible refine Kd.C_drew ?_)));(case s2=>exact (Kd.R_reads' (Kd.R_below HO373.out HF.out)).2.1);(case s3=>repeat (first | exact (Kd.R_reads' (Kd.R_below HO376.out HF.out)).2.2 | (with_reducible refine Kd.C_alloc ?_ _) | (with_reducible refine Kd.C_drewN ?_ _) | (with_reducible refine Kd.C_drew ?_)));(case s4=>exact (Kd.R_reads' (Kd.R_below HO376.out HF.out)).2.1);(case s5=>repeat (first | exact (Kd.R_reads' (Kd.R_below HO381.out HF.out)).2.2 | (with_reducible refine Kd.C_alloc ?_ _) | (with_reducible refine Kd.C_drewN ?_ _) | (with_reducible refine Kd.C_drew ?_)));(case s6=>exact (Kd.R_reads' (Kd.R_below HO381.out HF.out)).2.1);(case s7=>repeat (first | exact (Kd.R_reads' (Kd.R_below HO384.out HF.out)).2.2 | (with_reducible refine Kd.C_alloc ?_ _) | (with_reducible refine Kd.C_drewN ?_ _) | (with_reducible refine Kd.C_drew ?_)));(case s8=>exact (Kd.R_reads' (Kd.R_below HO384.out HF.out)).2.1);rintro e w139 ⟨v467,v470,rfl,ho0,ho1,hb⟩;refine ⟨_,rfl,?_⟩;have n12_:=aM (Kd.R_elder' (z0_ HO448.out) (Kd.R_base ho0) hb);have n13_:=aM (Kd.R_elder' (z0_ HO451.out) (Kd.R_base ho1) hb);have n14_:=aM (Kd.R_elder' (z0_ HO458.out) (Kd.R_base ho0) hb);have n15_:=aM (Kd.R_elder' (z0_ HO461.out) (Kd.R_base ho1) hb);have n16_:=aM (Kd.R_lower ho0 (below_size (below_step HB.out HF.out)));have n17_:=aM (Kd.R_lower ho1 (below_size (below_step HB.out HF.out)));have n24_:=aM (below_step (HF.out) hb);clear HO448 HO451 HO458 HO461 HF;have HO448:=n12_;have HO451:=n13_;have HO458:=n14_;have HO461:=n15_;have HO468:=n16_;have HO471:=n17_;have HF:=n24_;clear n12_ n13_ n14_ n15_ n16_ n17_ n24_;(try clear hb);(try clear ho0);(try clear ho1);obtain ⟨BX9,BY0,eo140⟩:=Kd.R_slice HO468.out;(first | subst eo140 | (injection eo140 with f1_ f2_ f3_;have f4_:=f1_.symm;have f5_:=f3_.symm;clear f1_ f2_ f3_;subst f4_;subst f5_));obtain ⟨Ao141,co141,eo141⟩:=Kd.R_slice HO471.out;(first | subst eo141 | (injection eo141 with f1_ f2_ f3_;have f4_:=f1_.symm;have f5_:=f3_.symm;clear f1_ f2_ f3_;subst f4_;subst f5_));refine hK.out _ _ (cj2_ (blk_below BK377.out HF.out) (cj5_ (blk_below BK397.out HF.out) (cj2_ (blk_below BK378.out HF.out) (cc5_ (blk_below BK398.out HF.out))))) (fun hHeld=>?_);clear hK K;refine nm_ 119 ?_;refine pu_ 23 120 #[I,I,I,I,I,I,I,I,I,I,I,I,I,I,I,I,I,I,I,I,I,I,I,I,I,I,O,O,O,O,O,O,O,O,O,O,O,O,O,O,O,O,O,O,O,O,O,O,O,O] HT_.out ?_;refine o1_ 26 123 #[I,I,I,I,I,I,I,I,I,I,I,I,I,I,I,I,I,I,I,I,I,I,I,I,I,I,I,O,O,O,O,O,O,O,O,O,O,O,O,O,O,O,O,O,O,O,O,O,O,O] HT_.out (fun K hK=>?_);refine gs_ Try.func11 #[.agg #[.slice BX9 t466.length BY0,.slice Ao141 t469.length co141],.agg #[.slice Ao35 t379.length co35,.slice Ao37 t382.length co37]] ?_;(with_reducible refine (Y26.calls k2 _ _ t466 _ _ t469 _ _ t379 _ _ t382 true _ ?s1 ?s2 ?s3 ?s4 ?s5 ?s6 ?s7 ?s8 A119.out).mono ?_);(case s1=>repeat (first | exact (Kd.R_reads' HO468.out).2.2 | (with_reducible refine Kd.C_alloc ?_ _) | (with_reducible refine Kd.C_drewN ?_ _) | (with_reducible refine Kd.C_drew ?_)));(case s2=>exact (Kd.R_reads' HO468.out).2.1);(case s3=>repeat (first | exact (Kd.R_reads' HO471.out).2.2 | (with_reducible refine Kd.C_alloc ?_ _) | (with_reducible refine Kd.C_drewN ?_ _) | (with_reducible refine Kd.C_drew ?_)));(case s4=>exact (Kd.R_reads' HO471.out).2.1);(case s5=>repeat (first | exact (Kd.R_reads' (Kd.R_below HO381.out HF.out)).2.2 | (with_reducible refine Kd.C_alloc ?_ _) | (with_reducible refine Kd.C_drewN ?_ _) | (with_reducible refine Kd.C_drew ?_)));(case s6=>exact (Kd.R_reads' (Kd.R_below HO381.out HF.out)).2.1);(case s7=>repeat (first | exact (Kd.R_reads' (Kd.R_below HO384.out HF.out)).2.2 | (with_reducible refine Kd.C_alloc ?_ _) | (with_reducible refine Kd.C_drewN ?_ _) | (with_reducible refine Kd.C_drew ?_)));(case s8=>exact (Kd.R_reads' (Kd.R_below HO384.out HF.out)).2.1);rintro e w142 ⟨rfl,hb⟩;refine ⟨_,rfl,?_⟩;have n12_:=aM (Kd.R_below (z0_ HO448.out) hb);have n13_:=aM (Kd.R_below (z0_ HO451.out) hb);have n14_:=aM (Kd.R_below (z0_ HO458.out) hb);have n15_:=aM (Kd.R_below (z0_ HO461.out) hb);have n16_:=aM (Kd.R_below (z0_ HO468.out) hb);have n17_:=aM (Kd.R_below (z0_ HO471.out) hb);have n24_:=aM (below_step (HF.out) hb);clear HO448 HO451 HO458 HO461 HO468 HO471 HF;have HO448:=n12_;have HO451:=n13_;have HO458:=n14_;have HO461:=n15_;have HO468:=n16_;have HO471:=n17_;have HF:=n24_;clear n12_ n13_ n14_ n15_ n16_ n17_ n24_;(try clear hb);refine hK.out _ _ (cj2_ (blk_below BK377.out HF.out) (cj5_ (blk_below BK397.out HF.out) (cj2_ (blk_below BK378.out HF.out) (cc5_ (blk_below BK398.out HF.out))))) (fun hHeld=>?_);clear hK K;refine nm_ 123 ?_;refine pu_ 27 124 #[I,I,I,I,I,I,I,I,I,I,I,I,I,I,I,I,I,I,I,I,I,I,I,I,I,I,I,I,O,O,O,O,O,O,O,O,O,O,O,O,O,O,O,O,O,O,O,O,O,O] HT_.out ?_;refine pu_ 28 125 #[I,I,I,I,I,I,I,I,I,I,I,I,I,I,I,I,I,I,I,I,I,I,I,I,I,I,I,I,I,O,O,O,O,O,O,O,O,O,O,O,O,O,O,O,O,O,O,O,O,O] HT_.out ?_;refine pu_ 29 126 #[I,I,I,I,I,I,I,I,I,I,I,I,I,I,I,I,I,I,I,I,I,I,I,I,I,I,I,I,I,I,O,O,O,O,O,O,O,O,O,O,O,O,O,O,O,O,O,O,O,O] HT_.out ?_;refine pu_ 30 127 #[I,I,I,I,I,I,I,I,I,I,I,I,I,I,I,I,I,I,I,I,I,I,I,I,I,I,I,I,I,I,I,O,O,O,O,O,O,O,O,O,O,O,O,O,O,O,O,O,O,O] HT_.out ?_;refine pu_ 31 128 #[I,I,I,I,I,I,I,I,I,I,I,I,I,I,I,I,I,I,I,I,I,I,I,I,I,I,I,I,I,I,I,I,O,O,O,O,O,O,O,O,O,O,O,O,O,O,O,O,O,O] HT_.out ?_;refine pu_ 34 131 #[I,I,I,I,I,I,I,I,I,I,I,I,I,I,I,I,I,I,I,I,I,I,I,I,I,I,I,I,I,I,I,I,O,O,I,O,O,O,O,O,O,O,O,O,O,O,O,O,O,O] HT_.out ?_;refine pu_ 35 132 #[I,I,I,I,I,I,I,I,I,I,I,I,I,I,I,I,I,I,I,I,I,I,I,I,I,I,I,I,I,I,I,I,O,O,I,I,O,O,O,O,O,O,O,O,O,O,O,O,O,O] HT_.out ?_;refine tk14_ 32 129 #[I,I,I,I,I,I,I,I,I,I,I,I,I,I,I,I,I,I,I,I,I,I,I,I,I,I,I,I,I,I,I,I,I,O,I,I,O,O,O,O,O,O,O,O,O,O,O,O,O,O] HT_.out HW_.out hHeld ?_;refine pu_ 33 130 #[I,I,I,I,I,I,I,I,I,I,I,I,I,I,I,I,I,I,I,I,I,I,I,I,I,I,I,I,I,I,I,I,I,I,I,I,O,O,O,O,O,O,O,O,O,O,O,O,O,O] HT_.out ?_;refine tk14_ 36 133 #[I,I,I,I,I,I,I,I,I,I,I,I,I,I,I,I,I,I,I,I,I,I,I,I,I,I,I,I,I,I,I,I,I,I,I,I,I,O,O,O,O,O,O,O,O,O,O,O,O,O] HT_.out HW_.out hHeld ?_;refine pu_ 37 134 #[I,I,I,I,I,I,I,I,I,I,I,I,I,I,I,I,I,I,I,I,I,I,I,I,I,I,I,I,I,I,I,I,I,I,I,I,I,I,O,O,O,O,O,O,O,O,O,O,O,O] HT_.out ?_;refine pu_ 38 135 #[I,I,I,I,I,I,I,I,I,I,I,I,I,I,I,I,I,I,I,I,I,I,I,I,I,I,I,I,I,I,I,I,I,I,I,I,I,I,I,O,O,O,O,O,O,O,O,O,O,O] HT_.out ?_;refine pu_ 39 136 #[I,I,I,I,I,I,I,I,I,I,I,I,I,I,I,I,I,I,I,I,I,I,I,I,I,I,I,I,I,I,I,I,I,I,I,I,I,I,I,I,O,O,O,O,O,O,O,O,O,O] HT_.out ?_;refine pu_ 40 137 #[I,I,I,I,I,I,I,I,I,I,I,I,I,I,I,I,I,I,I,I,I,I,I,I,I,I,I,I,I,I,I,I,I,I,I,I,I,I,I,I,I,O,O,O,O,O,O,O,O,O] HT_.out ?_;refine pu_ 41 138 #[I,I,I,I,I,I,I,I,I,I,I,I,I,I,I,I,I,I,I,I,I,I,I,I,I,I,I,I,I,I,I,I,I,I,I,I,I,I,I,I,I,I,O,O,O,O,O,O,O,O] HT_.out ?_;refine pu_ 42 139 #[I,I,I,I,I,I,I,I,I,I,I,I,I,I,I,I,I,I,I,I,I,I,I,I,I,I,I,I,I,I,I,I,I,I,I,I,I,I,I,I,I,I,I,O,O,O,O,O,O,O] HT_.out ?_;refine pu_ 44 141 #[I,I,I,I,I,I,I,I,I,I,I,I,I,I,I,I,I,I,I,I,I,I,I,I,I,I,I,I,I,I,I,I,I,I,I,I,I,I,I,I,I,I,I,O,I,O,O,O,O,O] HT_.out ?_;refine pu_ 45 142 #[I,I,I,I,I,I,I,I,I,I,I,I,I,I,I,I,I,I,I,I,I,I,I,I,I,I,I,I,I,I,I,I,I,I,I,I,I,I,I,I,I,I,I,O,I,I,O,O,O,O] HT_.out ?_;refine tk14_ 43 140 #[I,I,I,I,I,I,I,I,I,I,I,I,I,I,I,I,I,I,I,I,I,I,I,I,I,I,I,I,I,I,I,I,I,I,I,I,I,I,I,I,I,I,I,I,I,I,O,O,O,O] HT_.out HW_.out hHeld ?_;refine tk14_ 46 143 #[I,I,I,I,I,I,I,I,I,I,I,I,I,I,I,I,I,I,I,I,I,I,I,I,I,I,I,I,I,I,I,I,I,I,I,I,I,I,I,I,I,I,I,I,I,I,I,O,O,O] HT_.out HW_.out hHeld ?_;refine o1_ 47 144 #[I,I,I,I,I,I,I,I,I,I,I,I,I,I,I,I,I,I,I,I,I,I,I,I,I,I,I,I,I,I,I,I,I,I,I,I,I,I,I,I,I,I,I,I,I,I,I,I,O,O] HT_.out (fun K hK=>?_);refine gs_ Try.func12 #[.slice Ao35 t379.length co35,.slice Ao42 t388.length co42] ?_;(with_reducible refine (Y27.calls k2 _ _ t379 _ _ t388 true _ ?s1 ?s2 ?s3 ?s4 A122.out).mono ?_);(case s1=>repeat (first | exact (Kd.R_reads' (Kd.R_below HO381.out HF.out)).2.2 | (with_reducible refine Kd.C_alloc ?_ _) | (with_reducible refine Kd.C_drewN ?_ _) | (with_reducible refine Kd.C_drew ?_)));(case s2=>exact (Kd.R_reads' (Kd.R_below HO381.out HF.out)).2.1);(case s3=>repeat (first | exact (Kd.R_reads' (Kd.R_below HO390.out HF.out)).2.2 | (with_reducible refine Kd.C_alloc ?_ _) | (with_reducible refine Kd.C_drewN ?_ _) | (with_reducible refine Kd.C_drew ?_)));(case s4=>exact (Kd.R_reads' (Kd.R_below HO390.out HF.out)).2.1);rintro e w' ⟨rfl,⟨nd,rfl⟩⟩;refine ⟨_,rfl,?_⟩;refine hK.out _ _ (cj2_ (blk_below BK377.out (pw_below_drewN HF.out nd)) (cj5_ (blk_below BK397.out (pw_below_drewN HF.out nd)) (cj2_ (blk_below BK378.out (pw_below_drewN HF.out nd)) (cc5_ (blk_below BK398.out (pw_below_drewN HF.out nd)))))) (fun hHeld=>?_);clear hK K;refine nm_ 144 ?_;refine pu_ 48 145 #[I,I,I,I,I,I,I,I,I,I,I,I,I,I,I,I,I,I,I,I,I,I,I,I,I,I,I,I,I,I,I,I,I,I,I,I,I,I,I,I,I,I,I,I,I,I,I,I,I,O] HT_.out ?_;refine pu_ 49 146 #[I,I,I,I,I,I,I,I,I,I,I,I,I,I,I,I,I,I,I,I,I,I,I,I,I,I,I,I,I,I,I,I,I,I,I,I,I,I,I,I,I,I,I,I,I,I,I,I,I,I] HT_.out ?_;refine done_ (done_of HT_.out (by kernel_rfl)) ?_;(try go_wp2);go_loopg [13] k2 (fun kq v13 w'=>∃ (x13_3:Int),v13 = .int .i64 x13_3∧Aside0 (Y6.l2 kq x13_3 t379 t382 t385 t386 t387 t388 t391 t394 t395 t396=some r)∧Aside0 (kq≤k2)∧Aside0 (Below w67.heap.size w67 w'));case atStart=>exact ⟨(0),(z3_),H',⟨Nat.le_refl _⟩,⟨z5_ HF.out⟩⟩
               case round=>as_aux_lemma =>
                clear H';(try clear c1);(try clear p2);(try clear c8);(try clear c11);(try clear c12);obtain ⟨x13_3,rfl,HA,HK3,HF⟩:=hrel
                cases gk with
                | zero=>exact absurd HA.out (by simp [Y6.l2])
                | succ k3 =>
                 have H:=HA.out;clear HA;simp only [Y6.l2] at H;by_cases c143:x13_3<(t382.length:Int)
                 ·rw [if_pos c143] at H;have c143b0:decide (x13_3<(t382.length:Int))=true:=dE c143;clear c143;by_cases c144:0≤x13_3
                  ·rw [if_pos c144] at H;have c144b0:decide (0≤x13_3)=true:=dE c144;clear c144;by_cases c145:x13_3<(t391.length:Int)
                   ·rw [if_pos c145] at H;have c145b0:decide (x13_3<(t391.length:Int))=true:=dE c145;clear c145;by_cases c146:(!(((rd_T36 t382 x13_3).f0.f0) == ((rd_T36 t391 x13_3).f0.f0)) || (!(((rd_T36 t382 x13_3).f0.f1) == ((rd_T36 t391 x13_3).f0.f1))))=true
                    ·rw [if_pos c146] at H;exact nO H
                    ·rw [if_neg c146] at H;(have c146b0:(!(((rd_T36 t382 x13_3).f0.f0) == ((rd_T36 t391 x13_3).f0.f0)) || (!(((rd_T36 t382 x13_3).f0.f1) == ((rd_T36 t391 x13_3).f0.f1))))=false:=by simpa using c146);clear c146;have H':=aM H;clear H;have hnb147:=NB397_377.out;have hnc147:=NB377_397.out;have hnb148:=NB397_378.out;have hnc148:=NB378_397.out;have hnb149:=NB397_398.out;have hnc149:=NB398_397.out;have hnb150:=NB397_411.out;have hnc150:=NB411_397.out;have hnb151:=NB397_412.out;have hnc151:=NB412_397.out;have hcz152_0:wr.cell? ⟨gb397,0,none⟩=some (.slice Ao35 t379.length co35):=(blk_cell (blk_below BK397.out HF.out) 0).trans rfl;have hcz152_1:wr.cell? ⟨gb397,1,none⟩=some (.slice Ao37 t382.length co37):=(blk_cell (blk_below BK397.out HF.out) 1).trans rfl;have hcz152_2:wr.cell? ⟨gb397,2,none⟩=some (.int .i64 t385):=(blk_cell (blk_below BK397.out HF.out) 2).trans rfl;have hcz152_3:wr.cell? ⟨gb397,3,none⟩=some (.int .i64 t386):=(blk_cell (blk_below BK397.out HF.out) 3).trans rfl;have hcz152_4:wr.cell? ⟨gb397,4,none⟩=some (.int .i64 t387):=(blk_cell (blk_below BK397.out HF.out) 4).trans rfl;have hfz152_0:=blk_frozen (blk_below BK397.out HF.out) 0;have hfz152_1:=blk_frozen (blk_below BK397.out HF.out) 1;have hfz152_2:=blk_frozen (blk_below BK397.out HF.out) 2;have hfz152_3:=blk_frozen (blk_below BK397.out HF.out) 3;have hfz152_4:=blk_frozen (blk_below BK397.out HF.out) 4;(try go_wp2);have n18_:=aM (below_drew1 HF.out);clear HF;have HF:=n18_;clear n18_;have p477:0≤(x13_3:Int):=dT (z2_);have q477:x13_3<(t382.length:Int):=dT (z2_);obtain ⟨ad477,e477,hx477_0,hx477_1,hx477_2,hx477_3⟩:=at_T36 (Kd.R_reads' (Kd.R_below HO384.out HF.out)).2.2 x13_3 p477 q477;cases e477;replace p477:=eq_true p477;replace q477:=eq_true q477;have p478:0≤(x13_3:Int):=dT (z2_);have q478:x13_3<(t391.length:Int):=dT (z2_);obtain ⟨ad478,e478,hx478_0,hx478_1,hx478_2,hx478_3⟩:=at_T36 (Kd.R_reads' (Kd.R_below HO393.out HF.out)).2.2 x13_3 p478 q478;cases e478;replace p478:=eq_true p478;replace q478:=eq_true q478;refine start_ (n:=15) (S:=fun w'=>w'.cell? ⟨gb397,0,none⟩=some (.slice Ao35 t379.length co35)∧w'.cell? ⟨gb397,1,none⟩=some (.slice (some ad477) t382.length co37)∧w'.cell? ⟨gb397,2,none⟩=some (.int .i64 t385)∧w'.cell? ⟨gb397,3,none⟩=some (.int .i64 t386)∧w'.cell? ⟨gb397,4,none⟩=some (.int .i64 t387)∧w'.cell? ⟨gb398,0,none⟩=some (.slice Ao42 t388.length co42)∧w'.cell? ⟨gb398,1,none⟩=some (.slice (some ad478) t391.length co44)∧w'.cell? ⟨gb398,2,none⟩=some (.int .i64 t394)∧w'.cell? ⟨gb398,3,none⟩=some (.int .i64 t395)∧w'.cell? ⟨gb398,4,none⟩=some (.int .i64 t396)∧w'.cell? (ad477.add ((x13_3).toNat*4))=some (.int .i64 ((rd_T36 t382 x13_3).f0.f0))∧w'.cell? ⟨(ad477.add ((x13_3).toNat*4)).block,(ad477.add ((x13_3).toNat*4)).off+1,none⟩=some (.int .i64 ((rd_T36 t382 x13_3).f0.f1))∧w'.cell? ⟨(ad477.add ((x13_3).toNat*4)).block,(ad477.add ((x13_3).toNat*4)).off+2,none⟩=some (.bool ((rd_T36 t382 x13_3).f1))∧w'.cell? ⟨(ad477.add ((x13_3).toNat*4)).block,(ad477.add ((x13_3).toNat*4)).off+3,none⟩=some (.string ((rd_T36 t382 x13_3).f2))∧w'.cell? (ad478.add ((x13_3).toNat*4))=some (.int .i64 ((rd_T36 t391 x13_3).f0.f0))∧w'.cell? ⟨(ad478.add ((x13_3).toNat*4)).block,(ad478.add ((x13_3).toNat*4)).off+1,none⟩=some (.int .i64 ((rd_T36 t391 x13_3).f0.f1))∧w'.cell? ⟨(ad478.add ((x13_3).toNat*4)).block,(ad478.add ((x13_3).toNat*4)).off+2,none⟩=some (.bool ((rd_T36 t391 x13_3).f1))∧w'.cell? ⟨(ad478.add ((x13_3).toNat*4)).block,(ad478.add ((x13_3).toNat*4)).off+3,none⟩=some (.string ((rd_T36 t391 x13_3).f2))) (ds:=[]) #[O,O,O,O,O,O,O,O,O,O,O,O,O,O,O] (by kernel_rfl) rfl rfl (cj5_ (blk_below BK397.out HF.out) (cj5_ (blk_below BK398.out HF.out) ⟨hx477_0,⟨hx477_1,⟨hx477_2,⟨hx477_3,⟨hx478_0,⟨hx478_1,⟨hx478_2,hx478_3⟩⟩⟩⟩⟩⟩⟩)) (fun hHeld=>?_);refine with_tabW Y6.tab23 Y6.bits23 (fun HT_ HW_=>?_);generalize wr.drew=w153 at HF hx477_0 hx477_1 hx477_2 hx477_3 hx478_0 hx478_1 hx478_2 hx478_3 hHeld ⊢;refine pu_ 0 155 #[I,O,O,O,O,O,O,O,O,O,O,O,O,O,O] HT_.out ?_;refine pu_ 1 156 #[I,I,O,O,O,O,O,O,O,O,O,O,O,O,O] HT_.out ?_;refine pu_ 3 158 #[I,I,O,I,O,O,O,O,O,O,O,O,O,O,O] HT_.out ?_;refine pu_ 7 162 #[I,I,O,I,O,O,O,I,O,O,O,O,O,O,O] HT_.out ?_;refine pu_ 8 163 #[I,I,O,I,O,O,O,I,I,O,O,O,O,O,O] HT_.out ?_;refine pu_ 10 165 #[I,I,O,I,O,O,O,I,I,O,I,O,O,O,O] HT_.out ?_;refine take_ (i:=2) (N:=some 157) (v:=?_) (a':=?_) #[I,I,I,I,O,O,O,I,I,O,I,O,O,O,O] rfl rfl (take_ofW HT_.out HW_.out (by kernel_rfl)) (fun _ _ _ h=>h) (Or.inl ⟨by rfl,?_⟩) hHeld ?_ ?_;rotate_left
                     ·rintro w' ⟨s0,s1,s2,s3,s4,s5,s6,s7,s8,s9,s10,s11,s12,s13,s14,s15,s16,s17⟩;go_simp;with_reducible rfl
                     rotate_left
                     ·simp only [Act.put,sa_,s0_,ss_,i64_w,i32_w];rfl
                     refine pu_ 4 159 #[I,I,I,I,I,O,O,I,I,O,I,O,O,O,O] HT_.out ?_;refine pu_ 5 160 #[I,I,I,I,I,I,O,I,I,O,I,O,O,O,O] HT_.out ?_;refine take_ (i:=6) (N:=some 161) (v:=?_) (a':=?_) #[I,I,I,I,I,I,I,I,I,O,I,O,O,O,O] rfl rfl (take_ofW HT_.out HW_.out (by kernel_rfl)) (fun _ _ _ h=>h) (Or.inl ⟨by rfl,?_⟩) hHeld ?_ ?_;rotate_left
                     ·rintro w' ⟨s0,s1,s2,s3,s4,s5,s6,s7,s8,s9,s10,s11,s12,s13,s14,s15,s16,s17⟩;go_simp;with_reducible rfl
                     rotate_left
                     ·simp only [Act.put,sa_,s0_,ss_,i64_w,i32_w];rfl
                     refine take_ (i:=9) (N:=some 164) (v:=?_) (a':=?_) #[I,I,I,I,I,I,I,I,I,I,I,O,O,O,O] rfl rfl (take_ofW HT_.out HW_.out (by kernel_rfl)) (fun _ _ _ h=>h) (Or.inl ⟨by rfl,?_⟩) hHeld ?_ ?_;rotate_left
                     ·rintro w' ⟨s0,s1,s2,s3,s4,s5,s6,s7,s8,s9,s10,s11,s12,s13,s14,s15,s16,s17⟩;go_simp;with_reducible rfl
                     rotate_left
                     ·simp only [Act.put,sa_,s0_,ss_,i64_w,i32_w];rfl
                     refine pu_ 11 166 #[I,I,I,I,I,I,I,I,I,I,I,I,O,O,O] HT_.out ?_;refine pu_ 12 167 #[I,I,I,I,I,I,I,I,I,I,I,I,I,O,O] HT_.out ?_;refine take_ (i:=13) (N:=some 168) (v:=?_) (a':=?_) #[I,I,I,I,I,I,I,I,I,I,I,I,I,I,O] rfl rfl (take_ofW HT_.out HW_.out (by kernel_rfl)) (fun _ _ _ h=>h) (Or.inl ⟨by rfl,?_⟩) hHeld ?_ ?_;rotate_left
                     ·rintro w' ⟨s0,s1,s2,s3,s4,s5,s6,s7,s8,s9,s10,s11,s12,s13,s14,s15,s16,s17⟩;go_simp;with_reducible rfl
                     rotate_left
                     ·simp only [Act.put,sa_,s0_,ss_,i64_w,i32_w];rfl
                     refine pu_ 14 169 #[I,I,I,I,I,I,I,I,I,I,I,I,I,I,I] HT_.out ?_;refine done_ (done_of HT_.out (by kernel_rfl)) ?_;(try go_wp2);go_roundg k3;(case measure=>have:=HJ2.out;have:=HK2.out;have:=HK3.out;omega);case rel=>exact ⟨(wrap64 (x13_3+1)),(z3_),H',⟨by have:=HJ2.out;have:=HK2.out;have:=HK3.out;omega⟩,⟨z5_ HF.out⟩⟩
                   ·rw [if_neg c145] at H;exact nO H
                  ·rw [if_neg c144] at H;exact nO H
                 ·rw [if_neg c143] at H;have c143b0:decide (x13_3<(t382.length:Int))=false:=dF c143;clear c143;obtain rfl:=sI H;have hnb154:=NB397_377.out;have hnc154:=NB377_397.out;have hnb155:=NB397_378.out;have hnc155:=NB378_397.out;have hnb156:=NB397_398.out;have hnc156:=NB398_397.out;have hnb157:=NB397_411.out;have hnc157:=NB411_397.out;have hnb158:=NB397_412.out;have hnc158:=NB412_397.out;have hcz159_0:wr.cell? ⟨gb397,0,none⟩=some (.slice Ao35 t379.length co35):=(blk_cell (blk_below BK397.out HF.out) 0).trans rfl;have hcz159_1:wr.cell? ⟨gb397,1,none⟩=some (.slice Ao37 t382.length co37):=(blk_cell (blk_below BK397.out HF.out) 1).trans rfl;have hcz159_2:wr.cell? ⟨gb397,2,none⟩=some (.int .i64 t385):=(blk_cell (blk_below BK397.out HF.out) 2).trans rfl;have hcz159_3:wr.cell? ⟨gb397,3,none⟩=some (.int .i64 t386):=(blk_cell (blk_below BK397.out HF.out) 3).trans rfl;have hcz159_4:wr.cell? ⟨gb397,4,none⟩=some (.int .i64 t387):=(blk_cell (blk_below BK397.out HF.out) 4).trans rfl;have hfz159_0:=blk_frozen (blk_below BK397.out HF.out) 0;have hfz159_1:=blk_frozen (blk_below BK397.out HF.out) 1;have hfz159_2:=blk_frozen (blk_below BK397.out HF.out) 2;have hfz159_3:=blk_frozen (blk_below BK397.out HF.out) 3;have hfz159_4:=blk_frozen (blk_below BK397.out HF.out) 4;go_wp2;go_ret;exact ⟨z8_,below_step HB.out HF.out⟩
              ·replace c123:=Bool.eq_false_iff.mpr c123;subst c123;(have H1:(none)=some r:=by rw [if_neg (show ¬ (false=true) by decide)] at H;exact H);clear H;have H:=H1;clear H1;exact nO H
             ·rw [if_neg c121] at H;exact nO H
            ·replace c120:=Bool.eq_false_iff.mpr c120;subst c120;(have H1:(none)=some r:=by rw [if_neg (show ¬ (false=true) by decide)] at H;exact H);clear H;have H:=H1;clear H1;exact nO H
           ·replace c117:=Bool.eq_false_iff.mpr c117;subst c117;(have H1:(none)=some r:=by rw [if_neg (show ¬ (false=true) by decide)] at H;exact H);clear H;have H:=H1;clear H1;exact nO H
          ·replace c114:=Bool.eq_false_iff.mpr c114;subst c114;(have H1:(none)=some r:=by rw [if_neg (show ¬ (false=true) by decide)] at H;exact H);clear H;have H:=H1;clear H1;exact nO H
      ·rw [if_neg c17] at H;have c17b0:(t387 == 0)=false:=beq_eq_false_iff_ne.mpr c17;have c17b1:(t387 != 0)=true:=bne_iff_ne.mpr c17;obtain rfl:=sI H;(try go_wp2);go_ret;exact ⟨z8_,below_step HB.out HF.out⟩
     ·replace c16:=Bool.eq_false_iff.mpr c16;subst c16;(have H1:(none)=some r:=by rw [if_neg (show ¬ (false=true) by decide)] at H;exact H);clear H;have H:=H1;clear H1;exact nO H
    ·replace c12:=Bool.eq_false_iff.mpr c12;subst c12;(have H1:(none)=some r:=by rw [if_neg (show ¬ (false=true) by decide)] at H;exact H);clear H;have H:=H1;clear H1;exact nO H

/-- THE ONE PURE STATEMENT of Y6: yours. -/
def Y6.Pure:Prop:=∀ (l0:List Int) (l1:List Int),l0.length≤maxLen→l0.length*1≤140737488351232→(∀ x ∈ l0,(Lit.int .u8 x).wf=true)→l1.length≤maxLen→l1.length*1≤140737488351232→(∀ x ∈ l1,(Lit.int .u8 x).wf=true)→∃ k,Y6.f k l0 l1=some true
theorem Y6.walk (P:Y6.Pure) (a0:Option Addr) (len0 cap0:Nat) (z0:List Int) (a1:Option Addr) (len1 cap1:Nat) (z1:List Int) (w:World) (w0:(a0=none∧len0=0∧cap0=0∧z0=[])∨∃ x,a0=some x∧len0≤cap0∧cap0≤maxLen∧z0.length=cap0∧(∀ i,i<z0.length→w.cell? (x.add i)=some (.int .u8 (z0.getD i 0)))∧∀ n ∈ z0,(Lit.int .u8 n).wf=true) (y0:len0*1≤140737488351232) (w1:(a1=none∧len1=0∧cap1=0∧z1=[])∨∃ x,a1=some x∧len1≤cap1∧cap1≤maxLen∧z1.length=cap1∧(∀ i,i<z1.length→w.cell? (x.add i)=some (.int .u8 (z1.getD i 0)))∧∀ n ∈ z1,(Lit.int .u8 n).wf=true) (y1:len1*1≤140737488351232) :
  Calls Try.prog 3 #[.slice a0 len0 cap0,.slice a1 len1 cap1] w fun e w'=>e = .returned (.bool true)∧Below w.heap.size w w':=by
 obtain ⟨l0,rfl,hr0,hm0,hw0,hc0⟩:=ReadsInt.ofRowC w0;obtain ⟨l1,rfl,hr1,hm1,hw1,hc1⟩:=ReadsInt.ofRowC w1;obtain ⟨k,h⟩:=P l0 l1 hm0 y0 hw0 hm1 y1 hw1;refine (Y6.calls k _ _ l0 _ _ l1 true w (Kd.C_of_reads (d:=(0:Int)) (h1:=fun _=>rfl) hr0) hc0 (Kd.C_of_reads (d:=(0:Int)) (h1:=fun _=>rfl) hr1) hc1 h).mono ?_;rintro e w' ⟨rfl,hd⟩;exact ⟨rfl,hd⟩

end Go.Proofs.Ytlglglbjckpnbaa.P

namespace Go.Proofs.Ytlglglbjckpnbaa.Q
open Go.RowKit Go.Proofs.YtlglglbjckpnbaaW.PrintWords Go.Proofs.YtlglglbjckpnbaaW.PrintMore

theorem w64 {x:Int} (h0 : -9223372036854775808≤x) (h1:x≤9223372036854775807):wrap64 x=x:=by unfold wrap64;omega
theorem u64w (n:Int):IntKind.u64.wrap n=n % 18446744073709551616:=by simp [IntKind.wrap,IntKind.bits,IntKind.signed]
theorem evIte {α:Type} {c:Prop} [Decidable c] {f g:Nat→Option α} {r:α} (h:c→Ev f r) (h':¬ c→Ev g r):Ev (fun k=>if c then f k else g k) r:=by
  by_cases hc:c
  · simp only [if_pos hc];exact h hc
  · simp only [if_neg hc];exact h' hc
theorem evPos {α:Type} {c:Prop} [Decidable c] {f g:Nat→Option α} {r:α} (hc:c) (h:Ev f r):Ev (fun k=>if c then f k else g k) r:=by
  simp only [if_pos hc];exact h
theorem evNeg {α:Type} {c:Prop} [Decidable c] {f g:Nat→Option α} {r:α} (hc:¬ c) (h:Ev g r):Ev (fun k=>if c then f k else g k) r:=by
  simp only [if_neg hc];exact h
theorem evBind1 {α β:Type} {g:Option α} {f:Nat→α→Option β} {a:α} {r:β} (h:g=some a) (k:Ev (fun n=>f n a) r):Ev (fun n=>g.bind (f n)) r:=by
  subst h;exact k
theorem dropCons {α:Type} {l:List α} {i:Nat} {a:α} {s:List α} (h:l.drop i=a :: s) (d:α):i<l.length∧l.getD i d=a∧l.drop (i+1)=s:=by
  have hl:i<l.length:=by
    have:=congrArg List.length h
    simp at this;omega
  rw [List.drop_eq_getElem_cons hl] at h
  injection h with h1 h2
  exact ⟨hl,by rw [List.getD_eq_getElem?_getD,List.getElem?_eq_getElem hl];exact h1,h2⟩
theorem dropNil {α:Type} {l:List α} {i:Nat} (h:l.drop i=[]):l.length≤i:=by
  have:=congrArg List.length h
  simp at this;omega
theorem dropNil' {α:Type} {l:List α} {i:Nat} (h:l.drop i=[]) (hi:i≤l.length):l.length=i:=by
  have:=dropNil h;omega
end Go.Proofs.Ytlglglbjckpnbaa.Q

namespace Go.Proofs.Ytlglglbjckpnbaa.Q
open Go.RowKit Go.Proofs.Ytlglglbjckpnbaa.P Go.Proofs.YtlglglbjckpnbaaW.PrintWords Go.Proofs.YtlglglbjckpnbaaW.PrintMore

/-- A source in order: where it stands, its mix, its size. -/
def SrcOk (b:List Int) (a m z:Int):Prop:=(0≤a∧a≤(b.length:Int))∧(0≤m∧m<18446744073709551616)∧(0≤z∧z≤12)∧b.length≤1048576
theorem xorw_range (x y:Int):0≤Go.bits .xor .u64 x y∧Go.bits .xor .u64 x y<18446744073709551616:=by
  have key:∀ n:Int,0≤IntKind.u64.wrap n∧IntKind.u64.wrap n<18446744073709551616:=fun n=>by rw [u64w];omega
  exact key _
theorem n_end {q most:Int} (hm:1<most) (hm2:most≤9223372036854775807):IntKind.u64.wrap most=most∧wrap64 (Int.tmod (IntKind.u64.wrap q) most)=(q % 18446744073709551616) % most:=by
  refine ⟨by rw [u64w];omega,?_⟩
  rw [u64w,Int.tmod_eq_emod_of_nonneg (by omega)]
  have h1:=Int.emod_nonneg (q % 18446744073709551616) (show most≠0 by omega)
  have h2:=Int.emod_lt_of_pos (q % 18446744073709551616) (show 0<most by omega)
  exact w64 (by omega) (by omega)
theorem n_ok {b:List Int} {a m z:Int} (h:SrcOk b a m z) (most:Int) (h2:most≤9223372036854775807) :
    ∃ r a' m',Y3.f b a m z most=some (r,a',m',z)∧0≤r∧(1<most→r<most)∧(most≤1→r=0)∧SrcOk b a' m' z:=by
  obtain ⟨⟨a0,a1⟩,hm,hz,hb⟩:=h
  by_cases h1:most≤1
  · exact ⟨0,a,m,by unfold Y3.f;rw [if_pos h1],by omega,by omega,fun _=>rfl,⟨a0,a1⟩,hm,hz,hb⟩
  · have hx:=fun x y=>xorw_range x y
    have fin:∀ q:Int,0≤(q % 18446744073709551616) % most∧(q % 18446744073709551616) % most<most:=fun q=>⟨Int.emod_nonneg _ (by omega),Int.emod_lt_of_pos _ (by omega)⟩
    unfold Y3.f
    rw [if_neg h1]
    by_cases ha:a<(b.length:Int)
    · rw [if_pos ha,if_pos a0,if_neg (by rw [(n_end (q:=0) (by omega) h2).1];omega)]
      refine ⟨_,_,_,by rw [(n_end (q:=0) (by omega) h2).1,(n_end (by omega) h2).2],(fin _).1,fun _=>(fin _).2,by omega,?_,hx _ _,hz,hb⟩
      rw [w64 (by omega) (by omega)];omega
    · rw [if_neg ha,if_neg (by rw [(n_end (q:=0) (by omega) h2).1];omega)]
      exact ⟨_,_,_,by rw [(n_end (q:=0) (by omega) h2).1,(n_end (by omega) h2).2],(fin _).1,fun _=>(fin _).2,by omega,⟨a0,a1⟩,hx _ _,hz,hb⟩
theorem one_ok {b:List Int} {a m z:Int} (h:SrcOk b a m z) (of:Int) (h2:of≤9223372036854775807):∃ r a' m',Y24.f b a m z of=some (r,a',m',z)∧SrcOk b a' m' z:=by
  obtain ⟨r,a',m',e,_,_,_,g⟩:=n_ok h of h2
  exact ⟨_,a',m',by unfold Y24.f;rw [e];rfl,g⟩
theorem source_l0 (l:List Int) (hl:l.length≤1048576):∀ (d i:Nat),l.length-i=d→i≤l.length→∀ m:Int,0≤m→m<18446744073709551616 →
    ∃ m' z,Ev (fun k=>Y17.l0 k l (i:Int) l 0 m 0) (l,0,m',z)∧SrcOk l 0 m' z:=by
  have stop:∀ (i:Int) (m:Int),0≤m→m<18446744073709551616→∃ m' z,Ev (fun k=>Y17.j1 k l i false l 0 m 0) (l,0,m',z)∧SrcOk l 0 m' z:=by
    intro i m h0 h1
    by_cases h:wrap64 ((l.length:Int) / 20)>12
    · exact ⟨m,12,Ev.step (f:=fun _=>some (l,0,m,12)) (fun k=>by simp only [Y17.j1];rw [if_neg (by simp),if_pos h]) (Ev.now _),⟨by omega,by omega⟩,⟨h0,h1⟩,by omega,hl⟩
    · refine ⟨m,wrap64 ((l.length:Int) / 20),Ev.step (f:=fun _=>some (l,0,m,wrap64 ((l.length:Int) / 20))) (fun k=>by simp only [Y17.j1];rw [if_neg (by simp),if_neg h]) (Ev.now _),⟨by omega,by omega⟩,⟨h0,h1⟩,?_,hl⟩
      rw [w64 (by omega) (by omega)] at h ⊢
      omega
  intro d
  induction d with
  | zero =>
    intro i hd hi m h0 h1
    obtain ⟨m',z,e,g⟩:=stop i m h0 h1
    refine ⟨m',z,Ev.step (fun k=>?_) e,g⟩
    simp only [Y17.l0]
    rw [if_neg (by omega)]
  | succ d ih =>
    intro i hd hi m h0 h1
    by_cases h64:i<64
    · have hw:∀ q:Int,0≤IntKind.u64.wrap q∧IntKind.u64.wrap q<18446744073709551616:=fun q=>by rw [u64w];omega
      obtain ⟨m',z,e,g⟩:=ih (i+1) (by omega) (by omega) (IntKind.u64.wrap ((Go.bits .xor .u64 m (IntKind.u64.wrap (rd l (i:Int))))*1099511628211)) (hw _).1 (hw _).2
      refine ⟨m',z,Ev.step (f:=fun k=>Y17.j1 k l (i:Int) true l 0 m 0) (fun k=>?_) (Ev.step (fun k=>?_) e),g⟩
      · simp only [Y17.l0]
        rw [if_pos (by omega)]
        congr 1
        simp;omega
      · simp only [Y17.j1]
        rw [if_pos trivial,if_pos (by omega),if_pos (by omega),w64 (x:=(i:Int)+1) (by omega) (by omega)]
        rfl
    · obtain ⟨m',z,e,g⟩:=stop i m h0 h1
      refine ⟨m',z,Ev.step (fun k=>?_) e,g⟩
      simp only [Y17.l0]
      rw [if_pos (by omega)]
      congr 1
      simp;omega
theorem source_ok (l:List Int) (hl:l.length≤1048576):∃ m z,Ev (fun k=>Y17.f k l) (l,0,m,z)∧SrcOk l 0 m z :=
  source_l0 l hl _ 0 rfl (by omega) _ (by omega) (by omega)
end Go.Proofs.Ytlglglbjckpnbaa.Q

namespace Go.Proofs.Ytlglglbjckpnbaa.Q
open Go.RowKit Go.Proofs.Ytlglglbjckpnbaa.P Go.Proofs.YtlglglbjckpnbaaW.PrintWords Go.Proofs.YtlglglbjckpnbaaW.PrintMore

theorem toList_loop (b:ByteArray):∀ (n i:Nat) (r:List UInt8),b.size-i=n→ByteArray.toList.loop b i r=r.reverse ++ b.data.toList.drop i:=by
  intro n
  induction n with
  | zero =>
    intro i r h
    unfold ByteArray.toList.loop
    have hs:b.data.toList.length=b.size:=by rw [Array.length_toList];rfl
    rw [if_neg (by omega),List.drop_of_length_le (by omega),List.append_nil]
  | succ n ih =>
    intro i r h
    unfold ByteArray.toList.loop
    have hs:b.data.toList.length=b.size:=by rw [Array.length_toList];rfl
    rw [if_pos (by omega),ih (i+1) _ (by omega),List.drop_eq_getElem_cons (i:=i) (by omega)]
    have:b.get! i=b.data.toList[i]'(by omega):=by
      have hi:i<b.data.size:=by rw [← Array.length_toList];omega
      show b.data[i]! = _
      rw [getElem!_pos b.data i hi]
      simp
    simp [this]
theorem toList_data (b:ByteArray):b.toList=b.data.toList:=by
  unfold ByteArray.toList
  rw [toList_loop b _ 0 [] rfl]
  simp
theorem toList_inj {a b:ByteArray} (h:a.toList=b.toList):a=b:=by
  rw [toList_data,toList_data] at h
  obtain ⟨a⟩:=a
  obtain ⟨b⟩:=b
  simp only [ByteArray.mk.injEq]
  exact Array.toList_inj.1 h
def isWithin (n low high:Int):Bool:=decide (low≤n) && decide (n≤high)
def isNode (n:Int):Bool:=isWithin n 1 5
def isDot (a b:Int):Bool:=isNode a && isWithin b 1 1000000
theorem l02Is_is (n a b:Int):Y58.f n a b=some (isWithin n a b):=by
  unfold Y58.f isWithin
  split
  · rename_i h;simp [show a≤n from h]
  · rename_i h;simp [show ¬ a≤n from h]
theorem l02Node_is (n:Int):Y44.f n=some (isNode n):=by simp [Y44.f,l02Is_is,isNode]
theorem l02Dot_is (a b:Int):Y43.f a b=some (isDot a b):=by
  simp only [Y43.f,l02Node_is,l02Is_is,isDot,Option.bind_some]
  cases isNode a <;> simp
theorem within_is (n a b:Int):Y55.f n a b=some (isWithin n a b):=by
  unfold Y55.f isWithin
  split
  · rename_i h;simp [show a≤n from h]
  · rename_i h;simp [show ¬ a≤n from h]
theorem isNode_is (n:Int):Y61.f n=some (isNode n):=by simp [Y61.f,within_is,isNode]
theorem isDot_is (a b:Int):Y50.f a b=some (isDot a b):=by
  simp only [Y50.f,isNode_is,within_is,isDot,Option.bind_some]
  cases isNode a <;> simp
theorem isNode_iff (n:Int):isNode n=true ↔ 1≤n∧n≤5:=by simp [isNode,isWithin]
theorem isDot_iff (a b:Int):isDot a b=true ↔ (1≤a∧a≤5)∧1≤b∧b≤1000000:=by simp [isDot,isNode,isWithin]
end Go.Proofs.Ytlglglbjckpnbaa.Q

namespace Go.Proofs.Ytlglglbjckpnbaa.P
open Go.RowKit Go.Proofs.YtlglglbjckpnbaaW.PrintWords Go.Proofs.YtlglglbjckpnbaaW.PrintLast Go.Proofs.YtlglglbjckpnbaaW.PrintMore
attribute [local go_sem] max2_int min2_int max_two min_two max_three min_three max_four min_four   -- for this text's walks alone
set_option linter.unusedVariables false
set_option linter.unusedSimpArgs false

/-! ### Y65: function 67 -/
def Y65.f (l0:List (S30)):Option (Bool):=some (decide ((l0.length:Int)>400))

/-! ### Y60: function 107 -/
def Y60.f (k:Nat) (l0:List (S30)):Option (Bool):=(Y65.f l0).bind fun Dz5=>(if Dz5=true then (some false) else ((Y9.f k l0).bind fun Dz6=>(some Dz6)))
theorem Y60.mono:∀ a0 k,LeO (Y60.f k a0) (Y60.f (k+1) a0):=by
 intro a0 k;have m0:=@Y9.mono;unfold Y60.f;exact mO
end Go.Proofs.Ytlglglbjckpnbaa.P

namespace Go.Proofs.Ytlglglbjckpnbaa.Q
open Go.RowKit Go.Proofs.Ytlglglbjckpnbaa.P Go.Proofs.YtlglglbjckpnbaaW.PrintWords Go.Proofs.YtlglglbjckpnbaaW.PrintMore

abbrev Mark:=S30
/-- Dots whose nodes rise from above p. -/
def okFrom:Int→List Mark→Bool
  | _,[]=>true
  | p,m :: r=>isDot m.f0 m.f1 && (decide (p<m.f0) && okFrom m.f0 r)
def seenOk (v:List Mark):Bool:=okFrom 0 v
theorem okFrom_length:∀ (s:List Mark) (p:Int),p≤5→okFrom p s=true→(s.length:Int)≤5-p
  | [],p,h,_=>by simp;omega
  | m :: r,p,h,ho=>by
    simp only [okFrom,Bool.and_eq_true,decide_eq_true_eq,isDot_iff] at ho
    have:=okFrom_length r m.f0 ho.1.1.2 ho.2.2
    simp;omega
theorem seenOk_length {v:List Mark} (h:seenOk v=true):v.length≤5:=by
  have:=okFrom_length v 0 (by omega) h
  omega
/-- The node ahead of place i. -/
def prevAt (l:List Mark) (i:Nat):Int:=if i=0 then 0 else (l.getD (i-1) z30).f0
theorem prevAt_succ {l:List Mark} {i:Nat} {m:Mark} (h:l.getD i z30=m):prevAt l (i+1)=m.f0:=by
  simp only [prevAt,Nat.add_sub_cancel,h]
  simp
theorem impl_seenRight_l0 (l:List Mark) (hl:l.length≤4611686018427387904):∀ (s:List Mark) (i:Nat),l.drop i=s→i≤l.length→0≤prevAt l i →
    Ev (fun k=>Y9.l0 k l l (l.length:Int) (i:Int)) (okFrom (prevAt l i) s)
  | [],i,h,hi,hp=>by
    have:=dropNil' h hi
    refine Ev.step (f:=fun _=>some true) (fun k=>?_) (Ev.now _)
    simp only [Y9.l0]
    rw [if_neg (by omega)]
  | m :: s,i,h,hi,hp=>by
    obtain ⟨h1,h2,h3⟩:=dropCons h z30
    have hr:rd_T30 l (i:Int)=m:=by simpa [rd_T30] using h2
    have ih:=fun hq=>impl_seenRight_l0 l hl s (i+1) h3 (by omega) hq
    rw [prevAt_succ h2] at ih
    by_cases hd:isDot m.f0 m.f1=true
    · have hd':=(isDot_iff _ _).1 hd
      by_cases hlt:prevAt l i<m.f0
      · have ih:=ih (by omega)
        refine Ev.step (fun k=>?_) (show Ev _ (okFrom (prevAt l i) (m :: s)) from by simp only [okFrom,hd,hlt,decide_true,Bool.true_and];exact ih)
        simp only [Y9.l0,hr,isDot_is,Option.bind_some]
        rw [if_pos (by omega),if_pos (by omega),if_pos (by omega),if_pos hd,w64 (x:=(i:Int)+1) (by omega) (by omega)]
        by_cases hi0:i=0
        · subst hi0
          rw [if_neg (by omega)];rfl
        · have hq:rd_T30 l ((i:Int)-1)=l.getD (i-1) z30:=by
            simp only [rd_T30];congr 1;omega
          rw [w64 (x:=(i:Int)-1) (by omega) (by omega),if_pos (by omega),if_pos (by omega),if_pos (by omega),hq,if_neg (by simp only [prevAt,if_neg hi0] at hlt;omega)]
          rfl
      · refine Ev.step (f:=fun _=>some false) (fun k=>?_) (show Ev _ (okFrom (prevAt l i) (m :: s)) from by simp only [okFrom,hd,hlt,decide_false,Bool.false_and,Bool.and_false];exact Ev.now _)
        have hi0:i≠0:=by
          intro e;subst e
          simp [prevAt] at hlt;omega
        have hq:rd_T30 l ((i:Int)-1)=l.getD (i-1) z30:=by
          simp only [rd_T30];congr 1;omega
        simp only [Y9.l0,hr,isDot_is,Option.bind_some]
        rw [if_pos (by omega),if_pos (by omega),if_pos (by omega),if_pos hd,w64 (x:=(i:Int)-1) (by omega) (by omega),if_pos (by omega),if_pos (by omega),if_pos (by omega),hq,
          if_pos (by simp only [prevAt,if_neg hi0] at hlt;omega)]
    · refine Ev.step (f:=fun _=>some false) (fun k=>?_) (show Ev _ (okFrom (prevAt l i) (m :: s)) from by simp only [okFrom,Bool.eq_false_iff.mpr hd,Bool.false_and];exact Ev.now _)
      simp only [Y9.l0,hr,isDot_is,Option.bind_some]
      rw [if_pos (by omega),if_pos (by omega),if_pos (by omega),if_neg hd]
theorem impl_seenRight_ev (l:List Mark) (hl:l.length≤4611686018427387904):Ev (fun k=>Y9.f k l) (seenOk l) :=
  impl_seenRight_l0 l hl l 0 rfl (by omega) (by simp [prevAt])
theorem spec_SeenRight_l0 (l:List Mark) (hl:l.length≤4611686018427387904):∀ (s:List Mark) (i:Nat),l.drop i=s→i≤l.length→(i:Int)≤prevAt l i→prevAt l i≤5 →
    Ev (fun k=>Y4.l0 k l (i:Int)) (okFrom (prevAt l i) s)
  | [],i,h,hi,hp,hp5=>by
    have:=dropNil' h hi
    refine Ev.step (f:=fun k=>Y4.j1 k l (i:Int) false) (fun k=>?_) (Ev.step (f:=fun _=>some true) (fun k=>?_) (Ev.now _))
    · simp only [Y4.l0]
      rw [if_neg (by omega)]
    · simp only [Y4.j1]
      rw [if_neg (by simp)]
      congr 1
      simp;omega
  | m :: s,i,h,hi,hp,hp5=>by
    obtain ⟨h1,h2,h3⟩:=dropCons h z30
    have hr:rd_T30 l (i:Int)=m:=by simpa [rd_T30] using h2
    have ih:=fun hq=>spec_SeenRight_l0 l hl s (i+1) h3 (by omega) hq
    rw [prevAt_succ h2] at ih
    have hj:decide ((i:Int)≤5)=true:=by simp;omega
    have hl0:∀ k,Y4.l0 (k+1) l (i:Int)=Y4.j1 k l (i:Int) true:=fun k=>by
      simp only [Y4.l0]
      rw [if_pos (by omega),hj]
    by_cases hd:isDot m.f0 m.f1=true
    · have hd':=(isDot_iff _ _).1 hd
      by_cases hlt:prevAt l i<m.f0
      · have ih:=ih (by omega) (by omega)
        refine Ev.step hl0 (Ev.step (fun k=>?_) (show Ev _ (okFrom (prevAt l i) (m :: s)) from by simp only [okFrom,hd,hlt,decide_true,Bool.true_and];exact ih))
        simp only [Y4.j1,hr,l02Dot_is,Option.bind_some]
        rw [if_pos trivial,if_pos (by omega),if_pos (by omega),if_pos hd,w64 (x:=(i:Int)+1) (by omega) (by omega)]
        by_cases hi0:i=0
        · subst hi0
          rw [if_neg (by omega)];rfl
        · have hq:rd_T30 l ((i:Int)-1)=l.getD (i-1) z30:=by
            simp only [rd_T30];congr 1;omega
          rw [w64 (x:=(i:Int)-1) (by omega) (by omega),if_pos (by omega),if_pos (by omega),if_pos (by omega),hq,if_neg (by simp only [prevAt,if_neg hi0] at hlt;omega)]
          rfl
      · refine Ev.step hl0 (Ev.step (f:=fun _=>some false) (fun k=>?_) (show Ev _ (okFrom (prevAt l i) (m :: s)) from by simp only [okFrom,hd,hlt,decide_false,Bool.false_and,Bool.and_false];exact Ev.now _))
        have hi0:i≠0:=by
          intro e;subst e
          simp [prevAt] at hlt;omega
        have hq:rd_T30 l ((i:Int)-1)=l.getD (i-1) z30:=by
          simp only [rd_T30];congr 1;omega
        simp only [Y4.j1,hr,l02Dot_is,Option.bind_some]
        rw [if_pos trivial,if_pos (by omega),if_pos (by omega),if_pos hd,w64 (x:=(i:Int)-1) (by omega) (by omega),if_pos (by omega),if_pos (by omega),if_pos (by omega),hq,
          if_pos (by simp only [prevAt,if_neg hi0] at hlt;omega)]
    · refine Ev.step hl0 (Ev.step (f:=fun _=>some false) (fun k=>?_) (show Ev _ (okFrom (prevAt l i) (m :: s)) from by simp only [okFrom,Bool.eq_false_iff.mpr hd,Bool.false_and];exact Ev.now _))
      simp only [Y4.j1,hr,l02Dot_is,Option.bind_some]
      rw [if_pos trivial,if_pos (by omega),if_pos (by omega),if_neg hd]
theorem spec_SeenRight_ev (l:List Mark) (hl:l.length≤4611686018427387904):Ev (fun k=>Y4.f k l) (seenOk l) :=
  spec_SeenRight_l0 l hl l 0 rfl (by omega) (by simp [prevAt]) (by simp [prevAt])
end Go.Proofs.Ytlglglbjckpnbaa.Q

namespace Go.Proofs.Ytlglglbjckpnbaa.P
open Go.RowKit Go.Proofs.YtlglglbjckpnbaaW.PrintWords Go.Proofs.YtlglglbjckpnbaaW.PrintLast Go.Proofs.YtlglglbjckpnbaaW.PrintMore
attribute [local go_sem] max2_int min2_int max_two min_two max_three min_three max_four min_four   -- for this text's walks alone
set_option linter.unusedVariables false
set_option linter.unusedSimpArgs false

/-! ### Y66: function 100 -/
def Y66.f (a0:ByteArray):Option (Bool):=some (decide ((a0.size:Int)>8000))

/-! ### Y18: function 121 -/
def Y18.l0:Nat→List ByteArray→Int→Int→Option (Int)
 | 0,_,_,_=>none
 | k+1,x0,x7,x8=>if x8<x7 then (if 0≤x8 then (if x8<(x0.length:Int) then ((Y66.f (rdOf ByteArray.empty x0 x8)).bind fun Dz7=>(if Dz7=true then (some x8) else (Y18.l0 k x0 x7 (wrap64 (x8+1))))) else (none)) else (none)) else (some (-1))
def Y18.f (k:Nat) (l0:List ByteArray)  : Option (Int):=Y18.l0 k l0 (l0.length:Int) 0
theorem Y18.mono_l:∀ k,(∀ y0 y1 y2,LeO (Y18.l0 k y0 y1 y2) (Y18.l0 (k+1) y0 y1 y2))
 | 0=>by intros <;> exact LeO.none _
 | k+1=>by
  have ih0:=Y18.mono_l k
  ·intros;unfold Y18.l0;exact mO
theorem Y18.mono:∀ a0 k,LeO (Y18.f k a0) (Y18.f (k+1) a0):=by
 intro a0 k;have ih0:=Y18.mono_l k;unfold Y18.f;exact mO

/-! ### Y36: function 99 -/
def Y36.f (k:Nat) (l0:List ByteArray)  : Option (Bool):=(Y18.f k l0).bind fun Dz8=>(some (decide (Dz8≥0)))
theorem Y36.mono:∀ a0 k,LeO (Y36.f k a0) (Y36.f (k+1) a0):=by
 intro a0 k;have m0:=@Y18.mono;unfold Y36.f;exact mO

/-! ### Y64: function 52 -/
def Y64.f (k:Nat) (l0:List ByteArray):Option (Bool):=(Y36.f k l0).bind fun Dz9=>(some Dz9)
theorem Y64.mono:∀ a0 k,LeO (Y64.f k a0) (Y64.f (k+1) a0):=by
 intro a0 k;have m0:=@Y36.mono;unfold Y64.f;exact mO

/-! ### Y69: function 106 -/
def Y69.f (a0:ByteArray):Option (Int):=some (a0.size:Int)

/-! ### Y63: function 70 -/
def Y63.f (k:Nat) (l0:List (S30)) (D9:Int) (E1:Int):Option (Bool):=(Y60.f k l0).bind fun D00=>(if D00=true then ((Y50.f D9 E1).bind fun D01=>(if D01=true then ((Y32.f k l0 D9 E1).bind fun D02=>(some D02)) else (some false))) else (some false))
theorem Y63.mono:∀ a0 a1 a2 k,LeO (Y63.f k a0 a1 a2) (Y63.f (k+1) a0 a1 a2):=by
 intro a0 a1 a2 k;have m0:=@Y60.mono;have m1:=@Y32.mono;unfold Y63.f;exact mO
end Go.Proofs.Ytlglglbjckpnbaa.P

namespace Go.Proofs.Ytlglglbjckpnbaa.Q
open Go.RowKit Go.Proofs.Ytlglglbjckpnbaa.P Go.Proofs.YtlglglbjckpnbaaW.PrintWords Go.Proofs.YtlglglbjckpnbaaW.PrintMore

def seenOf:List Mark→Int→Int
  | [],_=>0
  | m :: r,n=>if m.f0=n then m.f1 else seenOf r n
theorem l02Of_l0 (l:List Mark) (n:Int) (hl:l.length≤4611686018427387904):∀ (s:List Mark) (i:Nat),l.drop i=s→i≤l.length→Ev (fun k=>Y29.l0 k l n (i:Int)) (seenOf s n)
  | [],i,h,hi=>by
    have:=dropNil' h hi
    refine Ev.step (f:=fun _=>some 0) (fun k=>?_) (Ev.now _)
    simp only [Y29.l0]
    rw [if_neg (by omega)]
  | m :: s,i,h,hi=>by
    obtain ⟨h1,h2,h3⟩:=dropCons h z30
    have hr:rd_T30 l (i:Int)=m:=by simpa [rd_T30] using h2
    refine Ev.step (f:=fun k=>if m.f0=n then some m.f1 else Y29.l0 k l n ((i+1:Nat):Int)) (fun k=>?_) ?_
    · simp only [Y29.l0,hr]
      rw [if_pos (by omega),if_pos (by omega),w64 (by omega) (by omega)]
      rfl
    · simp only [seenOf]
      refine evIte (fun h=>?_) (fun h=>?_)
      · rw [if_pos h];exact Ev.now _
      · rw [if_neg h];exact l02Of_l0 l n hl s (i+1) h3 (by omega)
theorem l02Of_ev (l:List Mark) (n:Int) (hl:l.length≤4611686018427387904):Ev (fun k=>Y29.f k l n) (seenOf l n):=l02Of_l0 l n hl l 0 rfl (by omega)
theorem seenOf_l0 (l:List Mark) (n:Int) (hl:l.length≤4611686018427387904):∀ (s:List Mark) (i:Nat),l.drop i=s→i≤l.length→Ev (fun k=>Y33.l0 k n l (l.length:Int) (i:Int)) (seenOf s n)
  | [],i,h,hi=>by
    have:=dropNil' h hi
    refine Ev.step (f:=fun _=>some 0) (fun k=>?_) (Ev.now _)
    simp only [Y33.l0]
    rw [if_neg (by omega)]
  | m :: s,i,h,hi=>by
    obtain ⟨h1,h2,h3⟩:=dropCons h z30
    have hr:rd_T30 l (i:Int)=m:=by simpa [rd_T30] using h2
    refine Ev.step (f:=fun k=>if m.f0=n then some m.f1 else Y33.l0 k n l (l.length:Int) ((i+1:Nat):Int)) (fun k=>?_) ?_
    · simp only [Y33.l0,hr]
      rw [if_pos (by omega),if_pos (by omega),if_pos (by omega),w64 (by omega) (by omega)]
      rfl
    · simp only [seenOf]
      refine evIte (fun h=>?_) (fun h=>?_)
      · rw [if_pos h];exact Ev.now _
      · rw [if_neg h];exact seenOf_l0 l n hl s (i+1) h3 (by omega)
theorem seenOf_ev (l:List Mark) (n:Int) (hl:l.length≤4611686018427387904):Ev (fun k=>Y33.f k l n) (seenOf l n):=seenOf_l0 l n hl l 0 rfl (by omega)
def seenHas (l:List Mark) (a b:Int):Bool:=decide (b≤seenOf l a)
def seenHasOut (l:List Mark) (a b:Int):Bool:=seenOk l && (isDot a b && seenHas l a b)
theorem seenHas_ev (l:List Mark) (a b:Int) (hl:l.length≤4611686018427387904):Ev (fun k=>Y32.f k l a b) (seenHas l a b):=Ev.bind (seenOf_ev l a hl) (Ev.now _)
theorem spec_SeenHas_ev (l:List Mark) (a b:Int) (hl:l.length≤4611686018427387904):Ev (fun k=>Y12.f k l a b) (seenHasOut l a b):=by
  unfold Y12.f seenHasOut
  refine Ev.bind (spec_SeenRight_ev l hl) ?_
  cases seenOk l with
  | false=>exact evNeg (by simp) (Ev.now _)
  | true =>
    refine evPos rfl (evBind1 (l02Dot_is a b) ?_)
    cases isDot a b with
    | false=>exact evNeg (by simp) (Ev.now _)
    | true=>exact evPos rfl (Ev.bind (l02Of_ev l a hl) (Ev.now _))
/-- The join at the nodes from one on. -/
def joinFrom (a b:List Mark):Nat→Int→List Mark
  | 0,_=>[]
  | f+1,n=>(if mx (seenOf a n) (seenOf b n)>0 then [⟨n,mx (seenOf a n) (seenOf b n)⟩] else []) ++ joinFrom a b f (n+1)
def seenJoin (a b:List Mark):List Mark:=joinFrom a b 5 1
theorem l01Max_is (a b:Int):Y59.f a b=some (mx a b):=by
  unfold Y59.f mx
  by_cases h:a>b
  · rw [if_pos h,if_neg (by omega)]
  · rw [if_neg h]
    by_cases h2:a<b
    · rw [if_pos h2]
    · rw [if_neg h2,show a=b from by omega]
theorem l02Join_l0 (a b:List Mark) (ha:a.length≤4611686018427387904) (hb:b.length≤4611686018427387904):∀ (f:Nat) (n:Int),n+f=6→f≤5→∀ acc:List Mark,acc.length+f≤5→Ev (fun k=>Y20.l0 k a b acc n) (acc ++ joinFrom a b f n)
  | 0,n,hn,hf,acc,hacc=>by
    refine Ev.step (f:=fun _=>some acc) (fun k=>?_) (by simp only [joinFrom,List.append_nil];exact Ev.now _)
    simp only [Y20.l0]
    rw [if_neg (by omega)]
  | f+1,n,hn,hf,acc,hacc=>by
    refine Ev.step (fun k=>by simp only [Y20.l0];rw [if_pos (show n≤5 by omega),w64 (x:=n+1) (by omega) (by omega)]) (Ev.bind (l02Of_ev a n ha) (Ev.bind (l02Of_ev b n hb) (evBind1 (l01Max_is _ _) ?_)))
    simp only [joinFrom]
    refine evIte (fun h=>?_) (fun h=>?_)
    · rw [if_pos h,← List.append_assoc]
      exact evPos (by omega) (l02Join_l0 a b ha hb f (n+1) (by omega) (by omega) _ (by simp;omega))
    · rw [if_neg h,List.nil_append]
      exact l02Join_l0 a b ha hb f (n+1) (by omega) (by omega) _ (by omega)
theorem l02Join_ev (a b:List Mark) (ha:a.length≤4611686018427387904) (hb:b.length≤4611686018427387904):Ev (fun k=>Y20.f k a b) (seenJoin a b):=by
  have:=l02Join_l0 a b ha hb 5 1 (by omega) (by omega) [] (by simp)
  simpa [Y20.f,seenJoin] using this
theorem seenJoin_l0 (a b:List Mark) (ha:a.length≤4611686018427387904) (hb:b.length≤4611686018427387904):∀ (f:Nat) (n:Int),n+f=6→f≤5→∀ acc:List Mark,acc.length+f≤5→Ev (fun k=>Y28.l0 k a b acc n) (acc ++ joinFrom a b f n)
  | 0,n,hn,hf,acc,hacc=>by
    refine Ev.step (f:=fun _=>some acc) (fun k=>?_) (by simp only [joinFrom,List.append_nil];exact Ev.now _)
    simp only [Y28.l0]
    rw [if_neg (by omega)]
  | f+1,n,hn,hf,acc,hacc=>by
    refine Ev.step (fun k=>by simp only [Y28.l0];rw [if_pos (show n≤5 by omega),w64 (x:=n+1) (by omega) (by omega)]) (Ev.bind (seenOf_ev a n ha) (Ev.bind (seenOf_ev b n hb) ?_))
    simp only [joinFrom]
    refine evIte (fun h=>?_) (fun h=>?_)
    · rw [if_pos h,← List.append_assoc]
      exact evPos (by omega) (seenJoin_l0 a b ha hb f (n+1) (by omega) (by omega) _ (by simp;omega))
    · rw [if_neg h,List.nil_append]
      exact seenJoin_l0 a b ha hb f (n+1) (by omega) (by omega) _ (by omega)
theorem seenJoin_ev (a b:List Mark) (ha:a.length≤4611686018427387904) (hb:b.length≤4611686018427387904):Ev (fun k=>Y28.f k a b) (seenJoin a b):=by
  have:=seenJoin_l0 a b ha hb 5 1 (by omega) (by omega) [] (by simp)
  simpa [Y28.f,seenJoin] using this
theorem joinFrom_length (a b:List Mark):∀ (f:Nat) (n:Int),(joinFrom a b f n).length≤f
  | 0,n=>by simp [joinFrom]
  | f+1,n=>by
    have:=joinFrom_length a b f (n+1)
    simp only [joinFrom]
    split <;> simp <;> omega
theorem seenJoin_length (a b:List Mark):(seenJoin a b).length≤5:=joinFrom_length a b 5 1
theorem okFrom_mem:∀ (s:List Mark) (p:Int),okFrom p s=true→∀ m ∈ s,isDot m.f0 m.f1=true∧p<m.f0
  | [],_,_,m,hm=>by simp at hm
  | x :: r,p,h,m,hm=>by
    simp only [okFrom,Bool.and_eq_true,decide_eq_true_eq] at h
    rcases List.mem_cons.1 hm with rfl | hm
    · exact ⟨h.1,h.2.1⟩
    · have:=okFrom_mem r x.f0 h.2.2 m hm
      exact ⟨this.1,by omega⟩
/-- Marks whose numbers are small. -/
def Small (v:List Mark):Prop:=∀ m ∈ v,(0≤m.f0∧m.f0≤4294967295)∧0≤m.f1∧m.f1≤4294967295
theorem seenOk_small {v:List Mark} (h:seenOk v=true):Small v:=fun m hm=>by
  have:=(isDot_iff _ _).1 (okFrom_mem v 0 h m hm).1
  omega
end Go.Proofs.Ytlglglbjckpnbaa.Q

namespace Go.Proofs.Ytlglglbjckpnbaa.P
open Go.RowKit Go.Proofs.YtlglglbjckpnbaaW.PrintWords Go.Proofs.YtlglglbjckpnbaaW.PrintLast Go.Proofs.YtlglglbjckpnbaaW.PrintMore
attribute [local go_sem] max2_int min2_int max_two min_two max_three min_three max_four min_four   -- for this text's walks alone
set_option linter.unusedVariables false
set_option linter.unusedSimpArgs false

/-! ### Y70: function 23 -/
def Y70.f (l0:List (S92)) (a1:Int):Option (Int):=if (wrap64 (a1-(l0.length:Int)))<0 then (some (-1)) else (some (wrap64 (a1-(l0.length:Int))))

/-! ### Y67: function 66 -/
def Y67.f (M6:Int) (O7:Int):Option (Int × Int):=some (M6,O7)

/-! ### Y51: function 26 -/
def Y51.l0:Nat→List (S92)→List (S30)→Int→Option ((List (S30)))
 | 0,_,_,_=>none
 | k+1,x0,x3,x4=>if x4<(x0.length:Int) then (if 0≤x4 then ((Y67.f ((rd_T92 x0 x4).f0) ((rd_T92 x0 x4).f1)).bind fun Cw2=>(if x4<(x3.length:Int) then (Y51.l0 k x0 (x3.set (x4:Int).toNat (⟨Cw2.1,Cw2.2⟩:S30)) (wrap64 (x4+1))) else (none))) else (none)) else (some x3)
def Y51.f (k:Nat) (l0:List (S92)):Option ((List (S30))):=if 0≤(l0.length:Int) then (if ((l0.length:Int):Int).toNat≤17592186044416 then (Y51.l0 k l0 (List.replicate ((l0.length:Int):Int).toNat z30) 0) else (none)) else (none)
theorem Y51.mono_l:∀ k,(∀ y0 y1 y2,LeO (Y51.l0 k y0 y1 y2) (Y51.l0 (k+1) y0 y1 y2))
 | 0=>by intros <;> exact LeO.none _
 | k+1=>by
  have ih0:=Y51.mono_l k
  ·intros;unfold Y51.l0;exact mO
theorem Y51.mono:∀ a0 k,LeO (Y51.f k a0) (Y51.f (k+1) a0):=by
 intro a0 k;have ih0:=Y51.mono_l k;unfold Y51.f;exact mO

/-! ### Y68: function 56 -/
def Y68.f (M6:Int) (O7:Int) (D9:Int) (E1:Int):Option (Bool):=if M6=D9 then (if O7=E1 then (some true) else (none)) else (none)

/-! ### Y52: function 17 -/
def Y52.l0:Nat→List (S30)→List (S30)→Int→Option (Bool)
 | 0,_,_,_=>none
 | k+1,x0,x1,x5=>if x5<(x0.length:Int) then (if 0≤x5 then (if x5<(x1.length:Int) then ((Y68.f ((rd_T30 x0 x5).f0) ((rd_T30 x0 x5).f1) ((rd_T30 x1 x5).f0) ((rd_T30 x1 x5).f1)).bind fun D03=>(if D03=true then (Y52.l0 k x0 x1 (wrap64 (x5+1))) else (none))) else (none)) else (none)) else (some true)
def Y52.f (k:Nat) (l0:List (S30)) (l1:List (S30)):Option (Bool):=if (l0.length:Int)=(l1.length:Int) then (Y52.l0 k l0 l1 0) else (none)
theorem Y52.mono_l:∀ k,(∀ y0 y1 y2,LeO (Y52.l0 k y0 y1 y2) (Y52.l0 (k+1) y0 y1 y2))
 | 0=>by intros <;> exact LeO.none _
 | k+1=>by
  have ih0:=Y52.mono_l k
  ·intros;unfold Y52.l0;exact mO
theorem Y52.mono:∀ a0 a1 k,LeO (Y52.f k a0 a1) (Y52.f (k+1) a0 a1):=by
 intro a0 a1 k;have ih0:=Y52.mono_l k;unfold Y52.f;exact mO

/-! ### Y46: function 20 -/
def Y46.l0:Nat→List (S30)→Int→Int→Option (Int × (List (S30)))
 | 0,_,_,_=>none
 | k+1,x0,x1,x5=>if x5<(x0.length:Int) then (if 0≤x5 then ((some (x0.set (x5:Int).toNat (⟨x1,(rd_T30 x0 x5).f1⟩:S30):List (S30))).bind fun Dn0=>(Y46.l0 k (Dn0.set (x5:Int).toNat (⟨(rd_T30 Dn0 x5).f0,wrap64 (x1+1)⟩:S30)) (wrap64 ((wrap64 (x1+1))+1)) (wrap64 (x5+1)))) else (none)) else (some (x1,x0))
def Y46.f (k:Nat) (l0:List (S30)) (a1:Int):Option (Int × (List (S30))):=Y46.l0 k l0 a1 0
theorem Y46.mono_l:∀ k,(∀ y0 y1 y2,LeO (Y46.l0 k y0 y1 y2) (Y46.l0 (k+1) y0 y1 y2))
 | 0=>by intros <;> exact LeO.none _
 | k+1=>by
  have ih0:=Y46.mono_l k
  ·intros;unfold Y46.l0;exact mO
theorem Y46.mono:∀ a0 a1 k,LeO (Y46.f k a0 a1) (Y46.f (k+1) a0 a1):=by
 intro a0 a1 k;have ih0:=Y46.mono_l k;unfold Y46.f;exact mO

/-! ### Y47: function 21 -/
def Y47.l0:Nat→List (S30)→Int→Int→Option (Int)
 | 0,_,_,_=>none
 | k+1,x0,x1,x5=>if x5<(x0.length:Int) then (if 0≤x5 then (if ((rd_T30 x0 x5).f0)=x1 then (if ((rd_T30 x0 x5).f1)=(wrap64 (x1+1)) then (Y47.l0 k x0 (wrap64 ((wrap64 (x1+1))+1)) (wrap64 (x5+1))) else (none)) else (none)) else (none)) else (some x1)
def Y47.f (k:Nat) (l0:List (S30)) (a1:Int):Option (Int):=Y47.l0 k l0 a1 0
theorem Y47.mono_l:∀ k,(∀ y0 y1 y2,LeO (Y47.l0 k y0 y1 y2) (Y47.l0 (k+1) y0 y1 y2))
 | 0=>by intros <;> exact LeO.none _
 | k+1=>by
  have ih0:=Y47.mono_l k
  ·intros;unfold Y47.l0;exact mO
theorem Y47.mono:∀ a0 a1 k,LeO (Y47.f k a0 a1) (Y47.f (k+1) a0 a1):=by
 intro a0 a1 k;have ih0:=Y47.mono_l k;unfold Y47.f;exact mO
end Go.Proofs.Ytlglglbjckpnbaa.P

namespace Go.Proofs.Ytlglglbjckpnbaa.Q
open Go.RowKit Go.Proofs.Ytlglglbjckpnbaa.P Go.Proofs.YtlglglbjckpnbaaW.PrintWords Go.Proofs.YtlglglbjckpnbaaW.PrintMore

def seenPut (v:List Mark) (a b:Int):List Mark × Int :=
  if (v.length:Int)>400 then ([],2) else if seenOk v=true then (if isDot a b=true then (seenJoin v [⟨a,b⟩],0) else ([],1)) else ([],1)
theorem seenPut_length (v:List Mark) (a b:Int):(seenPut v a b).1.length≤5:=by
  have:=seenJoin_length v [⟨a,b⟩]
  unfold seenPut
  split
  · simp
  · split
    · split
      · exact this
      · simp
    · simp
theorem spec_SeenPut_ev (v:List Mark) (a b:Int) (hv:v.length≤4611686018427387904):Ev (fun k=>Y30.f k v a b) (seenPut v a b):=by
  have jF:Ev (fun k=>Y30.j0 k v true a b) ([],1):=Ev.step (f:=fun _=>some ([],1)) (fun k=>by simp [Y30.j0]) (Ev.now _)
  have jT:Ev (fun k=>Y30.j0 k v false a b) (seenJoin v [⟨a,b⟩],0):=Ev.step (fun k=>by rw [Y30.j0]) (evNeg (by simp) (Ev.bind (l02Join_ev v [⟨a,b⟩] hv (by simp)) (Ev.now _)))
  unfold Y30.f seenPut
  refine evIte (fun h=>?_) (fun h=>?_)
  · rw [if_pos h];exact Ev.now _
  · rw [if_neg h]
    refine Ev.bind (spec_SeenRight_ev v hv) ?_
    cases seenOk v with
    | false=>exact evNeg (by simp) jF
    | true =>
      refine evPos rfl (evBind1 (l02Dot_is _ _) ?_)
      cases isDot a b with
      | false=>exact jF
      | true=>exact jT
end Go.Proofs.Ytlglglbjckpnbaa.Q

namespace Go.Proofs.Ytlglglbjckpnbaa.Q
open Go.RowKit Go.Proofs.Ytlglglbjckpnbaa.P Go.Proofs.YtlglglbjckpnbaaW.PrintWords Go.Proofs.YtlglglbjckpnbaaW.PrintMore
theorem l02Dot_ok {b:List Int} {a m z:Int} (h:SrcOk b a m z):∃ x y a' m',Y23.f b a m z=some (x,y,a',m',z)∧SrcOk b a' m' z:=by
  obtain ⟨r,a1,m1,e,g⟩:=one_ok h 15 (by omega)
  unfold Y23.f
  simp only [e,Option.bind_some]
  cases r with
  | true =>
    obtain ⟨p,a2,m2,e2,p0,p1,_,g2⟩:=n_ok g 3 (by omega)
    have p1:=p1 (by omega)
    obtain ⟨q,a3,m3,e3,q0,q1,_,g3⟩:=n_ok g2 4 (by omega)
    have q1:=q1 (by omega)
    rw [if_pos rfl]
    simp only [e2,e3,Option.bind_some]
    rw [if_pos p0,if_pos (by simp only [List.length_cons,List.length_nil];omega),if_pos q0,if_pos (by simp only [List.length_cons,List.length_nil];omega)]
    exact ⟨_,_,a3,m3,rfl,g3⟩
  | false =>
    obtain ⟨p,a2,m2,e2,p0,p1,_,g2⟩:=n_ok g 3 (by omega)
    obtain ⟨q,a3,m3,e3,q0,q1,_,g3⟩:=n_ok g2 4 (by omega)
    rw [if_neg (by simp)]
    simp only [e2,e3,Option.bind_some]
    exact ⟨_,_,a3,m3,rfl,g3⟩
theorem l02Seen_l0 {b:List Int} {z:Int}:∀ (d:Nat) (v:List Mark) (a m:Int),d≤1000→v.length≤5→SrcOk b a m z →
    ∃ v' a' m',Ev (fun k=>Y16.l0 k v (d:Int) b a m z) (v',a',m',z)∧v'.length≤6∧SrcOk b a' m' z
  | 0,v,a,m,hd,hv,h=>by
    obtain ⟨t,a1,m1,e1,g1⟩:=one_ok h 15 (by omega)
    cases t with
    | true =>
      obtain ⟨x,y,a2,m2,e2,g2⟩:=l02Dot_ok g1
      refine ⟨v ++ [⟨x,y⟩],a2,m2,Ev.step (f:=fun _=>some (v ++ [⟨x,y⟩],a2,m2,z)) (fun k=>?_) (Ev.now _),by simp;omega,g2⟩
      simp only [Y16.l0,e1,e2,Option.bind_some]
      rw [if_neg (by omega),if_pos trivial,if_pos (by omega)]
    | false =>
      refine ⟨v,a1,m1,Ev.step (f:=fun _=>some (v,a1,m1,z)) (fun k=>?_) (Ev.now _),by omega,g1⟩
      simp only [Y16.l0,e1,Option.bind_some]
      rw [if_neg (by omega),if_neg (by simp)]
  | d+1,v,a,m,hd,hv,h=>by
    obtain ⟨x,y,a1,m1,e1,g1⟩:=l02Dot_ok h
    have hs:=spec_SeenPut_ev v x y (by omega)
    have hl:=seenPut_length v x y
    have hw:wrap64 (((d+1:Nat):Int)-1)=(d:Int):=by rw [w64 (by omega) (by omega)];omega
    by_cases c:(seenPut v x y).2=0
    · obtain ⟨v',a2,m2,e2,h2,g2⟩:=l02Seen_l0 d (seenPut v x y).1 a1 m1 (by omega) hl g1
      refine ⟨v',a2,m2,Ev.step (fun k=>by simp only [Y16.l0,e1,Option.bind_some,hw];rw [if_pos (by omega)]) (Ev.bind hs (evPos c e2)),h2,g2⟩
    · obtain ⟨v',a2,m2,e2,h2,g2⟩:=l02Seen_l0 d v a1 m1 (by omega) hv g1
      refine ⟨v',a2,m2,Ev.step (fun k=>by simp only [Y16.l0,e1,Option.bind_some,hw];rw [if_pos (by omega)]) (Ev.bind hs (evNeg c e2)),h2,g2⟩
theorem l02Seen_ok {b:List Int} {a m z:Int} (h:SrcOk b a m z):∃ v a' m',Ev (fun k=>Y16.f k b a m z) (v,a',m',z)∧v.length≤6∧SrcOk b a' m' z:=by
  obtain ⟨r,a1,m1,e,r0,r1,_,g⟩:=n_ok h 5 (by omega)
  have r1:=r1 (by omega)
  obtain ⟨d,rfl⟩:=Int.eq_ofNat_of_zero_le r0
  obtain ⟨v,a2,m2,e2,h2,g2⟩:=l02Seen_l0 d [] a1 m1 (by omega) (by simp) g
  exact ⟨v,a2,m2,evBind1 e e2,h2,g2⟩
end Go.Proofs.Ytlglglbjckpnbaa.Q

namespace Go.Proofs.Ytlglglbjckpnbaa.Q
open Go.RowKit Go.Proofs.Ytlglglbjckpnbaa.P Go.Proofs.YtlglglbjckpnbaaW.PrintWords Go.Proofs.YtlglglbjckpnbaaW.PrintMore

abbrev Sib:=S36
def dotLess (a b c d:Int):Bool:=decide (a<c) || (decide (a=c) && decide (b<d))
def dataOk (t:ByteArray) (gone:Bool):Bool:=decide (t.size≤16) && (!gone || decide (t.toList=[]))
def sibOk (v:List Mark) (x:Sib):Bool:=isDot x.f0.f0 x.f0.f1 && (seenHas v x.f0.f0 x.f0.f1 && dataOk x.f2 x.f1)
def sibsFrom (v:List Mark):Option Sib→List Sib→Bool
  | _,[]=>true
  | none,x :: r=>sibOk v x && sibsFrom v (some x) r
  | some y,x :: r=>sibOk v x && (dotLess y.f0.f0 y.f0.f1 x.f0.f0 x.f0.f1 && sibsFrom v (some x) r)
def setOk (v:List Mark) (s:List Sib):Bool:=seenOk v && (decide (s.length≤8) && sibsFrom v none s)
/-- The sibling ahead of place i. -/
def prevSib (l:List Sib) (i:Nat):Option Sib:=if i=0 then none else some (l.getD (i-1) z36)
theorem prevSib_succ {l:List Sib} {i:Nat} {x:Sib} (h:l.getD i z36=x):prevSib l (i+1)=some x:=by
  simp only [prevSib,Nat.add_sub_cancel,h]
  simp
theorem l03Less_is (a b c d:Int):Y42.f a b c d=some (dotLess a b c d):=by
  unfold Y42.f dotLess
  by_cases h:a<c
  · rw [if_pos h];simp [h]
  · rw [if_neg h]
    by_cases h2:a=c
    · rw [if_pos h2];simp [h2]
    · rw [if_neg h2];simp [h,h2]
def cmpI (a b:Int):Int:=if a<b then -1 else if a>b then 1 else 0
theorem Compare_is (a b:Int):Y45.f a b=some (cmpI a b):=by
  simp only [Y45.f,Y41.f,cmpI]
  by_cases h:a<b
  · simp [h]
  · by_cases h2:a>b
    · simp [h,h2]
    · simp [h,h2]
theorem Or_ev (x y:Int):Ev (fun k=>Y37.f k [x,y]) (if x=0 then y else x):=by
  unfold Y37.f
  have hx:rd [x,y] 0=x:=rfl
  have hy:rd [x,y] 1=y:=rfl
  have hl:(([x,y]:List Int).length:Int)=2:=rfl
  rw [hl]
  refine Ev.step (f:=fun k=>if x=0 then Y37.l0 k 0 [x,y] 2 1 else some x) (fun k=>?_) ?_
  · simp only [Y37.l0,hx,hl]
    rw [if_pos (by omega),if_pos (by omega),if_pos (by omega),w64 (by omega) (by omega)]
    rfl
  · refine evIte (fun h=>?_) (fun h=>?_)
    · rw [if_pos h]
      refine Ev.step (f:=fun k=>if y=0 then Y37.l0 k 0 [x,y] 2 2 else some y) (fun k=>?_) ?_
      · simp only [Y37.l0,hy,hl]
        rw [if_pos (by omega),if_pos (by omega),if_pos (by omega),w64 (by omega) (by omega)]
        rfl
      · refine evIte (fun h=>?_) (fun h=>Ev.now _)
        refine Ev.step (f:=fun _=>some y) (fun k=>?_) (Ev.now _)
        simp only [Y37.l0]
        rw [if_neg (by omega),h]
    · rw [if_neg h];exact Ev.now _
def cmpDots (a b c d:Int):Int:=if cmpI a c=0 then cmpI b d else cmpI a c
theorem compareDots_ev (a b c d:Int):Ev (fun k=>Y25.f k a b c d) (cmpDots a b c d):=by
  unfold Y25.f
  exact evBind1 (Compare_is a c) (evBind1 (Compare_is b d) (Ev.bind (Or_ev _ _) (Ev.now _)))
theorem cmpDots_ge (a b c d:Int):decide (cmpDots a b c d≥0)=!dotLess a b c d:=by
  unfold cmpDots cmpI dotLess
  by_cases h1:a<c
  · simp [h1]
  · by_cases h2:a>c
    · have:¬ a=c:=by omega
      simp [h1,h2,this]
    · have:a=c:=by omega
      subst this
      by_cases h3:b<d
      · simp [h3]
      · by_cases h4:b>d
        · simp [h3,h4]
        · simp [h3,h4]
theorem isData_is (t:ByteArray) (g:Bool):Y56.f t g=some (dataOk t g):=by
  unfold Y56.f dataOk
  by_cases h:(t.size:Int)≤16
  · have h':t.size≤16:=by omega
    rw [if_pos h]
    cases g with
    | true =>
      by_cases e:t.toList=[]
      · simp [h',e]
      · simp [h',e]
    | false=>simp [h']
  · have h':¬ t.size≤16:=by omega
    rw [if_neg h];simp [h']
theorem impl_SetRight_l0 (v:List Mark) (hv:v.length≤4611686018427387904) (l:List Sib) (hl:l.length≤1048576):∀ (s:List Sib) (i:Nat),l.drop i=s→i≤l.length →
    Ev (fun k=>Y2.l0 k l (l.length:Int) (i:Int) v l) (sibsFrom v (prevSib l i) s)
  | [],i,h,hi=>by
    have:=dropNil' h hi
    refine Ev.step (f:=fun _=>some true) (fun k=>?_) (by simp only [sibsFrom];exact Ev.now _)
    simp only [Y2.l0]
    rw [if_neg (by omega)]
  | x :: s,i,h,hi=>by
    obtain ⟨h1,h2,h3⟩:=dropCons h z36
    have hr:rd_T36 l (i:Int)=x:=by simpa [rd_T36] using h2
    have ih:=impl_SetRight_l0 v hv l hl s (i+1) h3 (by omega)
    rw [prevSib_succ h2] at ih
    have hj:∀ b:Bool,Ev (fun k=>Y2.j2 k l (l.length:Int) (i:Int) b v l) (!b && sibsFrom v (some x) s):=fun b=>by
      cases b with
      | true=>exact Ev.step (f:=fun _=>some false) (fun k=>by simp [Y2.j2]) (Ev.now _)
      | false=>exact Ev.step (fun k=>by simp only [Y2.j2];rw [if_neg (by simp),w64 (x:=(i:Int)+1) (by omega) (by omega)]) (by simpa using ih)
    have main:∀ (p:Bool) (g:Nat→Option Bool),Ev g (p && sibsFrom v (some x) s)→Ev (fun k=>(Y50.f x.f0.f0 x.f0.f1).bind fun t=>if t=true then ((Y32.f k v x.f0.f0 x.f0.f1).bind fun t=>if t=true then ((Y56.f x.f2 x.f1).bind fun t=>if t=true then g k else Y2.j2 k l (l.length:Int) (i:Int) true v l) else Y2.j2 k l (l.length:Int) (i:Int) true v l) else Y2.j2 k l (l.length:Int) (i:Int) true v l) (sibOk v x && (p && sibsFrom v (some x) s)):=by
      intro p g hg
      unfold sibOk
      refine evBind1 (isDot_is _ _) ?_
      cases isDot x.f0.f0 x.f0.f1 with
      | false=>exact evNeg (by simp) (by simpa using hj true)
      | true =>
        refine evPos rfl (Ev.bind (seenHas_ev v _ _ hv) ?_)
        cases seenHas v x.f0.f0 x.f0.f1 with
        | false=>exact evNeg (by simp) (by simpa using hj true)
        | true =>
          refine evPos rfl (evBind1 (isData_is _ _) ?_)
          cases dataOk x.f2 x.f1 with
          | false=>exact evNeg (by simp) (by simpa using hj true)
          | true=>exact evPos rfl (by simpa using hg)
    by_cases hi0:i=0
    · have hp:prevSib l i=none:=by simp [prevSib,hi0]
      rw [hp]
      have h0:¬ ((i:Int)>0):=by omega
      refine Ev.step (fun k=>?_) (show Ev _ (sibsFrom v none (x :: s)) from by
        have:=main true _ (by simpa using hj false)
        simpa [sibsFrom] using this)
      simp only [Y2.l0,hr,if_neg h0]
      rw [if_pos (by omega),if_pos (by omega),if_pos (by omega)]
    · have hp:prevSib l i=some (l.getD (i-1) z36):=by simp [prevSib,hi0]
      rw [hp]
      generalize hy:l.getD (i-1) z36=y
      have hq:rd_T36 l ((i:Int)-1)=y:=by
        rw [← hy];simp only [rd_T36];congr 1;omega
      have h0:(i:Int)>0:=by omega
      have hw:wrap64 ((i:Int)-1)=(i:Int)-1:=w64 (by omega) (by omega)
      have hA:(0:Int)≤(i:Int)-1:=by omega
      have hB:(i:Int)-1<(l.length:Int):=by omega
      refine Ev.step (fun k=>?_) (show Ev _ (sibsFrom v (some y) (x :: s)) from by
        have:=main (dotLess y.f0.f0 y.f0.f1 x.f0.f0 x.f0.f1) (fun k=>(Y25.f k y.f0.f0 y.f0.f1 x.f0.f0 x.f0.f1).bind fun t=>Y2.j2 k l (l.length:Int) (i:Int) (decide (t≥0)) v l)
          (Ev.bind (compareDots_ev _ _ _ _) (by
            have:=hj (decide (cmpDots y.f0.f0 y.f0.f1 x.f0.f0 x.f0.f1≥0))
            rw [cmpDots_ge] at this ⊢
            simpa using this))
        simpa [sibsFrom] using this)
      simp only [Y2.l0,hr,if_pos h0,hw,if_pos hA,if_pos hB,hq]
      rw [if_pos (by omega),if_pos (by omega),if_pos (by omega)]
theorem impl_SetRight_ev (v:List Mark) (l:List Sib) (hv:v.length≤4611686018427387904) (hl:l.length≤1048576):Ev (fun k=>Y2.f k v l) (setOk v l):=by
  unfold Y2.f setOk
  refine Ev.bind (impl_seenRight_ev v hv) ?_
  cases seenOk v with
  | false=>exact evNeg (by simp) (Ev.step (f:=fun _=>some false) (fun k=>by simp [Y2.j0]) (Ev.now _))
  | true =>
    refine evPos rfl ?_
    by_cases h:l.length≤8
    · have hd:decide ((l.length:Int)>8)=false:=by simp;omega
      rw [hd]
      refine Ev.step (fun k=>by simp only [Y2.j0];rw [if_neg (by simp)]) ?_
      simpa [h,prevSib] using impl_SetRight_l0 v hv l hl l 0 rfl (by omega)
    · have hd:decide ((l.length:Int)>8)=true:=by simp;omega
      rw [hd]
      exact Ev.step (f:=fun _=>some false) (fun k=>by simp [Y2.j0]) (by simp [h];exact Ev.now _)
theorem spec_SetRight_l0 (v:List Mark) (hv:v.length≤4611686018427387904) (hk:seenOk v=true) (l:List Sib) (hl:l.length≤1048576):∀ (s:List Sib) (i:Nat),l.drop i=s→i≤l.length →
    Ev (fun k=>Y0.l0 k (i:Int) v l) (sibsFrom v (prevSib l i) s)
  | [],i,h,hi=>by
    have:=dropNil' h hi
    refine Ev.step (f:=fun _=>some true) (fun k=>?_) (by simp only [sibsFrom];exact Ev.now _)
    simp only [Y0.l0]
    rw [if_neg (by omega)]
  | x :: s,i,h,hi=>by
    obtain ⟨h1,h2,h3⟩:=dropCons h z36
    have hr:rd_T36 l (i:Int)=x:=by simpa [rd_T36] using h2
    have ih:=spec_SetRight_l0 v hv hk l hl s (i+1) h3 (by omega)
    rw [prevSib_succ h2] at ih
    have hj:∀ b:Bool,Ev (fun k=>if b=true then Y0.l0 k ((i:Int)+1) v l else some false) (b && sibsFrom v (some x) s):=fun b=>by
      cases b with
      | false=>exact evNeg (by simp) (Ev.now _)
      | true=>exact evPos rfl (by simpa using ih)
    have hi1:wrap64 ((i:Int)+1)=(i:Int)+1:=w64 (by omega) (by omega)
    have main:∀ (p:Bool) (g:Nat→Option Bool),Ev g (p && sibsFrom v (some x) s)→Ev (fun k=>(Y12.f k v x.f0.f0 x.f0.f1).bind fun t=>if t=true then (if (x.f2.size:Int)>16 then some false else (if x.f1=true then (if x.f2.toList=([]:List UInt8) then g k else some false) else g k)) else some false) (sibOk v x && (p && sibsFrom v (some x) s)):=by
      intro p g hg
      have e:seenHasOut v x.f0.f0 x.f0.f1=(isDot x.f0.f0 x.f0.f1 && seenHas v x.f0.f0 x.f0.f1):=by simp [seenHasOut,hk]
      unfold sibOk
      rw [← Bool.and_assoc (isDot _ _),← e]
      refine Ev.bind (spec_SeenHas_ev v _ _ hv) ?_
      cases seenHasOut v x.f0.f0 x.f0.f1 with
      | false=>exact evNeg (by simp) (Ev.now _)
      | true =>
        refine evPos rfl ?_
        unfold dataOk
        by_cases hs:(x.f2.size:Int)>16
        · have hs':¬ x.f2.size≤16:=by omega
          exact evPos hs (by simpa [hs'] using Ev.now false)
        · have hs':x.f2.size≤16:=by omega
          refine evNeg hs ?_
          cases hg1:x.f1 with
          | false=>exact evNeg (by simp) (by simpa [hs'] using hg)
          | true =>
            refine evPos rfl ?_
            by_cases he:x.f2.toList=[]
            · exact evPos he (by simpa [hs',he] using hg)
            · exact evNeg he (by simpa [hs',he] using Ev.now false)
    by_cases hi0:i=0
    · have hp:prevSib l i=none:=by simp [prevSib,hi0]
      rw [hp]
      have h0:¬ ((i:Int)>0):=by omega
      refine Ev.step (fun k=>?_) (show Ev _ (sibsFrom v none (x :: s)) from by
        have:=main true (fun k=>Y0.l0 k ((i:Int)+1) v l) (by simpa using ih)
        simpa [sibsFrom] using this)
      simp only [Y0.l0,hr,if_neg h0,hi1]
      rw [if_pos (by omega),if_pos (by omega)]
    · have hp:prevSib l i=some (l.getD (i-1) z36):=by simp [prevSib,hi0]
      rw [hp]
      generalize hy:l.getD (i-1) z36=y
      have hq:rd_T36 l ((i:Int)-1)=y:=by
        rw [← hy];simp only [rd_T36];congr 1;omega
      have h0:(i:Int)>0:=by omega
      have hw:wrap64 ((i:Int)-1)=(i:Int)-1:=w64 (by omega) (by omega)
      have hA:(0:Int)≤(i:Int)-1:=by omega
      have hB:(i:Int)-1<(l.length:Int):=by omega
      refine Ev.step (fun k=>?_) (show Ev _ (sibsFrom v (some y) (x :: s)) from by
        have:=main (dotLess y.f0.f0 y.f0.f1 x.f0.f0 x.f0.f1) (fun k=>(Y42.f y.f0.f0 y.f0.f1 x.f0.f0 x.f0.f1).bind fun t=>if t=true then Y0.l0 k ((i:Int)+1) v l else some false)
          (evBind1 (l03Less_is _ _ _ _) (hj (dotLess y.f0.f0 y.f0.f1 x.f0.f0 x.f0.f1)))
        simpa [sibsFrom] using this)
      simp only [Y0.l0,hr,hi1,if_pos h0,hw,if_pos hA,if_pos hB,hq]
      rw [if_pos (by omega),if_pos (by omega)]
theorem spec_SetRight_ev (v:List Mark) (l:List Sib) (hv:v.length≤4611686018427387904) (hl:l.length≤1048576):Ev (fun k=>Y0.f k v l) (setOk v l):=by
  unfold Y0.f setOk
  refine Ev.bind (spec_SeenRight_ev v hv) ?_
  cases hk:seenOk v with
  | false=>exact evNeg (by simp) (Ev.step (f:=fun _=>some false) (fun k=>by simp [Y0.j0]) (Ev.now _))
  | true =>
    refine evPos rfl ?_
    by_cases h:l.length≤8
    · have hd:decide ((l.length:Int)>8)=false:=by simp;omega
      rw [hd]
      refine Ev.step (fun k=>by simp only [Y0.j0];rw [if_neg (by simp)]) ?_
      simpa [h,prevSib] using spec_SetRight_l0 v hv hk l hl l 0 rfl (by omega)
    · have hd:decide ((l.length:Int)>8)=true:=by simp;omega
      rw [hd]
      exact Ev.step (f:=fun _=>some false) (fun k=>by simp [Y0.j0]) (by simp [h];exact Ev.now _)
end Go.Proofs.Ytlglglbjckpnbaa.Q

namespace Go.Proofs.Ytlglglbjckpnbaa.Q
open Go.RowKit Go.Proofs.Ytlglglbjckpnbaa.P Go.Proofs.YtlglglbjckpnbaaW.PrintWords Go.Proofs.YtlglglbjckpnbaaW.PrintMore

def isAt (x:Sib) (a b:Int):Bool:=x.f0.f0 == a && x.f0.f1 == b
/-- The place of a dot, from place i on; -1 if it's nowhere. -/
def sibAt (a b:Int):Int→List Sib→Int
  | _,[] => -1
  | i,x :: r=>if isAt x a b=true then i else sibAt a b (i+1) r
theorem l03At_l0 (l:List Sib) (a b:Int) (hl:l.length≤4611686018427387904):∀ (s:List Sib) (i:Nat),l.drop i=s→i≤l.length→Ev (fun k=>Y39.l0 k l (i:Int) a b) (sibAt a b (i:Int) s)
  | [],i,h,hi=>by
    have:=dropNil' h hi
    refine Ev.step (f:=fun _=>some (-1)) (fun k=>?_) (Ev.now _)
    simp only [Y39.l0]
    rw [if_neg (by omega)]
  | x :: s,i,h,hi=>by
    obtain ⟨h1,h2,h3⟩:=dropCons h z36
    have hr:rd_T36 l (i:Int)=x:=by simpa [rd_T36] using h2
    refine Ev.step (f:=fun k=>if isAt x a b=true then some (i:Int) else Y39.l0 k l ((i+1:Nat):Int) a b) (fun k=>?_) ?_
    · simp only [Y39.l0,hr,isAt]
      rw [if_pos (by omega),if_pos (by omega),w64 (by omega) (by omega)]
      rfl
    · simp only [sibAt]
      refine evIte (fun h=>?_) (fun h=>?_)
      · rw [if_pos h];exact Ev.now _
      · rw [if_neg h];exact l03At_l0 l a b hl s (i+1) h3 (by omega)
theorem l03At_ev (l:List Sib) (a b:Int) (hl:l.length≤4611686018427387904):Ev (fun k=>Y39.f k l a b) (sibAt a b 0 l):=l03At_l0 l a b hl l 0 rfl (by omega)
theorem indexSib_l0 (l:List Sib) (a b:Int) (hl:l.length≤4611686018427387904):∀ (s:List Sib) (i:Nat),l.drop i=s→i≤l.length→Ev (fun k=>Y11.l0 k l (l.length:Int) (i:Int) a b) (sibAt a b (i:Int) s)
  | [],i,h,hi=>by
    have:=dropNil' h hi
    refine Ev.step (f:=fun _=>some (-1)) (fun k=>?_) (Ev.now _)
    simp only [Y11.l0]
    rw [if_neg (by omega)]
  | x :: s,i,h,hi=>by
    obtain ⟨h1,h2,h3⟩:=dropCons h z36
    have hr:rd_T36 l (i:Int)=x:=by simpa [rd_T36] using h2
    refine Ev.step (f:=fun k=>if isAt x a b=true then some (i:Int) else Y11.l0 k l (l.length:Int) ((i+1:Nat):Int) a b) (fun k=>?_) ?_
    · simp only [Y11.l0,hr,Y57.f,Option.bind_some,isAt]
      rw [if_pos (by omega),if_pos (by omega),if_pos (by omega),w64 (by omega) (by omega)]
      rfl
    · simp only [sibAt]
      refine evIte (fun h=>?_) (fun h=>?_)
      · rw [if_pos h];exact Ev.now _
      · rw [if_neg h];exact indexSib_l0 l a b hl s (i+1) h3 (by omega)
theorem Set_sib_ev (v:List Mark) (l:List Sib) (a b:Int) (hl:l.length≤4611686018427387904):Ev (fun k=>Y48.f k v l a b) (sibAt a b 0 l) :=
  Ev.bind (indexSib_l0 l a b hl l 0 rfl (by omega)) (Ev.now _)
theorem sibsFrom_mem (v:List Mark):∀ (s:List Sib) (p:Option Sib),sibsFrom v p s=true→∀ x ∈ s,sibOk v x=true
  | [],_,_,x,hx=>by simp at hx
  | y :: r,p,h,x,hx=>by
    have h2:sibOk v y=true∧sibsFrom v (some y) r=true:=by
      cases p with
      | none=>simpa [sibsFrom] using h
      | some z =>
        simp only [sibsFrom,Bool.and_eq_true] at h
        exact ⟨h.1,h.2.2⟩
    rcases List.mem_cons.1 hx with rfl | hx
    · exact h2.1
    · exact sibsFrom_mem v r _ h2.2 x hx
theorem setOk_iff (v:List Mark) (l:List Sib):setOk v l=true ↔ seenOk v=true∧l.length≤8∧sibsFrom v none l=true:=by
  simp [setOk]
end Go.Proofs.Ytlglglbjckpnbaa.Q

namespace Go.Proofs.Ytlglglbjckpnbaa.Q
open Go.RowKit Go.Proofs.Ytlglglbjckpnbaa.P Go.Proofs.YtlglglbjckpnbaaW.PrintWords Go.Proofs.YtlglglbjckpnbaaW.PrintMore

def ltS (x y:Sib):Bool:=dotLess x.f0.f0 x.f0.f1 y.f0.f0 y.f0.f1
theorem ltS_iff {x y:Sib}:ltS x y=true ↔ x.f0.f0<y.f0.f0∨(x.f0.f0=y.f0.f0∧x.f0.f1<y.f0.f1):=by simp [ltS,dotLess]
theorem ltS_trans {x y z:Sib} (h:ltS x y=true) (k:ltS y z=true):ltS x z=true:=by
  rw [ltS_iff] at *;omega
theorem ltS_asymm {x y:Sib} (h:ltS x y=true):¬ ltS y x=true:=by
  rw [ltS_iff] at *;omega
/-- The two have dots of their own. -/
def Apart (x y:Sib):Prop:=ltS x y=true∨ltS y x=true
def insS:List Sib→Sib→List Sib
  | [],x=>[x]
  | y :: r,x=>if ltS y x=true then y :: insS r x else x :: y :: r
/-- From the right; what it goes into stands turned around. -/
def insR:List Sib→Sib→List Sib
  | [],x=>[x]
  | y :: r,x=>if ltS x y=true then insR r x ++ [y] else r.reverse ++ [y,x]
theorem insR_length (x:Sib):∀ p:List Sib,(insR p x).length=p.length+1
  | []=>rfl
  | y :: r=>by
    simp only [insR]
    split
    · rw [List.length_append,insR_length x r];rfl
    · simp
theorem insS_snoc (x y:Sib) (hxy:Apart x y):∀ p:List Sib,(∀ z ∈ p,ltS z y=true)→insS (p ++ [y]) x=if ltS x y=true then insS p x ++ [y] else p ++ [y,x]
  | [],_=>by
    by_cases h:ltS x y=true
    · rw [if_pos h]
      simp only [List.nil_append,insS]
      rw [if_neg (ltS_asymm h)]
      rfl
    · rw [if_neg h]
      simp only [List.nil_append,insS]
      rw [if_pos (hxy.resolve_left h)]
  | z :: p,hp=>by
    have ih:=insS_snoc x y hxy p (fun w hw=>hp w (List.mem_cons_of_mem _ hw))
    have hz:=hp z List.mem_cons_self
    simp only [List.cons_append,insS]
    by_cases h:ltS x y=true
    · rw [if_pos h] at ih ⊢
      by_cases hzx:ltS z x=true
      · rw [if_pos hzx,if_pos hzx,ih];rfl
      · rw [if_neg hzx,if_neg hzx];rfl
    · rw [if_neg h] at ih ⊢
      rw [if_pos (ltS_trans hz (hxy.resolve_left h)),ih]
abbrev Sorted (p:List Sib):Prop:=p.Pairwise fun a b=>ltS a b=true
theorem insR_insS (x:Sib):∀ p:List Sib,Sorted p.reverse→(∀ z ∈ p,Apart x z)→insR p x=insS p.reverse x
  | [],_,_=>rfl
  | y :: r,hs,ha=>by
    rw [List.reverse_cons] at hs ⊢
    have h1:=List.pairwise_append.1 hs
    rw [insS_snoc x y (ha y List.mem_cons_self) r.reverse (fun z hz=>h1.2.2 z hz y (by simp))]
    simp only [insR]
    rw [insR_insS x r h1.1 (fun z hz=>ha z (List.mem_cons_of_mem _ hz))]
theorem insS_mem (x:Sib):∀ (p:List Sib) (z:Sib),z ∈ insS p x→z=x∨z ∈ p
  | [],z,h=>by simpa [insS] using h
  | y :: r,z,h=>by
    simp only [insS] at h
    split at h
    · rcases List.mem_cons.1 h with rfl | h
      · exact .inr List.mem_cons_self
      · rcases insS_mem x r z h with h | h
        · exact .inl h
        · exact .inr (List.mem_cons_of_mem _ h)
    · rcases List.mem_cons.1 h with rfl | h
      · exact .inl rfl
      · exact .inr h
theorem insS_sorted (x:Sib):∀ p:List Sib,Sorted p→(∀ z ∈ p,Apart x z)→Sorted (insS p x)
  | [],_,_=>by simp [insS,Sorted]
  | y :: r,hs,ha=>by
    have hs2:=List.pairwise_cons.1 hs
    simp only [insS]
    split
    · rename_i h
      refine List.pairwise_cons.2 ⟨fun z hz=>?_,insS_sorted x r hs2.2 (fun z hz=>ha z (List.mem_cons_of_mem _ hz))⟩
      rcases insS_mem x r z hz with rfl | hz
      · exact h
      · exact hs2.1 z hz
    · rename_i h
      have hxy:ltS x y=true:=(ha y List.mem_cons_self).resolve_right h
      refine List.pairwise_cons.2 ⟨fun z hz=>?_,hs⟩
      rcases List.mem_cons.1 hz with rfl | hz
      · exact hxy
      · exact ltS_trans hxy (hs2.1 z hz)
def insF (p:List Sib) (x:Sib):List Sib:=insR p.reverse x
theorem foldl_same:∀ (s p:List Sib),Sorted p→(∀ x ∈ s,∀ z ∈ p,Apart x z)→(s.Pairwise fun a b=>Apart b a)→s.foldl insF p=s.foldl insS p
  | [],_,_,_,_=>rfl
  | x :: s,p,hs,ha,hd=>by
    have hd2:=List.pairwise_cons.1 hd
    have e:insF p x=insS p x:=by
      have:=insR_insS x p.reverse (by rw [List.reverse_reverse];exact hs) (fun z hz=>ha x List.mem_cons_self z (List.mem_reverse.1 hz))
      rw [List.reverse_reverse] at this
      exact this
    rw [List.foldl_cons,List.foldl_cons,e]
    refine foldl_same s _ (insS_sorted x p hs (ha x List.mem_cons_self)) (fun y hy z hz=>?_) hd2.2
    rcases insS_mem x p z hz with rfl | hz
    · exact hd2.1 y hy
    · exact ha y (List.mem_cons_of_mem _ hy) z hz
theorem foldl_length (f:List Sib→Sib→List Sib) (hf:∀ p x,(f p x).length=p.length+1):∀ (s p:List Sib),(s.foldl f p).length=p.length+s.length
  | [],p=>rfl
  | x :: s,p=>by rw [List.foldl_cons,foldl_length f hf s,hf,List.length_cons];omega
theorem insS_length (x:Sib):∀ p:List Sib,(insS p x).length=p.length+1
  | []=>rfl
  | y :: r=>by
    simp only [insS]
    split
    · rw [List.length_cons,insS_length x r];rfl
    · rfl
theorem sibsFrom_lt (v:List Mark):∀ (s:List Sib) (y:Sib),sibsFrom v (some y) s=true→∀ z ∈ s,ltS y z=true
  | [],_,_,z,hz=>by cases hz
  | x :: r,y,h,z,hz=>by
    simp only [sibsFrom,Bool.and_eq_true] at h
    rcases List.mem_cons.1 hz with rfl | hz
    · exact h.2.1
    · exact ltS_trans h.2.1 (sibsFrom_lt v r x h.2.2 z hz)
theorem sibsFrom_sorted (v:List Mark):∀ (s:List Sib) (o:Option Sib),sibsFrom v o s=true→Sorted s
  | [],_,_=>List.Pairwise.nil
  | x :: r,o,h=>by
    have h2:sibsFrom v (some x) r=true:=by
      cases o with
      | none=>simp only [sibsFrom,Bool.and_eq_true] at h;exact h.2
      | some y=>simp only [sibsFrom,Bool.and_eq_true] at h;exact h.2.2
    exact List.pairwise_cons.2 ⟨sibsFrom_lt v r x h2,sibsFrom_sorted v r _ h2⟩
theorem setOk_sorted {v:List Mark} {l:List Sib} (h:setOk v l=true):Sorted l:=sibsFrom_sorted v l none ((setOk_iff v l).1 h).2.2
theorem sibAt_none (a b:Int):∀ (l:List Sib) (i:Int),0≤i→sibAt a b i l<0→∀ z ∈ l,¬ (z.f0.f0=a∧z.f0.f1=b)
  | [],_,_,_,z,hz=>by cases hz
  | x :: r,i,hi,h,z,hz=>by
    simp only [sibAt] at h
    split at h
    · omega
    · rename_i hx
      rcases List.mem_cons.1 hz with rfl | hz
      · intro e
        exact hx (by simp [isAt,e.1,e.2])
      · exact sibAt_none a b r (i+1) (by omega) h z hz
def keepA (vb:List Mark) (lb:List Sib) (x:Sib):Bool:=decide (sibAt x.f0.f0 x.f0.f1 0 lb≥0) || !seenHas vb x.f0.f0 x.f0.f1
def keepB (va:List Mark) (la:List Sib) (x:Sib):Bool:=decide (sibAt x.f0.f0 x.f0.f1 0 la<0) && !seenHas va x.f0.f0 x.f0.f1
def kept (va:List Mark) (la:List Sib) (vb:List Mark) (lb:List Sib):List Sib:=la.filter (keepA vb lb) ++ lb.filter (keepB va la)
theorem kept_apart {va vb:List Mark} {la lb:List Sib} (ha:setOk va la=true) (hb:setOk vb lb=true):(kept va la vb lb).Pairwise fun a b=>Apart b a:=by
  refine List.pairwise_append.2 ⟨((setOk_sorted ha).sublist List.filter_sublist).imp (fun h=>.inr h),((setOk_sorted hb).sublist List.filter_sublist).imp (fun h=>.inr h),fun a hxa b hxb=>?_⟩
  have h1:=(List.mem_filter.1 hxa).1
  have h2:=(List.mem_filter.1 hxb).2
  simp only [keepB,Bool.and_eq_true,decide_eq_true_eq] at h2
  have h3:=sibAt_none _ _ la 0 (Int.le_refl _) h2.1 a h1
  unfold Apart
  rw [ltS_iff,ltS_iff]
  omega
noncomputable def setSync (va:List Mark) (la:List Sib) (vb:List Mark) (lb:List Sib):List Mark × List Sib × Int :=
  if setOk va la=true∧setOk vb lb=true then (if (kept va la vb lb).length>8 then ([],[],9) else (seenJoin va vb,(kept va la vb lb).foldl insS [],0)) else ([],[],1)
theorem setSync_length (va:List Mark) (la:List Sib) (vb:List Mark) (lb:List Sib):(setSync va la vb lb).1.length≤5∧(setSync va la vb lb).2.1.length≤8:=by
  unfold setSync
  split
  · split
    · simp
    · refine ⟨joinFrom_length va vb 5 1,?_⟩
      have:=foldl_length insS (fun p x=>insS_length x p) (kept va la vb lb) []
      simp only [List.length_nil] at this
      show (List.foldl insS [] (kept va la vb lb)).length≤8
      omega
  · simp
theorem getD_midS (pre:List Sib) (m:Sib) (s:List Sib) (d:Sib):(pre ++ m :: s).getD pre.length d=m:=by
  simp [List.getD_eq_getElem?_getD]
theorem l03In_l0 (x:Sib):∀ (s pre:List Sib),pre.length+s.length≤1048576→Ev (fun k=>Y15.l0 k (pre ++ s) (pre.length:Int) x.f0.f0 x.f0.f1 x.f1 x.f2) (pre ++ insS s x):=by
  have stop:∀ (s pre:List Sib),pre.length+s.length≤1048576→Ev (fun k=>Y15.j1 k (pre ++ s) (pre.length:Int) false x.f0.f0 x.f0.f1 x.f1 x.f2) (pre ++ x :: s):=by
    intro s pre hl
    refine Ev.step (fun k=>by simp only [Y15.j1];rw [if_neg (by simp)]) ?_
    refine evBind1 rfl (evPos (by omega) (evPos (by simp;omega) (evBind1 rfl (evPos (by simp;omega) (evBind1 rfl (evPos (by simp;omega) (evBind1 rfl (evBind1 rfl (evPos (by simp;omega) ?_)))))))))
    have e:(pre ++ s).take pre.length=pre:=by simp
    have e2:(pre ++ s).drop pre.length=s:=by simp
    simp only [Int.toNat_natCast,e,e2,List.nil_append,List.append_assoc,List.singleton_append]
    exact Ev.now _
  intro s
  induction s with
  | nil =>
    intro pre hl
    have:=stop [] pre hl
    simp only [insS]
    refine Ev.step (fun k=>?_) this
    simp only [Y15.l0]
    rw [if_neg (by simp)]
  | cons y r ih =>
    intro pre hl
    simp only [List.length_cons] at hl
    have hr:rd_T36 (pre ++ y :: r) (pre.length:Int)=y:=by simp only [rd_T36,Int.toNat_natCast,getD_midS]
    have hl0:∀ k,Y15.l0 (k+1) (pre ++ y :: r) (pre.length:Int) x.f0.f0 x.f0.f1 x.f1 x.f2=Y15.j1 k (pre ++ y :: r) (pre.length:Int) (ltS y x) x.f0.f0 x.f0.f1 x.f1 x.f2:=fun k=>by
      simp only [Y15.l0,hr,l03Less_is,Option.bind_some]
      rw [if_pos (by simp;omega),if_pos (by omega)]
      rfl
    refine Ev.step hl0 ?_
    simp only [insS]
    cases h:ltS y x with
    | true =>
      rw [if_pos rfl]
      have e:=ih (pre ++ [y]) (by simp;omega)
      simp only [List.length_append,List.length_cons,List.length_nil,List.append_assoc,List.cons_append,List.nil_append] at e
      refine Ev.step (fun k=>?_) e
      simp only [Y15.j1]
      rw [if_pos trivial,w64 (by omega) (by omega)]
      rfl
    | false =>
      rw [if_neg (by simp)]
      exact stop (y :: r) pre (by simp;omega)
theorem l03In_ev (l:List Sib) (x:Sib) (hl:l.length≤1048576):Ev (fun k=>Y15.f k l x.f0.f0 x.f0.f1 x.f1 x.f2) (insS l x):=l03In_l0 x l [] (by simpa using hl)
def keepAS (vb:List Mark) (lb:List Sib) (x:Sib):Bool:=decide (sibAt x.f0.f0 x.f0.f1 0 lb≥0) || !seenHasOut vb x.f0.f0 x.f0.f1
def keepBS (va:List Mark) (la:List Sib) (x:Sib):Bool:=decide (sibAt x.f0.f0 x.f0.f1 0 la<0) && !seenHasOut va x.f0.f0 x.f0.f1
theorem l03Sync_l1 (va:List Mark) (la:List Sib) (vb:List Mark) (lb:List Sib) (v:List Mark) (hva:va.length≤1048576) (hla:la.length≤8) (hlb:lb.length≤8):∀ (s:List Sib) (i:Nat),lb.drop i=s→i≤lb.length→∀ acc:List Sib,acc.length+s.length≤16 →
    Ev (fun k=>Y5.l1 k (i:Int) va la vb lb v acc) (if ((s.filter (keepBS va la)).foldl insS acc).length>8 then ([],[],0,0,9) else (v,(s.filter (keepBS va la)).foldl insS acc,0,0,0))
  | [],i,h,hi,acc,hc=>by
    have:=dropNil' h hi
    show Ev _ (if acc.length>8 then ([],[],0,0,9) else (v,acc,0,0,0))
    refine Ev.step (f:=fun k=>if (acc.length:Int)>8 then some ([],[],0,0,9) else some (v,acc,0,0,0)) (fun k=>?_) (evIte (fun h=>?_) (fun h=>?_))
    · simp only [Y5.l1,Y40.f,Option.bind_some]
      rw [if_neg (by omega)]
    · rw [if_pos (by omega)];exact Ev.now _
    · rw [if_neg (by omega)];exact Ev.now _
  | x :: s,i,h,hi,acc,hc=>by
    obtain ⟨h1,h2,h3⟩:=dropCons h z36
    simp only [List.length_cons] at hc
    have hr:rd_T36 lb (i:Int)=x:=by simpa [rd_T36] using h2
    have hj:Ev (fun k=>Y5.j3 k (i:Int) (keepBS va la x) va la vb lb v acc) (if (((x :: s).filter (keepBS va la)).foldl insS acc).length>8 then ([],[],0,0,9) else (v,((x :: s).filter (keepBS va la)).foldl insS acc,0,0,0)):=by
      cases hk:keepBS va la x with
      | true =>
        rw [List.filter_cons_of_pos hk,List.foldl_cons]
        have ih:=l03Sync_l1 va la vb lb v hva hla hlb s (i+1) h3 (by omega) (insS acc x) (by rw [insS_length];omega)
        refine Ev.step (fun k=>by simp only [Y5.j3,hr];rw [if_pos trivial,if_pos (by omega),if_pos (by omega)]) (Ev.bind (l03In_ev acc x (by omega)) ?_)
        rw [w64 (by omega) (by omega)]
        exact ih
      | false =>
        rw [List.filter_cons_of_neg (by simp [hk])]
        have ih:=l03Sync_l1 va la vb lb v hva hla hlb s (i+1) h3 (by omega) acc (by omega)
        refine Ev.step (fun k=>?_) ih
        simp only [Y5.j3]
        rw [if_neg (by simp),w64 (by omega) (by omega)]
        rfl
    refine Ev.step (fun k=>by simp only [Y5.l1,hr];rw [if_pos (by omega),if_pos (by omega)]) (Ev.bind (l03At_ev la _ _ (by omega)) ?_)
    by_cases hn:sibAt x.f0.f0 x.f0.f1 0 la<0
    · refine evPos hn (Ev.bind (spec_SeenHas_ev va _ _ (by omega)) ?_)
      have e:keepBS va la x=!seenHasOut va x.f0.f0 x.f0.f1:=by simp [keepBS,hn]
      rw [e] at hj
      exact hj
    · refine evNeg hn ?_
      have e:keepBS va la x=false:=by simp [keepBS,hn]
      rw [e] at hj
      exact hj
theorem l03Sync_l0 (va:List Mark) (la:List Sib) (vb:List Mark) (lb:List Sib) (v:List Mark) (hva:va.length≤1048576) (hvb:vb.length≤1048576) (hla:la.length≤8) (hlb:lb.length≤8):∀ (s:List Sib) (i:Nat),la.drop i=s→i≤la.length→∀ acc:List Sib,acc.length+s.length≤8 →
    Ev (fun k=>Y5.l0 k (i:Int) va la vb lb v acc) (if ((s.filter (keepAS vb lb) ++ lb.filter (keepBS va la)).foldl insS acc).length>8 then ([],[],0,0,9) else (v,(s.filter (keepAS vb lb) ++ lb.filter (keepBS va la)).foldl insS acc,0,0,0))
  | [],i,h,hi,acc,hc=>by
    have:=dropNil' h hi
    simp only [List.filter_nil,List.nil_append]
    refine Ev.step (fun k=>?_) (l03Sync_l1 va la vb lb v hva hla hlb lb 0 rfl (by omega) acc (by simp only [List.length_nil] at hc;omega))
    simp only [Y5.l0]
    rw [if_neg (by omega)]
    rfl
  | x :: s,i,h,hi,acc,hc=>by
    obtain ⟨h1,h2,h3⟩:=dropCons h z36
    simp only [List.length_cons] at hc
    have hr:rd_T36 la (i:Int)=x:=by simpa [rd_T36] using h2
    have hj:Ev (fun k=>Y5.j1 k (i:Int) (keepAS vb lb x) va la vb lb v acc) (if (((x :: s).filter (keepAS vb lb) ++ lb.filter (keepBS va la)).foldl insS acc).length>8 then ([],[],0,0,9) else (v,((x :: s).filter (keepAS vb lb) ++ lb.filter (keepBS va la)).foldl insS acc,0,0,0)):=by
      cases hk:keepAS vb lb x with
      | true =>
        rw [List.filter_cons_of_pos hk,List.cons_append,List.foldl_cons]
        have ih:=l03Sync_l0 va la vb lb v hva hvb hla hlb s (i+1) h3 (by omega) (insS acc x) (by rw [insS_length];omega)
        refine Ev.step (fun k=>by simp only [Y5.j1,hr];rw [if_pos trivial,if_pos (by omega),if_pos (by omega)]) (Ev.bind (l03In_ev acc x (by omega)) ?_)
        rw [w64 (by omega) (by omega)]
        exact ih
      | false =>
        rw [List.filter_cons_of_neg (by simp [hk])]
        have ih:=l03Sync_l0 va la vb lb v hva hvb hla hlb s (i+1) h3 (by omega) acc (by omega)
        refine Ev.step (fun k=>?_) ih
        simp only [Y5.j1]
        rw [if_neg (by simp),w64 (by omega) (by omega)]
        rfl
    refine Ev.step (fun k=>by simp only [Y5.l0,hr];rw [if_pos (by omega),if_pos (by omega)]) (Ev.bind (l03At_ev lb _ _ (by omega)) ?_)
    by_cases hn:sibAt x.f0.f0 x.f0.f1 0 lb≥0
    · refine evPos hn ?_
      have e:keepAS vb lb x=true:=by simp [keepAS,hn]
      rw [e] at hj
      exact hj
    · refine evNeg hn (Ev.bind (spec_SeenHas_ev vb _ _ (by omega)) ?_)
      have e:keepAS vb lb x=!seenHasOut vb x.f0.f0 x.f0.f1:=by simp [keepAS,hn]
      rw [e] at hj
      exact hj
theorem seenHas_out {v w:List Mark} {l:List Sib} (hw:seenOk w=true) (h:setOk v l=true):∀ x ∈ l,seenHasOut w x.f0.f0 x.f0.f1=seenHas w x.f0.f0 x.f0.f1:=fun x hx=>by
  have h1:=sibsFrom_mem v l none ((setOk_iff v l).1 h).2.2 x hx
  simp only [sibOk,Bool.and_eq_true] at h1
  simp [seenHasOut,hw,h1.1]
theorem keptS {va vb:List Mark} {la lb:List Sib} (ha:setOk va la=true) (hb:setOk vb lb=true):la.filter (keepAS vb lb) ++ lb.filter (keepBS va la)=kept va la vb lb:=by
  unfold kept
  have h1:=((setOk_iff va la).1 ha).1
  have h2:=((setOk_iff vb lb).1 hb).1
  congr 1
  · exact List.filter_congr (fun x hx=>by simp only [keepAS,keepA,seenHas_out h2 ha x hx])
  · exact List.filter_congr (fun x hx=>by simp only [keepBS,keepB,seenHas_out h1 hb x hx])
theorem l03Sync_ev {va vb:List Mark} {la lb:List Sib} (ha:setOk va la=true) (hb:setOk vb lb=true) (hva:va.length≤1048576) (hvb:vb.length≤1048576) :
    Ev (fun k=>Y5.f k va la vb lb) ((setSync va la vb lb).1,(setSync va la vb lb).2.1,0,0,(setSync va la vb lb).2.2):=by
  have hla:=((setOk_iff va la).1 ha).2.1
  have hlb:=((setOk_iff vb lb).1 hb).2.1
  have e:=l03Sync_l0 va la vb lb (seenJoin va vb) hva hvb hla hlb la 0 rfl (by omega) [] (by simpa using hla)
  rw [keptS ha hb] at e
  have hn:=foldl_length insS (fun p x=>insS_length x p) (kept va la vb lb) []
  rw [List.length_nil,Nat.zero_add] at hn
  rw [hn] at e
  unfold setSync
  rw [if_pos ⟨ha,hb⟩]
  refine Ev.bind (l02Join_ev va vb (by omega) (by omega)) ?_
  by_cases h:(kept va la vb lb).length>8
  · rw [if_pos h] at e ⊢;exact e
  · rw [if_neg h] at e ⊢;exact e
theorem spec_SetSync_ev (va:List Mark) (la:List Sib) (vb:List Mark) (lb:List Sib) (hva:va.length≤1048576) (hvb:vb.length≤1048576) (hla:la.length≤1048576) (hlb:lb.length≤1048576) :
    Ev (fun k=>Y19.f k va la vb lb) ((setSync va la vb lb).1,(setSync va la vb lb).2.1,0,0,(setSync va la vb lb).2.2):=by
  unfold Y19.f
  have jT:Ev (fun k=>Y19.j0 k true va la vb lb) ([],[],0,0,1):=Ev.step (f:=fun _=>some ([],[],0,0,1)) (fun k=>by simp [Y19.j0,Y40.f]) (Ev.now _)
  refine Ev.bind (spec_SetRight_ev va la (by omega) hla) ?_
  cases ha:setOk va la with
  | false =>
    have e:setSync va la vb lb=([],[],1):=by unfold setSync;rw [if_neg (by simp [ha])]
    rw [e]
    exact evNeg (by simp) jT
  | true =>
    refine evPos rfl (Ev.bind (spec_SetRight_ev vb lb (by omega) hlb) ?_)
    cases hb:setOk vb lb with
    | false =>
      have e:setSync va la vb lb=([],[],1):=by unfold setSync;rw [if_neg (by simp [hb])]
      rw [e]
      exact jT
    | true=>exact Ev.step (fun k=>by simp only [Y19.j0];rw [if_neg (by simp)]) (Ev.bind (l03Sync_ev ha hb hva hvb) (Ev.now _))
theorem cmpDots_lt (a b c d:Int):decide (cmpDots a b c d<0)=dotLess a b c d:=by
  have h:=cmpDots_ge a b c d
  by_cases h1:cmpDots a b c d<0
  · rw [decide_eq_true h1]
    rw [decide_eq_false (by omega)] at h
    simpa using h
  · rw [decide_eq_false h1]
    rw [decide_eq_true (by omega)] at h
    simpa using h
theorem sorted1_ev (x y:Sib):Ev (fun k=>Y49.f k x.f0.f0 x.f0.f1 x.f1 x.f2 y.f0.f0 y.f0.f1 y.f1 y.f2) (cmpDots x.f0.f0 x.f0.f1 y.f0.f0 y.f0.f1):=Ev.bind (compareDots_ev _ _ _ _) (Ev.now _)
theorem set_mid2 (pre:List Sib) (y x:Sib) (q:List Sib):((pre ++ y :: x :: q).set (pre.length+1) y).set pre.length x=pre ++ x :: y :: q:=by
  rw [List.set_append_right _ _ (by omega),List.set_append_right _ _ (by omega)]
  simp
theorem sort_l1 (n i:Int) {R:List Sib} (x:Sib):∀ (r q:List Sib),r.length+q.length≤1048576 →
    Ev (fun k=>Y1.l0 k (insR r x ++ q) 0 n (wrap64 (i+1))) R →
    Ev (fun k=>Y1.l1 k (r.reverse ++ x :: q) 0 n i (r.length:Int)) R
  | [],q,hl,h=>by
    refine Ev.step (f:=fun k=>Y1.j2 k ([].reverse ++ x :: q) 0 n i (([]:List Sib).length:Int) false) (fun k=>?_) (Ev.step (fun k=>?_) h)
    · simp only [Y1.l1]
      rw [if_neg (by simp)]
    · simp only [Y1.j2]
      rw [if_neg (by simp)]
      rfl
  | y :: r,q,hl,h=>by
    simp only [List.length_cons] at hl
    have hL:(y :: r).reverse ++ x :: q=r.reverse ++ y :: x :: q:=by simp
    have hlen:(r.reverse ++ y :: x :: q).length=r.length+(q.length+1+1):=by simp
    have r1:rd_T36 (r.reverse ++ y :: x :: q) ((r.length+1:Nat):Int)=x:=by
      simp only [rd_T36,Int.toNat_natCast]
      rw [show r.reverse ++ y :: x :: q=(r.reverse ++ [y]) ++ x :: q from by simp,show r.length+1=(r.reverse ++ [y]).length from by simp]
      exact getD_midS _ _ _ _
    have r2:rd_T36 (r.reverse ++ y :: x :: q) (r.length:Int)=y:=by
      simp only [rd_T36,Int.toNat_natCast]
      rw [show r.length=r.reverse.length from by simp]
      exact getD_midS _ _ _ _
    have w1:wrap64 (((r.length+1:Nat):Int)-1)=(r.length:Int):=by rw [w64 (by omega) (by omega)];omega
    rw [hL]
    show Ev (fun k=>Y1.l1 k (r.reverse ++ y :: x :: q) 0 n i ((r.length+1:Nat):Int)) R
    refine Ev.step (f:=fun k=>(Y49.f k x.f0.f0 x.f0.f1 x.f1 x.f2 y.f0.f0 y.f0.f1 y.f1 y.f2).bind fun t=>Y1.j2 k (r.reverse ++ y :: x :: q) 0 n i ((r.length+1:Nat):Int) (decide (t<0))) (fun k=>?_) (Ev.bind (sorted1_ev x y) ?_)
    · simp only [Y1.l1,w1,r1,r2]
      rw [if_pos (by omega),if_pos (by omega),if_pos (by omega),if_pos (by omega),if_pos (by omega)]
    · rw [cmpDots_lt]
      cases hk:dotLess x.f0.f0 x.f0.f1 y.f0.f0 y.f0.f1 with
      | true =>
        have e:insR (y :: r) x=insR r x ++ [y]:=if_pos hk
        rw [e,List.append_assoc,List.singleton_append] at h
        have ih:=sort_l1 n i x r (y :: q) (by simp;omega) h
        refine Ev.step (fun k=>?_) ih
        simp only [Y1.j2,w1,r1,r2,Int.toNat_natCast]
        rw [if_pos trivial,if_pos (by omega),if_pos (by omega),if_pos (by omega),if_pos (by omega)]
        have:=set_mid2 r.reverse y x q
        rw [List.length_reverse] at this
        rw [this]
      | false =>
        have e:insR (y :: r) x=r.reverse ++ [y,x]:=if_neg (show ¬ ltS x y=true by simp only [ltS,hk];simp)
        rw [e,List.append_assoc] at h
        refine Ev.step (fun k=>?_) h
        simp only [Y1.j2]
        rw [if_neg (by simp)]
        rfl
theorem insF_length (p:List Sib) (x:Sib):(insF p x).length=p.length+1:=by
  unfold insF
  rw [insR_length,List.length_reverse]
theorem sort_l0 (n:Nat) (hn:n≤1048576):∀ (s p:List Sib),p.length+s.length=n →
    Ev (fun k=>Y1.l0 k (p ++ s) 0 (n:Int) (p.length:Int)) (s.foldl insF p)
  | [],p,h=>by
    refine Ev.step (f:=fun _=>some (p ++ [])) (fun k=>?_) (by rw [List.append_nil];exact Ev.now _)
    simp only [Y1.l0]
    simp only [List.length_nil] at h
    rw [if_neg (by omega)]
  | x :: s,p,h=>by
    simp only [List.length_cons] at h
    have ih:=sort_l0 n hn s (insF p x) (by rw [insF_length];omega)
    rw [insF_length] at ih
    have e:=sort_l1 (n:Int) (p.length:Int) (R:=s.foldl insF (insF p x)) x p.reverse s (by simp;omega) (by
      rw [w64 (by omega) (by omega)]
      exact ih)
    rw [List.reverse_reverse,List.length_reverse] at e
    refine Ev.step (fun k=>?_) e
    simp only [Y1.l0]
    rw [if_pos (by omega)]
theorem insertion_ev (l:List Sib) (hl:l.length≤1048576):Ev (fun k=>Y1.f k l 0 (l.length:Int)) (l.foldl insF []):=by
  unfold Y1.f
  rw [show wrap64 (0+1)=1 from (w64 (by omega) (by omega)).trans (by omega)]
  cases l with
  | nil =>
    refine Ev.step (f:=fun _=>some []) (fun k=>?_) (Ev.now _)
    simp only [Y1.l0]
    rw [if_neg (by simp)]
  | cons x s=>exact sort_l0 (x :: s).length hl s [x] (by simp;omega)
set_option maxRecDepth 100000 in
theorem bits_Len64_ev (n:Int) (h0:0≤n) (h1:n<256):∃ r,Ev (fun k=>Y31.f k n) r:=by
  have e1:∀ k,Y31.j1 (k+1) n 0=Y31.j1 1 n 0:=fun k=>by
    rw [Y31.j1,Y31.j1]
  have e:(Y31.j1 1 n 0).isSome=true:=by
    rw [Y31.j1,if_neg (by omega),if_pos (by omega),if_pos (by omega)]
    rfl
  generalize Y31.j1 1 n 0=z at e e1
  obtain ⟨r,rfl⟩:=Option.isSome_iff_exists.1 e
  refine ⟨r,?_⟩
  unfold Y31.f
  exact evNeg (by omega) (Ev.step (f:=fun k=>Y31.j1 k n 0) (fun k=>by rw [Y31.j0,if_neg (by omega)]) (Ev.step (f:=fun _=>some r) e1 (Ev.now _)))
theorem sorted_ev (l:List Sib) (hl:l.length≤8):Ev (fun k=>Y54.f k l) (l.foldl insF []):=by
  have hu:IntKind.u64.wrap (l.length:Int)=(l.length:Int):=by rw [u64w];omega
  obtain ⟨r,hr⟩:=bits_Len64_ev (l.length:Int) (by omega) (by omega)
  refine Ev.bind (f:=fun _ t=>some t) ?_ (Ev.now _)
  unfold Y22.f
  rw [hu]
  refine Ev.bind (Ev.bind hr (Ev.now _)) (Ev.bind ?_ (Ev.now _))
  refine Ev.step (fun k=>by rw [Y13.f]) (Ev.step (fun k=>by rw [Y13.l0]) (evPos ?_ (Ev.bind (insertion_ev l (by omega)) (Ev.now _))))
  rw [w64 (by omega) (by omega)]
  omega
theorem implSync_l1 (va:List Mark) (la:List Sib) (v:List Mark) (hva:va.length≤1048576) (hla:la.length≤8) (lb:List Sib) (hlb:lb.length≤8) {R:List Mark × List Sib × Int × Int × Int}:∀ (s:List Sib) (i:Nat),lb.drop i=s→i≤lb.length→∀ acc:List Sib,acc.length+s.length≤16 →
    Ev (fun k=>if ((acc ++ s.filter (keepB va la)).length:Int)>8 then some ([],[],0,0,9) else (Y54.f k (acc ++ s.filter (keepB va la))).bind fun t=>some (v,t,0,0,0)) R →
    Ev (fun k=>Y10.l1 k lb (lb.length:Int) (i:Int) va la v acc) R
  | [],i,h,hi,acc,hc,hR=>by
    have:=dropNil' h hi
    simp only [List.filter_nil,List.append_nil] at hR
    refine Ev.step (fun k=>?_) hR
    simp only [Y10.l1]
    rw [if_neg (by omega)]
  | x :: s,i,h,hi,acc,hc,hR=>by
    obtain ⟨h1,h2,h3⟩:=dropCons h z36
    simp only [List.length_cons] at hc
    have hr:rd_T36 lb (i:Int)=x:=by simpa [rd_T36] using h2
    have hj:Ev (fun k=>Y10.j4 k lb (lb.length:Int) (i:Int) (keepB va la x) va la v acc x.f0.f0 x.f0.f1 x.f1 x.f2) R:=by
      cases hk:keepB va la x with
      | true =>
        rw [List.filter_cons_of_pos hk] at hR
        have ih:=implSync_l1 va la v hva hla lb hlb s (i+1) h3 (by omega) (acc ++ [x]) (by simp;omega) (by rw [List.append_assoc,List.singleton_append];exact hR)
        refine Ev.step (fun k=>?_) ih
        simp only [Y10.j4]
        rw [if_pos trivial,if_pos (by omega),w64 (by omega) (by omega)]
        rfl
      | false =>
        rw [List.filter_cons_of_neg (by simp [hk])] at hR
        have ih:=implSync_l1 va la v hva hla lb hlb s (i+1) h3 (by omega) acc (by omega) hR
        refine Ev.step (fun k=>?_) ih
        simp only [Y10.j4]
        rw [if_neg (by simp),w64 (by omega) (by omega)]
        rfl
    refine Ev.step (fun k=>by simp only [Y10.l1,hr];rw [if_pos (by omega),if_pos (by omega),if_pos (by omega)]) (Ev.bind (Set_sib_ev va la _ _ (by omega)) ?_)
    by_cases hn:sibAt x.f0.f0 x.f0.f1 0 la<0
    · refine evPos hn (Ev.bind (seenHas_ev va _ _ (by omega)) ?_)
      have e:keepB va la x=!seenHas va x.f0.f0 x.f0.f1:=by simp [keepB,hn]
      rw [e] at hj
      exact hj
    · refine evNeg hn ?_
      have e:keepB va la x=false:=by simp [keepB,hn]
      rw [e] at hj
      exact hj
theorem implSync_l0 (va:List Mark) (la:List Sib) (vb:List Mark) (lb:List Sib) (v:List Mark) (hva:va.length≤1048576) (hvb:vb.length≤1048576) (hla:la.length≤8) (hlb:lb.length≤8) {R:List Mark × List Sib × Int × Int × Int}:∀ (s:List Sib) (i:Nat),la.drop i=s→i≤la.length→∀ acc:List Sib,acc.length+s.length≤8 →
    Ev (fun k=>if ((acc ++ s.filter (keepA vb lb) ++ lb.filter (keepB va la)).length:Int)>8 then some ([],[],0,0,9) else (Y54.f k (acc ++ s.filter (keepA vb lb) ++ lb.filter (keepB va la))).bind fun t=>some (v,t,0,0,0)) R →
    Ev (fun k=>Y10.l0 k la (la.length:Int) (i:Int) va la vb lb v acc) R
  | [],i,h,hi,acc,hc,hR=>by
    have:=dropNil' h hi
    simp only [List.filter_nil,List.append_nil] at hR
    refine Ev.step (fun k=>?_) (implSync_l1 va la v hva hla lb hlb lb 0 rfl (by omega) acc (by simp only [List.length_nil] at hc;omega) hR)
    simp only [Y10.l0]
    rw [if_neg (by omega)]
    rfl
  | x :: s,i,h,hi,acc,hc,hR=>by
    obtain ⟨h1,h2,h3⟩:=dropCons h z36
    simp only [List.length_cons] at hc
    have hr:rd_T36 la (i:Int)=x:=by simpa [rd_T36] using h2
    have hj:Ev (fun k=>Y10.j2 k la (la.length:Int) (i:Int) (keepA vb lb x) va la vb lb v acc x.f0.f0 x.f0.f1 x.f1 x.f2) R:=by
      cases hk:keepA vb lb x with
      | true =>
        rw [List.filter_cons_of_pos hk] at hR
        have ih:=implSync_l0 va la vb lb v hva hvb hla hlb s (i+1) h3 (by omega) (acc ++ [x]) (by simp;omega) (by rw [List.append_assoc acc,List.singleton_append];exact hR)
        refine Ev.step (fun k=>?_) ih
        simp only [Y10.j2]
        rw [if_pos trivial,if_pos (by omega),w64 (by omega) (by omega)]
        rfl
      | false =>
        rw [List.filter_cons_of_neg (by simp [hk])] at hR
        have ih:=implSync_l0 va la vb lb v hva hvb hla hlb s (i+1) h3 (by omega) acc (by omega) hR
        refine Ev.step (fun k=>?_) ih
        simp only [Y10.j2]
        rw [if_neg (by simp),w64 (by omega) (by omega)]
        rfl
    refine Ev.step (fun k=>by simp only [Y10.l0,hr];rw [if_pos (by omega),if_pos (by omega),if_pos (by omega)]) (Ev.bind (Set_sib_ev vb lb _ _ (by omega)) ?_)
    by_cases hn:sibAt x.f0.f0 x.f0.f1 0 lb≥0
    · refine evPos hn ?_
      have e:keepA vb lb x=true:=by simp [keepA,hn]
      rw [e] at hj
      exact hj
    · refine evNeg hn (Ev.bind (seenHas_ev vb _ _ (by omega)) ?_)
      have e:keepA vb lb x=!seenHas vb x.f0.f0 x.f0.f1:=by simp [keepA,hn]
      rw [e] at hj
      exact hj
theorem impl_SetSync_ev (va:List Mark) (la:List Sib) (vb:List Mark) (lb:List Sib) (hva:va.length≤1048576) (hvb:vb.length≤1048576) (hla:la.length≤1048576) (hlb:lb.length≤1048576) :
    Ev (fun k=>Y10.f k va la vb lb) ((setSync va la vb lb).1,(setSync va la vb lb).2.1,0,0,(setSync va la vb lb).2.2):=by
  unfold Y10.f
  have jT:Ev (fun k=>Y10.j0 k true va la vb lb) ([],[],0,0,1):=Ev.step (f:=fun _=>some ([],[],0,0,1)) (fun k=>by simp [Y10.j0]) (Ev.now _)
  refine Ev.bind (impl_SetRight_ev va la (by omega) hla) ?_
  cases ha:setOk va la with
  | false =>
    have e:setSync va la vb lb=([],[],1):=by unfold setSync;rw [if_neg (by simp [ha])]
    rw [e]
    exact evNeg (by simp) jT
  | true =>
    refine evPos rfl (Ev.bind (impl_SetRight_ev vb lb (by omega) hlb) ?_)
    cases hb:setOk vb lb with
    | false =>
      have e:setSync va la vb lb=([],[],1):=by unfold setSync;rw [if_neg (by simp [hb])]
      rw [e]
      exact jT
    | true =>
      have ha8:=((setOk_iff va la).1 ha).2.1
      have hb8:=((setOk_iff vb lb).1 hb).2.1
      refine Ev.step (fun k=>by simp only [Y10.j0];rw [if_neg (by simp)]) (Ev.bind (seenJoin_ev va vb (by omega) (by omega)) ?_)
      refine implSync_l0 va la vb lb (seenJoin va vb) hva hvb ha8 hb8 la 0 rfl (by omega) [] (by simpa using ha8) ?_
      rw [List.nil_append]
      show Ev (fun k=>if ((kept va la vb lb).length:Int)>8 then some ([],[],0,0,9) else (Y54.f k (kept va la vb lb)).bind fun t=>some (seenJoin va vb,t,0,0,0)) _
      unfold setSync
      rw [if_pos ⟨ha,hb⟩]
      by_cases h:(kept va la vb lb).length>8
      · rw [if_pos h];exact evPos (by omega) (Ev.now _)
      · rw [if_neg h]
        refine evNeg (by omega) (Ev.bind (sorted_ev (kept va la vb lb) (by omega)) ?_)
        rw [foldl_same (kept va la vb lb) [] List.Pairwise.nil (fun _ _ z hz=>by cases hz) (kept_apart ha hb)]
        exact Ev.now _
end Go.Proofs.Ytlglglbjckpnbaa.Q

namespace Go.Proofs.Ytlglglbjckpnbaa.Q
open Go.RowKit Go.Proofs.Ytlglglbjckpnbaa.P Go.Proofs.YtlglglbjckpnbaaW.PrintWords Go.Proofs.YtlglglbjckpnbaaW.PrintMore

theorem seenOf_small {v:List Mark} (h:Small v) (n:Int):0≤seenOf v n∧seenOf v n≤4294967295:=by
  induction v with
  | nil=>simp [seenOf]
  | cons m r ih =>
    simp only [seenOf]
    split
    · exact (h m List.mem_cons_self).2
    · exact ih (fun x hx=>h x (List.mem_cons_of_mem _ hx))
theorem mxP_le (a b:Int):a≤mx a b∧b≤mx a b∧(mx a b=a∨mx a b=b):=by
  unfold mx;split <;> omega
theorem seenOf_joinFrom {a b:List Mark} (ha:Small a) (hb:Small b) (m:Int):∀ (f:Nat) (n:Int),seenOf (joinFrom a b f n) m=if n≤m∧m<n+f then mx (seenOf a m) (seenOf b m) else 0
  | 0,n=>by
    rw [if_neg (by omega)];rfl
  | f+1,n=>by
    have ih:=seenOf_joinFrom ha hb m f (n+1)
    have h1:=seenOf_small ha n
    have h2:=seenOf_small hb n
    have h3:=mxP_le (seenOf a n) (seenOf b n)
    simp only [joinFrom]
    by_cases hp:mx (seenOf a n) (seenOf b n)>0
    · rw [if_pos hp]
      simp only [List.singleton_append,seenOf]
      by_cases e:n=m
      · subst e
        rw [if_pos rfl,if_pos (by omega)]
      · rw [if_neg e,ih]
        by_cases hc:n+1≤m∧m<n+1+f
        · rw [if_pos hc,if_pos (by omega)]
        · rw [if_neg hc,if_neg (by omega)]
    · rw [if_neg hp,List.nil_append,ih]
      by_cases e:n=m
      · subst e
        rw [if_neg (by omega),if_pos (by omega)]
        omega
      · by_cases hc:n+1≤m∧m<n+1+f
        · rw [if_pos hc,if_pos (by omega)]
        · rw [if_neg hc,if_neg (by omega)]
def putN (v u:List Mark) (nd:Int):Int:=seenOf (seenJoin v u) nd
theorem putN_is {v u:List Mark} (hv:seenOk v=true) (hu:seenOk u=true) {nd:Int} (hn:isNode nd=true):putN v u nd=mx (seenOf v nd) (seenOf u nd):=by
  have h:=(isNode_iff nd).1 hn
  unfold putN seenJoin
  rw [seenOf_joinFrom (seenOk_small hv) (seenOk_small hu),if_pos (by omega)]
theorem putN_small {v u:List Mark} (hv:seenOk v=true) (hu:seenOk u=true) {nd:Int} (hn:isNode nd=true):0≤putN v u nd∧putN v u nd≤4294967295∧seenOf v nd≤putN v u nd:=by
  rw [putN_is hv hu hn]
  have h1:=seenOf_small (seenOk_small hv) nd
  have h2:=seenOf_small (seenOk_small hu) nd
  have h3:=mxP_le (seenOf v nd) (seenOf u nd)
  omega
def restP (l:List Sib) (u:List Mark):List Sib:=l.filter fun x=>!seenHas u x.f0.f0 x.f0.f1
def putX (v u:List Mark) (nd:Int) (t:ByteArray) (g:Bool):Sib:=⟨⟨nd,putN v u nd+1⟩,g,t⟩
theorem restP_length (l:List Sib) (u:List Mark):(restP l u).length≤l.length:=List.length_filter_le _ _
def putOk (v:List Mark) (l:List Sib) (u:List Mark) (nd:Int) (t:ByteArray) (g:Bool):Bool:=setOk v l && (seenOk u && (isNode nd && dataOk t g))
def setPut (v:List Mark) (l:List Sib) (u:List Mark) (nd:Int) (t:ByteArray) (g:Bool):List Mark × List Sib × Int × Int × Int :=
  if u.length>400∨t.size>8000 then ([],[],0,0,2)
  else if putOk v l u nd t g=true then
    (if putN v u nd≥1000000 then ([],[],0,0,9)
     else if (restP l u).length+1>8 then ([],[],0,0,9)
     else (seenJoin (seenJoin v u) [⟨nd,putN v u nd+1⟩],insS (restP l u) (putX v u nd t g),nd,putN v u nd+1,0))
  else ([],[],0,0,1)
theorem setPut_length (v:List Mark) (l:List Sib) (u:List Mark) (nd:Int) (t:ByteArray) (g:Bool):(setPut v l u nd t g).1.length≤5∧(setPut v l u nd t g).2.1.length≤8:=by
  unfold setPut
  split
  · simp
  · split
    · split
      · simp
      · split
        · simp
        · refine ⟨seenJoin_length _ _,?_⟩
          show (insS (restP l u) (putX v u nd t g)).length≤8
          rw [insS_length]
          omega
    · simp
theorem specPut_l0 (u:List Mark) (nd:Int) (t:ByteArray) (g:Bool) (n:Int) (v:List Mark) (l:List Sib) (jn:List Mark) (hu:u.length≤1048576) (hl:l.length≤8) (hh:∀ x ∈ l,seenHasOut u x.f0.f0 x.f0.f1=seenHas u x.f0.f0 x.f0.f1) {R:List Mark × List Sib × Int × Int × Int}:∀ (s:List Sib) (i:Nat),l.drop i=s→i≤l.length→(∀ x ∈ s,seenHasOut u x.f0.f0 x.f0.f1=seenHas u x.f0.f0 x.f0.f1)→∀ acc:List Sib,acc.length+s.length≤8 →
    Ev (fun k=>(Y20.f k jn [⟨nd,wrap64 (n+1)⟩]).bind fun a=>(Y15.f k (acc ++ restP s u) nd (wrap64 (n+1)) g t).bind fun b=>if (b.length:Int)>8 then some ([],[],0,0,9) else some (a,b,nd,wrap64 (n+1),0)) R →
    Ev (fun k=>Y14.l0 k u nd t g n (i:Int) v l jn acc) R
  | [],i,h,hi,_,acc,hc,hR=>by
    have:=dropNil' h hi
    simp only [restP,List.filter_nil,List.append_nil] at hR
    refine Ev.step (fun k=>?_) hR
    simp only [Y14.l0,Y40.f,Option.bind_some]
    rw [if_neg (by omega)]
  | x :: s,i,h,hi,hs,acc,hc,hR=>by
    obtain ⟨h1,h2,h3⟩:=dropCons h z36
    simp only [List.length_cons] at hc
    have hr:rd_T36 l (i:Int)=x:=by simpa [rd_T36] using h2
    refine Ev.step (fun k=>by simp only [Y14.l0,hr];rw [if_pos (by omega),if_pos (by omega)]) (Ev.bind (spec_SeenHas_ev u _ _ (by omega)) ?_)
    rw [hs x List.mem_cons_self]
    cases hk:seenHas u x.f0.f0 x.f0.f1 with
    | true =>
      have e:restP (x :: s) u=restP s u:=List.filter_cons_of_neg (by simp [hk])
      rw [e] at hR
      have ih:=specPut_l0 u nd t g n v l jn hu hl hh s (i+1) h3 (by omega) (fun y hy=>hs y (List.mem_cons_of_mem _ hy)) acc (by omega) hR
      refine evPos rfl ?_
      rw [w64 (by omega) (by omega)]
      exact ih
    | false =>
      have e:restP (x :: s) u=x :: restP s u:=List.filter_cons_of_pos (by simp [hk])
      rw [e] at hR
      have ih:=specPut_l0 u nd t g n v l jn hu hl hh s (i+1) h3 (by omega) (fun y hy=>hs y (List.mem_cons_of_mem _ hy)) (acc ++ [x]) (by simp;omega) (by rw [List.append_assoc,List.singleton_append];exact hR)
      refine evNeg (by simp) (evPos (by omega) ?_)
      rw [w64 (by omega) (by omega)]
      exact ih
theorem spec_SetPut_ev (v:List Mark) (l:List Sib) (u:List Mark) (nd:Int) (t:ByteArray) (g:Bool) (hv:v.length≤1048576) (hl:l.length≤1048576) (hu:u.length≤1048576) :
    Ev (fun k=>Y14.f k v l u nd t g) (setPut v l u nd t g):=by
  unfold Y14.f
  by_cases hz:u.length>400∨t.size>8000
  · have e:setPut v l u nd t g=([],[],0,0,2):=by unfold setPut;rw [if_pos hz]
    rw [e]
    have jT:Ev (fun k=>Y14.j0 k u nd t g true v l) ([],[],0,0,2):=Ev.step (f:=fun _=>some ([],[],0,0,2)) (fun k=>by simp [Y14.j0,Y40.f]) (Ev.now _)
    by_cases h4:u.length>400
    · exact evPos (by omega) jT
    · have:decide ((t.size:Int)>8000)=true:=decide_eq_true (by omega)
      rw [this]
      exact evNeg (by omega) jT
  · have hz1:¬ u.length>400:=fun h=>hz (.inl h)
    have hz2:¬ t.size>8000:=fun h=>hz (.inr h)
    have hd:decide ((t.size:Int)>8000)=false:=decide_eq_false (by omega)
    rw [hd]
    refine evNeg (by omega) ?_
    have jI:putOk v l u nd t g=false→Ev (fun k=>Y14.j1 k u nd t g true v l) (setPut v l u nd t g):=fun h=>by
      have e:setPut v l u nd t g=([],[],0,0,1):=by unfold setPut;rw [if_neg hz,if_neg (by simp [h])]
      rw [e]
      exact Ev.step (f:=fun _=>some ([],[],0,0,1)) (fun k=>by simp [Y14.j1,Y40.f]) (Ev.now _)
    have jT:putOk v l u nd t g=true→Ev (fun k=>Y14.j1 k u nd t g false v l) (setPut v l u nd t g):=fun h=>by
      have hp:=h
      simp only [putOk,Bool.and_eq_true] at hp
      obtain ⟨p1,p2,p3,p4⟩:=hp
      have hl8:=((setOk_iff v l).1 p1).2.1
      have hn:=putN_small ((setOk_iff v l).1 p1).1 p2 p3
      refine Ev.step (fun k=>by simp only [Y14.j1];rw [if_neg (by simp)]) (Ev.bind (l02Join_ev v u (by omega) (by omega)) (Ev.bind (l02Of_ev (seenJoin v u) nd (by have:=seenJoin_length v u;omega)) ?_))
      show Ev (fun k=>if putN v u nd≥1000000 then _ else _) _
      unfold setPut
      rw [if_neg hz,if_pos h]
      by_cases hf:putN v u nd≥1000000
      · rw [if_pos hf]
        exact evPos hf (Ev.now _)
      · rw [if_neg hf]
        refine evNeg hf (specPut_l0 u nd t g (putN v u nd) v l (seenJoin v u) hu hl8 (seenHas_out p2 p1) l 0 rfl (by omega) (seenHas_out p2 p1) [] (by simpa using hl8) ?_)
        rw [List.nil_append,w64 (by omega) (by omega)]
        have hr:=restP_length l u
        refine Ev.bind (l02Join_ev (seenJoin v u) _ (by have:=seenJoin_length v u;omega) (by simp)) (Ev.bind (l03In_ev (restP l u) (putX v u nd t g) (by omega)) ?_)
        rw [insS_length]
        by_cases h8:(restP l u).length+1>8
        · rw [if_pos h8];exact evPos (by omega) (Ev.now _)
        · rw [if_neg h8];exact evNeg (by omega) (Ev.now _)
    refine Ev.step (fun k=>by simp only [Y14.j0];rw [if_neg (by simp)]) (Ev.bind (spec_SetRight_ev v l (by omega) hl) ?_)
    cases h1:setOk v l with
    | false=>exact evNeg (by simp) (jI (by simp [putOk,h1]))
    | true =>
      refine evPos rfl (Ev.bind (spec_SeenRight_ev u (by omega)) ?_)
      cases h2:seenOk u with
      | false=>exact evNeg (by simp) (jI (by simp [putOk,h2]))
      | true =>
        refine evPos rfl (evBind1 (l02Node_is _) ?_)
        cases h3:isNode nd with
        | false=>exact evNeg (by simp) (jI (by simp [putOk,h3]))
        | true =>
          refine evPos rfl ?_
          by_cases h4:(t.size:Int)>16
          · exact evPos h4 (jI (by simp [putOk,dataOk];omega))
          · refine evNeg h4 ?_
            cases g with
            | false =>
              refine evNeg (by simp) (jT ?_)
              simp [putOk,h1,h2,h3,dataOk];omega
            | true =>
              refine evPos rfl ?_
              by_cases h5:t.toList=[]
              · have:(t.toList != ([]:List UInt8))=false:=by simp [h5]
                rw [this]
                refine jT ?_
                simp [putOk,h1,h2,h3,dataOk,h5];omega
              · have:(t.toList != ([]:List UInt8))=true:=by simp [h5]
                rw [this]
                refine jI ?_
                simp [putOk,dataOk,h5]
end Go.Proofs.Ytlglglbjckpnbaa.Q

namespace Go.Proofs.Ytlglglbjckpnbaa.Q
open Go.RowKit Go.Proofs.Ytlglglbjckpnbaa.P Go.Proofs.YtlglglbjckpnbaaW.PrintWords Go.Proofs.YtlglglbjckpnbaaW.PrintMore
abbrev SetS:=S26
/-- Three sets, all short. -/
def Ok3 (l:List SetS):Prop:=l.length=3∧∀ x ∈ l,x.f0.length≤5∧x.f1.length≤8
theorem rd3 {l:List SetS} (h:Ok3 l) (i:Int):(rd_T26 l i).f0.length≤5∧(rd_T26 l i).f1.length≤8:=by
  unfold rd_T26
  rw [List.getD_eq_getElem?_getD]
  cases e:l[i.toNat]? with
  | none=>exact ⟨Nat.zero_le _,Nat.zero_le _⟩
  | some x=>exact h.2 x (List.mem_of_getElem? e)
theorem set3 {l:List SetS} (h:Ok3 l) (i:Nat) (x:SetS) (h0:x.f0.length≤5) (h1:x.f1.length≤8):Ok3 (l.set i x):=by
  refine ⟨by rw [List.length_set];exact h.1,fun y hy=>?_⟩
  rcases List.mem_or_eq_of_mem_set hy with hy | hy
  · exact h.2 y hy
  · subst hy;exact ⟨h0,h1⟩
theorem pick3_ok {b:List Int} {a m z:Int} (h:SrcOk b a m z) (l:List ByteArray) (h1:l.length=3):∃ t a' m',Y53.f b a m z l=some (t,a',m',z)∧SrcOk b a' m' z:=by
  obtain ⟨r,a1,m1,e,r0,r1,_,g⟩:=n_ok h (l.length:Int) (by omega)
  have r1:=r1 (by omega)
  refine ⟨rdOf ByteArray.empty l r,a1,m1,?_,g⟩
  unfold Y53.f
  rw [e]
  simp only [Option.bind_some]
  rw [if_pos r0,if_pos r1]
def Round (b:List Int) (z:Int) (f:Nat→Option (List SetS × Int × Int × Int)):Prop:=∃ l' a' m',Ev f (l',a',m',z)∧Ok3 l'∧SrcOk b a' m' z
theorem Round.step {b:List Int} {z:Int} {f g:Nat→Option (List SetS × Int × Int × Int)} (h:Round b z f) (e:∀ k,g (k+1)=f k):Round b z g:=by
  obtain ⟨l',a',m',hf,h2,h3⟩:=h
  exact ⟨l',a',m',Ev.step e hf,h2,h3⟩
theorem Round.bind {β:Type} {b:List Int} {z:Int} {g:Nat→Option β} {f:Nat→β→Option (List SetS × Int × Int × Int)} {r:β} (hg:Ev g r) (h:Round b z (fun k=>f k r)):Round b z (fun k=>(g k).bind (f k)):=by
  obtain ⟨l',a',m',hf,h2,h3⟩:=h
  exact ⟨l',a',m',Ev.bind hg hf,h2,h3⟩
theorem Round.bind1 {β:Type} {b:List Int} {z:Int} {g:Option β} {f:Nat→β→Option (List SetS × Int × Int × Int)} {r:β} (hg:g=some r) (h:Round b z (fun k=>f k r)):Round b z (fun k=>g.bind (f k)):=by
  subst hg;exact h
theorem Round.pos {c:Prop} [Decidable c] {b:List Int} {z:Int} {f g:Nat→Option (List SetS × Int × Int × Int)} (hc:c) (h:Round b z f):Round b z (fun k=>if c then f k else g k):=by
  simp only [if_pos hc];exact h
theorem Round.neg {c:Prop} [Decidable c] {b:List Int} {z:Int} {f g:Nat→Option (List SetS × Int × Int × Int)} (hc:¬ c) (h:Round b z g):Round b z (fun k=>if c then f k else g k):=by
  simp only [if_neg hc];exact h
theorem three_l0 {b:List Int} {z:Int}:∀ (d:Nat),d≤8→∀ (l:List SetS) (a m:Int),Ok3 l→SrcOk b a m z→Round b z (fun k=>Y8.l0 k l (d:Int) b a m z):=by
  intro d
  induction d with
  | zero =>
    intro _ l a m hl hs
    refine ⟨l,a,m,Ev.step (f:=fun _=>some (l,a,m,z)) (fun k=>?_) (Ev.now _),hl,hs⟩
    simp only [Y8.l0]
    rw [if_neg (by omega)]
  | succ d ih =>
    intro hd l a m hl hs
    have hw:wrap64 (((d+1:Nat):Int)-1)=(d:Int):=by rw [w64 (by omega) (by omega)];omega
    have J3:∀ (i:Int) (a m:Int) (v:List Mark) (s:List Sib) (p q c:Int),0≤i→i<3→v.length≤5→s.length≤8→SrcOk b a m z→Round b z (fun k=>Y8.j3 k l ((d+1:Nat):Int) i b a m z v s p q c):=by
      intro i a m v s p q c h0 h1 hv hs' g
      by_cases hc:c=0
      · refine Round.step (ih (by omega) (l.set i.toNat ⟨v,s⟩) a m (set3 hl _ _ hv hs') g) (fun k=>?_)
        simp only [Y8.j3,hw]
        rw [if_pos hc,if_pos h0,if_pos (by have:=hl.1;omega)]
      · refine Round.step (ih (by omega) l a m hl g) (fun k=>?_)
        simp only [Y8.j3,hw]
        rw [if_neg hc]
    have J2:∀ (i:Int) (u:List Mark) (g:Bool) (t:ByteArray) (a m:Int),0≤i→i<3→u.length≤5→SrcOk b a m z→Round b z (fun k=>Y8.j2 k l ((d+1:Nat):Int) i u g t b a m z):=by
      intro i u g t a m h0 h1 hu hs'
      have hr:=rd3 hl i
      have e1:=spec_SetPut_ev (rd_T26 l i).f0 (rd_T26 l i).f1 u (wrap64 (i+1)) t g (by omega) (by omega) (by omega)
      have b1:=setPut_length (rd_T26 l i).f0 (rd_T26 l i).f1 u (wrap64 (i+1)) t g
      obtain ⟨q,a1,m1,e2,g1⟩:=one_ok hs' 3 (by omega)
      refine Round.step (f:=fun k=>if 0≤i then (if i<(l.length:Int) then _ else none) else none) ?_ (fun k=>by simp only [Y8.j2];rfl)
      refine Round.pos h0 (Round.pos (by have:=hl.1;omega) (Round.bind e1 (Round.bind1 e2 ?_)))
      cases q with
      | true =>
        obtain ⟨j,a2,m2,e3,j0,j1,_,g2⟩:=n_ok g1 3 (by omega)
        have j1:=j1 (by omega)
        have hj:=rd3 hl j
        have e4:=spec_SetSync_ev (rd_T26 l i).f0 (rd_T26 l i).f1 (rd_T26 l j).f0 (rd_T26 l j).f1 (by omega) (by omega) (by omega) (by omega)
        have b2:=setSync_length (rd_T26 l i).f0 (rd_T26 l i).f1 (rd_T26 l j).f0 (rd_T26 l j).f1
        exact Round.pos rfl (Round.bind1 e3 (Round.pos j0 (Round.pos (by have:=hl.1;omega) (Round.bind e4 (J3 i _ _ _ _ _ _ _ h0 h1 b2.1 b2.2 g2)))))
      | false=>exact Round.neg (by simp) (J3 i _ _ _ _ _ _ _ h0 h1 b1.1 b1.2 g1)
    have J1:∀ (i:Int) (u:List Mark) (a m:Int),0≤i→i<3→u.length≤5→SrcOk b a m z→Round b z (fun k=>Y8.j1 k l ((d+1:Nat):Int) i u b a m z):=by
      intro i u a m h0 h1 hu hs'
      obtain ⟨g,a1,m1,e1,g1⟩:=one_ok hs' 5 (by omega)
      refine Round.step (f:=fun k=>(Y24.f b a m z 5).bind _) ?_ (fun k=>by simp only [Y8.j1];rfl)
      refine Round.bind1 e1 ?_
      cases g with
      | true=>exact Round.pos rfl (J2 i u true _ _ _ h0 h1 hu g1)
      | false =>
        obtain ⟨t,a2,m2,e2,g2⟩:=pick3_ok g1 (([(⟨#[97]⟩:ByteArray),(⟨#[98,98]⟩:ByteArray),(⟨#[]⟩:ByteArray)]:List ByteArray)) rfl
        exact Round.neg (by simp) (Round.bind1 e2 (J2 i u false _ _ _ h0 h1 hu g2))
    obtain ⟨i,a1,m1,e1,i0,i1,_,g1⟩:=n_ok hs 3 (by omega)
    have i1:=i1 (by omega)
    obtain ⟨t,a2,m2,e2,g2⟩:=one_ok g1 2 (by omega)
    refine Round.step (f:=fun k=>(Y3.f b a m z 3).bind _) ?_ (fun k=>by simp only [Y8.l0];rw [if_pos (by omega)])
    refine Round.bind1 e1 (Round.bind1 e2 ?_)
    cases t with
    | true =>
      obtain ⟨j,a3,m3,e3,j0,j1,_,g3⟩:=n_ok g2 3 (by omega)
      have j1:=j1 (by omega)
      have es:Y8.seenOf l j=some (rd_T26 l j).f0:=by unfold Y8.seenOf;rw [if_pos j0,if_pos (by have:=hl.1;omega)]
      exact Round.pos rfl (Round.bind1 e3 (Round.bind1 es (J1 i _ _ _ i0 i1 (rd3 hl j).1 g3)))
    | false=>exact Round.neg (by simp) (J1 i _ _ _ i0 i1 (by simp) g2)
theorem l03Three_ok {b:List Int} {a m z:Int} (h:SrcOk b a m z):∃ l a' m',Ev (fun k=>Y8.f k b a m z) (l,a',m',z)∧Ok3 l∧SrcOk b a' m' z:=by
  obtain ⟨r,a1,m1,e,r0,r1,_,g⟩:=n_ok h 9 (by omega)
  have r1:=r1 (by omega)
  obtain ⟨d,rfl⟩:=Int.eq_ofNat_of_zero_le r0
  obtain ⟨l,a2,m2,e2,h2,g2⟩:=three_l0 d (by omega) (List.replicate 3 z26) a1 m1 ⟨by simp,fun x hx=>by rw [(List.mem_replicate.1 hx).2];exact ⟨Nat.zero_le _,Nat.zero_le _⟩⟩ g
  exact ⟨l,a2,m2,evPos (by omega) (evBind1 e e2),h2,g2⟩
theorem set_l0 (b:List Int) (a m z:Int) (v:List Mark):∀ (d:Nat) (i:Int) (s:List Sib),i+d=9→s.length+d≤100→0≤i→∃ s',Ev (fun k=>Y7.l0 k i b a m z v s) (v,s',a,m,z)∧s'.length≤100:=by
  intro d
  induction d with
  | zero =>
    intro i s hi hs _
    refine ⟨s,Ev.step (f:=fun _=>some (v,s,a,m,z)) (fun k=>?_) (Ev.now _),by omega⟩
    simp only [Y7.l0]
    rw [if_neg (by omega)]
  | succ d ih =>
    intro i s hi hs h0
    obtain ⟨s',e,h⟩:=ih (i+1) (s ++ [⟨⟨4,i⟩,false,⟨#[]⟩⟩]) (by omega) (by simp;omega) (by omega)
    refine ⟨s',Ev.step (fun k=>?_) e,h⟩
    simp only [Y7.l0]
    rw [if_pos (by omega),if_pos (by omega),w64 (x:=i+1) (by omega) (by omega)]
theorem set_j0 {b:List Int} {z:Int} {a m:Int} (v:List Mark) (s:List Sib) (hv:v.length≤100) (hs:s.length≤100) (h:SrcOk b a m z):∃ v' s' a' m',Ev (fun k=>Y7.j0 k b a m z v s) (v',s',a',m',z)∧v'.length≤100∧s'.length≤100∧SrcOk b a' m' z:=by
  obtain ⟨t,a1,m1,e1,g1⟩:=one_ok h 25 (by omega)
  cases t with
  | true =>
    obtain ⟨s',e2,h2⟩:=set_l0 b a1 m1 z [⟨4,9⟩] 8 1 [] (by omega) (by simp) (by omega)
    refine ⟨[⟨4,9⟩],s',a1,m1,Ev.step (fun k=>?_) e2,by simp,h2,g1⟩
    simp only [Y7.j0,e1,Option.bind_some]
    rw [if_pos trivial]
  | false =>
    refine ⟨v,s,a1,m1,Ev.step (f:=fun _=>some (v,s,a1,m1,z)) (fun k=>?_) (Ev.now _),hv,hs,g1⟩
    simp only [Y7.j0,e1,Option.bind_some]
    rw [if_neg (by simp)]
theorem l03Set_ok {b:List Int} {a m z:Int} (h:SrcOk b a m z):∃ v s a' m',Ev (fun k=>Y7.f k b a m z) (v,s,a',m',z)∧v.length≤100∧s.length≤100∧SrcOk b a' m' z:=by
  obtain ⟨l,a1,m1,e1,hl,g1⟩:=l03Three_ok h
  obtain ⟨i,a2,m2,e2,i0,i1,_,g2⟩:=n_ok g1 3 (by omega)
  have i1:=i1 (by omega)
  obtain ⟨t,a3,m3,e3,g3⟩:=one_ok g2 15 (by omega)
  have hr:=rd3 hl i
  have key:∃ v s a' m',Ev (fun k=>if t=true then ((Y3.f b a3 m3 z 4).bind fun C6=>(if C6.1=0 then ((Y16.f k b C6.2.1 C6.2.2.1 C6.2.2.2).bind fun N8=>(Y7.j0 k b N8.2.1 N8.2.2.1 N8.2.2.2 N8.1 (rd_T26 l i).f1)) else (if C6.1=1 then ((Y23.f b C6.2.1 C6.2.2.1 C6.2.2.2).bind fun K8=>(if (rd_T26 l i).f1.length<3518437208883 then (Y7.j0 k b K8.2.2.1 K8.2.2.2.1 K8.2.2.2.2 (rd_T26 l i).f0 ((rd_T26 l i).f1 ++ [(⟨(⟨K8.1,K8.2.1⟩:Mark),false,(⟨#[120]⟩:ByteArray)⟩:Sib)])) else (none))) else (if C6.1=2 then (if ((rd_T26 l i).f1.length:Int)>0 then (if 0<((rd_T26 l i).f1.length:Int) then (Y7.j0 k b C6.2.1 C6.2.2.1 C6.2.2.2 (rd_T26 l i).f0 ((rd_T26 l i).f1.set (0:Int).toNat (⟨(⟨(rd_T36 (rd_T26 l i).f1 0).f0.f0,(rd_T36 (rd_T26 l i).f1 0).f0.f1⟩:Mark),!((rd_T36 (rd_T26 l i).f1 0).f1),(rd_T36 (rd_T26 l i).f1 0).f2⟩:Sib))) else (none)) else (Y7.j0 k b C6.2.1 C6.2.2.1 C6.2.2.2 (rd_T26 l i).f0 (rd_T26 l i).f1)) else (if ((rd_T26 l i).f1.length:Int)>0 then ((Y3.f b C6.2.1 C6.2.2.1 C6.2.2.2 3).bind fun J0=>(if 0≤(wrap64 (15+J0.1)) then (if (wrap64 (15+J0.1):Int).toNat≤281474976710656 then (if 0<((rd_T26 l i).f1.length:Int) then (Y7.j0 k b J0.2.1 J0.2.2.1 J0.2.2.2 (rd_T26 l i).f0 ((rd_T26 l i).f1.set (0:Int).toNat (⟨(⟨(rd_T36 (rd_T26 l i).f1 0).f0.f0,(rd_T36 (rd_T26 l i).f1 0).f0.f1⟩:Mark),(rd_T36 (rd_T26 l i).f1 0).f1,strOfNums (List.replicate (wrap64 (15+J0.1):Int).toNat 0)⟩:Sib))) else (none)) else (none)) else (none))) else (Y7.j0 k b C6.2.1 C6.2.2.1 C6.2.2.2 (rd_T26 l i).f0 (rd_T26 l i).f1)))))) else (Y7.j0 k b a3 m3 z (rd_T26 l i).f0 (rd_T26 l i).f1)) (v,s,a',m',z)∧v.length≤100∧s.length≤100∧SrcOk b a' m' z:=by
    cases t with
    | false =>
      obtain ⟨v,s,a4,m4,e,hv,hs,g⟩:=set_j0 (rd_T26 l i).f0 (rd_T26 l i).f1 (by omega) (by omega) g3
      exact ⟨v,s,a4,m4,evNeg (by simp) e,hv,hs,g⟩
    | true =>
      obtain ⟨c,a4,m4,e4,c0,c1,_,g4⟩:=n_ok g3 4 (by omega)
      by_cases h0:c=0
      · obtain ⟨u,a5,m5,e5,hu,g5⟩:=l02Seen_ok g4
        obtain ⟨v,s,a6,m6,e,hv,hs,g⟩:=set_j0 u (rd_T26 l i).f1 (by omega) (by omega) g5
        exact ⟨v,s,a6,m6,evPos rfl (evBind1 e4 (evPos h0 (Ev.bind e5 e))),hv,hs,g⟩
      by_cases h1:c=1
      · obtain ⟨x,y,a5,m5,e5,g5⟩:=l02Dot_ok g4
        obtain ⟨v,s,a6,m6,e,hv,hs,g⟩:=set_j0 (rd_T26 l i).f0 ((rd_T26 l i).f1 ++ [(⟨(⟨x,y⟩:Mark),false,(⟨#[120]⟩:ByteArray)⟩:Sib)]) (by omega) (by simp;omega) g5
        exact ⟨v,s,a6,m6,evPos rfl (evBind1 e4 (evNeg h0 (evPos h1 (evBind1 e5 (evPos (by omega) e))))),hv,hs,g⟩
      by_cases hn:((rd_T26 l i).f1.length:Int)>0
      · by_cases h2:c=2
        · obtain ⟨v,s,a6,m6,e,hv,hs,g⟩:=set_j0 (rd_T26 l i).f0 ((rd_T26 l i).f1.set (0:Int).toNat (⟨(⟨(rd_T36 (rd_T26 l i).f1 0).f0.f0,(rd_T36 (rd_T26 l i).f1 0).f0.f1⟩:Mark),!((rd_T36 (rd_T26 l i).f1 0).f1),(rd_T36 (rd_T26 l i).f1 0).f2⟩:Sib)) (by omega) (by rw [List.length_set];omega) g4
          exact ⟨v,s,a6,m6,evPos rfl (evBind1 e4 (evNeg h0 (evNeg h1 (evPos h2 (evPos hn (evPos hn e)))))),hv,hs,g⟩
        · obtain ⟨n,a5,m5,e5,n0,n1,_,g5⟩:=n_ok g4 3 (by omega)
          have n1:=n1 (by omega)
          have hw:wrap64 (15+n)=15+n:=w64 (by omega) (by omega)
          obtain ⟨v,s,a6,m6,e,hv,hs,g⟩:=set_j0 (rd_T26 l i).f0 ((rd_T26 l i).f1.set (0:Int).toNat (⟨(⟨(rd_T36 (rd_T26 l i).f1 0).f0.f0,(rd_T36 (rd_T26 l i).f1 0).f0.f1⟩:Mark),(rd_T36 (rd_T26 l i).f1 0).f1,strOfNums (List.replicate (wrap64 (15+n):Int).toNat 0)⟩:Sib)) (by omega) (by rw [List.length_set];omega) g5
          exact ⟨v,s,a6,m6,evPos rfl (evBind1 e4 (evNeg h0 (evNeg h1 (evNeg h2 (evPos hn (evBind1 e5 (evPos (show 0≤wrap64 (15+n) by rw [hw];omega) (evPos (show (wrap64 (15+n):Int).toNat≤281474976710656 by rw [hw];omega) (evPos hn e))))))))),hv,hs,g⟩
      · obtain ⟨v,s,a6,m6,e,hv,hs,g⟩:=set_j0 (rd_T26 l i).f0 (rd_T26 l i).f1 (by omega) (by omega) g4
        refine ⟨v,s,a6,m6,evPos rfl (evBind1 e4 (evNeg h0 (evNeg h1 ?_))),hv,hs,g⟩
        by_cases h2:c=2
        · exact evPos h2 (evNeg hn e)
        · exact evNeg h2 (evNeg hn e)
  obtain ⟨v,s,a4,m4,e,hv,hs,g⟩:=key
  exact ⟨v,s,a4,m4,Ev.bind e1 (evBind1 e2 (evPos i0 (evPos (show i<(l.length:Int) by have:=hl.1;omega) (evBind1 e3 e)))),hv,hs,g⟩
theorem setAt_ok {l:List SetS} (h:Ok3 l) (i:Int) (h0:0≤i) (h1:i<3):Y21.setAt l i=some ((rd_T26 l i).f0,(rd_T26 l i).f1):=by
  unfold Y21.setAt
  rw [if_pos h0,if_pos (by have:=h.1;omega)]
theorem DrawSetSync_ok (l:List Int) (hl:l.length≤1048576):∃ va la vb lb,Ev (fun k=>Y21.f k l) (va,la,vb,lb)∧va.length≤100∧la.length≤100∧vb.length≤100∧lb.length≤100:=by
  obtain ⟨m,z,e,g⟩:=source_ok l hl
  obtain ⟨t,a1,m1,e1,ht,g1⟩:=l03Three_ok g
  obtain ⟨q,a2,m2,e2,g2⟩:=one_ok g1 4 (by omega)
  cases q with
  | true =>
    obtain ⟨va,la,a3,m3,e3,h1,h2,g3⟩:=l03Set_ok g2
    obtain ⟨vb,lb,a4,m4,e4,h3,h4,g4⟩:=l03Set_ok g3
    exact ⟨va,la,vb,lb,Ev.bind e (Ev.bind e1 (evBind1 e2 (evPos rfl (Ev.bind e3 (Ev.bind e4 (Ev.now _)))))),h1,h2,h3,h4⟩
  | false =>
    have r0:=rd3 ht 0
    have r1:=rd3 ht 1
    exact ⟨(rd_T26 t 0).f0,(rd_T26 t 0).f1,(rd_T26 t 1).f0,(rd_T26 t 1).f1,Ev.bind e (Ev.bind e1 (evBind1 e2 (evNeg (by simp) (evBind1 (setAt_ok ht 0 (by omega) (by omega)) (evBind1 (setAt_ok ht 1 (by omega) (by omega)) (Ev.now _)))))),by omega,by omega,by omega,by omega⟩
end Go.Proofs.Ytlglglbjckpnbaa.Q

namespace Go.Proofs.Ytlglglbjckpnbaa.Q
open Go.RowKit Go.Proofs.Ytlglglbjckpnbaa.P Go.Proofs.YtlglglbjckpnbaaW.PrintWords Go.Proofs.YtlglglbjckpnbaaW.PrintMore

/-- The marks of a function, at the nodes from one on. -/
def fromFn (f:Int→Int):Nat→Int→List Mark
  | 0,_=>[]
  | k+1,n=>(if f n>0 then [⟨n,f n⟩] else []) ++ fromFn f k (n+1)
theorem joinFrom_fn (a b:List Mark):∀ (k:Nat) (n:Int),joinFrom a b k n=fromFn (fun n=>mx (seenOf a n) (seenOf b n)) k n
  | 0,_=>rfl
  | k+1,n=>by simp only [joinFrom,fromFn,joinFrom_fn a b k (n+1)]
theorem seenJoin_fn (a b:List Mark):seenJoin a b=fromFn (fun n=>mx (seenOf a n) (seenOf b n)) 5 1:=joinFrom_fn a b 5 1
theorem fromFn_congr {f g:Int→Int}:∀ (k:Nat) (n:Int),(∀ m,n≤m→m<n+k→f m=g m)→fromFn f k n=fromFn g k n
  | 0,_,_=>rfl
  | k+1,n,h=>by
    simp only [fromFn]
    rw [h n (by omega) (by omega),fromFn_congr k (n+1) (fun m h1 h2=>h m (by omega) (by omega))]
theorem seenOf_append (a b:List Mark) (n:Int) (h:∀ m ∈ a,m.f0≠n):seenOf (a ++ b) n=seenOf b n:=by
  induction a with
  | nil=>rfl
  | cons m r ih =>
    rw [List.cons_append,seenOf,if_neg (h m List.mem_cons_self)]
    exact ih (fun x hx=>h x (List.mem_cons_of_mem _ hx))
theorem fromFn_mem {f:Int→Int}:∀ (k:Nat) (n:Int),∀ m ∈ fromFn f k n,n≤m.f0∧m.f0<n+k∧m.f1=f m.f0∧0<m.f1
  | 0,_,m,hm=>by simp [fromFn] at hm
  | k+1,n,m,hm=>by
    simp only [fromFn,List.mem_append] at hm
    rcases hm with hm | hm
    · split at hm
      · simp only [List.mem_singleton] at hm
        subst hm
        exact ⟨by simp,by simp;omega,rfl,by assumption⟩
      · simp at hm
    · have:=fromFn_mem k (n+1) m hm
      exact ⟨by omega,by omega,this.2.2⟩
theorem seenOf_none (l:List Mark) (n:Int) (h:∀ m ∈ l,m.f0≠n):seenOf l n=0:=by
  have:=seenOf_append l [] n h
  rwa [List.append_nil] at this
theorem seenOf_fn {f:Int→Int}:∀ (k:Nat) (n m:Int),n≤m→m<n+k→seenOf (fromFn f k n) m=if f m>0 then f m else 0
  | 0,_,_,h1,h2=>by omega
  | k+1,n,m,h1,h2=>by
    simp only [fromFn]
    by_cases hm:m=n
    · subst hm
      by_cases hf:f m>0
      · rw [if_pos hf,if_pos hf,List.cons_append,seenOf,if_pos rfl]
      · rw [if_neg hf,if_neg hf,List.nil_append]
        exact seenOf_none _ _ (fun x hx=>by have:=(fromFn_mem k (m+1) x hx).1;omega)
    · rw [seenOf_append _ _ _ (fun x hx=>by
        split at hx
        · simp only [List.mem_singleton] at hx
          subst hx
          exact fun e=>hm e.symm
        · simp at hx)]
      exact seenOf_fn k (n+1) m (by omega) (by omega)
theorem okFrom_fn {f:Int→Int}:∀ (k:Nat) (n p:Int),1≤n→n+k≤6→p<n→(∀ m,n≤m→m<n+k→f m≤1000000)→okFrom p (fromFn f k n)=true
  | 0,_,_,_,_,_,_=>rfl
  | k+1,n,p,h1,h2,h3,h4=>by
    have ih:=fun q hq=>okFrom_fn (f:=f) k (n+1) q (by omega) (by omega) hq (fun m a b=>h4 m (by omega) (by omega))
    simp only [fromFn]
    by_cases hf:f n>0
    · rw [if_pos hf,List.cons_append,List.nil_append]
      simp only [okFrom,Bool.and_eq_true,decide_eq_true_eq,isDot_iff]
      exact ⟨⟨by omega,by have:=h4 n (by omega) (by omega);omega⟩,h3,ih n (by omega)⟩
    · rw [if_neg hf,List.nil_append]
      exact ih p (by omega)
/-- A right list is the list of its function. -/
theorem fn_of_ok:∀ (l:List Mark) (k:Nat) (n:Int),n+k=6→okFrom (n-1) l=true→l=fromFn (seenOf l) k n
  | [],0,n,_,_=>rfl
  | [],k+1,n,h,ho=>by
    have ih:=fn_of_ok [] k (n+1) (by omega) rfl
    have hz:seenOf [] n=0:=rfl
    simp only [fromFn,hz]
    rw [if_neg (by omega),List.nil_append]
    exact ih
  | m :: r,0,n,h,ho=>by
    simp only [okFrom,Bool.and_eq_true,decide_eq_true_eq,isDot_iff] at ho
    omega
  | m :: r,k+1,n,h,ho=>by
    have ho':=ho
    simp only [okFrom,Bool.and_eq_true,decide_eq_true_eq,isDot_iff] at ho
    have hgt:∀ x ∈ r,m.f0<x.f0:=fun x hx=>(okFrom_mem r m.f0 ho.2.2 x hx).2
    by_cases hn:m.f0=n
    · have ih:=fn_of_ok r k (n+1) (by omega) (by rw [show n+1-1=m.f0 from by omega];exact ho.2.2)
      have e1:seenOf (m :: r) n=m.f1:=by rw [seenOf,if_pos hn]
      have e2:fromFn (seenOf (m :: r)) k (n+1)=fromFn (seenOf r) k (n+1):=fromFn_congr k (n+1) (fun q h1 h2=>by rw [seenOf,if_neg (by omega)])
      simp only [fromFn,e1,e2]
      rw [if_pos (by omega),← ih,← hn]
      rfl
    · have hz:seenOf (m :: r) n=0:=seenOf_none _ _ (fun x hx=>by
        rcases List.mem_cons.1 hx with rfl | hx
        · exact hn
        · have:=hgt x hx
          omega)
      have ih:=fn_of_ok (m :: r) k (n+1) (by omega) (by
        simp only [okFrom,Bool.and_eq_true,decide_eq_true_eq,isDot_iff]
        exact ⟨ho.1,by omega,ho.2.2⟩)
      simp only [fromFn,hz]
      rw [if_neg (by omega),List.nil_append]
      exact ih
theorem ok_fn {v:List Mark} (h:seenOk v=true):v=fromFn (seenOf v) 5 1:=fn_of_ok v 5 1 (by omega) h
/-- A right list's function: where it is what. -/
theorem ok_range {v:List Mark} (h:seenOk v=true) (n:Int):0≤seenOf v n∧seenOf v n≤1000000∧(¬ (1≤n∧n≤5)→seenOf v n=0):=by
  have key:∀ (l:List Mark) (p:Int),okFrom p l=true→0≤seenOf l n∧seenOf l n≤1000000∧(¬ (1≤n∧n≤5)→seenOf l n=0):=by
    intro l
    induction l with
    | nil=>intro p _;exact ⟨Int.le_refl _,by show (0:Int)≤1000000;omega,fun _=>rfl⟩
    | cons m r ih =>
      intro p ho
      simp only [okFrom,Bool.and_eq_true,decide_eq_true_eq,isDot_iff] at ho
      simp only [seenOf]
      split
      · rename_i e
        exact ⟨by omega,by omega,fun hn=>by omega⟩
      · exact ih m.f0 ho.2.2
  exact key v 0 h
theorem mx_le {a b c:Int} (h1:a≤c) (h2:b≤c):mx a b≤c:=by unfold mx;split <;> omega
theorem mx_comm (a b:Int):mx a b=mx b a:=by unfold mx;split <;> split <;> omega
theorem le_mx (a b:Int):a≤mx a b∧b≤mx a b:=by unfold mx;split <;> omega
theorem join_ok {a b:List Mark} (ha:seenOk a=true) (hb:seenOk b=true):seenOk (seenJoin a b)=true:=by
  rw [seenJoin_fn]
  exact okFrom_fn 5 1 0 (by omega) (by omega) (by omega) (fun m _ _=>mx_le (ok_range ha m).2.1 (ok_range hb m).2.1)
theorem join_of {a b:List Mark} (ha:seenOk a=true) (hb:seenOk b=true) (n:Int):seenOf (seenJoin a b) n=mx (seenOf a n) (seenOf b n):=by
  by_cases h:1≤n∧n≤5
  · rw [seenJoin_fn,seenOf_fn 5 1 n h.1 (by omega)]
    have h1:=(ok_range ha n).1
    have:=(le_mx (seenOf a n) (seenOf b n)).1
    split
    · rfl
    · omega
  · rw [(ok_range (join_ok ha hb) n).2.2 h,(ok_range ha n).2.2 h,(ok_range hb n).2.2 h]
    rfl
theorem join_comm (a b:List Mark):seenJoin a b=seenJoin b a:=by
  rw [seenJoin_fn,seenJoin_fn]
  exact fromFn_congr 5 1 (fun m _ _=>mx_comm _ _)
theorem ok_ext {a b:List Mark} (ha:seenOk a=true) (hb:seenOk b=true) (h:∀ n,seenOf a n=seenOf b n):a=b:=by
  rw [ok_fn ha,ok_fn hb]
  exact fromFn_congr 5 1 (fun m _ _=>h m)
end Go.Proofs.Ytlglglbjckpnbaa.Q

namespace Go.Proofs.Ytlglglbjckpnbaa.Q
open Go.RowKit Go.Proofs.Ytlglglbjckpnbaa.P Go.Proofs.YtlglglbjckpnbaaW.PrintWords Go.Proofs.YtlglglbjckpnbaaW.PrintMore

/-! ### Sorted lists with the same members are one -/
theorem ltS_irr (x:Sib):¬ ltS x x=true:=fun h=>ltS_asymm h h
theorem sorted_ext (p:List Sib):∀ (q:List Sib),Sorted p→Sorted q→(∀ z,z ∈ p ↔ z ∈ q)→p=q:=by
  induction p with
  | nil =>
    intro q _ _ h
    cases q with
    | nil=>rfl
    | cons y q=>exact absurd ((h y).2 (List.mem_cons_self ..)) (by simp)
  | cons x p ih =>
    intro q hp hq h
    cases q with
    | nil=>exact absurd ((h x).1 (List.mem_cons_self ..)) (by simp)
    | cons y q =>
      obtain ⟨hp1,hp2⟩:=List.pairwise_cons.1 hp
      obtain ⟨hq1,hq2⟩:=List.pairwise_cons.1 hq
      have hxy:x=y:=by
        rcases List.mem_cons.1 ((h x).1 (List.mem_cons_self ..)) with e | hx
        · exact e
        · rcases List.mem_cons.1 ((h y).2 (List.mem_cons_self ..)) with e | hy
          · exact e.symm
          · exact absurd (hp1 y hy) (ltS_asymm (hq1 x hx))
      subst hxy
      congr 1
      refine ih q hp2 hq2 (fun z=>⟨fun hz=>?_,fun hz=>?_⟩)
      · rcases List.mem_cons.1 ((h z).1 (List.mem_cons_of_mem _ hz)) with e | hz'
        · subst e;exact absurd (hp1 z hz) (ltS_irr z)
        · exact hz'
      · rcases List.mem_cons.1 ((h z).2 (List.mem_cons_of_mem _ hz)) with e | hz'
        · subst e;exact absurd (hq1 z hz) (ltS_irr z)
        · exact hz'
theorem insS_has (x:Sib) (p:List Sib):∀ z,z=x∨z ∈ p→z ∈ insS p x:=by
  induction p with
  | nil=>intro z h;simpa [insS] using h
  | cons y p ih =>
    intro z h
    simp only [insS]
    split
    · rcases h with h | h
      · exact List.mem_cons_of_mem _ (ih z (.inl h))
      · rcases List.mem_cons.1 h with e | h
        · rw [e];exact List.mem_cons_self ..
        · exact List.mem_cons_of_mem _ (ih z (.inr h))
    · rcases h with h | h
      · rw [h];exact List.mem_cons_self ..
      · exact List.mem_cons_of_mem _ h
theorem foldS_mem (s:List Sib):∀ (p:List Sib) (z:Sib),z ∈ s.foldl insS p ↔ z ∈ s∨z ∈ p:=by
  induction s with
  | nil=>intro p z;simp
  | cons x s ih =>
    intro p z
    rw [List.foldl_cons,ih]
    constructor
    · rintro (h | h)
      · exact .inl (List.mem_cons_of_mem _ h)
      · rcases insS_mem x p z h with e | h
        · rw [e];exact .inl (List.mem_cons_self ..)
        · exact .inr h
    · rintro (h | h)
      · rcases List.mem_cons.1 h with e | h
        · exact .inr (insS_has x p z (.inl e))
        · exact .inl h
      · exact .inr (insS_has x p z (.inr h))
theorem foldS_sorted (s:List Sib):∀ p:List Sib,Sorted p→(∀ x ∈ s,∀ z ∈ p,Apart x z)→(s.Pairwise fun a b=>Apart b a)→Sorted (s.foldl insS p):=by
  induction s with
  | nil=>intro p hp _ _;exact hp
  | cons x s ih =>
    intro p hp ha hs
    obtain ⟨h1,h2⟩:=List.pairwise_cons.1 hs
    rw [List.foldl_cons]
    refine ih _ (insS_sorted x p hp (ha x (List.mem_cons_self ..))) (fun y hy z hz=>?_) h2
    rcases insS_mem x p z hz with e | hz
    · rw [e];exact h1 y hy
    · exact ha y (List.mem_cons_of_mem _ hy) z hz
/-! ### Dots -/
def same (x y:Sib):Prop:=x.f0.f0=y.f0.f0∧x.f0.f1=y.f0.f1
theorem sorted_inj (l:List Sib):Sorted l→∀ x ∈ l,∀ y ∈ l,same x y→x=y:=by
  induction l with
  | nil=>intro _ x hx;cases hx
  | cons a l ih =>
    intro hs x hx y hy he
    obtain ⟨h1,h2⟩:=List.pairwise_cons.1 hs
    unfold same at he
    rcases List.mem_cons.1 hx with ex | hx
    · rcases List.mem_cons.1 hy with ey | hy
      · rw [ex,ey]
      · have:=h1 y hy
        rw [ltS_iff,← ex] at this
        omega
    · rcases List.mem_cons.1 hy with ey | hy
      · have:=h1 x hx
        rw [ltS_iff,← ey] at this
        omega
      · exact ih h2 x hx y hy he
theorem at_has {l:List Sib} {x:Sib}:sibAt x.f0.f0 x.f0.f1 0 l≥0 ↔ ∃ z ∈ l,same z x:=by
  constructor
  · intro h
    by_cases hc:∃ z ∈ l,same z x
    · exact hc
    · exfalso
      have key:∀ (l:List Sib) (i:Int),(∀ z ∈ l,¬ same z x)→sibAt x.f0.f0 x.f0.f1 i l = -1:=by
        intro l
        induction l with
        | nil=>intro i _;rfl
        | cons y l ih =>
          intro i hn
          have hy:=hn y (List.mem_cons_self ..)
          simp only [sibAt]
          rw [if_neg (by unfold same at hy;simp only [isAt,Bool.and_eq_true,beq_iff_eq];exact hy)]
          exact ih (i+1) (fun z hz=>hn z (List.mem_cons_of_mem _ hz))
      have:=key l 0 (fun z hz hs=>hc ⟨z,hz,hs⟩)
      omega
  · rintro ⟨z,hz,hs⟩
    by_cases hn:sibAt x.f0.f0 x.f0.f1 0 l<0
    · exact absurd hs (sibAt_none _ _ l 0 (by omega) hn z hz)
    · omega
theorem ok_sib {v:List Mark} {l:List Sib} (h:setOk v l=true):∀ x ∈ l,sibOk v x=true:=sibsFrom_mem v l none ((setOk_iff v l).1 h).2.2
theorem ok_seen {v:List Mark} {l:List Sib} (h:setOk v l=true):∀ x ∈ l,seenHas v x.f0.f0 x.f0.f1=true:=fun x hx=>by
  have:=ok_sib h x hx
  simp only [sibOk,Bool.and_eq_true] at this
  exact this.2.1
/-! ### The merged set -/
def mrg (va:List Mark) (la:List Sib) (vb:List Mark) (lb:List Sib):List Sib:=(kept va la vb lb).foldl insS []
theorem mrg_mem (va:List Mark) (la:List Sib) (vb:List Mark) (lb:List Sib) (z:Sib):z ∈ mrg va la vb lb ↔ (z ∈ la∧((∃ w ∈ lb,same w z)∨seenHas vb z.f0.f0 z.f0.f1=false))∨(z ∈ lb∧¬ (∃ w ∈ la,same w z)∧seenHas va z.f0.f0 z.f0.f1=false):=by
  unfold mrg
  rw [foldS_mem]
  have hA:keepA vb lb z=true ↔ (∃ w ∈ lb,same w z)∨seenHas vb z.f0.f0 z.f0.f1=false:=by
    unfold keepA
    rw [Bool.or_eq_true,decide_eq_true_eq,at_has,Bool.not_eq_true']
  have hB:keepB va la z=true ↔ ¬ (∃ w ∈ la,same w z)∧seenHas va z.f0.f0 z.f0.f1=false:=by
    unfold keepB
    rw [Bool.and_eq_true,decide_eq_true_eq,← at_has,Bool.not_eq_true',Int.not_le]
  unfold kept
  rw [List.mem_append,List.mem_filter,List.mem_filter,hA,hB]
  simp
section
variable {va vb:List Mark} {la lb:List Sib} (ha:setOk va la=true) (hb:setOk vb lb=true)
include ha hb
theorem mrg_sorted:Sorted (mrg va la vb lb):=foldS_sorted _ [] List.Pairwise.nil (fun _ _ _ h=>by cases h) (kept_apart ha hb)
theorem join_has (x y:Int):seenHas (seenJoin va vb) x y=(seenHas va x y || seenHas vb x y):=by
  have hva:=((setOk_iff va la).1 ha).1
  have hvb:=((setOk_iff vb lb).1 hb).1
  unfold seenHas
  rw [join_of hva hvb]
  rw [Bool.eq_iff_iff,Bool.or_eq_true,decide_eq_true_eq,decide_eq_true_eq,decide_eq_true_eq]
  unfold mx
  split <;> omega
theorem mrg_ok (hl:(mrg va la vb lb).length≤8):setOk (seenJoin va vb) (mrg va la vb lb)=true:=by
  have hva:=((setOk_iff va la).1 ha).1
  have hvb:=((setOk_iff vb lb).1 hb).1
  refine (setOk_iff _ _).2 ⟨join_ok hva hvb,hl,?_⟩
  have key:∀ (s:List Sib) (o:Option Sib),Sorted s→(∀ x ∈ s,sibOk (seenJoin va vb) x=true)→(∀ y,o=some y→∀ x ∈ s,ltS y x=true)→sibsFrom (seenJoin va vb) o s=true:=by
    intro s
    induction s with
    | nil=>intro o _ _ _;cases o <;> rfl
    | cons x s ih =>
      intro o hs hk ho
      obtain ⟨h1,h2⟩:=List.pairwise_cons.1 hs
      have ht:=ih (some x) h2 (fun y hy=>hk y (List.mem_cons_of_mem _ hy)) (fun y hy z hz=>by cases hy;exact h1 z hz)
      cases o with
      | none=>simp only [sibsFrom];rw [hk x (List.mem_cons_self ..),ht];rfl
      | some y =>
        have hy:dotLess y.f0.f0 y.f0.f1 x.f0.f0 x.f0.f1=true:=ho y rfl x (List.mem_cons_self ..)
        simp only [sibsFrom]
        rw [hk x (List.mem_cons_self ..),ht,hy]
        rfl
  refine key _ none (mrg_sorted ha hb) (fun x hx=>?_) (fun y hy=>by cases hy)
  have hj:=join_has ha hb x.f0.f0 x.f0.f1
  rcases (mrg_mem va la vb lb x).1 hx with ⟨h,_⟩ | ⟨h,_⟩
  · have:=ok_sib ha x h
    simp only [sibOk,Bool.and_eq_true] at this ⊢
    exact ⟨this.1,by rw [hj,this.2.1];rfl,this.2.2⟩
  · have:=ok_sib hb x h
    simp only [sibOk,Bool.and_eq_true] at this ⊢
    exact ⟨this.1,by rw [hj,this.2.1];simp,this.2.2⟩
omit hb in
theorem mrg_self:mrg va la va la=la:=by
  refine sorted_ext _ _ (mrg_sorted ha ha) (setOk_sorted ha) (fun z=>?_)
  rw [mrg_mem]
  constructor
  · rintro (⟨h,_⟩ | ⟨h,_⟩) <;> exact h
  · intro h;exact .inl ⟨h,.inl ⟨z,h,rfl,rfl⟩⟩
theorem mrg_left (hl:(mrg va la vb lb).length≤8):mrg (seenJoin va vb) (mrg va la vb lb) va la=mrg va la vb lb:=by
  have hx:=mrg_ok ha hb hl
  refine sorted_ext _ _ (mrg_sorted hx ha) (mrg_sorted ha hb) (fun z=>?_)
  rw [mrg_mem]
  constructor
  · rintro (⟨h,_⟩ | ⟨h,_,hs⟩)
    · exact h
    · rw [join_has ha hb,ok_seen ha z h,Bool.true_or] at hs
      cases hs
  · intro h
    refine .inl ⟨h,?_⟩
    rcases (mrg_mem va la vb lb z).1 h with ⟨h,_⟩ | ⟨_,_,h⟩
    · exact .inl ⟨z,h,rfl,rfl⟩
    · exact .inr h
theorem mrg_right (hl:(mrg va la vb lb).length≤8) (hn:∀ x ∈ la,∀ y ∈ lb,same x y→x=y):mrg vb lb (seenJoin va vb) (mrg va la vb lb)=mrg va la vb lb:=by
  have hx:=mrg_ok ha hb hl
  refine sorted_ext _ _ (mrg_sorted hb hx) (mrg_sorted ha hb) (fun z=>?_)
  rw [mrg_mem]
  constructor
  · rintro (⟨h,hc⟩ | ⟨h,_⟩)
    · rcases hc with ⟨w,hw,hs⟩ | hc
      · rcases (mrg_mem va la vb lb w).1 hw with ⟨hwa,_⟩ | ⟨hwb,_⟩
        · have:=hn w hwa z h hs
          rw [← this];exact hw
        · have:=sorted_inj lb (setOk_sorted hb) w hwb z h hs
          rw [← this];exact hw
      · rw [join_has ha hb,ok_seen hb z h,Bool.or_true] at hc
        cases hc
    · exact h
  · intro h
    rcases (mrg_mem va la vb lb z).1 h with ⟨h1,hc⟩ | ⟨h1,_⟩
    · by_cases hd:∃ w ∈ lb,same w z
      · obtain ⟨w,hw,hs⟩:=hd
        have e:=hn z h1 w hw ⟨hs.1.symm,hs.2.symm⟩
        refine .inl ⟨by rw [e];exact hw,.inl ⟨z,h,rfl,rfl⟩⟩
      · rcases hc with hc | hc
        · exact absurd hc hd
        · exact .inr ⟨h,hd,hc⟩
    · exact .inl ⟨h1,.inl ⟨z,h,rfl,rfl⟩⟩
theorem mrg_comm (hn:∀ x ∈ la,∀ y ∈ lb,same x y→x=y):mrg va la vb lb=mrg vb lb va la:=by
  refine sorted_ext _ _ (mrg_sorted ha hb) (mrg_sorted hb ha) (fun z=>?_)
  rw [mrg_mem,mrg_mem]
  have flip:∀ {x y:Sib},same x y→same y x:=fun h=>⟨h.1.symm,h.2.symm⟩
  constructor
  · rintro (⟨h,hc⟩ | ⟨h,hd,hs⟩)
    · by_cases hd:∃ w ∈ lb,same w z
      · obtain ⟨w,hw,hs⟩:=hd
        have e:=hn z h w hw (flip hs)
        exact .inl ⟨by rw [e];exact hw,.inl ⟨z,h,rfl,rfl⟩⟩
      · rcases hc with hc | hc
        · exact absurd hc hd
        · exact .inr ⟨h,hd,hc⟩
    · exact .inl ⟨h,.inr hs⟩
  · rintro (⟨h,hc⟩ | ⟨h,hd,hs⟩)
    · by_cases hd:∃ w ∈ la,same w z
      · obtain ⟨w,hw,hs⟩:=hd
        have e:=hn w hw z h hs
        exact .inl ⟨by rw [← e];exact hw,.inl ⟨z,h,rfl,rfl⟩⟩
      · rcases hc with hc | hc
        · exact absurd hc hd
        · exact .inr ⟨h,hd,hc⟩
    · exact .inl ⟨h,.inr hs⟩
theorem join_left:seenJoin (seenJoin va vb) va=seenJoin va vb:=by
  have hva:=((setOk_iff va la).1 ha).1
  have hvb:=((setOk_iff vb lb).1 hb).1
  refine ok_ext (join_ok (join_ok hva hvb) hva) (join_ok hva hvb) (fun n=>?_)
  rw [join_of (join_ok hva hvb) hva,join_of hva hvb]
  unfold mx
  split <;> split <;> omega
theorem join_right:seenJoin vb (seenJoin va vb)=seenJoin va vb:=by
  have hva:=((setOk_iff va la).1 ha).1
  have hvb:=((setOk_iff vb lb).1 hb).1
  refine ok_ext (join_ok hvb (join_ok hva hvb)) (join_ok hva hvb) (fun n=>?_)
  rw [join_of hvb (join_ok hva hvb),join_of hva hvb]
  unfold mx
  split <;> split <;> omega
omit hb in
theorem join_self:seenJoin va va=va:=by
  have hva:=((setOk_iff va la).1 ha).1
  refine ok_ext (join_ok hva hva) hva (fun n=>?_)
  rw [join_of hva hva]
  unfold mx
  split <;> omega
end
end Go.Proofs.Ytlglglbjckpnbaa.Q

namespace Go.Proofs.Ytlglglbjckpnbaa.P
open Go.RowKit Go.Proofs.YtlglglbjckpnbaaW.PrintWords Go.Proofs.YtlglglbjckpnbaaW.PrintLast Go.Proofs.YtlglglbjckpnbaaW.PrintMore
attribute [local go_sem] max2_int min2_int max_two min_two max_three min_three max_four min_four   -- for this text's walks alone
set_option linter.unusedVariables false
set_option linter.unusedSimpArgs false

/-! ### Y35: function 60 -/
mutual
def Y35.j0:Nat→ByteArray→Bool→Option (Bool)
 | 0,_,_=>none
 | k+1,x0,x12=>if x12=true then (some false) else (Y35.l0 k x0 0)
def Y35.l0:Nat→ByteArray→Int→Option (Bool)
 | 0,_,_=>none
 | k+1,x0,x3=>if x3<(x0.size:Int) then (if 0≤x3 then (if (bt x0 x3)≥97 then (if ((bt x0 x3)≤122) then (Y35.l0 k x0 (wrap64 (x3+1))) else (if x3=0 then (some false) else (if (bt x0 x3)≥48 then (if ((bt x0 x3)≤57) then (Y35.l0 k x0 (wrap64 (x3+1))) else (if (bt x0 x3)=95 then (Y35.l0 k x0 (wrap64 (x3+1))) else (some false))) else (if (bt x0 x3)=95 then (Y35.l0 k x0 (wrap64 (x3+1))) else (some false))))) else (if x3=0 then (some false) else (if (bt x0 x3)≥48 then (if ((bt x0 x3)≤57) then (Y35.l0 k x0 (wrap64 (x3+1))) else (if (bt x0 x3)=95 then (Y35.l0 k x0 (wrap64 (x3+1))) else (some false))) else (if (bt x0 x3)=95 then (Y35.l0 k x0 (wrap64 (x3+1))) else (some false))))) else (none)) else (some true)
end
def Y35.f (k:Nat) (a0:ByteArray):Option (Bool):=if (a0.size:Int)<1 then (Y35.j0 k a0 true) else (Y35.j0 k a0 (decide ((a0.size:Int)>20)))
theorem Y35.mono_l:∀ k,(∀ y0 y1,LeO (Y35.j0 k y0 y1) (Y35.j0 (k+1) y0 y1))∧(∀ y0 y1,LeO (Y35.l0 k y0 y1) (Y35.l0 (k+1) y0 y1))
 | 0=>by refine ⟨?_,?_⟩ <;> intros <;> exact LeO.none _
 | k+1=>by
  obtain ⟨ih0,ih1⟩:=Y35.mono_l k;refine ⟨?_,?_⟩
  ·intros;unfold Y35.j0;exact mO
  ·intros;unfold Y35.l0;exact mO
theorem Y35.mono:∀ a0 k,LeO (Y35.f k a0) (Y35.f (k+1) a0):=by
 intro a0 k;obtain ⟨ih0,ih1⟩:=Y35.mono_l k;unfold Y35.f;exact mO

/-! ### Y34: function 68 -/
mutual
def Y34.j0:Nat→ByteArray→Bool→Option (Bool)
 | 0,_,_=>none
 | k+1,x0,x18=>if x18=true then (some false) else (Y34.l0 k x0 (x0.size:Int) 0)
def Y34.l0:Nat→ByteArray→Int→Int→Option (Bool)
 | 0,_,_,_=>none
 | k+1,x0,x20,x21=>if x21<x20 then (if 0≤x21 then (if x21<(x0.size:Int) then (if (bt x0 x21)≥97 then (if (bt x0 x21)≤122 then (Y34.l0 k x0 x20 (wrap64 (x21+1))) else (if (bt x0 x21)≥48 then (if (bt x0 x21)≤57 then (Y34.l0 k x0 x20 (wrap64 (x21+1))) else (if ((bt x0 x21)=95) then (Y34.l0 k x0 x20 (wrap64 (x21+1))) else (some false))) else (if ((bt x0 x21)=95) then (Y34.l0 k x0 x20 (wrap64 (x21+1))) else (some false)))) else (if (bt x0 x21)≥48 then (if (bt x0 x21)≤57 then (Y34.l0 k x0 x20 (wrap64 (x21+1))) else (if ((bt x0 x21)=95) then (Y34.l0 k x0 x20 (wrap64 (x21+1))) else (some false))) else (if ((bt x0 x21)=95) then (Y34.l0 k x0 x20 (wrap64 (x21+1))) else (some false)))) else (none)) else (none)) else (some true)
end
def Y34.f (k:Nat) (a0:ByteArray):Option (Bool):=(Y69.f a0).bind fun D04=>((Y55.f D04 1 20).bind fun D05=>(if D05=true then (if 0<(a0.size:Int) then (if (bt a0 0)<97 then (Y34.j0 k a0 true) else (Y34.j0 k a0 (decide ((bt a0 0)>122)))) else (none)) else (Y34.j0 k a0 true)))
theorem Y34.mono_l:∀ k,(∀ y0 y1,LeO (Y34.j0 k y0 y1) (Y34.j0 (k+1) y0 y1))∧(∀ y0 y1 y2,LeO (Y34.l0 k y0 y1 y2) (Y34.l0 (k+1) y0 y1 y2))
 | 0=>by refine ⟨?_,?_⟩ <;> intros <;> exact LeO.none _
 | k+1=>by
  obtain ⟨ih0,ih1⟩:=Y34.mono_l k;refine ⟨?_,?_⟩
  ·intros;unfold Y34.j0;exact mO
  ·intros;unfold Y34.l0;exact mO
theorem Y34.mono:∀ a0 k,LeO (Y34.f k a0) (Y34.f (k+1) a0):=by
 intro a0 k;obtain ⟨ih0,ih1⟩:=Y34.mono_l k;unfold Y34.f;exact mO
end Go.Proofs.Ytlglglbjckpnbaa.P

namespace Go.Proofs.Ytlglglbjckpnbaa.Q
open Go.RowKit Go.Proofs.Ytlglglbjckpnbaa.P Go.Proofs.YtlglglbjckpnbaaW.PrintWords Go.Proofs.YtlglglbjckpnbaaW.PrintMore

/-- From p to q the text s has the bytes bs. -/
def Span (s:ByteArray) (p:Int) (bs:List Int) (q:Int):Prop:=0≤p∧q=p+(bs.length:Int)∧q≤(s.size:Int)∧(bytesOf s).drop p.toNat=bs ++ (bytesOf s).drop q.toNat
theorem Span.of {s:ByteArray} {p q:Int} {bs r:List Int} (h0:0≤p) (h1:q=p+(bs.length:Int)) (h2:q≤(s.size:Int)) (h:(bytesOf s).drop p.toNat=bs ++ r):Span s p bs q:=by
  refine ⟨h0,h1,h2,?_⟩
  rw [h,show q.toNat=p.toNat+bs.length from by omega,← List.drop_drop,h,List.drop_left]
theorem Span.trans {s:ByteArray} {p q r:Int} {b c:List Int} (h:Span s p b q) (h2:Span s q c r):Span s p (b ++ c) r:=by
  obtain ⟨a0,a1,a2,a3⟩:=h
  obtain ⟨b0,b1,b2,b3⟩:=h2
  exact ⟨a0,by rw [List.length_append];omega,b2,by rw [a3,b3,List.append_assoc]⟩
theorem Span.nil {s:ByteArray} {p:Int} (h0:0≤p) (h1:p≤(s.size:Int)):Span s p [] p:=⟨h0,by simp,h1,by simp⟩
end Go.Proofs.Ytlglglbjckpnbaa.Q

namespace Go.Proofs.Ytlglglbjckpnbaa.Q
open Go.RowKit Go.Proofs.Ytlglglbjckpnbaa.P Go.Proofs.YtlglglbjckpnbaaW.PrintWords Go.Proofs.YtlglglbjckpnbaaW.PrintMore
def eqM:List Mark→List Mark→Bool
  | [],[]=>true
  | x :: a,y :: b=>(x.f0 == y.f0 && x.f1 == y.f1) && eqM a b
  | _,_=>false
theorem eqM_iff:∀ a b:List Mark,eqM a b=true ↔ a=b
  | [],[]=>by simp [eqM]
  | ⟨x0,x1⟩ :: a,⟨y0,y1⟩ :: b=>by
    simp only [eqM,Bool.and_eq_true,beq_iff_eq,eqM_iff a b,List.cons.injEq,S30.mk.injEq]
  | [],_ :: _=>by simp [eqM]
  | _ :: _,[]=>by simp [eqM]
theorem eqM_length:∀ a b:List Mark,a.length≠b.length→eqM a b=false:=fun a b h=>by
  cases e:eqM a b with
  | false=>rfl
  | true=>exact absurd (by rw [(eqM_iff a b).1 e]) h
theorem markNe (x y:Mark):(!(x.f0 == y.f0) || (!(x.f1 == y.f1)))=!(x.f0 == y.f0 && x.f1 == y.f1):=by
  cases x.f0 == y.f0 <;> cases x.f1 == y.f1 <;> rfl
theorem lwSeen_l0 (l m:List Mark) (hl:l.length≤1048576) (hm:m.length=l.length):∀ (s t:List Mark) (i:Nat),l.drop i=s→m.drop i=t→i≤l.length →
    Ev (fun k=>Y27.l0 k l m (i:Int)) (eqM s t)
  | [],t,i,h,h',hi=>by
    have e:=dropNil' h hi
    have:t=[]:=by rw [← h',List.drop_eq_nil_of_le (by omega)]
    subst this
    refine Ev.step (f:=fun _=>some true) (fun k=>?_) (Ev.now _)
    simp only [Y27.l0]
    rw [if_neg (by omega)]
  | x :: s,[],i,h,h',hi=>by
    have a:=(dropCons h z30).1
    have b:=dropNil h'
    omega
  | x :: s,y :: t,i,h,h',hi=>by
    obtain ⟨h1,h2,h3⟩:=dropCons h z30
    obtain ⟨g1,g2,g3⟩:=dropCons h' z30
    have hr:rd_T30 l (i:Int)=x:=by simpa [rd_T30] using h2
    have gr:rd_T30 m (i:Int)=y:=by simpa [rd_T30] using g2
    have ih:=lwSeen_l0 l m hl hm s t (i+1) h3 g3 (by omega)
    refine Ev.step (fun k=>by simp only [Y27.l0,hr,gr,markNe];rw [if_pos (by omega),if_pos (by omega),if_pos (by omega)]) ?_
    unfold eqM
    cases x.f0 == y.f0 && x.f1 == y.f1 with
    | false=>exact evPos (by rfl) (Ev.now _)
    | true =>
      refine evNeg (by simp) ?_
      rw [w64 (by omega) (by omega)]
      exact ih
theorem lwSeen_ev (l m:List Mark) (hl:l.length≤1048576):Ev (fun k=>Y27.f k l m) (eqM l m):=by
  unfold Y27.f
  refine evIte (fun h=>?_) (fun h=>?_)
  · exact lwSeen_l0 l m hl (by omega) l m 0 rfl rfl (by omega)
  · rw [eqM_length l m (by omega)]
    exact Ev.now _
theorem lwSeen_refl (l:List Mark) (hl:l.length≤1048576):Ev (fun k=>Y27.f k l l) true:=by
  have:=lwSeen_ev l l hl
  rwa [(eqM_iff l l).2 rfl] at this
end Go.Proofs.Ytlglglbjckpnbaa.Q
