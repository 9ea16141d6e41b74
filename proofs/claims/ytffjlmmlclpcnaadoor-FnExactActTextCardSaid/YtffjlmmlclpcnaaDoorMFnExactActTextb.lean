/- For every act the program's ActText and the reference's return the same text. No condition. (Part 2 of 2: written by programs of this workplace and by hand, merged.) -/
import Derived.Test.YtffjlmmlclpcnaaDoorMFnExactActTexta
import Derived.Shelf.Strconv.Itoa4
import Derived.Shelf.Unicode.PredsPay
import Derived.Lib.OthersKept
import Derived.Test.YtffjlmmlclpcnaaDoorMFnExactActTextWWords
import Derived.Test.YtffjlmmlclpcnaaDoorMFnExactActTextWMore
import Derived.Laws.BitsLemmas
import Derived.Lib.ItoaNum
import Derived.Test.YtffjlmmlclpcnaaDoorRows
import Derived.Test.YtffjlmmlclpcnaaDoorTie
import Derived.Test.YtffjlmmlclpcnaaDoorCards
import Derived.WalkKit
import Derived.ProofKit
import Derived.OpenShut
import Derived.ShutString
import Derived.ChangeOld
import Derived.Below
import Derived.SizedLaws
import Derived.LaidMore
import Derived.Lay
import Derived.LaidOnce
import Derived.SevenTiedAt
import Derived.LaidLaws
import Derived.ChangeSame
import Derived.ChangeVars
import Derived.JoinedOf
import Derived.LaidSub
import Derived.Lib.LaidTab
set_option linter.unusedVariables false
set_option linter.unusedSimpArgs false
set_option maxHeartbeats 8000000
set_option maxRecDepth 100000

namespace Go.Proofs.YtffjlmmlclpcnaaDoor.P
open Go.RowKit Go.Proofs.YtffjlmmlclpcnaaDoorW.PrintWords Go.Proofs.YtffjlmmlclpcnaaDoorW.PrintLast Go.Proofs.YtffjlmmlclpcnaaDoorW.PrintMore
attribute [local go_sem] max2_int min2_int max_two min_two max_three min_three max_four min_four   -- for this text's walks alone
set_option linter.unusedVariables false
set_option linter.unusedSimpArgs false

/-! ### Y1: function 18 -/
mutual
def Y1.j0:Nat→Bool→Int→Int→Int→ByteArray→ByteArray→Int→Option (Bool)
 | 0,_,_,_,_,_,_,_=>none
 | k+1,x26,x152000,x152001,x152002,x152003,x152004,x152005=>if x26=true then (some false) else ((Y18.f).bind fun t155=>(if 0≤(wrap64 (x152000-1)) then (if (wrap64 (x152000-1))<(t155.length:Int) then ((Y0.f k (⟨#[65]⟩:ByteArray) ((rd_T63 t155 (wrap64 (x152000-1))).f1)).bind fun t160=>((Y12.f x152001 t160).bind fun t161=>(if t161=true then ((Y0.f k (⟨#[66]⟩:ByteArray) ((rd_T63 t155 (wrap64 (x152000-1))).f1)).bind fun t162=>((Y12.f x152002 t162).bind fun t163=>(Y1.j1 k (!t163) x152000 x152001 x152002 x152003 x152004 x152005 ((rd_T63 t155 (wrap64 (x152000-1))).f1)))) else (Y1.j1 k true x152000 x152001 x152002 x152003 x152004 x152005 ((rd_T63 t155 (wrap64 (x152000-1))).f1))))) else (none)) else (none)))
def Y1.j1:Nat→Bool→Int→Int→Int→ByteArray→ByteArray→Int→ByteArray→Option (Bool)
 | 0,_,_,_,_,_,_,_,_=>none
 | k+1,x50,x152000,x152001,x152002,x152003,x152004,x152005,x160000=>if x50=true then (some false) else ((Y0.f k (⟨#[75]⟩:ByteArray) x160000).bind fun t164=>(if t164=true then ((Y3.f k x152003).bind fun t165=>(if t165=true then ((Y0.f k (⟨#[68]⟩:ByteArray) x160000).bind fun t166=>(if t166=true then ((Y3.f k x152004).bind fun t167=>(if t167=true then (if (x152004.size:Int)≤16 then (some true) else ((Y0.f k (⟨#[68]⟩:ByteArray) x160000).bind fun t168=>(if t168=true then (some false) else (some (x152004.toList == ([]:List UInt8)))))) else ((Y0.f k (⟨#[68]⟩:ByteArray) x160000).bind fun t169=>(if t169=true then (some false) else (some (x152004.toList == ([]:List UInt8))))))) else ((Y0.f k (⟨#[68]⟩:ByteArray) x160000).bind fun t170=>(if t170=true then (some false) else (some (x152004.toList == ([]:List UInt8))))))) else ((Y0.f k (⟨#[75]⟩:ByteArray) x160000).bind fun t171=>(if t171=true then (some false) else (if x152003.toList=([]:List UInt8) then ((Y0.f k (⟨#[68]⟩:ByteArray) x160000).bind fun t172=>(if t172=true then ((Y3.f k x152004).bind fun t173=>(if t173=true then (if (x152004.size:Int)≤16 then (some true) else ((Y0.f k (⟨#[68]⟩:ByteArray) x160000).bind fun t174=>(if t174=true then (some false) else (some (x152004.toList == ([]:List UInt8)))))) else ((Y0.f k (⟨#[68]⟩:ByteArray) x160000).bind fun t175=>(if t175=true then (some false) else (some (x152004.toList == ([]:List UInt8))))))) else ((Y0.f k (⟨#[68]⟩:ByteArray) x160000).bind fun t176=>(if t176=true then (some false) else (some (x152004.toList == ([]:List UInt8))))))) else (some false)))))) else ((Y0.f k (⟨#[75]⟩:ByteArray) x160000).bind fun t177=>(if t177=true then (some false) else (if x152003.toList=([]:List UInt8) then ((Y0.f k (⟨#[68]⟩:ByteArray) x160000).bind fun t178=>(if t178=true then ((Y3.f k x152004).bind fun t179=>(if t179=true then (if (x152004.size:Int)≤16 then (some true) else ((Y0.f k (⟨#[68]⟩:ByteArray) x160000).bind fun t180=>(if t180=true then (some false) else (some (x152004.toList == ([]:List UInt8)))))) else ((Y0.f k (⟨#[68]⟩:ByteArray) x160000).bind fun t181=>(if t181=true then (some false) else (some (x152004.toList == ([]:List UInt8))))))) else ((Y0.f k (⟨#[68]⟩:ByteArray) x160000).bind fun t182=>(if t182=true then (some false) else (some (x152004.toList == ([]:List UInt8))))))) else (some false))))))
end
def Y1.f (k:Nat) (a0_0:Int) (a0_1:Int) (a0_2:Int) (a0_3:ByteArray) (a0_4:ByteArray) (a0_5:Int):Option (Bool):=(Y13.f a0_0 1 17).bind fun t152=>(if t152=true then (if a0_5=(-1) then (Y1.j0 k false a0_0 a0_1 a0_2 a0_3 a0_4 a0_5) else ((Y9.f k a0_0).bind fun t153=>(if t153=true then ((Y22.f a0_5).bind fun t154=>(Y1.j0 k (!t154) a0_0 a0_1 a0_2 a0_3 a0_4 a0_5)) else (Y1.j0 k true a0_0 a0_1 a0_2 a0_3 a0_4 a0_5)))) else (Y1.j0 k true a0_0 a0_1 a0_2 a0_3 a0_4 a0_5))
theorem Y1.mono_l:∀ k,(∀ y0 y1 y2 y3 y4 y5 y6,LeO (Y1.j0 k y0 y1 y2 y3 y4 y5 y6) (Y1.j0 (k+1) y0 y1 y2 y3 y4 y5 y6))∧(∀ y0 y1 y2 y3 y4 y5 y6 y7,LeO (Y1.j1 k y0 y1 y2 y3 y4 y5 y6 y7) (Y1.j1 (k+1) y0 y1 y2 y3 y4 y5 y6 y7))
 | 0=>by refine ⟨?_,?_⟩ <;> intros <;> exact LeO.none _
 | k+1=>by
  obtain ⟨ih0,ih1⟩:=Y1.mono_l k
  have m0:=@Y0.mono
  have m1:=@Y3.mono
  have m2:=@Y9.mono
  refine ⟨?_,?_⟩
  ·intros
   unfold Y1.j0
   exact mO
  ·intros
   unfold Y1.j1
   exact mO
theorem Y1.mono:∀ a0 a1 a2 a3 a4 a5 k,LeO (Y1.f k a0 a1 a2 a3 a4 a5) (Y1.f (k+1) a0 a1 a2 a3 a4 a5):=by
 intro a0 a1 a2 a3 a4 a5 k
 have m0:=@Y0.mono
 have m1:=@Y3.mono
 have m2:=@Y9.mono
 obtain ⟨ih0,ih1⟩:=Y1.mono_l k
 unfold Y1.f
 exact mO
def Y1.T3:Bool × List (List Nat × List Nat):=(true,[([],[]),([],[]),([1],[1]),([2],[2]),([0,3],[0,3]),([4],[4]),([5],[5]),([],[]),([7,6,0,0,1,2,3,4,5,6,7],[6,7])])
def Y1.B3:List Nat:=[0,0,2,6,15,31,63,0,255]
theorem Y1.tab3:rtab .any (opsOf Tryd.f18 3)=Y1.T3:=by kernel_rfl
theorem Y1.bits3:waitsOk Y1.T3.2 Y1.B3=true:=by kernel_rfl
def Y1.T6:Bool × List (List Nat × List Nat):=(true,[([],[]),([],[]),([1],[1]),([],[]),([3],[3]),([0,2,4,4],[0,2,4]),([5],[5]),([6,5],[6]),([7],[7]),([7],[7]),([9,7],[7,9]),([7],[7]),([11,7,7],[7,11]),([8,10,12,12,7],[7,8,10,12]),([13,7],[7,13]),([7,14],[7,14])])
def Y1.B6:List Nat:=[0,0,2,0,8,31,63,127,255,255,767,255,2303,8191,16383,32767]
theorem Y1.tab6:rtab .any (opsOf Tryd.f18 6)=Y1.T6:=by kernel_rfl
theorem Y1.bits6:waitsOk Y1.T6.2 Y1.B6=true:=by kernel_rfl
abbrev Y1.q0:Array Bool:=#[O,O,O,O,O,O,O,O,O,O,O,O,O,O,O,O]
abbrev Y1.q1:Array Bool:=#[I,O,O,O,O,O,O,O,O,O,O,O,O,O,O,O]
abbrev Y1.q2:Array Bool:=#[I,I,O,O,O,O,O,O,O,O,O,O,O,O,O,O]
abbrev Y1.q3:Array Bool:=#[I,I,O,I,O,O,O,O,O,O,O,O,O,O,O,O]
abbrev Y1.q4:Array Bool:=#[I,I,I,I,O,O,O,O,O,O,O,O,O,O,O,O]
abbrev Y1.q5:Array Bool:=#[I,I,I,I,I,O,O,O,O,O,O,O,O,O,O,O]
abbrev Y1.q6:Array Bool:=#[I,I,I,I,I,I,O,O,O,O,O,O,O,O,O,O]
abbrev Y1.q7:Array Bool:=#[I,I,I,I,I,I,I,O,O,O,O,O,O,O,O,O]
abbrev Y1.q8:Array Bool:=#[I,I,I,I,I,I,I,I,O,O,O,O,O,O,O,O]
abbrev Y1.q9:Array Bool:=#[I,I,I,I,I,I,I,I,I,O,O,O,O,O,O,O]
abbrev Y1.q10:Array Bool:=#[I,I,I,I,I,I,I,I,I,I,O,O,O,O,O,O]
abbrev Y1.q11:Array Bool:=#[I,I,I,I,I,I,I,I,I,I,I,I,O,O,O,O]
abbrev Y1.q12:Array Bool:=#[I,I,I,I,I,I,I,I,I,I,I,I,I,O,O,O]
abbrev Y1.q13:Array Bool:=#[I,I,I,I,I,I,I,I,I,I,I,I,I,I,O,O]
abbrev Y1.q14:Array Bool:=#[I,I,I,I,I,I,I,I,I,I,I,I,I,I,I,O]
abbrev Y1.q15:Array Bool:=#[I,I,I,I,I,I,I,I,I,I,I,I,I,I,I,I]
theorem Y1.calls (k:Nat) (a0_0:Int) (a0_1:Int) (a0_2:Int) (a0_3:ByteArray) (a0_4:ByteArray) (a0_5:Int) (r:Bool) (w:World) (h:Y1.f k a0_0 a0_1 a0_2 a0_3 a0_4 a0_5=some r) :
  Calls Tryd.prog 18 #[.agg #[.int .i64 a0_0,.int .i64 a0_1,.int .i64 a0_2,.string a0_3,.string a0_4,.int .i64 a0_5]] w fun e w'=>e = .returned (.bool r)∧Below w.heap.size w w':=by
 have hu26:=Tryd.underlying26
 have HB:=aM (Below.refl w.heap.size w)
 have H:((Y13.f a0_0 1 17).bind fun t152=>(if t152=true then (if a0_5=(-1) then (Y1.j0 k false a0_0 a0_1 a0_2 a0_3 a0_4 a0_5) else ((Y9.f k a0_0).bind fun t153=>(if t153=true then ((Y22.f a0_5).bind fun t154=>(Y1.j0 k (!t154) a0_0 a0_1 a0_2 a0_3 a0_4 a0_5)) else (Y1.j0 k true a0_0 a0_1 a0_2 a0_3 a0_4 a0_5)))) else (Y1.j0 k true a0_0 a0_1 a0_2 a0_3 a0_4 a0_5)))=some r:=h
 clear h
 have HC2:=aM H
 clear H
 go_enter Tryd.func18,Tryd.ntmps18
 go_upto_region 1 with (first | ((with_reducible refine gd_ 1 ?_);(try (refine gate_guard (by rfl) ?_;dsimp only));refine be_ 1 #[.int .i64 a0_0,.int .i64 a0_1,.int .i64 a0_2,.string a0_3,.string a0_4,.int .i64 a0_5] 26 ?_;intro gb151 hg w3 hbox hb;have n0_:=aM (below_step (z6_ HB.out) hb);have n1_:=aM (hbox);have n2_:=aM ((z8_ HB.out:w.heap.size≤gb151));have n3_:=aM ((z8_ HB.out:w.heap.size≤gb151));clear HB;have HB:=n0_;have BK151:=n1_;have GW151:=n2_;have GE151:=n3_;clear n0_ n1_ n2_ n3_;clear hb hbox hg))
 (try simp only [Act.put,sa_,s0_,ss_])
 go_cut [26] (fun v26 wc=>∃ (kq:Nat) (x26_1:Bool),v26 = .bool x26_1∧Aside0 (Y1.j0 kq x26_1 a0_0 a0_1 a0_2 a0_3 a0_4 a0_5=some r)∧Aside0 (kq≤k)∧Aside0 (wc.heap[gb151]? = some (.cells #[.int .i64 a0_0,.int .i64 a0_1,.int .i64 a0_2,.string a0_3,.string a0_4,.int .i64 a0_5] 26 (0,0)))∧Aside0 (Below w.heap.size w wc))
 case first=>as_aux_lemma =>
  have H:=HC2.out
  clear HC2
  replace H:=bS H
  obtain ⟨t152,A40,H⟩:=H
  replace H:(if t152=true then (if a0_5=(-1) then (Y1.j0 k false a0_0 a0_1 a0_2 a0_3 a0_4 a0_5) else ((Y9.f k a0_0).bind fun t153=>(if t153=true then ((Y22.f a0_5).bind fun t154=>(Y1.j0 k (!t154) a0_0 a0_1 a0_2 a0_3 a0_4 a0_5)) else (Y1.j0 k true a0_0 a0_1 a0_2 a0_3 a0_4 a0_5)))) else (Y1.j0 k true a0_0 a0_1 a0_2 a0_3 a0_4 a0_5))=some r:=H
  have A4:=aM A40
  clear A40
  by_cases c5:t152=true
  ·subst c5
   have H1:(if a0_5=(-1) then (Y1.j0 k false a0_0 a0_1 a0_2 a0_3 a0_4 a0_5) else ((Y9.f k a0_0).bind fun t153=>(if t153=true then ((Y22.f a0_5).bind fun t154=>(Y1.j0 k (!t154) a0_0 a0_1 a0_2 a0_3 a0_4 a0_5)) else (Y1.j0 k true a0_0 a0_1 a0_2 a0_3 a0_4 a0_5))))=some r:=by rw [if_pos rfl] at H;exact H
   clear H
   have H:=H1
   clear H1
   by_cases c6:a0_5=(-1)
   ·rw [if_pos c6] at H
    have c6b0:(a0_5 == (-1))=true:=beq_iff_eq.mpr c6
    have c6b1:(a0_5 != (-1))=false:=bne_eq_false_iff_eq.mpr c6
    clear c6
    (first | rw [c6b0] | (simp only [i64_w,i32_w];rw [c6b0]) | skip)
    have H':=aM H
    clear H
    have ⟨hcz7_0,hcz7_1,hcz7_2,hcz7_3,hcz7_4,hcz7_5,hfz7_0,hfz7_1,hfz7_2,hfz7_3,hfz7_4,hfz7_5⟩:=cz6_ BK151.out
    go_wp2_with (first | ((with_reducible refine gc_ 35 ?_);refine gl_ (some 8) Tryd.func35 #[.int .i64 a0_0,.int .i64 1,.int .i64 17] ?_;(with_reducible refine (Y13.calls a0_0 1 17 true _ A4.out).mono ?_);rintro e w' ⟨rfl,⟨nd,rfl⟩⟩;refine ⟨_,rfl,?_⟩))
    go_meet
    case rel=>exact ⟨_,(false),(z0_),H',⟨by first | omega | exact Nat.le_refl _⟩,⟨z5_ BK151.out⟩,⟨z2_ HB.out GE151.out⟩⟩
   ·rw [if_neg c6] at H
    have c6b0:(a0_5 == (-1))=false:=beq_eq_false_iff_ne.mpr c6
    have c6b1:(a0_5 != (-1))=true:=bne_iff_ne.mpr c6
    (first | rw [c6b0] | (simp only [i64_w,i32_w];rw [c6b0]) | skip)
    replace H:=bS H
    obtain ⟨t153,A80,H⟩:=H
    replace H:(if t153=true then ((Y22.f a0_5).bind fun t154=>(Y1.j0 k (!t154) a0_0 a0_1 a0_2 a0_3 a0_4 a0_5)) else (Y1.j0 k true a0_0 a0_1 a0_2 a0_3 a0_4 a0_5))=some r:=H
    have A8:=aM A80
    clear A80
    by_cases c9:t153=true
    ·subst c9
     have H1:((Y22.f a0_5).bind fun t154=>(Y1.j0 k (!t154) a0_0 a0_1 a0_2 a0_3 a0_4 a0_5))=some r:=by rw [if_pos rfl] at H;exact H
     clear H
     have H:=H1
     clear H1
     replace H:=bS H
     obtain ⟨t154,A100,H⟩:=H
     replace H:(Y1.j0 k (!t154) a0_0 a0_1 a0_2 a0_3 a0_4 a0_5)=some r:=H
     have A10:=aM A100
     clear A100
     have H':=aM H
     clear H
     have ⟨hcz11_0,hcz11_1,hcz11_2,hcz11_3,hcz11_4,hcz11_5,hfz11_0,hfz11_1,hfz11_2,hfz11_3,hfz11_4,hfz11_5⟩:=cz6_ BK151.out
     go_wp2_with (first | ((with_reducible refine gc_ 35 ?_);refine gl_ (some 8) Tryd.func35 #[.int .i64 a0_0,.int .i64 1,.int .i64 17] ?_;(with_reducible refine (Y13.calls a0_0 1 17 true _ A4.out).mono ?_);rintro e w' ⟨rfl,⟨nd,rfl⟩⟩;refine ⟨_,rfl,?_⟩) | (go_at_call 36;(with_reducible refine (Y9.calls k a0_0 true _ A8.out).mono ?_);rintro e w' ⟨rfl,⟨nd,rfl⟩⟩) | (go_at_call 37;(with_reducible refine (Y22.calls a0_5 t154 _ A10.out).mono ?_);rintro e w' ⟨rfl,⟨nd,rfl⟩⟩))
     go_meet
     case rel=>exact ⟨_,(!t154),(z0_),H',⟨by first | omega | exact Nat.le_refl _⟩,⟨z5_ BK151.out⟩,⟨z2_ HB.out GE151.out⟩⟩
    ·replace c9:=Bool.eq_false_iff.mpr c9
     subst c9
     have H1:(Y1.j0 k true a0_0 a0_1 a0_2 a0_3 a0_4 a0_5)=some r:=by rw [if_neg (show ¬ (false=true) by decide)] at H;exact H
     clear H
     have H:=H1
     clear H1
     have H':=aM H
     clear H
     have ⟨hcz12_0,hcz12_1,hcz12_2,hcz12_3,hcz12_4,hcz12_5,hfz12_0,hfz12_1,hfz12_2,hfz12_3,hfz12_4,hfz12_5⟩:=cz6_ BK151.out
     go_wp2_with (first | ((with_reducible refine gc_ 35 ?_);refine gl_ (some 8) Tryd.func35 #[.int .i64 a0_0,.int .i64 1,.int .i64 17] ?_;(with_reducible refine (Y13.calls a0_0 1 17 true _ A4.out).mono ?_);rintro e w' ⟨rfl,⟨nd,rfl⟩⟩;refine ⟨_,rfl,?_⟩) | (go_at_call 36;(with_reducible refine (Y9.calls k a0_0 false _ A8.out).mono ?_);rintro e w' ⟨rfl,⟨nd,rfl⟩⟩))
     go_meet
     case rel=>exact ⟨_,(true),(z0_),H',⟨by first | omega | exact Nat.le_refl _⟩,⟨z5_ BK151.out⟩,⟨z2_ HB.out GE151.out⟩⟩
  ·replace c5:=Bool.eq_false_iff.mpr c5
   subst c5
   have H1:(Y1.j0 k true a0_0 a0_1 a0_2 a0_3 a0_4 a0_5)=some r:=by rw [if_neg (show ¬ (false=true) by decide)] at H;exact H
   clear H
   have H:=H1
   clear H1
   have H':=aM H
   clear H
   have ⟨hcz13_0,hcz13_1,hcz13_2,hcz13_3,hcz13_4,hcz13_5,hfz13_0,hfz13_1,hfz13_2,hfz13_3,hfz13_4,hfz13_5⟩:=cz6_ BK151.out
   go_wp2_with (first | ((with_reducible refine gc_ 35 ?_);refine gl_ (some 8) Tryd.func35 #[.int .i64 a0_0,.int .i64 1,.int .i64 17] ?_;(with_reducible refine (Y13.calls a0_0 1 17 false _ A4.out).mono ?_);rintro e w' ⟨rfl,⟨nd,rfl⟩⟩;refine ⟨_,rfl,?_⟩))
   go_meet
   case rel=>exact ⟨_,(true),(z0_),H',⟨by first | omega | exact Nat.le_refl _⟩,⟨z5_ BK151.out⟩,⟨z2_ HB.out GE151.out⟩⟩
 case rest=>as_aux_lemma =>
  clear HC2
  try clear c1
  try clear p2
  try clear c3
  try clear c5
  try clear c6
  try clear c6b0
  try clear c6b1
  try clear c9
  try clear hcz11_0
  try clear hcz11_1
  try clear hcz11_2
  try clear hcz11_3
  try clear hcz11_4
  try clear hcz11_5
  try clear hcz12_0
  try clear hcz12_1
  try clear hcz12_2
  try clear hcz12_3
  try clear hcz12_4
  try clear hcz12_5
  try clear hcz13_0
  try clear hcz13_1
  try clear hcz13_2
  try clear hcz13_3
  try clear hcz13_4
  try clear hcz13_5
  try clear hcz7_0
  try clear hcz7_1
  try clear hcz7_2
  try clear hcz7_3
  try clear hcz7_4
  try clear hcz7_5
  try clear hfz11_0
  try clear hfz11_1
  try clear hfz11_2
  try clear hfz11_3
  try clear hfz11_4
  try clear hfz11_5
  try clear hfz12_0
  try clear hfz12_1
  try clear hfz12_2
  try clear hfz12_3
  try clear hfz12_4
  try clear hfz12_5
  try clear hfz13_0
  try clear hfz13_1
  try clear hfz13_2
  try clear hfz13_3
  try clear hfz13_4
  try clear hfz13_5
  try clear hfz7_0
  try clear hfz7_1
  try clear hfz7_2
  try clear hfz7_3
  try clear hfz7_4
  try clear hfz7_5
  obtain ⟨kq,x26_1,rfl,HA,HJ1,BK151,HB⟩:=hcut
  cases kq with
  | zero=>exact absurd HA.out (by simp [Y1.j0])
  | succ kj1 =>
   have H:=HA.out
   clear HA
   simp only [Y1.j0] at H
   by_cases c14:x26_1=true
   ·subst c14
    have H1:(some false)=some r:=by rw [if_pos rfl] at H;exact H
    clear H
    have H:=H1
    clear H1
    obtain rfl:=sI H
    go_wp2
    go_ret
    exact ⟨z7_,z2_ HB.out GE151.out⟩
   ·replace c14:=Bool.eq_false_iff.mpr c14
    subst c14
    have H1:((Y18.f).bind fun t155=>(if 0≤(wrap64 (a0_0-1)) then (if (wrap64 (a0_0-1))<(t155.length:Int) then ((Y0.f kj1 (⟨#[65]⟩:ByteArray) ((rd_T63 t155 (wrap64 (a0_0-1))).f1)).bind fun t160=>((Y12.f a0_1 t160).bind fun t161=>(if t161=true then ((Y0.f kj1 (⟨#[66]⟩:ByteArray) ((rd_T63 t155 (wrap64 (a0_0-1))).f1)).bind fun t162=>((Y12.f a0_2 t162).bind fun t163=>(Y1.j1 kj1 (!t163) a0_0 a0_1 a0_2 a0_3 a0_4 a0_5 ((rd_T63 t155 (wrap64 (a0_0-1))).f1)))) else (Y1.j1 kj1 true a0_0 a0_1 a0_2 a0_3 a0_4 a0_5 ((rd_T63 t155 (wrap64 (a0_0-1))).f1))))) else (none)) else (none)))=some r:=by rw [if_neg (show ¬ (false=true) by decide)] at H;exact H
    clear H
    have H:=H1
    clear H1
    replace H:=bS H
    obtain ⟨t155,A150,H⟩:=H
    replace H:(if 0≤(wrap64 (a0_0-1)) then (if (wrap64 (a0_0-1))<(t155.length:Int) then ((Y0.f kj1 (⟨#[65]⟩:ByteArray) ((rd_T63 t155 (wrap64 (a0_0-1))).f1)).bind fun t160=>((Y12.f a0_1 t160).bind fun t161=>(if t161=true then ((Y0.f kj1 (⟨#[66]⟩:ByteArray) ((rd_T63 t155 (wrap64 (a0_0-1))).f1)).bind fun t162=>((Y12.f a0_2 t162).bind fun t163=>(Y1.j1 kj1 (!t163) a0_0 a0_1 a0_2 a0_3 a0_4 a0_5 ((rd_T63 t155 (wrap64 (a0_0-1))).f1)))) else (Y1.j1 kj1 true a0_0 a0_1 a0_2 a0_3 a0_4 a0_5 ((rd_T63 t155 (wrap64 (a0_0-1))).f1))))) else (none)) else (none))=some r:=H
    have A15:=aM A150
    clear A150
    obtain ⟨ji16,hji16⟩:∃ j_:Int,(wrap64 (a0_0-1))=j_:=⟨_,rfl⟩
    replace H:(if 0≤(ji16) then (if (ji16)<(t155.length:Int) then ((Y0.f kj1 (⟨#[65]⟩:ByteArray) ((rd_T63 t155 (ji16)).f1)).bind fun t160=>((Y12.f a0_1 t160).bind fun t161=>(if t161=true then ((Y0.f kj1 (⟨#[66]⟩:ByteArray) ((rd_T63 t155 (ji16)).f1)).bind fun t162=>((Y12.f a0_2 t162).bind fun t163=>(Y1.j1 kj1 (!t163) a0_0 a0_1 a0_2 a0_3 a0_4 a0_5 ((rd_T63 t155 (ji16)).f1)))) else (Y1.j1 kj1 true a0_0 a0_1 a0_2 a0_3 a0_4 a0_5 ((rd_T63 t155 (ji16)).f1))))) else (none)) else (none))=some r:=by first | (rw [hji16] at H;exact H) | (simp only [hji16] at H ⊢;exact H)
    (try rw [hji16] at A15)
    have hji16w:(IntKind.i64.wrap (a0_0-1))=ji16:=(i64_w _).trans hji16
    by_cases c17:0≤(ji16)
    ·rw [if_pos c17] at H
     have c17b0:decide (0≤(ji16))=true:=dE c17
     clear c17
     by_cases c18:(ji16)<(t155.length:Int)
     ·rw [if_pos c18] at H
      have c18b0:decide ((ji16)<(t155.length:Int))=true:=dE c18
      clear c18
      have HC19:=aM H
      clear H
      try go_wp2
      have n0_:=aM (blk_drew BK151.out)
      have n1_:=aM (below_drew1 HB.out)
      clear BK151
      clear HB
      have BK151:=n0_
      have HB:=n1_
      clear n0_ n1_
      refine start_ (n:=9) (S:=fun w'=>True) (ds:=[]) #[O,O,O,O,O,O,O,O,O] (by kernel_rfl) rfl rfl trivial (fun hHeld=>?_);refine with_tabW Y1.tab3 Y1.bits3 (fun HT_ HW_=>?_)
      generalize wc.drew=w20 at BK151 HB hHeld ⊢
      refine pu_ 1 28 #[O,I,O,O,O,O,O,O,O] HT_.out ?_
      have pz_:(0≤((ji16):Int))=True:=eq_true (dT (z3_))
      have qz_:(((ji16):Int)<(t155.length:Int))=True:=eq_true (dT (z3_))
      refine inv_at [0,2,3,4,5,6,7,8] (fun a0_ b a w'=>∃ (v156:Value) (adz_v156:Addr) (gb159:Nat) (m7_:Value) (mz4_:Value) (mz5_:Value),a=putSel a0_ b [(0,27,v156),(2,29,.int .i64 a0_0),(3,30,.int .i64 ji16),(4,31,mz4_),(5,32,mz5_),(6,33,.string ((rd_T63 t155 (ji16)).f1)),(7,3,m7_)]∧(w'.heap[gb151]? = some (.cells #[.int .i64 a0_0,.int .i64 a0_1,.int .i64 a0_2,.string a0_3,.string a0_4,.int .i64 a0_5] 26 (0,0)))∧(Below w.heap.size w w')∧(b 0=true→Kd.R k63 63 w' w.heap.size (fun _=>True) v156 t155)∧(b 0=true→∃ c_:Nat,v156 = .slice (some adz_v156) t155.length c_)∧(b 7=true→b 8=false→w'.heap[gb159]? = some (.cells #[.string (⟨#[]⟩:ByteArray)] 9 (0,0)))∧(b 7=true→w.heap.size≤gb159)∧(b 7=true→w.heap.size≤gb159)∧(b 7=true→gb151≠gb159)∧(b 7=true→gb159≠gb151)∧(b 8=true→w'.heap[gb159]? = some (.cells #[.string ((rd_T63 t155 (ji16)).f1)] 9 (0,0)))∧(b 7=true→(m7_:Value) = .pointer (some ⟨gb159,0,none⟩))∧(b 4=true→(mz4_:Value) = .pointer (some (adz_v156.add (((ji16)).toNat*2))))∧(b 5=true→(mz5_:Value) = .pointer (some ⟨(adz_v156.add (((ji16)).toNat*2)).block,(adz_v156.add (((ji16)).toNat*2)).off+1,none⟩))) HT_.out HW_.out (by kernel_rfl) (by kernel_rfl) ?_ ?_ ?_
      ·exact ⟨.bool false,⟨0,0,none⟩,0,.bool false,.bool false,.bool false,by simp only [putSel,Bool.false_eq_true,if_false],BK151.out,HB.out,fun h_=>absurd h_ (by decide),fun h_=>absurd h_ (by decide),fun h_=>absurd h_ (by decide),fun h_=>absurd h_ (by decide),fun h_=>absurd h_ (by decide),fun h_=>absurd h_ (by decide),fun h_=>absurd h_ (by decide),fun h_=>absurd h_ (by decide),fun h_=>absurd h_ (by decide),fun h_=>absurd h_ (by decide),fun h_=>absurd h_ (by decide)⟩
      ·skip
       clear BK151 HB
       refine steps_cons ?_ ?_
       ·rintro b a w' ⟨v156,adz_v156,gb159,m7_,mz4_,mz5_,ha,Q_BK151,Q_HB,Q_HO157,Q_HA_HO157,Q_BK159,Q_GW159,Q_GE159,Q_NB151_159,Q_NB159_151,Q_BK159_e8,Q_X7_,Q_Xz4_,Q_Xz5_⟩ hb_ hon hoff
        refine ⟨_,rfl,fun K hK=>?_⟩
        replace ha:=aM ha
        have BK151:=aM Q_BK151
        have HB:=aM Q_HB
        refine goes_ Tryd.func38 (by kernel_rfl) rfl #[] (by rfl) rfl rfl (by first | (simp only [List.map_toArray,List.map_cons,List.map_nil,Act.eval,Array.getD_eq_getD_getElem?,Option.getD_some];done) | (simp only [List.map_toArray,List.map_cons,List.map_nil,Act.eval,Array.getD_eq_getD_getElem?,Option.getD_some];rfl)) ?_
        with_reducible refine (Y18.calls  t155 _ A15.out).mono ?_
        rintro e w21 ⟨v156,rfl,ho0,hb⟩
        refine ⟨_,rfl,?_⟩
        have n0_:=aM (Kd.R_lower ho0 (below_size (z2_ HB.out GE151.out)))
        have n1_:=aM (blkB_ BK151.out hb)
        have n2_:=aM (below_step (z2_ HB.out GE151.out) hb)
        have z_BK159:=fun (h0_:b 7=true) (h1_:b 8=false)=>(show w21.heap[gb159]? = some (.cells #[.string (⟨#[]⟩:ByteArray)] 9 (0,0)) from by first | exact (blk_below (g:=gb159) (o:=.cells #[.string (⟨#[]⟩:ByteArray)] 9 (0,0)) (by (with_reducible repeat (first | refine blk_drewN ?_ _ | refine blk_drew ?_ | refine blk_alloc ?_ _));exact (Q_BK159 h0_ h1_)) hb))
        clear BK151
        clear HB
        have HO157:=n0_
        have BK151:=n1_
        have HB:=n2_
        clear n0_ n1_ n2_
        (try clear hb)
        (try clear ho0)
        obtain ⟨A0_,c0_,e0_⟩:=Kd.R_slice HO157.out
        have hF_:=HO157.out
        rw [e0_] at hF_
        obtain ⟨adn_,en_,hxn_⟩:=at_T63 (Kd.R_reads' hF_).2.2 (ji16) (of_eq_true pz_) (of_eq_true qz_)
        cases en_
        refine hK.out _ _ ⟨v156,adn_,gb159,m7_,mz4_,mz5_,(by rw [ha.out];exact putSel_upk 0 hb_ rfl rfl rfl),(z5_ BK151.out),(z2_ HB.out GE151.out),fun _=>(z11_ HO157.out),fun _=>⟨_,e0_⟩,z_BK159,Q_GW159,Q_GE159,Q_NB151_159,Q_NB159_151,fun h0_=>absurd ((hoff 8 (by kernel_rfl)).symm.trans h0_) (by decide),Q_X7_,fun h0_=>absurd ((hoff 4 (by kernel_rfl)).symm.trans h0_) (by decide),fun h0_=>absurd ((hoff 5 (by kernel_rfl)).symm.trans h0_) (by decide)⟩
       refine steps_cons ?_ ?_
       ·rintro b a w' ⟨v156,adz_v156,gb159,m7_,mz4_,mz5_,ha,Q_BK151,Q_HB,Q_HO157,Q_HA_HO157,Q_BK159,Q_GW159,Q_GE159,Q_NB151_159,Q_NB159_151,Q_BK159_e8,Q_X7_,Q_Xz4_,Q_Xz5_⟩ hb_ hon hoff
        refine ⟨_,rfl,fun K hK=>?_⟩
        have e28:a.tmps[28]? = some (.pointer (some ⟨gb151,0,none⟩)):=by rw [ha];exact (putSel_off rfl).trans rfl
        replace ha:=aM ha
        have BK151:=aM Q_BK151
        have HB:=aM Q_HB
        have hc0_:w'.cell? ⟨gb151,0,none⟩=some (.int .i64 a0_0):=(blk_cell BK151.out 0).trans rfl
        have hc1_:w'.cell? ⟨gb151,1,none⟩=some (.int .i64 a0_1):=(blk_cell BK151.out 1).trans rfl
        have hc2_:w'.cell? ⟨gb151,2,none⟩=some (.int .i64 a0_2):=(blk_cell BK151.out 2).trans rfl
        have hc3_:w'.cell? ⟨gb151,3,none⟩=some (.string a0_3):=(blk_cell BK151.out 3).trans rfl
        have hc4_:w'.cell? ⟨gb151,4,none⟩=some (.string a0_4):=(blk_cell BK151.out 4).trans rfl
        have hc5_:w'.cell? ⟨gb151,5,none⟩=some (.int .i64 a0_5):=(blk_cell BK151.out 5).trans rfl
        refine value_ (w1:=w') (v:=.int .i64 a0_0) (by rfl) rfl ?_ ?_
        ·go_simp
         (try simp only [i64_w])
         try rfl
        refine hK.out _ _ ⟨v156,adz_v156,gb159,m7_,mz4_,mz5_,(by rw [ha.out];exact putSel_upk 1 hb_ rfl rfl rfl),Q_BK151,Q_HB,Q_HO157,Q_HA_HO157,Q_BK159,Q_GW159,Q_GE159,Q_NB151_159,Q_NB159_151,fun h0_=>absurd ((hoff 8 (by kernel_rfl)).symm.trans h0_) (by decide),Q_X7_,Q_Xz4_,Q_Xz5_⟩
       refine steps_cons ?_ ?_
       ·rintro b a w' ⟨v156,adz_v156,gb159,m7_,mz4_,mz5_,ha,Q_BK151,Q_HB,Q_HO157,Q_HA_HO157,Q_BK159,Q_GW159,Q_GE159,Q_NB151_159,Q_NB159_151,Q_BK159_e8,Q_X7_,Q_Xz4_,Q_Xz5_⟩ hb_ hon hoff
        refine ⟨_,rfl,fun K hK=>?_⟩
        have e29:a.tmps[29]? = some (.int .i64 a0_0):=by rw [ha];exact putSel_on (e:=(2,29,.int .i64 a0_0)) 1 rfl rfl (hon 2 (by kernel_rfl)) rfl
        replace ha:=aM ha
        have BK151:=aM Q_BK151
        have HB:=aM Q_HB
        refine value_ (w1:=w') (v:=.int .i64 ji16) (by rfl) rfl ?_ ?_
        ·go_simp
         (try simp only [i64_w])
         try rfl
        refine hK.out _ _ ⟨v156,adz_v156,gb159,m7_,mz4_,mz5_,(by rw [ha.out];exact putSel_upk 2 hb_ rfl rfl rfl),Q_BK151,Q_HB,Q_HO157,Q_HA_HO157,Q_BK159,Q_GW159,Q_GE159,Q_NB151_159,Q_NB159_151,fun h0_=>absurd ((hoff 8 (by kernel_rfl)).symm.trans h0_) (by decide),Q_X7_,Q_Xz4_,Q_Xz5_⟩
       refine steps_cons ?_ ?_
       ·rintro b a w' ⟨v156,adz_v156,gb159,m7_,mz4_,mz5_,ha,Q_BK151,Q_HB,Q_HO157,Q_HA_HO157,Q_BK159,Q_GW159,Q_GE159,Q_NB151_159,Q_NB159_151,Q_BK159_e8,Q_X7_,Q_Xz4_,Q_Xz5_⟩ hb_ hon hoff
        refine ⟨_,rfl,fun K hK=>?_⟩
        have e27:a.tmps[27]? = some (v156):=by rw [ha];exact putSel_on (e:=(0,27,v156)) 0 rfl rfl (hon 0 (by kernel_rfl)) rfl
        have e30:a.tmps[30]? = some (.int .i64 ji16):=by rw [ha];exact putSel_on (e:=(3,30,.int .i64 ji16)) 2 rfl rfl (hon 3 (by kernel_rfl)) rfl
        replace ha:=aM ha
        have BK151:=aM Q_BK151
        have HB:=aM Q_HB
        have HO157:=aM (Q_HO157 (hon 0 (by kernel_rfl)))
        obtain ⟨c_,hv_⟩:=Q_HA_HO157 (hon 0 (by kernel_rfl))
        rw [hv_] at e27
        refine value_ (w1:=w') (v:=.pointer (some (adz_v156.add (((ji16)).toNat*2)))) (by rfl) rfl ?_ ?_
        ·go_simp
         (try simp only [i64_w])
         try rfl
        refine hK.out _ _ ⟨v156,adz_v156,gb159,m7_,(.pointer (some (adz_v156.add (((ji16)).toNat*2)))),mz5_,(by rw [ha.out];exact putSel_upk 3 hb_ rfl rfl rfl),Q_BK151,Q_HB,Q_HO157,Q_HA_HO157,Q_BK159,Q_GW159,Q_GE159,Q_NB151_159,Q_NB159_151,fun h0_=>absurd ((hoff 8 (by kernel_rfl)).symm.trans h0_) (by decide),Q_X7_,fun _=>rfl,Q_Xz5_⟩
       refine steps_cons ?_ ?_
       ·rintro b a w' ⟨v156,adz_v156,gb159,m7_,mz4_,mz5_,ha,Q_BK151,Q_HB,Q_HO157,Q_HA_HO157,Q_BK159,Q_GW159,Q_GE159,Q_NB151_159,Q_NB159_151,Q_BK159_e8,Q_X7_,Q_Xz4_,Q_Xz5_⟩ hb_ hon hoff
        refine ⟨_,rfl,fun K hK=>?_⟩
        have e31:a.tmps[31]? = some (mz4_):=by rw [ha];exact putSel_on (e:=(4,31,mz4_)) 3 rfl rfl (hon 4 (by kernel_rfl)) rfl
        rw [Q_Xz4_ (hon 4 (by kernel_rfl))] at e31
        replace ha:=aM ha
        have BK151:=aM Q_BK151
        have HB:=aM Q_HB
        have HO157:=aM (Q_HO157 (hon 0 (by kernel_rfl)))
        refine value_ (w1:=w') (v:=.pointer (some ⟨(adz_v156.add (((ji16)).toNat*2)).block,(adz_v156.add (((ji16)).toNat*2)).off+1,none⟩)) (by rfl) rfl ?_ ?_
        ·go_simp
         (try simp only [i64_w])
         try rfl
        refine hK.out _ _ ⟨v156,adz_v156,gb159,m7_,mz4_,(.pointer (some ⟨(adz_v156.add (((ji16)).toNat*2)).block,(adz_v156.add (((ji16)).toNat*2)).off+1,none⟩)),(by rw [ha.out];exact putSel_upk 4 hb_ rfl rfl rfl),Q_BK151,Q_HB,Q_HO157,Q_HA_HO157,Q_BK159,Q_GW159,Q_GE159,Q_NB151_159,Q_NB159_151,fun h0_=>absurd ((hoff 8 (by kernel_rfl)).symm.trans h0_) (by decide),Q_X7_,Q_Xz4_,fun _=>rfl⟩
       refine steps_cons ?_ ?_
       ·rintro b a w' ⟨v156,adz_v156,gb159,m7_,mz4_,mz5_,ha,Q_BK151,Q_HB,Q_HO157,Q_HA_HO157,Q_BK159,Q_GW159,Q_GE159,Q_NB151_159,Q_NB159_151,Q_BK159_e8,Q_X7_,Q_Xz4_,Q_Xz5_⟩ hb_ hon hoff
        refine ⟨_,rfl,fun K hK=>?_⟩
        have e32:a.tmps[32]? = some (mz5_):=by rw [ha];exact putSel_on (e:=(5,32,mz5_)) 4 rfl rfl (hon 5 (by kernel_rfl)) rfl
        rw [Q_Xz5_ (hon 5 (by kernel_rfl))] at e32
        replace ha:=aM ha
        have BK151:=aM Q_BK151
        have HB:=aM Q_HB
        have HO157:=aM (Q_HO157 (hon 0 (by kernel_rfl)))
        obtain ⟨c_,hv_⟩:=Q_HA_HO157 (hon 0 (by kernel_rfl))
        have hF_:=HO157.out
        rw [hv_] at hF_
        obtain ⟨ad158_z,e158_z,hx158_0_z,hx158_1_z⟩:=at_T63 (Kd.R_reads' hF_).2.2 (ji16) (of_eq_true pz_) (of_eq_true qz_)
        cases e158_z
        have hs0_:w'.cell? (adz_v156.add (((ji16)).toNat*2))=some (.string ((rd_T63 t155 (ji16)).f0)):=(by first | exact hx158_0_z | (have h_:=hx158_0_z;(try simp only [Int.reduceToNat,Nat.zero_mul,Nat.reduceMul,Nat.reduceEqDiff,Go.Addr.add,↓reduceIte,Addr.add_zero'] at h_);exact h_))
        have hs1_:w'.cell? ⟨(adz_v156.add (((ji16)).toNat*2)).block,(adz_v156.add (((ji16)).toNat*2)).off+1,none⟩=some (.string ((rd_T63 t155 (ji16)).f1)):=(by first | exact hx158_1_z | (have h_:=hx158_1_z;(try simp only [Int.reduceToNat,Nat.zero_mul,Nat.reduceMul,Nat.reduceEqDiff,Go.Addr.add,↓reduceIte,Addr.add_zero'] at h_);exact h_))
        refine value_ (w1:=w') (v:=.string ((rd_T63 t155 (ji16)).f1)) (by rfl) rfl ?_ ?_
        ·go_simp
         (try simp only [i64_w])
         try rfl
        refine hK.out _ _ ⟨v156,adz_v156,gb159,m7_,mz4_,mz5_,(by rw [ha.out];exact putSel_upk 5 hb_ rfl rfl rfl),Q_BK151,Q_HB,Q_HO157,Q_HA_HO157,Q_BK159,Q_GW159,Q_GE159,Q_NB151_159,Q_NB159_151,fun h0_=>absurd ((hoff 8 (by kernel_rfl)).symm.trans h0_) (by decide),Q_X7_,Q_Xz4_,Q_Xz5_⟩
       refine steps_cons ?_ ?_
       ·rintro b a w' ⟨v156,adz_v156,gb159,m7_,mz4_,mz5_,ha,Q_BK151,Q_HB,Q_HO157,Q_HA_HO157,Q_BK159,Q_GW159,Q_GE159,Q_NB151_159,Q_NB159_151,Q_BK159_e8,Q_X7_,Q_Xz4_,Q_Xz5_⟩ hb_ hon hoff
        refine ⟨_,rfl,fun K hK=>?_⟩
        replace ha:=aM ha
        have BK151:=aM Q_BK151
        have HB:=aM Q_HB
        refine bs_ 3 #[.string (⟨#[]⟩:ByteArray)] 9 ?_
        intro gb159 hg w21 hbox hb
        have n0_:=aM (blkB_ BK151.out hb)
        have n1_:=aM (below_step (z2_ HB.out GE151.out) hb)
        have n2_:=aM (hbox)
        have n3_:=aM ((z13_ HB.out GE151.out:w.heap.size≤gb159))
        have n4_:=aM ((z13_ HB.out GE151.out:w.heap.size≤gb159))
        have n5_:=aM (neL_ BK151.out hg)
        have n6_:=aM (neG_ BK151.out hg)
        have z_HO157:=fun (h0_:b 0=true)=>(show Kd.R k63 63 w21 w.heap.size (fun _=>True) v156 t155 from by first | exact (Kd.R_below (by (with_reducible repeat (first | apply Kd.R_alloc | apply Kd.R_drewN | apply Kd.R_drew));exact (Q_HO157 h0_)) hb) | exact Kd.R_mono (Kd.R_below (by (with_reducible repeat (first | apply Kd.R_alloc | apply Kd.R_drewN | apply Kd.R_drew));exact (Q_HO157 h0_)) hb) (fun _ h_=>by first | trivial | exact h_ | exact h_.1))
        clear BK151
        clear HB
        have BK151:=n0_
        have HB:=n1_
        have BK159:=n2_
        have GW159:=n3_
        have GE159:=n4_
        have NB151_159:=n5_
        have NB159_151:=n6_
        clear n0_ n1_ n2_ n3_ n4_ n5_ n6_
        clear hb hbox hg
        refine hK.out _ _ ⟨v156,adz_v156,gb159,(.pointer (some ⟨gb159,0,none⟩)),mz4_,mz5_,(by rw [ha.out];exact putSel_upk 6 hb_ rfl rfl rfl),(z5_ BK151.out),(z4_ HB.out GE151.out GE159.out),z_HO157,Q_HA_HO157,fun _ _=>(z5_ BK159.out),fun _=>GW159.out,fun _=>GE159.out,fun _=>NB151_159.out,fun _=>NB159_151.out,fun h0_=>absurd ((hoff 8 (by kernel_rfl)).symm.trans h0_) (by decide),fun _=>rfl,Q_Xz4_,Q_Xz5_⟩
       refine steps_cons ?_ ?_
       ·rintro b a w' ⟨v156,adz_v156,gb159,m7_,mz4_,mz5_,ha,Q_BK151,Q_HB,Q_HO157,Q_HA_HO157,Q_BK159,Q_GW159,Q_GE159,Q_NB151_159,Q_NB159_151,Q_BK159_e8,Q_X7_,Q_Xz4_,Q_Xz5_⟩ hb_ hon hoff
        refine ⟨_,rfl,fun K hK=>?_⟩
        have e3:a.tmps[3]? = some (m7_):=by rw [ha];exact putSel_on (e:=(7,3,m7_)) 6 rfl rfl (hon 7 (by kernel_rfl)) rfl
        rw [Q_X7_ (hon 7 (by kernel_rfl))] at e3
        have e33:a.tmps[33]? = some (.string ((rd_T63 t155 (ji16)).f1)):=by rw [ha];exact putSel_on (e:=(6,33,.string ((rd_T63 t155 (ji16)).f1))) 5 rfl rfl (hon 6 (by kernel_rfl)) rfl
        replace ha:=aM ha
        have BK151:=aM Q_BK151
        have HB:=aM Q_HB
        have HO157:=aM (Q_HO157 (hon 0 (by kernel_rfl)))
        have BK159:=aM (Q_BK159 (hon 7 (by kernel_rfl)) hb_)
        have GW159:=aM (Q_GW159 (hon 7 (by kernel_rfl)))
        have GE159:=aM (Q_GE159 (hon 7 (by kernel_rfl)))
        have NB151_159:=aM (Q_NB151_159 (hon 7 (by kernel_rfl)))
        have NB159_151:=aM (Q_NB159_151 (hon 7 (by kernel_rfl)))
        have hs24:w'.cell? ⟨gb159,0,none⟩=some (.string (⟨#[]⟩:ByteArray)):=(blk_cell BK159.out 0).trans rfl
        have hfs24:=blk_frozen BK159.out 0
        have hns24_0:=NB151_159.out
        have hms24_0:=NB159_151.out
        refine skip_ (w1:=?_) (by rfl) rfl ?_ ?_
        rotate_left
        ·go_simp
         rfl
        refine hK.out _ _ ⟨v156,adz_v156,gb159,m7_,mz4_,mz5_,(by rw [ha.out];exact putSel_none (v:=undef) rfl),(by (with_reducible repeat (first | refine blk_drewN ?_ _ | refine blk_drew ?_ | refine blk_alloc ?_ _));refine blk_far ?_ NB151_159.out _;(with_reducible repeat (first | refine blk_drewN ?_ _ | refine blk_drew ?_ | refine blk_alloc ?_ _));exact BK151.out),(z4_ HB.out GE151.out GE159.out),fun _=>(by (with_reducible repeat (first | apply Kd.R_alloc | apply Kd.R_drewN | apply Kd.R_drew));exact Kd.R_mono (Kd.R_far (p:=⟨gb159,0,none⟩) (Kd.R_types HO157.out BK159.out (by decide)) (fun _ hk=>hk.2) (.string ((rd_T63 t155 (ji16)).f1))) (fun _ hk=>trivial)),Q_HA_HO157,fun _ h1_=>absurd ((up_self b 8).symm.trans h1_) (by decide),fun _=>GW159.out,fun _=>GE159.out,fun _=>NB151_159.out,fun _=>NB159_151.out,fun _=>(by (with_reducible repeat (first | refine blk_drewN ?_ _ | refine blk_drew ?_ | refine blk_alloc ?_ _));refine blk_put (cs:=#[.string (⟨#[]⟩:ByteArray)]) ?_ 0 _ rfl;(with_reducible repeat (first | refine blk_drewN ?_ _ | refine blk_drew ?_ | refine blk_alloc ?_ _));exact BK159.out),Q_X7_,Q_Xz4_,Q_Xz5_⟩
       exact steps_nil
      rintro b a w24 hall ⟨v156,adz_v156,gb159,m7_,mz4_,mz5_,ha,Q_BK151,Q_HB,Q_HO157,Q_HA_HO157,Q_BK159,Q_GW159,Q_GE159,Q_NB151_159,Q_NB159_151,Q_BK159_e8,Q_X7_,Q_Xz4_,Q_Xz5_⟩
      clear BK151 HB
      have hb0_:=hall 0 (by kernel_rfl)
      have hb2_:=hall 2 (by kernel_rfl)
      have hb3_:=hall 3 (by kernel_rfl)
      have hb4_:=hall 4 (by kernel_rfl)
      have hb5_:=hall 5 (by kernel_rfl)
      have hb6_:=hall 6 (by kernel_rfl)
      have hb7_:=hall 7 (by kernel_rfl)
      have hb8_:=hall 8 (by kernel_rfl)
      subst ha
      obtain rfl:=Q_X7_ hb7_
      obtain rfl:=Q_Xz4_ hb4_
      obtain rfl:=Q_Xz5_ hb5_
      simp only [putSel,hb0_,hb2_,hb3_,hb4_,hb5_,hb6_,hb7_,hb8_,if_true,Act.put,List.setIfInBounds_toArray,List.set_cons_zero,List.set_cons_succ]
      have BK151:=aM Q_BK151
      clear Q_BK151
      have HB:=aM Q_HB
      clear Q_HB
      have HO157:=aM (Q_HO157 hb0_)
      clear Q_HO157
      clear Q_HA_HO157
      clear Q_BK159
      have GW159:=aM (Q_GW159 hb7_)
      clear Q_GW159
      have GE159:=aM (Q_GE159 hb7_)
      clear Q_GE159
      have NB151_159:=aM (Q_NB151_159 hb7_)
      clear Q_NB151_159
      have NB159_151:=aM (Q_NB159_151 hb7_)
      clear Q_NB159_151
      have BK159:=aM (Q_BK159_e8 hb8_)
      clear Q_BK159_e8
      clear hall hb0_ hb2_ hb3_ hb4_ hb5_ hb6_ hb7_ hb8_
      obtain ⟨Ao25,co25,eo25⟩:=Kd.R_slice HO157.out
      (first | subst eo25 | (injection eo25 with f1_ f2_ f3_;have f4_:=f1_.symm;have f5_:=f3_.symm;clear f1_ f2_ f3_;subst f4_;subst f5_))
      have p158:0≤((ji16):Int):=dT (z3_)
      have q158:(ji16)<(t155.length:Int):=dT (z3_)
      obtain ⟨ad158,e158,hx158_0,hx158_1⟩:=at_T63 (Kd.R_reads' HO157.out).2.2 (ji16) p158 q158
      cases e158
      replace p158:=eq_true p158
      replace q158:=eq_true q158
      go_upto_region 6 with (fail)
      go_cut [50] (fun v50 wc=>∃ (kq:Nat) (x50_18:Bool),v50 = .bool x50_18∧Aside0 (Y1.j1 kq x50_18 a0_0 a0_1 a0_2 a0_3 a0_4 a0_5 ((rd_T63 t155 (ji16)).f1)=some r)∧Aside0 (kq≤kj1)∧Aside0 (wc.heap[gb151]? = some (.cells #[.int .i64 a0_0,.int .i64 a0_1,.int .i64 a0_2,.string a0_3,.string a0_4,.int .i64 a0_5] 26 (0,0)))∧Aside0 (wc.heap[gb159]? = some (.cells #[.string ((rd_T63 t155 (ji16)).f1)] 9 (0,0)))∧Aside0 (Below w.heap.size w wc))
      case first=>as_aux_lemma =>
       have H:=HC19.out
       clear HC19
       replace H:=bS H
       obtain ⟨t160,A260,H⟩:=H
       replace H:((Y12.f a0_1 t160).bind fun t161=>(if t161=true then ((Y0.f kj1 (⟨#[66]⟩:ByteArray) ((rd_T63 t155 (ji16)).f1)).bind fun t162=>((Y12.f a0_2 t162).bind fun t163=>(Y1.j1 kj1 (!t163) a0_0 a0_1 a0_2 a0_3 a0_4 a0_5 ((rd_T63 t155 (ji16)).f1)))) else (Y1.j1 kj1 true a0_0 a0_1 a0_2 a0_3 a0_4 a0_5 ((rd_T63 t155 (ji16)).f1))))=some r:=H
       have A26:=aM A260
       clear A260
       replace H:=bS H
       obtain ⟨t161,A270,H⟩:=H
       replace H:(if t161=true then ((Y0.f kj1 (⟨#[66]⟩:ByteArray) ((rd_T63 t155 (ji16)).f1)).bind fun t162=>((Y12.f a0_2 t162).bind fun t163=>(Y1.j1 kj1 (!t163) a0_0 a0_1 a0_2 a0_3 a0_4 a0_5 ((rd_T63 t155 (ji16)).f1)))) else (Y1.j1 kj1 true a0_0 a0_1 a0_2 a0_3 a0_4 a0_5 ((rd_T63 t155 (ji16)).f1)))=some r:=H
       have A27:=aM A270
       clear A270
       by_cases c28:t161=true
       ·subst c28
        have H1:((Y0.f kj1 (⟨#[66]⟩:ByteArray) ((rd_T63 t155 (ji16)).f1)).bind fun t162=>((Y12.f a0_2 t162).bind fun t163=>(Y1.j1 kj1 (!t163) a0_0 a0_1 a0_2 a0_3 a0_4 a0_5 ((rd_T63 t155 (ji16)).f1))))=some r:=by rw [if_pos rfl] at H;exact H
        clear H
        have H:=H1
        clear H1
        replace H:=bS H
        obtain ⟨t162,A290,H⟩:=H
        replace H:((Y12.f a0_2 t162).bind fun t163=>(Y1.j1 kj1 (!t163) a0_0 a0_1 a0_2 a0_3 a0_4 a0_5 ((rd_T63 t155 (ji16)).f1)))=some r:=H
        have A29:=aM A290
        clear A290
        replace H:=bS H
        obtain ⟨t163,A300,H⟩:=H
        replace H:(Y1.j1 kj1 (!t163) a0_0 a0_1 a0_2 a0_3 a0_4 a0_5 ((rd_T63 t155 (ji16)).f1))=some r:=H
        have A30:=aM A300
        clear A300
        have H':=aM H
        clear H
        try go_wp2
        have n0_:=aM (Kd.R_drew HO157.out)
        have n1_:=aM (blk_drew BK151.out)
        have n2_:=aM (blk_drew BK159.out)
        have n3_:=aM (below_drew1 HB.out)
        clear HO157
        clear BK151
        clear BK159
        clear HB
        have HO157:=n0_
        have BK151:=n1_
        have BK159:=n2_
        have HB:=n3_
        clear n0_ n1_ n2_ n3_
        refine start_ (n:=16) (S:=fun w'=>w'.cell? ⟨gb151,0,none⟩=some (.int .i64 a0_0)∧w'.cell? ⟨gb151,1,none⟩=some (.int .i64 a0_1)∧w'.cell? ⟨gb151,2,none⟩=some (.int .i64 a0_2)∧w'.cell? ⟨gb151,3,none⟩=some (.string a0_3)∧w'.cell? ⟨gb151,4,none⟩=some (.string a0_4)∧w'.cell? ⟨gb151,5,none⟩=some (.int .i64 a0_5)) (ds:=[]) Y1.q0 (by kernel_rfl) rfl rfl (cc6_ BK151.out) (fun hHeld=>?_);refine with_tabW Y1.tab6 Y1.bits6 (fun HT_ HW_=>?_)
        generalize w24.drew=w31 at HO157 BK151 BK159 HB hHeld ⊢
        refine pu_ 0 35 Y1.q1 HT_.out ?_
        refine pu_ 1 36 Y1.q2 HT_.out ?_
        refine pu_ 3 38 Y1.q3 HT_.out ?_
        refine tk6_ 2 37 Y1.q4 HT_.out HW_.out hHeld ?_
        refine o1_ 4 39 Y1.q5 HT_.out (fun K hK=>?_)
        refine goesC_ Tryd.func39 (by kernel_rfl) rfl #[.string (⟨#[65]⟩:ByteArray),.pointer (some ⟨gb159,0,none⟩)] (by rfl) rfl rfl (by rfl) (z16_) ?_
        with_reducible refine (Y0.calls kj1 (⟨#[65]⟩:ByteArray) gb159 ((rd_T63 t155 (ji16)).f1) t160 _ ?s1 A26.out).mono ?_
        (case s1=>(with_reducible repeat (first | refine blk_drewN ?_ _ | refine blk_drew ?_ | refine blk_alloc ?_ _));exact BK159.out)
        rintro e w32 ⟨rfl,hb⟩
        refine ⟨_,rfl,?_⟩
        have n0_:=aM (Kd.R_below (z11_ HO157.out) hb)
        have n1_:=aM (blkB_ BK151.out hb)
        have n2_:=aM (blkB_ BK159.out hb)
        have n3_:=aM (below_step (z4_ HB.out GE151.out GE159.out) hb)
        clear HO157
        clear BK151
        clear BK159
        clear HB
        have HO157:=n0_
        have BK151:=n1_
        have BK159:=n2_
        have HB:=n3_
        clear n0_ n1_ n2_ n3_
        (try clear hb)
        refine hK.out _ _ (cc6_ BK151.out) (fun hHeld=>?_)
        clear hK K
        refine nm_ 39 ?_
        refine o1_ 5 40 Y1.q6 HT_.out (fun K hK=>?_)
        refine goesD_ Tryd.func41 (by kernel_rfl) rfl #[.int .i64 a0_1,.bool t160] (by rfl) rfl rfl (by rfl) (z17_) ?_
        with_reducible refine (Y12.calls a0_1 t160 true _ A27.out).mono ?_
        rintro e w' ⟨rfl,⟨nd,rfl⟩⟩
        refine ⟨_,rfl,?_⟩
        refine hK.out _ _ (cc6_ BK151.out) (fun hHeld=>?_)
        clear hK K
        refine nm_ 40 ?_
        refine pu_ 6 41 Y1.q7 HT_.out ?_
        refine pu_ 7 42 Y1.q8 HT_.out ?_
        refine pu_ 8 43 Y1.q9 HT_.out ?_
        refine pu_ 9 44 Y1.q10 HT_.out ?_
        refine pu_ 11 46 #[I,I,I,I,I,I,I,I,I,I,O,I,O,O,O,O] HT_.out ?_
        refine tk6_ 10 45 Y1.q11 HT_.out HW_.out hHeld ?_
        refine o1_ 12 47 Y1.q12 HT_.out (fun K hK=>?_)
        refine goesC_ Tryd.func39 (by kernel_rfl) rfl #[.string (⟨#[66]⟩:ByteArray),.pointer (some ⟨gb159,0,none⟩)] (by rfl) rfl rfl (by rfl) (z16_) ?_
        with_reducible refine (Y0.calls kj1 (⟨#[66]⟩:ByteArray) gb159 ((rd_T63 t155 (ji16)).f1) t162 _ ?s1 A29.out).mono ?_
        (case s1=>(with_reducible repeat (first | refine blk_drewN ?_ _ | refine blk_drew ?_ | refine blk_alloc ?_ _));exact BK159.out)
        rintro e w33 ⟨rfl,hb⟩
        refine ⟨_,rfl,?_⟩
        have n0_:=aM (Kd.R_below (z11_ HO157.out) hb)
        have n1_:=aM (blkB_ BK151.out hb)
        have n2_:=aM (blkB_ BK159.out hb)
        have n3_:=aM (below_step (z4_ HB.out GE151.out GE159.out) hb)
        clear HO157
        clear BK151
        clear BK159
        clear HB
        have HO157:=n0_
        have BK151:=n1_
        have BK159:=n2_
        have HB:=n3_
        clear n0_ n1_ n2_ n3_
        (try clear hb)
        refine hK.out _ _ (cc6_ BK151.out) (fun hHeld=>?_)
        clear hK K
        refine nm_ 47 ?_
        refine o1_ 13 48 Y1.q13 HT_.out (fun K hK=>?_)
        refine goesD_ Tryd.func41 (by kernel_rfl) rfl #[.int .i64 a0_2,.bool t162] (by rfl) rfl rfl (by rfl) (z17_) ?_
        with_reducible refine (Y12.calls a0_2 t162 t163 _ A30.out).mono ?_
        rintro e w' ⟨rfl,⟨nd,rfl⟩⟩
        refine ⟨_,rfl,?_⟩
        refine hK.out _ _ (cc6_ BK151.out) (fun hHeld=>?_)
        clear hK K
        refine nm_ 48 ?_
        refine pu_ 14 49 Y1.q14 HT_.out ?_
        refine pu_ 15 50 Y1.q15 HT_.out ?_
        refine done_ (done_of HT_.out (by kernel_rfl)) ?_
        try go_wp2
        go_meet
        case rel=>exact ⟨_,(!t163),(z0_),H',⟨z10_ HJ1.out⟩,⟨z5_ BK151.out⟩,⟨z5_ BK159.out⟩,⟨z4_ HB.out GE151.out GE159.out⟩⟩
       ·replace c28:=Bool.eq_false_iff.mpr c28
        subst c28
        have H1:(Y1.j1 kj1 true a0_0 a0_1 a0_2 a0_3 a0_4 a0_5 ((rd_T63 t155 (ji16)).f1))=some r:=by rw [if_neg (show ¬ (false=true) by decide)] at H;exact H
        clear H
        have H:=H1
        clear H1
        have H':=aM H
        clear H
        try go_wp2
        have n0_:=aM (Kd.R_drew HO157.out)
        have n1_:=aM (blk_drew BK151.out)
        have n2_:=aM (blk_drew BK159.out)
        have n3_:=aM (below_drew1 HB.out)
        clear HO157
        clear BK151
        clear BK159
        clear HB
        have HO157:=n0_
        have BK151:=n1_
        have BK159:=n2_
        have HB:=n3_
        clear n0_ n1_ n2_ n3_
        refine start_ (n:=16) (S:=fun w'=>w'.cell? ⟨gb151,0,none⟩=some (.int .i64 a0_0)∧w'.cell? ⟨gb151,1,none⟩=some (.int .i64 a0_1)∧w'.cell? ⟨gb151,2,none⟩=some (.int .i64 a0_2)∧w'.cell? ⟨gb151,3,none⟩=some (.string a0_3)∧w'.cell? ⟨gb151,4,none⟩=some (.string a0_4)∧w'.cell? ⟨gb151,5,none⟩=some (.int .i64 a0_5)) (ds:=[]) Y1.q0 (by kernel_rfl) rfl rfl (cc6_ BK151.out) (fun hHeld=>?_);refine with_tabW Y1.tab6 Y1.bits6 (fun HT_ HW_=>?_)
        generalize w24.drew=w34 at HO157 BK151 BK159 HB hHeld ⊢
        refine pu_ 0 35 Y1.q1 HT_.out ?_
        refine pu_ 1 36 Y1.q2 HT_.out ?_
        refine pu_ 3 38 Y1.q3 HT_.out ?_
        refine tk6_ 2 37 Y1.q4 HT_.out HW_.out hHeld ?_
        refine o1_ 4 39 Y1.q5 HT_.out (fun K hK=>?_)
        refine goesC_ Tryd.func39 (by kernel_rfl) rfl #[.string (⟨#[65]⟩:ByteArray),.pointer (some ⟨gb159,0,none⟩)] (by rfl) rfl rfl (by rfl) (z16_) ?_
        with_reducible refine (Y0.calls kj1 (⟨#[65]⟩:ByteArray) gb159 ((rd_T63 t155 (ji16)).f1) t160 _ ?s1 A26.out).mono ?_
        (case s1=>(with_reducible repeat (first | refine blk_drewN ?_ _ | refine blk_drew ?_ | refine blk_alloc ?_ _));exact BK159.out)
        rintro e w35 ⟨rfl,hb⟩
        refine ⟨_,rfl,?_⟩
        have n0_:=aM (Kd.R_below (z11_ HO157.out) hb)
        have n1_:=aM (blkB_ BK151.out hb)
        have n2_:=aM (blkB_ BK159.out hb)
        have n3_:=aM (below_step (z4_ HB.out GE151.out GE159.out) hb)
        clear HO157
        clear BK151
        clear BK159
        clear HB
        have HO157:=n0_
        have BK151:=n1_
        have BK159:=n2_
        have HB:=n3_
        clear n0_ n1_ n2_ n3_
        (try clear hb)
        refine hK.out _ _ (cc6_ BK151.out) (fun hHeld=>?_)
        clear hK K
        refine nm_ 39 ?_
        refine o1_ 5 40 Y1.q6 HT_.out (fun K hK=>?_)
        refine goesD_ Tryd.func41 (by kernel_rfl) rfl #[.int .i64 a0_1,.bool t160] (by rfl) rfl rfl (by rfl) (z17_) ?_
        with_reducible refine (Y12.calls a0_1 t160 false _ A27.out).mono ?_
        rintro e w' ⟨rfl,⟨nd,rfl⟩⟩
        refine ⟨_,rfl,?_⟩
        refine hK.out _ _ (cc6_ BK151.out) (fun hHeld=>?_)
        clear hK K
        refine nm_ 40 ?_
        refine pu_ 6 41 Y1.q7 HT_.out ?_
        refine pu_ 7 42 Y1.q8 HT_.out ?_
        refine pn_ 8 43 Y1.q9 HT_.out ?_
        refine pn_ 9 44 Y1.q10 HT_.out ?_
        refine pn_ 10 45 #[I,I,I,I,I,I,I,I,I,I,I,O,O,O,O,O] HT_.out ?_
        refine pn_ 11 46 Y1.q11 HT_.out ?_
        refine pn_ 12 47 Y1.q12 HT_.out ?_
        refine pn_ 13 48 Y1.q13 HT_.out ?_
        refine pn_ 14 49 Y1.q14 HT_.out ?_
        refine pu_ 15 50 Y1.q15 HT_.out ?_
        refine done_ (done_of HT_.out (by kernel_rfl)) ?_
        try go_wp2
        go_meet
        case rel=>exact ⟨_,(true),(z0_),H',⟨z10_ HJ1.out⟩,⟨z5_ BK151.out⟩,⟨z5_ BK159.out⟩,⟨z4_ HB.out GE151.out GE159.out⟩⟩
      case rest=>as_aux_lemma =>
       clear HC19
       try clear c1
       try clear p1
       try clear q1
       try clear hx1
       try clear c2
       try clear p2
       try clear c3
       try clear c4
       try clear c5
       try clear c7
       try clear p15
       try clear q15
       try clear hx15
       try clear c28
       try clear hx158_0
       try clear hx158_1
       try clear p158
       try clear q158
       obtain ⟨kq,x50_18,rfl,HA,HJ18,BK151,BK159,HB⟩:=hcut
       cases kq with
       | zero=>exact absurd HA.out (by simp [Y1.j1])
       | succ kj18 =>
        have H:=HA.out
        clear HA
        simp only [Y1.j1] at H
        by_cases c36:x50_18=true
        ·subst c36
         have H1:(some false)=some r:=by rw [if_pos rfl] at H;exact H
         clear H
         have H:=H1
         clear H1
         obtain rfl:=sI H
         go_wp2
         go_ret
         exact ⟨z9_,z4_ HB.out GE151.out GE159.out⟩
        ·replace c36:=Bool.eq_false_iff.mpr c36
         subst c36
         have H1:((Y0.f kj18 (⟨#[75]⟩:ByteArray) ((rd_T63 t155 (ji16)).f1)).bind fun t164=>(if t164=true then ((Y3.f kj18 a0_3).bind fun t165=>(if t165=true then ((Y0.f kj18 (⟨#[68]⟩:ByteArray) ((rd_T63 t155 (ji16)).f1)).bind fun t166=>(if t166=true then ((Y3.f kj18 a0_4).bind fun t167=>(if t167=true then (if (a0_4.size:Int)≤16 then (some true) else ((Y0.f kj18 (⟨#[68]⟩:ByteArray) ((rd_T63 t155 (ji16)).f1)).bind fun t168=>(if t168=true then (some false) else (some (a0_4.toList == ([]:List UInt8)))))) else ((Y0.f kj18 (⟨#[68]⟩:ByteArray) ((rd_T63 t155 (ji16)).f1)).bind fun t169=>(if t169=true then (some false) else (some (a0_4.toList == ([]:List UInt8))))))) else ((Y0.f kj18 (⟨#[68]⟩:ByteArray) ((rd_T63 t155 (ji16)).f1)).bind fun t170=>(if t170=true then (some false) else (some (a0_4.toList == ([]:List UInt8))))))) else ((Y0.f kj18 (⟨#[75]⟩:ByteArray) ((rd_T63 t155 (ji16)).f1)).bind fun t171=>(if t171=true then (some false) else (if a0_3.toList=([]:List UInt8) then ((Y0.f kj18 (⟨#[68]⟩:ByteArray) ((rd_T63 t155 (ji16)).f1)).bind fun t172=>(if t172=true then ((Y3.f kj18 a0_4).bind fun t173=>(if t173=true then (if (a0_4.size:Int)≤16 then (some true) else ((Y0.f kj18 (⟨#[68]⟩:ByteArray) ((rd_T63 t155 (ji16)).f1)).bind fun t174=>(if t174=true then (some false) else (some (a0_4.toList == ([]:List UInt8)))))) else ((Y0.f kj18 (⟨#[68]⟩:ByteArray) ((rd_T63 t155 (ji16)).f1)).bind fun t175=>(if t175=true then (some false) else (some (a0_4.toList == ([]:List UInt8))))))) else ((Y0.f kj18 (⟨#[68]⟩:ByteArray) ((rd_T63 t155 (ji16)).f1)).bind fun t176=>(if t176=true then (some false) else (some (a0_4.toList == ([]:List UInt8))))))) else (some false)))))) else ((Y0.f kj18 (⟨#[75]⟩:ByteArray) ((rd_T63 t155 (ji16)).f1)).bind fun t177=>(if t177=true then (some false) else (if a0_3.toList=([]:List UInt8) then ((Y0.f kj18 (⟨#[68]⟩:ByteArray) ((rd_T63 t155 (ji16)).f1)).bind fun t178=>(if t178=true then ((Y3.f kj18 a0_4).bind fun t179=>(if t179=true then (if (a0_4.size:Int)≤16 then (some true) else ((Y0.f kj18 (⟨#[68]⟩:ByteArray) ((rd_T63 t155 (ji16)).f1)).bind fun t180=>(if t180=true then (some false) else (some (a0_4.toList == ([]:List UInt8)))))) else ((Y0.f kj18 (⟨#[68]⟩:ByteArray) ((rd_T63 t155 (ji16)).f1)).bind fun t181=>(if t181=true then (some false) else (some (a0_4.toList == ([]:List UInt8))))))) else ((Y0.f kj18 (⟨#[68]⟩:ByteArray) ((rd_T63 t155 (ji16)).f1)).bind fun t182=>(if t182=true then (some false) else (some (a0_4.toList == ([]:List UInt8))))))) else (some false))))))=some r:=by rw [if_neg (show ¬ (false=true) by decide)] at H;exact H
         clear H
         have H:=H1
         clear H1
         replace H:=bS H
         obtain ⟨t164,A370,H⟩:=H
         replace H:(if t164=true then ((Y3.f kj18 a0_3).bind fun t165=>(if t165=true then ((Y0.f kj18 (⟨#[68]⟩:ByteArray) ((rd_T63 t155 (ji16)).f1)).bind fun t166=>(if t166=true then ((Y3.f kj18 a0_4).bind fun t167=>(if t167=true then (if (a0_4.size:Int)≤16 then (some true) else ((Y0.f kj18 (⟨#[68]⟩:ByteArray) ((rd_T63 t155 (ji16)).f1)).bind fun t168=>(if t168=true then (some false) else (some (a0_4.toList == ([]:List UInt8)))))) else ((Y0.f kj18 (⟨#[68]⟩:ByteArray) ((rd_T63 t155 (ji16)).f1)).bind fun t169=>(if t169=true then (some false) else (some (a0_4.toList == ([]:List UInt8))))))) else ((Y0.f kj18 (⟨#[68]⟩:ByteArray) ((rd_T63 t155 (ji16)).f1)).bind fun t170=>(if t170=true then (some false) else (some (a0_4.toList == ([]:List UInt8))))))) else ((Y0.f kj18 (⟨#[75]⟩:ByteArray) ((rd_T63 t155 (ji16)).f1)).bind fun t171=>(if t171=true then (some false) else (if a0_3.toList=([]:List UInt8) then ((Y0.f kj18 (⟨#[68]⟩:ByteArray) ((rd_T63 t155 (ji16)).f1)).bind fun t172=>(if t172=true then ((Y3.f kj18 a0_4).bind fun t173=>(if t173=true then (if (a0_4.size:Int)≤16 then (some true) else ((Y0.f kj18 (⟨#[68]⟩:ByteArray) ((rd_T63 t155 (ji16)).f1)).bind fun t174=>(if t174=true then (some false) else (some (a0_4.toList == ([]:List UInt8)))))) else ((Y0.f kj18 (⟨#[68]⟩:ByteArray) ((rd_T63 t155 (ji16)).f1)).bind fun t175=>(if t175=true then (some false) else (some (a0_4.toList == ([]:List UInt8))))))) else ((Y0.f kj18 (⟨#[68]⟩:ByteArray) ((rd_T63 t155 (ji16)).f1)).bind fun t176=>(if t176=true then (some false) else (some (a0_4.toList == ([]:List UInt8))))))) else (some false)))))) else ((Y0.f kj18 (⟨#[75]⟩:ByteArray) ((rd_T63 t155 (ji16)).f1)).bind fun t177=>(if t177=true then (some false) else (if a0_3.toList=([]:List UInt8) then ((Y0.f kj18 (⟨#[68]⟩:ByteArray) ((rd_T63 t155 (ji16)).f1)).bind fun t178=>(if t178=true then ((Y3.f kj18 a0_4).bind fun t179=>(if t179=true then (if (a0_4.size:Int)≤16 then (some true) else ((Y0.f kj18 (⟨#[68]⟩:ByteArray) ((rd_T63 t155 (ji16)).f1)).bind fun t180=>(if t180=true then (some false) else (some (a0_4.toList == ([]:List UInt8)))))) else ((Y0.f kj18 (⟨#[68]⟩:ByteArray) ((rd_T63 t155 (ji16)).f1)).bind fun t181=>(if t181=true then (some false) else (some (a0_4.toList == ([]:List UInt8))))))) else ((Y0.f kj18 (⟨#[68]⟩:ByteArray) ((rd_T63 t155 (ji16)).f1)).bind fun t182=>(if t182=true then (some false) else (some (a0_4.toList == ([]:List UInt8))))))) else (some false)))))=some r:=H
         have A37:=aM A370
         clear A370
         by_cases c38:t164=true
         ·subst c38
          have H1:((Y3.f kj18 a0_3).bind fun t165=>(if t165=true then ((Y0.f kj18 (⟨#[68]⟩:ByteArray) ((rd_T63 t155 (ji16)).f1)).bind fun t166=>(if t166=true then ((Y3.f kj18 a0_4).bind fun t167=>(if t167=true then (if (a0_4.size:Int)≤16 then (some true) else ((Y0.f kj18 (⟨#[68]⟩:ByteArray) ((rd_T63 t155 (ji16)).f1)).bind fun t168=>(if t168=true then (some false) else (some (a0_4.toList == ([]:List UInt8)))))) else ((Y0.f kj18 (⟨#[68]⟩:ByteArray) ((rd_T63 t155 (ji16)).f1)).bind fun t169=>(if t169=true then (some false) else (some (a0_4.toList == ([]:List UInt8))))))) else ((Y0.f kj18 (⟨#[68]⟩:ByteArray) ((rd_T63 t155 (ji16)).f1)).bind fun t170=>(if t170=true then (some false) else (some (a0_4.toList == ([]:List UInt8))))))) else ((Y0.f kj18 (⟨#[75]⟩:ByteArray) ((rd_T63 t155 (ji16)).f1)).bind fun t171=>(if t171=true then (some false) else (if a0_3.toList=([]:List UInt8) then ((Y0.f kj18 (⟨#[68]⟩:ByteArray) ((rd_T63 t155 (ji16)).f1)).bind fun t172=>(if t172=true then ((Y3.f kj18 a0_4).bind fun t173=>(if t173=true then (if (a0_4.size:Int)≤16 then (some true) else ((Y0.f kj18 (⟨#[68]⟩:ByteArray) ((rd_T63 t155 (ji16)).f1)).bind fun t174=>(if t174=true then (some false) else (some (a0_4.toList == ([]:List UInt8)))))) else ((Y0.f kj18 (⟨#[68]⟩:ByteArray) ((rd_T63 t155 (ji16)).f1)).bind fun t175=>(if t175=true then (some false) else (some (a0_4.toList == ([]:List UInt8))))))) else ((Y0.f kj18 (⟨#[68]⟩:ByteArray) ((rd_T63 t155 (ji16)).f1)).bind fun t176=>(if t176=true then (some false) else (some (a0_4.toList == ([]:List UInt8))))))) else (some false))))))=some r:=by rw [if_pos rfl] at H;exact H
          clear H
          have H:=H1
          clear H1
          replace H:=bS H
          obtain ⟨t165,A390,H⟩:=H
          replace H:(if t165=true then ((Y0.f kj18 (⟨#[68]⟩:ByteArray) ((rd_T63 t155 (ji16)).f1)).bind fun t166=>(if t166=true then ((Y3.f kj18 a0_4).bind fun t167=>(if t167=true then (if (a0_4.size:Int)≤16 then (some true) else ((Y0.f kj18 (⟨#[68]⟩:ByteArray) ((rd_T63 t155 (ji16)).f1)).bind fun t168=>(if t168=true then (some false) else (some (a0_4.toList == ([]:List UInt8)))))) else ((Y0.f kj18 (⟨#[68]⟩:ByteArray) ((rd_T63 t155 (ji16)).f1)).bind fun t169=>(if t169=true then (some false) else (some (a0_4.toList == ([]:List UInt8))))))) else ((Y0.f kj18 (⟨#[68]⟩:ByteArray) ((rd_T63 t155 (ji16)).f1)).bind fun t170=>(if t170=true then (some false) else (some (a0_4.toList == ([]:List UInt8))))))) else ((Y0.f kj18 (⟨#[75]⟩:ByteArray) ((rd_T63 t155 (ji16)).f1)).bind fun t171=>(if t171=true then (some false) else (if a0_3.toList=([]:List UInt8) then ((Y0.f kj18 (⟨#[68]⟩:ByteArray) ((rd_T63 t155 (ji16)).f1)).bind fun t172=>(if t172=true then ((Y3.f kj18 a0_4).bind fun t173=>(if t173=true then (if (a0_4.size:Int)≤16 then (some true) else ((Y0.f kj18 (⟨#[68]⟩:ByteArray) ((rd_T63 t155 (ji16)).f1)).bind fun t174=>(if t174=true then (some false) else (some (a0_4.toList == ([]:List UInt8)))))) else ((Y0.f kj18 (⟨#[68]⟩:ByteArray) ((rd_T63 t155 (ji16)).f1)).bind fun t175=>(if t175=true then (some false) else (some (a0_4.toList == ([]:List UInt8))))))) else ((Y0.f kj18 (⟨#[68]⟩:ByteArray) ((rd_T63 t155 (ji16)).f1)).bind fun t176=>(if t176=true then (some false) else (some (a0_4.toList == ([]:List UInt8))))))) else (some false)))))=some r:=H
          have A39:=aM A390
          clear A390
          by_cases c40:t165=true
          ·subst c40
           have H1:((Y0.f kj18 (⟨#[68]⟩:ByteArray) ((rd_T63 t155 (ji16)).f1)).bind fun t166=>(if t166=true then ((Y3.f kj18 a0_4).bind fun t167=>(if t167=true then (if (a0_4.size:Int)≤16 then (some true) else ((Y0.f kj18 (⟨#[68]⟩:ByteArray) ((rd_T63 t155 (ji16)).f1)).bind fun t168=>(if t168=true then (some false) else (some (a0_4.toList == ([]:List UInt8)))))) else ((Y0.f kj18 (⟨#[68]⟩:ByteArray) ((rd_T63 t155 (ji16)).f1)).bind fun t169=>(if t169=true then (some false) else (some (a0_4.toList == ([]:List UInt8))))))) else ((Y0.f kj18 (⟨#[68]⟩:ByteArray) ((rd_T63 t155 (ji16)).f1)).bind fun t170=>(if t170=true then (some false) else (some (a0_4.toList == ([]:List UInt8)))))))=some r:=by rw [if_pos rfl] at H;exact H
           clear H
           have H:=H1
           clear H1
           replace H:=bS H
           obtain ⟨t166,A410,H⟩:=H
           replace H:(if t166=true then ((Y3.f kj18 a0_4).bind fun t167=>(if t167=true then (if (a0_4.size:Int)≤16 then (some true) else ((Y0.f kj18 (⟨#[68]⟩:ByteArray) ((rd_T63 t155 (ji16)).f1)).bind fun t168=>(if t168=true then (some false) else (some (a0_4.toList == ([]:List UInt8)))))) else ((Y0.f kj18 (⟨#[68]⟩:ByteArray) ((rd_T63 t155 (ji16)).f1)).bind fun t169=>(if t169=true then (some false) else (some (a0_4.toList == ([]:List UInt8))))))) else ((Y0.f kj18 (⟨#[68]⟩:ByteArray) ((rd_T63 t155 (ji16)).f1)).bind fun t170=>(if t170=true then (some false) else (some (a0_4.toList == ([]:List UInt8))))))=some r:=H
           have A41:=aM A410
           clear A410
           by_cases c42:t166=true
           ·subst c42
            have H1:((Y3.f kj18 a0_4).bind fun t167=>(if t167=true then (if (a0_4.size:Int)≤16 then (some true) else ((Y0.f kj18 (⟨#[68]⟩:ByteArray) ((rd_T63 t155 (ji16)).f1)).bind fun t168=>(if t168=true then (some false) else (some (a0_4.toList == ([]:List UInt8)))))) else ((Y0.f kj18 (⟨#[68]⟩:ByteArray) ((rd_T63 t155 (ji16)).f1)).bind fun t169=>(if t169=true then (some false) else (some (a0_4.toList == ([]:List UInt8)))))))=some r:=by rw [if_pos rfl] at H;exact H
            clear H
            have H:=H1
            clear H1
            replace H:=bS H
            obtain ⟨t167,A430,H⟩:=H
            replace H:(if t167=true then (if (a0_4.size:Int)≤16 then (some true) else ((Y0.f kj18 (⟨#[68]⟩:ByteArray) ((rd_T63 t155 (ji16)).f1)).bind fun t168=>(if t168=true then (some false) else (some (a0_4.toList == ([]:List UInt8)))))) else ((Y0.f kj18 (⟨#[68]⟩:ByteArray) ((rd_T63 t155 (ji16)).f1)).bind fun t169=>(if t169=true then (some false) else (some (a0_4.toList == ([]:List UInt8))))))=some r:=H
            have A43:=aM A430
            clear A430
            by_cases c44:t167=true
            ·subst c44
             have H1:(if (a0_4.size:Int)≤16 then (some true) else ((Y0.f kj18 (⟨#[68]⟩:ByteArray) ((rd_T63 t155 (ji16)).f1)).bind fun t168=>(if t168=true then (some false) else (some (a0_4.toList == ([]:List UInt8))))))=some r:=by rw [if_pos rfl] at H;exact H
             clear H
             have H:=H1
             clear H1
             by_cases c45:(a0_4.size:Int)≤16
             ·rw [if_pos c45] at H
              have c45b0:decide ((a0_4.size:Int)≤16)=true:=dE c45
              have c45b1:decide (a0_4.size≤16)=true:=dE (by omega)
              clear c45
              obtain rfl:=sI H
              go_wp2_with (first | (go_at_call 39;(with_reducible refine (Y0.calls kj18 (⟨#[75]⟩:ByteArray) gb159 ((rd_T63 t155 (ji16)).f1) true _ ?s1 A37.out).mono ?_);(case s1=>(with_reducible repeat (first | refine blk_drewN ?_ _ | refine blk_drew ?_ | refine blk_alloc ?_ _));exact BK159.out);rintro e w46 ⟨rfl,hb⟩;have n0_:=aM (blkB_ BK151.out hb);have n1_:=aM (blkB_ BK159.out hb);have n2_:=aM (below_step (z4_ HB.out GE151.out GE159.out) hb);clear BK151;clear BK159;clear HB;have BK151:=n0_;have BK159:=n1_;have HB:=n2_;clear n0_ n1_ n2_;(try clear hb);have hnb47:=NB151_159.out;have hnc47:=NB159_151.out;have ⟨hcz48_0,hcz48_1,hcz48_2,hcz48_3,hcz48_4,hcz48_5,hfz48_0,hfz48_1,hfz48_2,hfz48_3,hfz48_4,hfz48_5⟩:=cz6_ BK151.out) | (go_at_call 42;(with_reducible refine (Y3.calls kj18 a0_3 true _ A39.out).mono ?_);rintro e w' ⟨rfl,⟨nd,rfl⟩⟩) | (go_at_call 39;(with_reducible refine (Y0.calls kj18 (⟨#[68]⟩:ByteArray) gb159 ((rd_T63 t155 (ji16)).f1) true _ ?s1 A41.out).mono ?_);(case s1=>(with_reducible repeat (first | refine blk_drewN ?_ _ | refine blk_drew ?_ | refine blk_alloc ?_ _));exact BK159.out);rintro e w49 ⟨rfl,hb⟩;have n0_:=aM (blkB_ BK151.out hb);have n1_:=aM (blkB_ BK159.out hb);have n2_:=aM (below_step (z4_ HB.out GE151.out GE159.out) hb);clear BK151;clear BK159;clear HB;have BK151:=n0_;have BK159:=n1_;have HB:=n2_;clear n0_ n1_ n2_;(try clear hb);have ⟨hcz50_0,hcz50_1,hcz50_2,hcz50_3,hcz50_4,hcz50_5,hfz50_0,hfz50_1,hfz50_2,hfz50_3,hfz50_4,hfz50_5⟩:=cz6_ BK151.out) | (go_at_call 42;(with_reducible refine (Y3.calls kj18 a0_4 true _ A43.out).mono ?_);rintro e w' ⟨rfl,⟨nd,rfl⟩⟩))
              go_ret
              exact ⟨z9_,z4_ HB.out GE151.out GE159.out⟩
             ·rw [if_neg c45] at H
              have c45b0:decide ((a0_4.size:Int)≤16)=false:=dF c45
              have c45b1:decide (a0_4.size≤16)=false:=dF (by omega)
              clear c45
              replace H:=bS H
              obtain ⟨t168,A510,H⟩:=H
              replace H:(if t168=true then (some false) else (some (a0_4.toList == ([]:List UInt8))))=some r:=H
              have A51:=aM A510
              clear A510
              by_cases c52:t168=true
              ·subst c52
               have H1:(some false)=some r:=by rw [if_pos rfl] at H;exact H
               clear H
               have H:=H1
               clear H1
               obtain rfl:=sI H
               go_wp2_with (first | (go_at_call 39;(with_reducible refine (Y0.calls kj18 (⟨#[75]⟩:ByteArray) gb159 ((rd_T63 t155 (ji16)).f1) true _ ?s1 A37.out).mono ?_);(case s1=>(with_reducible repeat (first | refine blk_drewN ?_ _ | refine blk_drew ?_ | refine blk_alloc ?_ _));exact BK159.out);rintro e w53 ⟨rfl,hb⟩;have n0_:=aM (blkB_ BK151.out hb);have n1_:=aM (blkB_ BK159.out hb);have n2_:=aM (below_step (z4_ HB.out GE151.out GE159.out) hb);clear BK151;clear BK159;clear HB;have BK151:=n0_;have BK159:=n1_;have HB:=n2_;clear n0_ n1_ n2_;(try clear hb);have hnb54:=NB151_159.out;have hnc54:=NB159_151.out;have ⟨hcz55_0,hcz55_1,hcz55_2,hcz55_3,hcz55_4,hcz55_5,hfz55_0,hfz55_1,hfz55_2,hfz55_3,hfz55_4,hfz55_5⟩:=cz6_ BK151.out) | (go_at_call 42;(with_reducible refine (Y3.calls kj18 a0_3 true _ A39.out).mono ?_);rintro e w' ⟨rfl,⟨nd,rfl⟩⟩) | (go_at_call 39;(with_reducible refine (Y0.calls kj18 (⟨#[68]⟩:ByteArray) gb159 ((rd_T63 t155 (ji16)).f1) true _ ?s1 A41.out).mono ?_);(case s1=>(with_reducible repeat (first | refine blk_drewN ?_ _ | refine blk_drew ?_ | refine blk_alloc ?_ _));exact BK159.out);rintro e w56 ⟨rfl,hb⟩;have n0_:=aM (blkB_ BK151.out hb);have n1_:=aM (blkB_ BK159.out hb);have n2_:=aM (below_step (z4_ HB.out GE151.out GE159.out) hb);clear BK151;clear BK159;clear HB;have BK151:=n0_;have BK159:=n1_;have HB:=n2_;clear n0_ n1_ n2_;(try clear hb);have ⟨hcz57_0,hcz57_1,hcz57_2,hcz57_3,hcz57_4,hcz57_5,hfz57_0,hfz57_1,hfz57_2,hfz57_3,hfz57_4,hfz57_5⟩:=cz6_ BK151.out) | (go_at_call 42;(with_reducible refine (Y3.calls kj18 a0_4 true _ A43.out).mono ?_);rintro e w' ⟨rfl,⟨nd,rfl⟩⟩))
               go_ret
               exact ⟨z9_,z4_ HB.out GE151.out GE159.out⟩
              ·replace c52:=Bool.eq_false_iff.mpr c52
               subst c52
               exact absurd (Option.some.inj (A41.out.symm.trans A51.out)) (by decide)
            ·replace c44:=Bool.eq_false_iff.mpr c44
             subst c44
             have H1:((Y0.f kj18 (⟨#[68]⟩:ByteArray) ((rd_T63 t155 (ji16)).f1)).bind fun t169=>(if t169=true then (some false) else (some (a0_4.toList == ([]:List UInt8)))))=some r:=by rw [if_neg (show ¬ (false=true) by decide)] at H;exact H
             clear H
             have H:=H1
             clear H1
             replace H:=bS H
             obtain ⟨t169,A660,H⟩:=H
             replace H:(if t169=true then (some false) else (some (a0_4.toList == ([]:List UInt8))))=some r:=H
             have A66:=aM A660
             clear A660
             by_cases c67:t169=true
             ·subst c67
              have H1:(some false)=some r:=by rw [if_pos rfl] at H;exact H
              clear H
              have H:=H1
              clear H1
              obtain rfl:=sI H
              go_wp2_with (first | (go_at_call 39;(with_reducible refine (Y0.calls kj18 (⟨#[75]⟩:ByteArray) gb159 ((rd_T63 t155 (ji16)).f1) true _ ?s1 A37.out).mono ?_);(case s1=>(with_reducible repeat (first | refine blk_drewN ?_ _ | refine blk_drew ?_ | refine blk_alloc ?_ _));exact BK159.out);rintro e w68 ⟨rfl,hb⟩;have n0_:=aM (blkB_ BK151.out hb);have n1_:=aM (blkB_ BK159.out hb);have n2_:=aM (below_step (z4_ HB.out GE151.out GE159.out) hb);clear BK151;clear BK159;clear HB;have BK151:=n0_;have BK159:=n1_;have HB:=n2_;clear n0_ n1_ n2_;(try clear hb);have hnb69:=NB151_159.out;have hnc69:=NB159_151.out;have ⟨hcz70_0,hcz70_1,hcz70_2,hcz70_3,hcz70_4,hcz70_5,hfz70_0,hfz70_1,hfz70_2,hfz70_3,hfz70_4,hfz70_5⟩:=cz6_ BK151.out) | (go_at_call 42;(with_reducible refine (Y3.calls kj18 a0_3 true _ A39.out).mono ?_);rintro e w' ⟨rfl,⟨nd,rfl⟩⟩) | (go_at_call 39;(with_reducible refine (Y0.calls kj18 (⟨#[68]⟩:ByteArray) gb159 ((rd_T63 t155 (ji16)).f1) true _ ?s1 A41.out).mono ?_);(case s1=>(with_reducible repeat (first | refine blk_drewN ?_ _ | refine blk_drew ?_ | refine blk_alloc ?_ _));exact BK159.out);rintro e w71 ⟨rfl,hb⟩;have n0_:=aM (blkB_ BK151.out hb);have n1_:=aM (blkB_ BK159.out hb);have n2_:=aM (below_step (z4_ HB.out GE151.out GE159.out) hb);clear BK151;clear BK159;clear HB;have BK151:=n0_;have BK159:=n1_;have HB:=n2_;clear n0_ n1_ n2_;(try clear hb);have ⟨hcz72_0,hcz72_1,hcz72_2,hcz72_3,hcz72_4,hcz72_5,hfz72_0,hfz72_1,hfz72_2,hfz72_3,hfz72_4,hfz72_5⟩:=cz6_ BK151.out) | (go_at_call 42;(with_reducible refine (Y3.calls kj18 a0_4 false _ A43.out).mono ?_);rintro e w' ⟨rfl,⟨nd,rfl⟩⟩))
              go_ret
              exact ⟨z9_,z4_ HB.out GE151.out GE159.out⟩
             ·replace c67:=Bool.eq_false_iff.mpr c67
              subst c67
              exact absurd (Option.some.inj (A41.out.symm.trans A66.out)) (by decide)
           ·replace c42:=Bool.eq_false_iff.mpr c42
            subst c42
            have H1:((Y0.f kj18 (⟨#[68]⟩:ByteArray) ((rd_T63 t155 (ji16)).f1)).bind fun t170=>(if t170=true then (some false) else (some (a0_4.toList == ([]:List UInt8)))))=some r:=by rw [if_neg (show ¬ (false=true) by decide)] at H;exact H
            clear H
            have H:=H1
            clear H1
            replace H:=bS H
            obtain ⟨t170,A810,H⟩:=H
            replace H:(if t170=true then (some false) else (some (a0_4.toList == ([]:List UInt8))))=some r:=H
            have A81:=aM A810
            clear A810
            by_cases c82:t170=true
            ·subst c82
             exact absurd (Option.some.inj (A81.out.symm.trans A41.out)) (by decide)
            ·replace c82:=Bool.eq_false_iff.mpr c82
             subst c82
             have H1:(some (a0_4.toList == ([]:List UInt8)))=some r:=by rw [if_neg (show ¬ (false=true) by decide)] at H;exact H
             clear H
             have H:=H1
             clear H1
             obtain rfl:=sI H
             go_wp2_with (first | (go_at_call 39;(with_reducible refine (Y0.calls kj18 (⟨#[75]⟩:ByteArray) gb159 ((rd_T63 t155 (ji16)).f1) true _ ?s1 A37.out).mono ?_);(case s1=>(with_reducible repeat (first | refine blk_drewN ?_ _ | refine blk_drew ?_ | refine blk_alloc ?_ _));exact BK159.out);rintro e w88 ⟨rfl,hb⟩;have n0_:=aM (blkB_ BK151.out hb);have n1_:=aM (blkB_ BK159.out hb);have n2_:=aM (below_step (z4_ HB.out GE151.out GE159.out) hb);clear BK151;clear BK159;clear HB;have BK151:=n0_;have BK159:=n1_;have HB:=n2_;clear n0_ n1_ n2_;(try clear hb);have hnb89:=NB151_159.out;have hnc89:=NB159_151.out;have ⟨hcz90_0,hcz90_1,hcz90_2,hcz90_3,hcz90_4,hcz90_5,hfz90_0,hfz90_1,hfz90_2,hfz90_3,hfz90_4,hfz90_5⟩:=cz6_ BK151.out) | (go_at_call 42;(with_reducible refine (Y3.calls kj18 a0_3 true _ A39.out).mono ?_);rintro e w' ⟨rfl,⟨nd,rfl⟩⟩) | (go_at_call 39;(with_reducible refine (Y0.calls kj18 (⟨#[68]⟩:ByteArray) gb159 ((rd_T63 t155 (ji16)).f1) false _ ?s1 A41.out).mono ?_);(case s1=>(with_reducible repeat (first | refine blk_drewN ?_ _ | refine blk_drew ?_ | refine blk_alloc ?_ _));exact BK159.out);rintro e w91 ⟨rfl,hb⟩;have n0_:=aM (blkB_ BK151.out hb);have n1_:=aM (blkB_ BK159.out hb);have n2_:=aM (below_step (z4_ HB.out GE151.out GE159.out) hb);clear BK151;clear BK159;clear HB;have BK151:=n0_;have BK159:=n1_;have HB:=n2_;clear n0_ n1_ n2_;(try clear hb);have ⟨hcz93_0,hcz93_1,hcz93_2,hcz93_3,hcz93_4,hcz93_5,hfz93_0,hfz93_1,hfz93_2,hfz93_3,hfz93_4,hfz93_5⟩:=cz6_ BK151.out))
             go_ret
             exact ⟨z9_,z4_ HB.out GE151.out GE159.out⟩
          ·replace c40:=Bool.eq_false_iff.mpr c40
           subst c40
           have H1:((Y0.f kj18 (⟨#[75]⟩:ByteArray) ((rd_T63 t155 (ji16)).f1)).bind fun t171=>(if t171=true then (some false) else (if a0_3.toList=([]:List UInt8) then ((Y0.f kj18 (⟨#[68]⟩:ByteArray) ((rd_T63 t155 (ji16)).f1)).bind fun t172=>(if t172=true then ((Y3.f kj18 a0_4).bind fun t173=>(if t173=true then (if (a0_4.size:Int)≤16 then (some true) else ((Y0.f kj18 (⟨#[68]⟩:ByteArray) ((rd_T63 t155 (ji16)).f1)).bind fun t174=>(if t174=true then (some false) else (some (a0_4.toList == ([]:List UInt8)))))) else ((Y0.f kj18 (⟨#[68]⟩:ByteArray) ((rd_T63 t155 (ji16)).f1)).bind fun t175=>(if t175=true then (some false) else (some (a0_4.toList == ([]:List UInt8))))))) else ((Y0.f kj18 (⟨#[68]⟩:ByteArray) ((rd_T63 t155 (ji16)).f1)).bind fun t176=>(if t176=true then (some false) else (some (a0_4.toList == ([]:List UInt8))))))) else (some false))))=some r:=by rw [if_neg (show ¬ (false=true) by decide)] at H;exact H
           clear H
           have H:=H1
           clear H1
           replace H:=bS H
           obtain ⟨t171,A940,H⟩:=H
           replace H:(if t171=true then (some false) else (if a0_3.toList=([]:List UInt8) then ((Y0.f kj18 (⟨#[68]⟩:ByteArray) ((rd_T63 t155 (ji16)).f1)).bind fun t172=>(if t172=true then ((Y3.f kj18 a0_4).bind fun t173=>(if t173=true then (if (a0_4.size:Int)≤16 then (some true) else ((Y0.f kj18 (⟨#[68]⟩:ByteArray) ((rd_T63 t155 (ji16)).f1)).bind fun t174=>(if t174=true then (some false) else (some (a0_4.toList == ([]:List UInt8)))))) else ((Y0.f kj18 (⟨#[68]⟩:ByteArray) ((rd_T63 t155 (ji16)).f1)).bind fun t175=>(if t175=true then (some false) else (some (a0_4.toList == ([]:List UInt8))))))) else ((Y0.f kj18 (⟨#[68]⟩:ByteArray) ((rd_T63 t155 (ji16)).f1)).bind fun t176=>(if t176=true then (some false) else (some (a0_4.toList == ([]:List UInt8))))))) else (some false)))=some r:=H
           have A94:=aM A940
           clear A940
           by_cases c95:t171=true
           ·subst c95
            have H1:(some false)=some r:=by rw [if_pos rfl] at H;exact H
            clear H
            have H:=H1
            clear H1
            obtain rfl:=sI H
            go_wp2_with (first | (go_at_call 39;(with_reducible refine (Y0.calls kj18 (⟨#[75]⟩:ByteArray) gb159 ((rd_T63 t155 (ji16)).f1) true _ ?s1 A37.out).mono ?_);(case s1=>(with_reducible repeat (first | refine blk_drewN ?_ _ | refine blk_drew ?_ | refine blk_alloc ?_ _));exact BK159.out);rintro e w96 ⟨rfl,hb⟩;have n0_:=aM (blkB_ BK151.out hb);have n1_:=aM (blkB_ BK159.out hb);have n2_:=aM (below_step (z4_ HB.out GE151.out GE159.out) hb);clear BK151;clear BK159;clear HB;have BK151:=n0_;have BK159:=n1_;have HB:=n2_;clear n0_ n1_ n2_;(try clear hb);have hnb97:=NB151_159.out;have hnc97:=NB159_151.out;have ⟨hcz98_0,hcz98_1,hcz98_2,hcz98_3,hcz98_4,hcz98_5,hfz98_0,hfz98_1,hfz98_2,hfz98_3,hfz98_4,hfz98_5⟩:=cz6_ BK151.out) | (go_at_call 42;(with_reducible refine (Y3.calls kj18 a0_3 false _ A39.out).mono ?_);rintro e w' ⟨rfl,⟨nd,rfl⟩⟩))
            go_ret
            exact ⟨z9_,z4_ HB.out GE151.out GE159.out⟩
           ·replace c95:=Bool.eq_false_iff.mpr c95
            subst c95
            exact absurd (Option.some.inj (A37.out.symm.trans A94.out)) (by decide)
         ·replace c38:=Bool.eq_false_iff.mpr c38
          subst c38
          have H1:((Y0.f kj18 (⟨#[75]⟩:ByteArray) ((rd_T63 t155 (ji16)).f1)).bind fun t177=>(if t177=true then (some false) else (if a0_3.toList=([]:List UInt8) then ((Y0.f kj18 (⟨#[68]⟩:ByteArray) ((rd_T63 t155 (ji16)).f1)).bind fun t178=>(if t178=true then ((Y3.f kj18 a0_4).bind fun t179=>(if t179=true then (if (a0_4.size:Int)≤16 then (some true) else ((Y0.f kj18 (⟨#[68]⟩:ByteArray) ((rd_T63 t155 (ji16)).f1)).bind fun t180=>(if t180=true then (some false) else (some (a0_4.toList == ([]:List UInt8)))))) else ((Y0.f kj18 (⟨#[68]⟩:ByteArray) ((rd_T63 t155 (ji16)).f1)).bind fun t181=>(if t181=true then (some false) else (some (a0_4.toList == ([]:List UInt8))))))) else ((Y0.f kj18 (⟨#[68]⟩:ByteArray) ((rd_T63 t155 (ji16)).f1)).bind fun t182=>(if t182=true then (some false) else (some (a0_4.toList == ([]:List UInt8))))))) else (some false))))=some r:=by rw [if_neg (show ¬ (false=true) by decide)] at H;exact H
          clear H
          have H:=H1
          clear H1
          replace H:=bS H
          obtain ⟨t177,A1730,H⟩:=H
          replace H:(if t177=true then (some false) else (if a0_3.toList=([]:List UInt8) then ((Y0.f kj18 (⟨#[68]⟩:ByteArray) ((rd_T63 t155 (ji16)).f1)).bind fun t178=>(if t178=true then ((Y3.f kj18 a0_4).bind fun t179=>(if t179=true then (if (a0_4.size:Int)≤16 then (some true) else ((Y0.f kj18 (⟨#[68]⟩:ByteArray) ((rd_T63 t155 (ji16)).f1)).bind fun t180=>(if t180=true then (some false) else (some (a0_4.toList == ([]:List UInt8)))))) else ((Y0.f kj18 (⟨#[68]⟩:ByteArray) ((rd_T63 t155 (ji16)).f1)).bind fun t181=>(if t181=true then (some false) else (some (a0_4.toList == ([]:List UInt8))))))) else ((Y0.f kj18 (⟨#[68]⟩:ByteArray) ((rd_T63 t155 (ji16)).f1)).bind fun t182=>(if t182=true then (some false) else (some (a0_4.toList == ([]:List UInt8))))))) else (some false)))=some r:=H
          have A173:=aM A1730
          clear A1730
          by_cases c174:t177=true
          ·subst c174
           exact absurd (Option.some.inj (A173.out.symm.trans A37.out)) (by decide)
          ·replace c174:=Bool.eq_false_iff.mpr c174
           subst c174
           have H1:(if a0_3.toList=([]:List UInt8) then ((Y0.f kj18 (⟨#[68]⟩:ByteArray) ((rd_T63 t155 (ji16)).f1)).bind fun t178=>(if t178=true then ((Y3.f kj18 a0_4).bind fun t179=>(if t179=true then (if (a0_4.size:Int)≤16 then (some true) else ((Y0.f kj18 (⟨#[68]⟩:ByteArray) ((rd_T63 t155 (ji16)).f1)).bind fun t180=>(if t180=true then (some false) else (some (a0_4.toList == ([]:List UInt8)))))) else ((Y0.f kj18 (⟨#[68]⟩:ByteArray) ((rd_T63 t155 (ji16)).f1)).bind fun t181=>(if t181=true then (some false) else (some (a0_4.toList == ([]:List UInt8))))))) else ((Y0.f kj18 (⟨#[68]⟩:ByteArray) ((rd_T63 t155 (ji16)).f1)).bind fun t182=>(if t182=true then (some false) else (some (a0_4.toList == ([]:List UInt8))))))) else (some false))=some r:=by rw [if_neg (show ¬ (false=true) by decide)] at H;exact H
           clear H
           have H:=H1
           clear H1
           by_cases c177:a0_3.toList=([]:List UInt8)
           ·rw [if_pos c177] at H
            have c177b0:(a0_3.toList == ([]:List UInt8))=true:=beq_iff_eq.mpr c177
            have c177b1:(a0_3.toList != ([]:List UInt8))=false:=bne_eq_false_iff_eq.mpr c177
            clear c177
            replace H:=bS H
            obtain ⟨t178,A1780,H⟩:=H
            replace H:(if t178=true then ((Y3.f kj18 a0_4).bind fun t179=>(if t179=true then (if (a0_4.size:Int)≤16 then (some true) else ((Y0.f kj18 (⟨#[68]⟩:ByteArray) ((rd_T63 t155 (ji16)).f1)).bind fun t180=>(if t180=true then (some false) else (some (a0_4.toList == ([]:List UInt8)))))) else ((Y0.f kj18 (⟨#[68]⟩:ByteArray) ((rd_T63 t155 (ji16)).f1)).bind fun t181=>(if t181=true then (some false) else (some (a0_4.toList == ([]:List UInt8))))))) else ((Y0.f kj18 (⟨#[68]⟩:ByteArray) ((rd_T63 t155 (ji16)).f1)).bind fun t182=>(if t182=true then (some false) else (some (a0_4.toList == ([]:List UInt8))))))=some r:=H
            have A178:=aM A1780
            clear A1780
            by_cases c179:t178=true
            ·subst c179
             have H1:((Y3.f kj18 a0_4).bind fun t179=>(if t179=true then (if (a0_4.size:Int)≤16 then (some true) else ((Y0.f kj18 (⟨#[68]⟩:ByteArray) ((rd_T63 t155 (ji16)).f1)).bind fun t180=>(if t180=true then (some false) else (some (a0_4.toList == ([]:List UInt8)))))) else ((Y0.f kj18 (⟨#[68]⟩:ByteArray) ((rd_T63 t155 (ji16)).f1)).bind fun t181=>(if t181=true then (some false) else (some (a0_4.toList == ([]:List UInt8)))))))=some r:=by rw [if_pos rfl] at H;exact H
             clear H
             have H:=H1
             clear H1
             replace H:=bS H
             obtain ⟨t179,A1800,H⟩:=H
             replace H:(if t179=true then (if (a0_4.size:Int)≤16 then (some true) else ((Y0.f kj18 (⟨#[68]⟩:ByteArray) ((rd_T63 t155 (ji16)).f1)).bind fun t180=>(if t180=true then (some false) else (some (a0_4.toList == ([]:List UInt8)))))) else ((Y0.f kj18 (⟨#[68]⟩:ByteArray) ((rd_T63 t155 (ji16)).f1)).bind fun t181=>(if t181=true then (some false) else (some (a0_4.toList == ([]:List UInt8))))))=some r:=H
             have A180:=aM A1800
             clear A1800
             by_cases c181:t179=true
             ·subst c181
              have H1:(if (a0_4.size:Int)≤16 then (some true) else ((Y0.f kj18 (⟨#[68]⟩:ByteArray) ((rd_T63 t155 (ji16)).f1)).bind fun t180=>(if t180=true then (some false) else (some (a0_4.toList == ([]:List UInt8))))))=some r:=by rw [if_pos rfl] at H;exact H
              clear H
              have H:=H1
              clear H1
              by_cases c182:(a0_4.size:Int)≤16
              ·rw [if_pos c182] at H
               have c182b0:decide ((a0_4.size:Int)≤16)=true:=dE c182
               have c182b1:decide (a0_4.size≤16)=true:=dE (by omega)
               clear c182
               obtain rfl:=sI H
               go_wp2_with (first | (go_at_call 39;(with_reducible refine (Y0.calls kj18 (⟨#[75]⟩:ByteArray) gb159 ((rd_T63 t155 (ji16)).f1) false _ ?s1 A37.out).mono ?_);(case s1=>(with_reducible repeat (first | refine blk_drewN ?_ _ | refine blk_drew ?_ | refine blk_alloc ?_ _));exact BK159.out);rintro e w183 ⟨rfl,hb⟩;have n0_:=aM (blkB_ BK151.out hb);have n1_:=aM (blkB_ BK159.out hb);have n2_:=aM (below_step (z4_ HB.out GE151.out GE159.out) hb);clear BK151;clear BK159;clear HB;have BK151:=n0_;have BK159:=n1_;have HB:=n2_;clear n0_ n1_ n2_;(try clear hb);have hnb185:=NB151_159.out;have hnc185:=NB159_151.out;have ⟨hcz186_0,hcz186_1,hcz186_2,hcz186_3,hcz186_4,hcz186_5,hfz186_0,hfz186_1,hfz186_2,hfz186_3,hfz186_4,hfz186_5⟩:=cz6_ BK151.out) | (go_at_call 39;(with_reducible refine (Y0.calls kj18 (⟨#[68]⟩:ByteArray) gb159 ((rd_T63 t155 (ji16)).f1) true _ ?s1 A178.out).mono ?_);(case s1=>(with_reducible repeat (first | refine blk_drewN ?_ _ | refine blk_drew ?_ | refine blk_alloc ?_ _));exact BK159.out);rintro e w187 ⟨rfl,hb⟩;have n0_:=aM (blkB_ BK151.out hb);have n1_:=aM (blkB_ BK159.out hb);have n2_:=aM (below_step (z4_ HB.out GE151.out GE159.out) hb);clear BK151;clear BK159;clear HB;have BK151:=n0_;have BK159:=n1_;have HB:=n2_;clear n0_ n1_ n2_;(try clear hb);have ⟨hcz188_0,hcz188_1,hcz188_2,hcz188_3,hcz188_4,hcz188_5,hfz188_0,hfz188_1,hfz188_2,hfz188_3,hfz188_4,hfz188_5⟩:=cz6_ BK151.out) | (go_at_call 42;(with_reducible refine (Y3.calls kj18 a0_4 true _ A180.out).mono ?_);rintro e w' ⟨rfl,⟨nd,rfl⟩⟩))
               go_ret
               exact ⟨z9_,z4_ HB.out GE151.out GE159.out⟩
              ·rw [if_neg c182] at H
               have c182b0:decide ((a0_4.size:Int)≤16)=false:=dF c182
               have c182b1:decide (a0_4.size≤16)=false:=dF (by omega)
               clear c182
               replace H:=bS H
               obtain ⟨t180,A1890,H⟩:=H
               replace H:(if t180=true then (some false) else (some (a0_4.toList == ([]:List UInt8))))=some r:=H
               have A189:=aM A1890
               clear A1890
               by_cases c190:t180=true
               ·subst c190
                have H1:(some false)=some r:=by rw [if_pos rfl] at H;exact H
                clear H
                have H:=H1
                clear H1
                obtain rfl:=sI H
                go_wp2_with (first | (go_at_call 39;(with_reducible refine (Y0.calls kj18 (⟨#[75]⟩:ByteArray) gb159 ((rd_T63 t155 (ji16)).f1) false _ ?s1 A37.out).mono ?_);(case s1=>(with_reducible repeat (first | refine blk_drewN ?_ _ | refine blk_drew ?_ | refine blk_alloc ?_ _));exact BK159.out);rintro e w191 ⟨rfl,hb⟩;have n0_:=aM (blkB_ BK151.out hb);have n1_:=aM (blkB_ BK159.out hb);have n2_:=aM (below_step (z4_ HB.out GE151.out GE159.out) hb);clear BK151;clear BK159;clear HB;have BK151:=n0_;have BK159:=n1_;have HB:=n2_;clear n0_ n1_ n2_;(try clear hb);have hnb193:=NB151_159.out;have hnc193:=NB159_151.out;have ⟨hcz194_0,hcz194_1,hcz194_2,hcz194_3,hcz194_4,hcz194_5,hfz194_0,hfz194_1,hfz194_2,hfz194_3,hfz194_4,hfz194_5⟩:=cz6_ BK151.out) | (go_at_call 39;(with_reducible refine (Y0.calls kj18 (⟨#[68]⟩:ByteArray) gb159 ((rd_T63 t155 (ji16)).f1) true _ ?s1 A178.out).mono ?_);(case s1=>(with_reducible repeat (first | refine blk_drewN ?_ _ | refine blk_drew ?_ | refine blk_alloc ?_ _));exact BK159.out);rintro e w195 ⟨rfl,hb⟩;have n0_:=aM (blkB_ BK151.out hb);have n1_:=aM (blkB_ BK159.out hb);have n2_:=aM (below_step (z4_ HB.out GE151.out GE159.out) hb);clear BK151;clear BK159;clear HB;have BK151:=n0_;have BK159:=n1_;have HB:=n2_;clear n0_ n1_ n2_;(try clear hb);have ⟨hcz196_0,hcz196_1,hcz196_2,hcz196_3,hcz196_4,hcz196_5,hfz196_0,hfz196_1,hfz196_2,hfz196_3,hfz196_4,hfz196_5⟩:=cz6_ BK151.out) | (go_at_call 42;(with_reducible refine (Y3.calls kj18 a0_4 true _ A180.out).mono ?_);rintro e w' ⟨rfl,⟨nd,rfl⟩⟩))
                go_ret
                exact ⟨z9_,z4_ HB.out GE151.out GE159.out⟩
               ·replace c190:=Bool.eq_false_iff.mpr c190
                subst c190
                exact absurd (Option.some.inj (A178.out.symm.trans A189.out)) (by decide)
             ·replace c181:=Bool.eq_false_iff.mpr c181
              subst c181
              have H1:((Y0.f kj18 (⟨#[68]⟩:ByteArray) ((rd_T63 t155 (ji16)).f1)).bind fun t181=>(if t181=true then (some false) else (some (a0_4.toList == ([]:List UInt8)))))=some r:=by rw [if_neg (show ¬ (false=true) by decide)] at H;exact H
              clear H
              have H:=H1
              clear H1
              replace H:=bS H
              obtain ⟨t181,A2060,H⟩:=H
              replace H:(if t181=true then (some false) else (some (a0_4.toList == ([]:List UInt8))))=some r:=H
              have A206:=aM A2060
              clear A2060
              by_cases c207:t181=true
              ·subst c207
               have H1:(some false)=some r:=by rw [if_pos rfl] at H;exact H
               clear H
               have H:=H1
               clear H1
               obtain rfl:=sI H
               go_wp2_with (first | (go_at_call 39;(with_reducible refine (Y0.calls kj18 (⟨#[75]⟩:ByteArray) gb159 ((rd_T63 t155 (ji16)).f1) false _ ?s1 A37.out).mono ?_);(case s1=>(with_reducible repeat (first | refine blk_drewN ?_ _ | refine blk_drew ?_ | refine blk_alloc ?_ _));exact BK159.out);rintro e w208 ⟨rfl,hb⟩;have n0_:=aM (blkB_ BK151.out hb);have n1_:=aM (blkB_ BK159.out hb);have n2_:=aM (below_step (z4_ HB.out GE151.out GE159.out) hb);clear BK151;clear BK159;clear HB;have BK151:=n0_;have BK159:=n1_;have HB:=n2_;clear n0_ n1_ n2_;(try clear hb);have hnb210:=NB151_159.out;have hnc210:=NB159_151.out;have ⟨hcz211_0,hcz211_1,hcz211_2,hcz211_3,hcz211_4,hcz211_5,hfz211_0,hfz211_1,hfz211_2,hfz211_3,hfz211_4,hfz211_5⟩:=cz6_ BK151.out) | (go_at_call 39;(with_reducible refine (Y0.calls kj18 (⟨#[68]⟩:ByteArray) gb159 ((rd_T63 t155 (ji16)).f1) true _ ?s1 A178.out).mono ?_);(case s1=>(with_reducible repeat (first | refine blk_drewN ?_ _ | refine blk_drew ?_ | refine blk_alloc ?_ _));exact BK159.out);rintro e w212 ⟨rfl,hb⟩;have n0_:=aM (blkB_ BK151.out hb);have n1_:=aM (blkB_ BK159.out hb);have n2_:=aM (below_step (z4_ HB.out GE151.out GE159.out) hb);clear BK151;clear BK159;clear HB;have BK151:=n0_;have BK159:=n1_;have HB:=n2_;clear n0_ n1_ n2_;(try clear hb);have ⟨hcz213_0,hcz213_1,hcz213_2,hcz213_3,hcz213_4,hcz213_5,hfz213_0,hfz213_1,hfz213_2,hfz213_3,hfz213_4,hfz213_5⟩:=cz6_ BK151.out) | (go_at_call 42;(with_reducible refine (Y3.calls kj18 a0_4 false _ A180.out).mono ?_);rintro e w' ⟨rfl,⟨nd,rfl⟩⟩))
               go_ret
               exact ⟨z9_,z4_ HB.out GE151.out GE159.out⟩
              ·replace c207:=Bool.eq_false_iff.mpr c207
               subst c207
               exact absurd (Option.some.inj (A178.out.symm.trans A206.out)) (by decide)
            ·replace c179:=Bool.eq_false_iff.mpr c179
             subst c179
             have H1:((Y0.f kj18 (⟨#[68]⟩:ByteArray) ((rd_T63 t155 (ji16)).f1)).bind fun t182=>(if t182=true then (some false) else (some (a0_4.toList == ([]:List UInt8)))))=some r:=by rw [if_neg (show ¬ (false=true) by decide)] at H;exact H
             clear H
             have H:=H1
             clear H1
             replace H:=bS H
             obtain ⟨t182,A2230,H⟩:=H
             replace H:(if t182=true then (some false) else (some (a0_4.toList == ([]:List UInt8))))=some r:=H
             have A223:=aM A2230
             clear A2230
             by_cases c224:t182=true
             ·subst c224
              exact absurd (Option.some.inj (A223.out.symm.trans A178.out)) (by decide)
             ·replace c224:=Bool.eq_false_iff.mpr c224
              subst c224
              have H1:(some (a0_4.toList == ([]:List UInt8)))=some r:=by rw [if_neg (show ¬ (false=true) by decide)] at H;exact H
              clear H
              have H:=H1
              clear H1
              obtain rfl:=sI H
              go_wp2_with (first | (go_at_call 39;(with_reducible refine (Y0.calls kj18 (⟨#[75]⟩:ByteArray) gb159 ((rd_T63 t155 (ji16)).f1) false _ ?s1 A37.out).mono ?_);(case s1=>(with_reducible repeat (first | refine blk_drewN ?_ _ | refine blk_drew ?_ | refine blk_alloc ?_ _));exact BK159.out);rintro e w231 ⟨rfl,hb⟩;have n0_:=aM (blkB_ BK151.out hb);have n1_:=aM (blkB_ BK159.out hb);have n2_:=aM (below_step (z4_ HB.out GE151.out GE159.out) hb);clear BK151;clear BK159;clear HB;have BK151:=n0_;have BK159:=n1_;have HB:=n2_;clear n0_ n1_ n2_;(try clear hb);have hnb233:=NB151_159.out;have hnc233:=NB159_151.out;have ⟨hcz234_0,hcz234_1,hcz234_2,hcz234_3,hcz234_4,hcz234_5,hfz234_0,hfz234_1,hfz234_2,hfz234_3,hfz234_4,hfz234_5⟩:=cz6_ BK151.out) | (go_at_call 39;(with_reducible refine (Y0.calls kj18 (⟨#[68]⟩:ByteArray) gb159 ((rd_T63 t155 (ji16)).f1) false _ ?s1 A178.out).mono ?_);(case s1=>(with_reducible repeat (first | refine blk_drewN ?_ _ | refine blk_drew ?_ | refine blk_alloc ?_ _));exact BK159.out);rintro e w235 ⟨rfl,hb⟩;have n0_:=aM (blkB_ BK151.out hb);have n1_:=aM (blkB_ BK159.out hb);have n2_:=aM (below_step (z4_ HB.out GE151.out GE159.out) hb);clear BK151;clear BK159;clear HB;have BK151:=n0_;have BK159:=n1_;have HB:=n2_;clear n0_ n1_ n2_;(try clear hb);have ⟨hcz237_0,hcz237_1,hcz237_2,hcz237_3,hcz237_4,hcz237_5,hfz237_0,hfz237_1,hfz237_2,hfz237_3,hfz237_4,hfz237_5⟩:=cz6_ BK151.out))
              go_ret
              exact ⟨z9_,z4_ HB.out GE151.out GE159.out⟩
           ·rw [if_neg c177] at H
            have c177b0:(a0_3.toList == ([]:List UInt8))=false:=beq_eq_false_iff_ne.mpr c177
            have c177b1:(a0_3.toList != ([]:List UInt8))=true:=bne_iff_ne.mpr c177
            obtain rfl:=sI H
            go_wp2_with (first | (go_at_call 39;(with_reducible refine (Y0.calls kj18 (⟨#[75]⟩:ByteArray) gb159 ((rd_T63 t155 (ji16)).f1) false _ ?s1 A37.out).mono ?_);(case s1=>(with_reducible repeat (first | refine blk_drewN ?_ _ | refine blk_drew ?_ | refine blk_alloc ?_ _));exact BK159.out);rintro e w238 ⟨rfl,hb⟩;have n0_:=aM (blkB_ BK151.out hb);have n1_:=aM (blkB_ BK159.out hb);have n2_:=aM (below_step (z4_ HB.out GE151.out GE159.out) hb);clear BK151;clear BK159;clear HB;have BK151:=n0_;have BK159:=n1_;have HB:=n2_;clear n0_ n1_ n2_;(try clear hb);have hnb240:=NB151_159.out;have hnc240:=NB159_151.out;have ⟨hcz241_0,hcz241_1,hcz241_2,hcz241_3,hcz241_4,hcz241_5,hfz241_0,hfz241_1,hfz241_2,hfz241_3,hfz241_4,hfz241_5⟩:=cz6_ BK151.out))
            go_ret
            exact ⟨z9_,z4_ HB.out GE151.out GE159.out⟩
     ·rw [if_neg c18] at H
      exact nO H
    ·rw [if_neg c17] at H
     exact nO H


/-! ### Y19: function 26 -/
section
open Go.Shelf Go.Sort
def lays173__ren:Go.Shelf.Ren:=⟨fun | 173=>45 | 246=>50 | 283=>55 | 284=>56 | 285=>57 | 286=>58 | 129=>66 | 317=>65 | 318=>67 | 319=>68 | 320=>69 | 337=>74 | 338=>75 | n=>n,fun | 2=>2 | 3=>3 | 9=>9 | 4=>4 | 171=>88 | 0=>0 | 53=>89 | 37=>51 | 5=>5 | 173=>92 | 212=>99 | 51=>100 | 20=>20 | 213=>101 | 46=>97 | 232=>110 | 233=>111 | n=>n,fun | 17=>1 | 18=>2 | 19=>3 | n=>n⟩
theorem lays173_:Go.Proofs.LaysM.n173 Tryd.prog lays173__ren:={
  mixed:=by kernel_rfl
  f129:=Tryd.func66.trans (congrArg some (by kernel_rfl))
  f173:=Tryd.func45.trans (congrArg some (by kernel_rfl))
  f246:=Tryd.func50.trans (congrArg some (by kernel_rfl))
  f283:=Tryd.func55.trans (congrArg some (by kernel_rfl))
  f284:=Tryd.func56.trans (congrArg some (by kernel_rfl))
  f285:=Tryd.func57.trans (congrArg some (by kernel_rfl))
  f286:=Tryd.func58.trans (congrArg some (by kernel_rfl))
  f317:=Tryd.func65.trans (congrArg some (by kernel_rfl))
  f318:=Tryd.func67.trans (congrArg some (by kernel_rfl))
  f319:=Tryd.func68.trans (congrArg some (by kernel_rfl))
  f320:=Tryd.func69.trans (congrArg some (by kernel_rfl))
  f337:=Tryd.func74.trans (congrArg some (by kernel_rfl))
  f338:=Tryd.func75.trans (congrArg some (by kernel_rfl))
  t0:=Tryd.underlying0
  a0:=Tryd.isAgg0
  z0:=Tryd.sizeOf0
  v0:=Tryd.zeroValue0
  t2:=Tryd.underlying2
  a2:=Tryd.isAgg2
  z2:=Tryd.sizeOf2
  v2:=Tryd.zeroValue2
  t3:=Tryd.underlying3
  a3:=Tryd.isAgg3
  z3:=Tryd.sizeOf3
  v3:=Tryd.zeroValue3
  t4:=Tryd.underlying4
  a4:=Tryd.isAgg4
  z4:=Tryd.sizeOf4
  v4:=Tryd.zeroValue4
  t5:=Tryd.underlying5
  a5:=Tryd.isAgg5
  z5:=Tryd.sizeOf5
  v5:=Tryd.zeroValue5
  t9:=Tryd.underlying9
  a9:=Tryd.isAgg9
  z9:=Tryd.sizeOf9
  v9:=Tryd.zeroValue9
  t20:=Tryd.underlying20
  a20:=Tryd.isAgg20
  z20:=Tryd.sizeOf20
  v20:=Tryd.zeroValue20
  t37:=Tryd.underlying51
  a37:=Tryd.isAgg51
  z37:=Tryd.sizeOf51
  v37:=Tryd.zeroValue51
  t46:=Tryd.underlying97
  a46:=Tryd.isAgg97
  z46:=Tryd.sizeOf97
  v46:=Tryd.zeroValue97
  t51:=Tryd.underlying100
  a51:=Tryd.isAgg100
  z51:=Tryd.sizeOf100
  v51:=Tryd.zeroValue100
  t53:=Tryd.underlying89
  a53:=Tryd.isAgg89
  z53:=Tryd.sizeOf89
  v53:=Tryd.zeroValue89
  t171:=Tryd.underlying88
  a171:=Tryd.isAgg88
  z171:=Tryd.sizeOf88
  v171:=Tryd.zeroValue88
  t173:=Tryd.underlying92
  a173:=Tryd.isAgg92
  z173:=Tryd.sizeOf92
  v173:=Tryd.zeroValue92
  t212:=Tryd.underlying99
  a212:=Tryd.isAgg99
  z212:=Tryd.sizeOf99
  v212:=Tryd.zeroValue99
  t213:=Tryd.underlying101
  a213:=Tryd.isAgg101
  z213:=Tryd.sizeOf101
  t232:=Tryd.underlying110
  a232:=Tryd.isAgg110
  z232:=Tryd.sizeOf110
  v232:=Tryd.zeroValue110
  t233:=Tryd.underlying111
  a233:=Tryd.isAgg111
  z233:=Tryd.sizeOf111
  v233:=Tryd.zeroValue111
  g17:=by kernel_rfl
  g18:=by kernel_rfl
  g19:=by kernel_rfl
  i0:=by kernel_rfl
  i2:=by kernel_rfl
  i3:=by kernel_rfl
  i4:=by kernel_rfl
  i5:=by kernel_rfl
  i9:=by kernel_rfl
  i20:=by kernel_rfl
  i37:=by kernel_rfl
  i46:=by kernel_rfl
  i51:=by kernel_rfl
  i53:=by kernel_rfl
  i171:=by kernel_rfl
  i173:=by kernel_rfl
  i212:=by kernel_rfl
  i232:=by kernel_rfl
  i233:=by kernel_rfl
  m17:=by kernel_rfl
  m18:=by kernel_rfl
  m19:=by kernel_rfl }
theorem below_grown_ (w:World) (q:Nat) (os:Array Obj):Below w.heap.size w (grow (w.drewN q) os) :=
 ⟨rfl,rfl,rfl,by first | (simp [grow];done) | (simp [grow];omega),fun i hi=>by
  show ((w.drewN q).heap ++ os)[i]? = _
  rw [Array.getElem?_append_left (by show i<w.heap.size;omega)]
  rfl⟩
abbrev Tab_ (w:World):Prop:=Lib.TabIs Tryd.prog w "internal/strconv.uint64pow10" .u64 Lib.pow10Tab
theorem tab_below {w w':World} (h:Tab_ w) (hb:Below w.heap.size w w'):Tab_ w':=Go.Proofs.TabIs_below (g:=1) (by kernel_rfl) h hb
def I64_ (n:Int):Prop := -9223372036854775808≤n∧n≤9223372036854775807
instance (n:Int):Decidable (I64_ n):=by unfold I64_;exact inferInstance
def Y19.f (a0:Int):Option ByteArray:=if I64_ a0 then some ⟨(Lib.itoa a0).toArray⟩ else none
set_option maxHeartbeats 1000000 in
theorem Y19.calls (a0:Int) (r:ByteArray) (w:World) (h:Y19.f a0=some r) (htab:Tab_ w) :
  Calls Tryd.prog 26 #[.int .i64 a0] w fun e w'=>e = .returned (.string r)∧Below w.heap.size w w':=by
 unfold Y19.f at h
 by_cases hn:I64_ a0
 case neg=>rw [if_neg hn] at h;cases h
 rw [if_pos hn] at h
 obtain rfl:=Option.some.inj h
 clear h
 go_enter Tryd.func26,Tryd.ntmps26
 go_wp2_with (first | ((with_reducible refine gc_ 45 ?_);refine goesL_ (some 4) rfl rfl Tryd.func45 (by kernel_rfl) rfl #[.int .i64 a0,.int .i64 10] rfl (z14_) ?_;refine (Go.Proofs.Any.strconv_FormatInt_10 lays173_ a0 hn.1 hn.2 _ htab).mono ?_;rintro e w' ⟨rfl,k,os,rfl⟩;refine ⟨_,rfl,?_⟩))
 go_ret
 exact ⟨rfl,below_grown_ _ _ _⟩

end


/-! ### Y11: function 19 -/
def Y11.g (a1 a2:Int) (a3 a4:ByteArray):List UInt8→ByteArray→Option ByteArray
 | [],o=>some o
 | c :: cs,o=>(if c=65 then Y19.f a1 else if c=66 then Y19.f a2 else if c=75 then some a3 else some a4).bind fun d=>if 1+d.size≤9223372036854775807 then (if o.size+(1+d.size)≤9223372036854775807 then Y11.g a1 a2 a3 a4 cs (o ++ ((⟨#[32]⟩:ByteArray) ++ d)) else none) else none
def Y11.s (a5:Int) (x:ByteArray):Option ByteArray:=if a5=(-1) then some x else ((Y19.f a5).bind fun d=>(if 1+d.size≤9223372036854775807 then (if (1+d.size)+1≤9223372036854775807 then (if ((1+d.size)+1)+x.size≤9223372036854775807 then (some ((((⟨#[33]⟩:ByteArray) ++ d) ++ (⟨#[32]⟩:ByteArray)) ++ x)) else none) else none) else none))
def Y11.f (a0_0:Int) (a0_1:Int) (a0_2:Int) (a0_3:ByteArray) (a0_4:ByteArray) (a0_5:Int):Option ByteArray:=(Y18.f).bind fun t187=>(if 0≤(wrap64 (a0_0-1)) then (if (wrap64 (a0_0-1))<(t187.length:Int) then (if (∀ b ∈ ((rd_T63 t187 (wrap64 (a0_0-1))).f1).data.toList,b.toNat<128) then ((Y11.s a0_5 ((rd_T63 t187 (wrap64 (a0_0-1))).f0)).bind fun x=>Y11.g a0_1 a0_2 a0_3 a0_4 ((rd_T63 t187 (wrap64 (a0_0-1))).f1).data.toList x) else none) else none) else none)
def Y11.T1:Bool × List (List Nat × List Nat):=(true,[([],[]),([],[]),([1],[1]),([2],[2]),([0,3],[0,3]),([4],[4]),([],[]),([6,5,0,0,1,2,3,4,5,6],[5,6])])
def Y11.B1:List Nat:=[0,0,2,6,15,31,0,127]
theorem Y11.tab1:rtab .any (opsOf Tryd.f19 1)=Y11.T1:=by kernel_rfl
theorem Y11.bits1:waitsOk Y11.T1.2 Y11.B1=true:=by kernel_rfl
theorem Y11.calls (a0_0:Int) (a0_1:Int) (a0_2:Int) (a0_3:ByteArray) (a0_4:ByteArray) (a0_5:Int) (r:ByteArray) (w:World) (h:Y11.f a0_0 a0_1 a0_2 a0_3 a0_4 a0_5=some r) (htab:Tab_ w) :
  Calls Tryd.prog 19 #[.agg #[.int .i64 a0_0,.int .i64 a0_1,.int .i64 a0_2,.string a0_3,.string a0_4,.int .i64 a0_5]] w fun e w'=>e = .returned (.string r)∧Below w.heap.size w w':=by
 have hu26:=Tryd.underlying26
 have hu63:=Tryd.underlying63
 have hu9:=Tryd.underlying9
 have HB:=aM (Below.refl w.heap.size w)
 unfold Y11.f at h
 obtain ⟨t187,A20,H⟩:=Option.bind_eq_some_iff.mp h
 clear h
 have A2:=aM A20
 clear A20
 obtain ⟨ji3,hji3⟩:∃ j_:Int,(wrap64 (a0_0-1))=j_:=⟨_,rfl⟩
 rw [hji3] at H
 have hji3w:(IntKind.i64.wrap (a0_0-1))=ji3:=(i64_w _).trans hji3
 by_cases c4:0≤(ji3)
 case neg=>rw [if_neg c4] at H;cases H
 rw [if_pos c4] at H
 by_cases c5:(ji3)<(t187.length:Int)
 case neg=>rw [if_neg c5] at H;cases H
 rw [if_pos c5] at H
 by_cases c6:∀ b ∈ (((rd_T63 t187 (ji3)).f1)).data.toList,b.toNat<128
 case neg=>rw [if_neg c6] at H;cases H
 rw [if_pos c6] at H
 obtain ⟨x0,AX0,AG0⟩:=bS H
 clear H
 have AS:=aM c6
 have AX:=aM AX0
 have AG:=aM AG0
 clear c6 AX0 AG0
 go_enter Tryd.func19,Tryd.ntmps19
 go_upto_region 1 with (first | ((with_reducible refine gd_ 1 ?_);(try (refine gate_guard (by rfl) ?_;dsimp only));refine be_ 1 #[.int .i64 a0_0,.int .i64 a0_1,.int .i64 a0_2,.string a0_3,.string a0_4,.int .i64 a0_5] 26 ?_;intro gb186 hg w7 hbox hb;have n0_:=aM (below_step HB.out hb);have n1_:=aM (hbox);have n2_:=aM ((by rw [hg];exact Nat.le_refl _):w.heap.size≤gb186);clear HB;have HB:=n0_;have BK186:=n1_;have GE186:=n2_;clear n0_ n1_ n2_;clear hb hbox hg))
 (try simp only [Act.put,sa_,s0_,ss_])
 go_cut [3] (fun v3 wc=>∃ (gf:Nat),v3 = .pointer (some ⟨gf,0,none⟩)∧Aside0 (wc.heap[gb186]? = some (.cells #[.int .i64 a0_0,.int .i64 a0_1,.int .i64 a0_2,.string a0_3,.string a0_4,.int .i64 a0_5] 26 (0,0)))∧Aside0 (wc.heap[gf]? = some (.cells #[.string ((rd_T63 t187 (ji3)).f0),.string ((rd_T63 t187 (ji3)).f1)] 63 (0,0)))∧Aside0 (Below w.heap.size w wc))
 case first=>as_aux_lemma =>
  clear AX AG AS
  have n0_:=aM (blk_drew BK186.out)
  have n1_:=aM (below_drew1 HB.out)
  clear BK186 HB
  have BK186:=n0_
  have HB:=n1_
  clear n0_ n1_
  refine start_ (n:=8) (S:=fun w'=>w'.cell? ⟨gb186,0,none⟩=some (.int .i64 a0_0)) (ds:=[]) #[O,O,O,O,O,O,O,O] (by kernel_rfl) rfl rfl ((blk_cell BK186.out 0).trans rfl) (fun hHeld=>?_);refine with_tabW Y11.tab1 Y11.bits1 (fun HT_ HW_=>?_)
  generalize w7.drew=w8 at BK186 HB hHeld ⊢
  refine pu_ 1 8 #[O,I,O,O,O,O,O,O] HT_.out ?_
  refine take_ (i:=2) (N:=some 9) (v:=?_) (a':=?_) #[O,I,I,O,O,O,O,O] rfl rfl (take_ofW HT_.out HW_.out (by kernel_rfl)) (fun _ _ _ h=>h) (Or.inl ⟨by rfl,?_⟩) hHeld ?_ ?_
  rotate_left
  ·rintro w' s0
   go_simp
   with_reducible rfl
  rotate_left
  ·simp only [Act.put,sa_,s0_,ss_,i64_w,i32_w]
   rfl
  refine pu_ 3 10 #[O,I,I,I,O,O,O,O] HT_.out ?_
  refine o2_ 0 6 7 3 #[I,I,I,I,O,O,O,O] #[O,I,I,I,O,O,I,O] HT_.out (fun K hK=>?_) (fun K hK=>?_)
  ·skip
   refine gs_ Tryd.func38 #[] ?_
   with_reducible refine (Y18.calls  t187 _ A2.out).mono ?_
   rintro e w9 ⟨v188,rfl,ho0,hb⟩
   refine ⟨_,rfl,?_⟩
   have n1_:=aM (blk_below BK186.out hb)
   have n2_:=aM (below_step HB.out hb)
   clear BK186 HB hHeld
   have BK186:=n1_
   have HB:=n2_
   clear n1_ n2_ hb
   obtain ⟨Ao10,co10,eo10⟩:=Kd.R_slice ho0
   (first | subst eo10 | (injection eo10 with f1_ f2_ f3_;have f4_:=f1_.symm;have f5_:=f3_.symm;clear f1_ f2_ f3_;subst f4_;subst f5_))
   have p190:=c4
   have q190:=c5
   obtain ⟨ad190,e190,hx190_0,hx190_1⟩:=at_T63 (Kd.R_reads' ho0).2.2 (ji3) p190 q190
   cases e190
   replace p190:=eq_true p190
   replace q190:=eq_true q190
   clear ho0
   refine hK.out _ _ ((blk_cell BK186.out 0).trans rfl) (fun hHeld=>?_)
   clear hK K
   refine nm_ 7 ?_
   refine pu_ 4 11 #[I,I,I,I,I,O,O,O] HT_.out ?_
   refine o2_ 5 6 12 3 #[I,I,I,I,I,I,O,O] #[I,I,I,I,I,O,I,O] HT_.out (fun K hK=>?_) (fun K hK=>?_)
   ·skip
    refine value_ (w1:=w9) (v:=.agg #[.string ((rd_T63 t187 (ji3)).f0),.string ((rd_T63 t187 (ji3)).f1)]) (by rfl) rfl ?_ ?_
    ·go_simp
    refine hK.out _ _ ((blk_cell BK186.out 0).trans rfl) (fun hHeld=>?_)
    clear hK K
    refine nm_ 12 ?_
    refine o1_ 6 3 #[I,I,I,I,I,I,I,O] HT_.out (fun K hK=>?_)
    refine bs_ 3 #[.string (⟨#[]⟩:ByteArray),.string (⟨#[]⟩:ByteArray)] 63 ?_
    intro gf hg w10 hbox hb
    have n1_:=aM (blk_below BK186.out hb)
    have n2_:=aM (below_step HB.out hb)
    have GEF:=aM ((by rw [hg];exact below_size HB.out):w.heap.size≤gf)
    have NEF:=aM ((by rw [hg];exact Nat.ne_of_lt (blk_lt BK186.out)):gb186≠gf)
    have BKF:=aM hbox
    clear BK186 HB hHeld hb hbox hg
    have BK186:=n1_
    have HB:=n2_
    clear n1_ n2_
    refine hK.out _ _ ((blk_cell BK186.out 0).trans rfl) (fun hHeld=>?_)
    clear hK K
    refine nm_ 3 ?_
    refine one_ (i:=7) (N:=none) #[I,I,I,I,I,I,I,I] rfl rfl (one_of HT_.out (by kernel_rfl)) (by decide) (fun K hK=>?_)
    have hs12:w10.cell? ⟨gf,0,none⟩=some (.string (⟨#[]⟩:ByteArray)):=(blk_cell BKF.out 0).trans rfl
    have hfs12:=blk_frozen BKF.out 0
    have hs13:w10.cell? ⟨gf,1,none⟩=some (.string (⟨#[]⟩:ByteArray)):=(blk_cell BKF.out 1).trans rfl
    have hfs13:=blk_frozen BKF.out 1
    refine skip_ (w1:=?_) (by rfl) rfl ?_ ?_
    rotate_left
    ·go_simp
     rfl
    refine hK.out _ _ ((cell_far (p:=⟨gf,_,none⟩) NEF.out _).trans ((cell_far (p:=⟨gf,_,none⟩) NEF.out _).trans hHeld)) (fun hHeld=>?_)
    clear hK K
    refine done_ (done_of HT_.out (by kernel_rfl)) ?_
    try go_wp2
    go_meet
    case rel=>exact ⟨gf,rfl,⟨blk_far (blk_far BK186.out NEF.out _) NEF.out _⟩,⟨blk_put (cs':=#[.string ((rd_T63 t187 (ji3)).f0),.string ((rd_T63 t187 (ji3)).f1)]) (blk_put (cs':=#[.string ((rd_T63 t187 (ji3)).f0),.string (⟨#[]⟩:ByteArray)]) BKF.out 0 _ rfl) 1 _ rfl⟩,⟨below_set (below_set HB.out GEF.out) GEF.out⟩⟩
   ·skip
    refine bs_ 3 #[.string (⟨#[]⟩:ByteArray),.string (⟨#[]⟩:ByteArray)] 63 ?_
    intro gf hg w10 hbox hb
    have n1_:=aM (blk_below BK186.out hb)
    have n2_:=aM (below_step HB.out hb)
    have GEF:=aM ((by rw [hg];exact below_size HB.out):w.heap.size≤gf)
    have NEF:=aM ((by rw [hg];exact Nat.ne_of_lt (blk_lt BK186.out)):gb186≠gf)
    have BKF:=aM hbox
    have hy190_0:=(hb.cell (World.block_lt_of_cell? _ _ hx190_0)).trans hx190_0
    have hy190_1:=(hb.cell (World.block_lt_of_cell? _ _ hx190_1)).trans hx190_1
    clear hx190_0 hx190_1
    have hx190_0:=hy190_0
    have hx190_1:=hy190_1
    clear hy190_0 hy190_1
    clear BK186 HB hHeld hb hbox hg
    have BK186:=n1_
    have HB:=n2_
    clear n1_ n2_
    refine hK.out _ _ ((blk_cell BK186.out 0).trans rfl) (fun hHeld=>?_)
    clear hK K
    refine nm_ 3 ?_
    refine o1_ 5 12 #[I,I,I,I,I,I,I,O] HT_.out (fun K hK=>?_)
    refine value_ (w1:=w10) (v:=.agg #[.string ((rd_T63 t187 (ji3)).f0),.string ((rd_T63 t187 (ji3)).f1)]) (by rfl) rfl ?_ ?_
    ·go_simp
    refine hK.out _ _ ((blk_cell BK186.out 0).trans rfl) (fun hHeld=>?_)
    clear hK K
    refine nm_ 12 ?_
    refine one_ (i:=7) (N:=none) #[I,I,I,I,I,I,I,I] rfl rfl (one_of HT_.out (by kernel_rfl)) (by decide) (fun K hK=>?_)
    have hs12:w10.cell? ⟨gf,0,none⟩=some (.string (⟨#[]⟩:ByteArray)):=(blk_cell BKF.out 0).trans rfl
    have hfs12:=blk_frozen BKF.out 0
    have hs13:w10.cell? ⟨gf,1,none⟩=some (.string (⟨#[]⟩:ByteArray)):=(blk_cell BKF.out 1).trans rfl
    have hfs13:=blk_frozen BKF.out 1
    refine skip_ (w1:=?_) (by rfl) rfl ?_ ?_
    rotate_left
    ·go_simp
     rfl
    refine hK.out _ _ ((cell_far (p:=⟨gf,_,none⟩) NEF.out _).trans ((cell_far (p:=⟨gf,_,none⟩) NEF.out _).trans hHeld)) (fun hHeld=>?_)
    clear hK K
    refine done_ (done_of HT_.out (by kernel_rfl)) ?_
    try go_wp2
    go_meet
    case rel=>exact ⟨gf,rfl,⟨blk_far (blk_far BK186.out NEF.out _) NEF.out _⟩,⟨blk_put (cs':=#[.string ((rd_T63 t187 (ji3)).f0),.string ((rd_T63 t187 (ji3)).f1)]) (blk_put (cs':=#[.string ((rd_T63 t187 (ji3)).f0),.string (⟨#[]⟩:ByteArray)]) BKF.out 0 _ rfl) 1 _ rfl⟩,⟨below_set (below_set HB.out GEF.out) GEF.out⟩⟩
  ·skip
   refine bs_ 3 #[.string (⟨#[]⟩:ByteArray),.string (⟨#[]⟩:ByteArray)] 63 ?_
   intro gf hg w9 hbox hb
   have n1_:=aM (blk_below BK186.out hb)
   have n2_:=aM (below_step HB.out hb)
   have GEF:=aM ((by rw [hg];exact below_size HB.out):w.heap.size≤gf)
   have NEF:=aM ((by rw [hg];exact Nat.ne_of_lt (blk_lt BK186.out)):gb186≠gf)
   have BKF:=aM hbox
   clear BK186 HB hHeld hb hbox hg
   have BK186:=n1_
   have HB:=n2_
   clear n1_ n2_
   refine hK.out _ _ ((blk_cell BK186.out 0).trans rfl) (fun hHeld=>?_)
   clear hK K
   refine nm_ 3 ?_
   refine o1_ 0 7 #[I,I,I,I,O,O,I,O] HT_.out (fun K hK=>?_)
   refine gs_ Tryd.func38 #[] ?_
   with_reducible refine (Y18.calls  t187 _ A2.out).mono ?_
   rintro e w10 ⟨v188,rfl,ho0,hb⟩
   refine ⟨_,rfl,?_⟩
   have n1_:=aM (blk_below BK186.out hb)
   have n2_:=aM (below_step HB.out hb)
   have n3_:=aM (blk_below BKF.out hb)
   clear BKF
   have BKF:=n3_
   clear BK186 HB hHeld
   have BK186:=n1_
   have HB:=n2_
   clear n1_ n2_ hb
   obtain ⟨Ao10,co10,eo10⟩:=Kd.R_slice ho0
   (first | subst eo10 | (injection eo10 with f1_ f2_ f3_;have f4_:=f1_.symm;have f5_:=f3_.symm;clear f1_ f2_ f3_;subst f4_;subst f5_))
   have p190:=c4
   have q190:=c5
   obtain ⟨ad190,e190,hx190_0,hx190_1⟩:=at_T63 (Kd.R_reads' ho0).2.2 (ji3) p190 q190
   cases e190
   replace p190:=eq_true p190
   replace q190:=eq_true q190
   clear ho0
   refine hK.out _ _ ((blk_cell BK186.out 0).trans rfl) (fun hHeld=>?_)
   clear hK K
   refine nm_ 7 ?_
   refine pu_ 4 11 #[I,I,I,I,I,O,I,O] HT_.out ?_
   refine o1_ 5 12 #[I,I,I,I,I,I,I,O] HT_.out (fun K hK=>?_)
   refine value_ (w1:=w10) (v:=.agg #[.string ((rd_T63 t187 (ji3)).f0),.string ((rd_T63 t187 (ji3)).f1)]) (by rfl) rfl ?_ ?_
   ·go_simp
   refine hK.out _ _ ((blk_cell BK186.out 0).trans rfl) (fun hHeld=>?_)
   clear hK K
   refine nm_ 12 ?_
   refine one_ (i:=7) (N:=none) #[I,I,I,I,I,I,I,I] rfl rfl (one_of HT_.out (by kernel_rfl)) (by decide) (fun K hK=>?_)
   have hs12:w10.cell? ⟨gf,0,none⟩=some (.string (⟨#[]⟩:ByteArray)):=(blk_cell BKF.out 0).trans rfl
   have hfs12:=blk_frozen BKF.out 0
   have hs13:w10.cell? ⟨gf,1,none⟩=some (.string (⟨#[]⟩:ByteArray)):=(blk_cell BKF.out 1).trans rfl
   have hfs13:=blk_frozen BKF.out 1
   refine skip_ (w1:=?_) (by rfl) rfl ?_ ?_
   rotate_left
   ·go_simp
    rfl
   refine hK.out _ _ ((cell_far (p:=⟨gf,_,none⟩) NEF.out _).trans ((cell_far (p:=⟨gf,_,none⟩) NEF.out _).trans hHeld)) (fun hHeld=>?_)
   clear hK K
   refine done_ (done_of HT_.out (by kernel_rfl)) ?_
   try go_wp2
   go_meet
   case rel=>exact ⟨gf,rfl,⟨blk_far (blk_far BK186.out NEF.out _) NEF.out _⟩,⟨blk_put (cs':=#[.string ((rd_T63 t187 (ji3)).f0),.string ((rd_T63 t187 (ji3)).f1)]) (blk_put (cs':=#[.string ((rd_T63 t187 (ji3)).f0),.string (⟨#[]⟩:ByteArray)]) BKF.out 0 _ rfl) 1 _ rfl⟩,⟨below_set (below_set HB.out GEF.out) GEF.out⟩⟩
 case rest=>as_aux_lemma =>
  obtain ⟨gf,rfl,BK186',BKF,HB'⟩:=hcut
  clear A2 HB BK186
  have BK186:=BK186'
  have HB:=HB'
  clear BK186' HB'
  have hcz_0:wc.cell? ⟨gf,0,none⟩=some (.string ((rd_T63 t187 (ji3)).f0)):=(blk_cell BKF.out 0).trans rfl
  have hfz_0:=blk_frozen BKF.out 0
  have hcy_5:wc.cell? ⟨gb186,5,none⟩=some (.int .i64 a0_5):=(blk_cell BK186.out 5).trans rfl
  have hfy_5:=blk_frozen BK186.out 5
  go_upto_if 17 with (fail)
  go_cut [4] (fun v4 wd=>v4 = .string x0∧Aside0 (wd.heap[gb186]? = some (.cells #[.int .i64 a0_0,.int .i64 a0_1,.int .i64 a0_2,.string a0_3,.string a0_4,.int .i64 a0_5] 26 (0,0)))∧Aside0 (wd.heap[gf]? = some (.cells #[.string ((rd_T63 t187 (ji3)).f0),.string ((rd_T63 t187 (ji3)).f1)] 63 (0,0)))∧Aside0 (Below w.heap.size w wd))
  case first=>as_aux_lemma =>
   clear AG AS
   have HX:=AX.out
   clear AX
   unfold Y11.s at HX
   by_cases c7:a0_5=(-1)
   ·rw [if_pos c7] at HX
    have c7b0:(a0_5 == (-1))=true:=beq_iff_eq.mpr c7
    have c7b1:(a0_5 != (-1))=false:=bne_eq_false_iff_eq.mpr c7
    have HX':=sI HX
    subst HX'
    clear c7 HX
    (first | rw [c7b1] | skip)
    go_wp2
    go_meet
    case rel=>exact ⟨rfl,BK186,BKF,HB⟩
   ·rw [if_neg c7] at HX
    have c7b0:(a0_5 == (-1))=false:=beq_eq_false_iff_ne.mpr c7
    have c7b1:(a0_5 != (-1))=true:=bne_iff_ne.mpr c7
    obtain ⟨d,Ad,HX⟩:=bS HX
    replace HX:(if 1+d.size≤9223372036854775807 then (if (1+d.size)+1≤9223372036854775807 then (if ((1+d.size)+1)+(((rd_T63 t187 (ji3)).f0)).size≤9223372036854775807 then (some ((((⟨#[33]⟩:ByteArray) ++ d) ++ (⟨#[32]⟩:ByteArray)) ++ (((rd_T63 t187 (ji3)).f0)))) else none) else none) else none)=some x0:=HX
    by_cases s0_:1+d.size≤9223372036854775807
    case neg=>rw [if_neg s0_] at HX;cases HX
    rw [if_pos s0_] at HX
    have s0b0:=eq_true s0_
    have s0b1:decide (1+d.size≤9223372036854775807)=true:=dE s0_
    have s0b2:(9223372036854775807<1+d.size)=False:=eq_false (Nat.not_lt.2 s0_)
    by_cases s1_:(1+d.size)+1≤9223372036854775807
    case neg=>rw [if_neg s1_] at HX;cases HX
    rw [if_pos s1_] at HX
    have s1b0:=eq_true s1_
    have s1b1:decide ((1+d.size)+1≤9223372036854775807)=true:=dE s1_
    have s1b2:(9223372036854775807<(1+d.size)+1)=False:=eq_false (Nat.not_lt.2 s1_)
    by_cases s2_:((1+d.size)+1)+(((rd_T63 t187 (ji3)).f0)).size≤9223372036854775807
    case neg=>rw [if_neg s2_] at HX;cases HX
    rw [if_pos s2_] at HX
    have s2b0:=eq_true s2_
    have s2b1:decide (((1+d.size)+1)+(((rd_T63 t187 (ji3)).f0)).size≤9223372036854775807)=true:=dE s2_
    have s2b2:(9223372036854775807<((1+d.size)+1)+(((rd_T63 t187 (ji3)).f0)).size)=False:=eq_false (Nat.not_lt.2 s2_)
    have HX':=sI HX
    subst HX'
    clear HX
    (first | rw [c7b1] | skip)
    go_wp2_with (first | ((with_reducible refine gc_ 26 ?_);refine goesL_ (some 20) rfl rfl Tryd.func26 (by kernel_rfl) rfl #[.int .i64 a0_5] rfl (z14_) ?_;(with_reducible refine (Y19.calls a0_5 d _ Ad (tab_below htab HB.out)).mono ?_);rintro e w_ ⟨rfl,hb⟩;refine ⟨_,rfl,?_⟩;have n1_:=aM (blk_below BK186.out hb);have n2_:=aM (below_step HB.out hb);have n3_:=aM (blk_below BKF.out hb);clear BK186 HB BKF;have BK186:=n1_;have HB:=n2_;have BKF:=n3_;clear n1_ n2_ n3_ hb))
    go_meet
    case rel=>exact ⟨rfl,BK186,BKF,HB⟩
  case rest=>as_aux_lemma =>
   obtain ⟨rfl,BK186',BKF',HB'⟩:=hcut
   clear AX BK186 BKF HB hcz_0 hfz_0 hcy_5 hfy_5
   have BK186:=BK186'
   have HB:=HB'
   clear BK186' HB'
   have hcz_1:wc.cell? ⟨gf,1,none⟩=some (.string ((rd_T63 t187 (ji3)).f1)):=(blk_cell BKF'.out 1).trans rfl
   have hfz_1:=blk_frozen BKF'.out 1
   go_wp2
   go_loopg [4] ((((rd_T63 t187 (ji3)).f1)).size+1) (fun kq v4 w'=>∃ (pos:Nat) (o_:ByteArray),v4 = .string o_∧Aside0 (Y11.g a0_1 a0_2 a0_3 a0_4 ((((rd_T63 t187 (ji3)).f1)).data.toList.drop pos) o_=some r)∧Aside0 ((((rd_T63 t187 (ji3)).f1)).size<pos+kq)∧Aside0 (kq≤(((rd_T63 t187 (ji3)).f1)).size+1)∧Aside0 (w'.heap[wc.heap.size]? = some (.stringIter (((rd_T63 t187 (ji3)).f1)) pos))∧Aside0 (w'.heap[gb186]? = some (.cells #[.int .i64 a0_0,.int .i64 a0_1,.int .i64 a0_2,.string a0_3,.string a0_4,.int .i64 a0_5] 26 (0,0)))∧Aside0 (Below w.heap.size w w'))
   case atStart=>exact ⟨0,x0,rfl,⟨by rw [List.drop_zero];exact AG.out⟩,⟨by omega⟩,⟨Nat.le_refl _⟩,⟨World.iter_heap _ _ _⟩,⟨blk_alloc BK186.out _⟩,⟨below_alloc HB.out _⟩⟩
   case round =>
    have HGI:=aM (below_size HB.out)
    have HNE:=aM (Nat.ne_of_lt (blk_lt BK186.out))
    clear AG BK186 BKF' hcz_1 hfz_1 HB
    obtain ⟨pos,o_,rfl,HA,HK,HK1,HI,BK186,HB⟩:=hrel
    obtain ⟨gi,hgi⟩:∃ g_,wc.heap.size=g_:=⟨_,rfl⟩
    simp only [hgi] at *
    obtain ⟨F1,hF1⟩:∃ x_,((rd_T63 t187 (ji3)).f1)=x_:=⟨_,rfl⟩
    rw [hF1] at HA HK HK1 HI AS
    by_cases hp:pos<F1.size
    case neg =>
     have hnx:∀ ty,(Instr.next (.pointer (some ⟨gi,0,none⟩)) true ty).run Tryd.prog wr = .ok (.tuple #[.bool false]) wr:=fun ty=>Lib.run_next_end_at wr gi F1 pos ty HI.out hp
     have hd:F1.data.toList.drop pos=[]:=List.drop_eq_nil_iff.2 (by have:F1.data.toList.length=F1.size:=rfl;omega)
     have HA':=HA.out
     rw [hd] at HA'
     simp only [Y11.g] at HA'
     have HA2:=sI HA'
     subst HA2
     clear HA HA'
     go_wp2
     go_ret
     exact ⟨rfl,HB.out⟩
    cases gk with
    | zero=>exact absurd HK.out (by omega)
    | succ k1 =>
     have hlen:F1.data.toList.length=F1.size:=rfl
     have hd:F1.data.toList.drop pos=F1[pos] :: F1.data.toList.drop (pos+1):=List.drop_eq_getElem_cons (by omega)
     have hb0:(F1[pos]).toNat<128:=AS.out _ (List.mem_of_mem_drop (i:=pos) (by rw [hd];exact List.mem_cons_self ..))
     have hnx:∀ ty,(Instr.next (.pointer (some ⟨gi,0,none⟩)) true ty).run Tryd.prog wr=_:=fun ty=>Lib.run_next_ascii_at wr gi F1 pos ty HI.out hp hb0
     have HA':=HA.out
     rw [hd] at HA'
     clear HA hd hb0
     have HI2:=aM (Lib.iterAt_heap wr gi F1 pos (pos+1) HI.out)
     have BK2:=aM ((Lib.iterAt_other wr gi gb186 F1 (pos+1) HNE.out).trans BK186.out)
     have HB2:=aM (Lib.below_iterAt HB.out HGI.out F1 (pos+1))
     clear HI BK186 HB
     generalize wr.iterAt gi F1 (pos+1)=w2 at hnx HI2 BK2 HB2
     have HI:=HI2
     have BK186:=BK2
     have HB:=HB2
     clear HI2 BK2 HB2
     generalize F1[pos]=c at hnx HA'
     subst hF1
     simp only [Y11.g] at HA'
     obtain ⟨d,Ad,HA'⟩:=bS HA'
     replace HA':(if 1+d.size≤9223372036854775807 then (if o_.size+(1+d.size)≤9223372036854775807 then Y11.g a0_1 a0_2 a0_3 a0_4 ((((rd_T63 t187 (ji3)).f1)).data.toList.drop (pos+1)) (o_ ++ ((⟨#[32]⟩:ByteArray) ++ d)) else none) else none)=some r:=HA'
     by_cases s0_:1+d.size≤9223372036854775807
     case neg=>rw [if_neg s0_] at HA';cases HA'
     rw [if_pos s0_] at HA'
     have s0b0:=eq_true s0_
     have s0b1:decide (1+d.size≤9223372036854775807)=true:=dE s0_
     have s0b2:(9223372036854775807<1+d.size)=False:=eq_false (Nat.not_lt.2 s0_)
     by_cases s1_:o_.size+(1+d.size)≤9223372036854775807
     case neg=>rw [if_neg s1_] at HA';cases HA'
     rw [if_pos s1_] at HA'
     have s1b0:=eq_true s1_
     have s1b1:decide (o_.size+(1+d.size)≤9223372036854775807)=true:=dE s1_
     have s1b2:(9223372036854775807<o_.size+(1+d.size))=False:=eq_false (Nat.not_lt.2 s1_)
     have HA:=aM HA'
     clear HA'
     have hcy_1:w2.cell? ⟨gb186,1,none⟩=some (.int .i64 a0_1):=(blk_cell BK186.out 1).trans rfl
     have hcy_2:w2.cell? ⟨gb186,2,none⟩=some (.int .i64 a0_2):=(blk_cell BK186.out 2).trans rfl
     have hcy_3:w2.cell? ⟨gb186,3,none⟩=some (.string a0_3):=(blk_cell BK186.out 3).trans rfl
     have hcy_4:w2.cell? ⟨gb186,4,none⟩=some (.string a0_4):=(blk_cell BK186.out 4).trans rfl
     have hfy_1:=blk_frozen BK186.out 1
     have hfy_2:=blk_frozen BK186.out 2
     have hfy_3:=blk_frozen BK186.out 3
     have hfy_4:=blk_frozen BK186.out 4
     have toc:∀ n:Nat,n<256→¬ c=UInt8.ofNat n→((c.toNat:Int) == (n:Int))=false:=fun n hn h_=>beq_eq_false_iff_ne.mpr (fun he=>h_ (by apply UInt8.toNat_inj.1;rw [UInt8.toNat_ofNat_of_lt' hn];omega))
     by_cases c65:c=65
     ·rw [if_pos c65] at Ad
      have cb65:((c.toNat:Int) == 65)=true:=by rw [c65];rfl
      clear c65 toc
      go_wp2_with (first | ((with_reducible refine gc_ 26 ?_);refine goesL_ (some 42) rfl rfl Tryd.func26 (by kernel_rfl) rfl #[.int .i64 a0_1] rfl (z14_) ?_;(with_reducible refine (Y19.calls a0_1 d _ Ad (tab_below htab HB.out)).mono ?_);rintro e w_ ⟨rfl,hb⟩;refine ⟨_,rfl,?_⟩;have n1_:=aM (blk_below BK186.out hb);have n2_:=aM (below_step HB.out hb);have n3_:=aM (blk_below HI.out hb);clear BK186 HB HI;have BK186:=n1_;have HB:=n2_;have HI:=n3_;clear n1_ n2_ n3_ hb))
      go_roundg k1
      case measure=>have:=HK1.out;omega
      case rel=>exact ⟨pos+1,_,rfl,HA,⟨by have:=HK.out;omega⟩,⟨by have:=HK1.out;omega⟩,HI,BK186,HB⟩
     ·rw [if_neg c65] at Ad
      have cb65:((c.toNat:Int) == 65)=false:=toc 65 (by decide) c65
      by_cases c66:c=66
      ·rw [if_pos c66] at Ad
       have cb66:((c.toNat:Int) == 66)=true:=by rw [c66];rfl
       clear c65 c66 toc
       go_wp2_with (first | ((with_reducible refine gc_ 26 ?_);refine goesL_ (some 50) rfl rfl Tryd.func26 (by kernel_rfl) rfl #[.int .i64 a0_2] rfl (z14_) ?_;(with_reducible refine (Y19.calls a0_2 d _ Ad (tab_below htab HB.out)).mono ?_);rintro e w_ ⟨rfl,hb⟩;refine ⟨_,rfl,?_⟩;have n1_:=aM (blk_below BK186.out hb);have n2_:=aM (below_step HB.out hb);have n3_:=aM (blk_below HI.out hb);clear BK186 HB HI;have BK186:=n1_;have HB:=n2_;have HI:=n3_;clear n1_ n2_ n3_ hb))
       go_roundg k1
       case measure=>have:=HK1.out;omega
       case rel=>exact ⟨pos+1,_,rfl,HA,⟨by have:=HK.out;omega⟩,⟨by have:=HK1.out;omega⟩,HI,BK186,HB⟩
      ·rw [if_neg c66] at Ad
       have cb66:((c.toNat:Int) == 66)=false:=toc 66 (by decide) c66
       by_cases c75:c=75
       ·rw [if_pos c75] at Ad
        have cb75:((c.toNat:Int) == 75)=true:=by rw [c75];rfl
        have Ad':=Option.some.inj Ad
        subst Ad'
        clear c65 c66 c75 toc Ad
        go_wp2
        go_roundg k1
        case measure=>have:=HK1.out;omega
        case rel=>exact ⟨pos+1,_,rfl,HA,⟨by have:=HK.out;omega⟩,⟨by have:=HK1.out;omega⟩,HI,BK186,HB⟩
       ·rw [if_neg c75] at Ad
        have cb75:((c.toNat:Int) == 75)=false:=toc 75 (by decide) c75
        have Ad':=Option.some.inj Ad
        subst Ad'
        clear c65 c66 c75 toc Ad
        go_wp2
        go_roundg k1
        case measure=>have:=HK1.out;omega
        case rel=>exact ⟨pos+1,_,rfl,HA,⟨by have:=HK.out;omega⟩,⟨by have:=HK1.out;omega⟩,HI,BK186,HB⟩



/-! ### Y16: function 8 -/
def Y16.f (k:Nat) (a0_0:Int) (a0_1:Int) (a0_2:Int) (a0_3:ByteArray) (a0_4:ByteArray) (a0_5:Int):Option (ByteArray):=(Y1.f k a0_0 a0_1 a0_2 a0_3 a0_4 a0_5).bind fun t184=>(if t184=true then ((Y11.f a0_0 a0_1 a0_2 a0_3 a0_4 a0_5).bind fun t185=>(some t185)) else (some (⟨#[]⟩:ByteArray)))
theorem Y16.mono:∀ a0 a1 a2 a3 a4 a5 k,LeO (Y16.f k a0 a1 a2 a3 a4 a5) (Y16.f (k+1) a0 a1 a2 a3 a4 a5):=by
 intro a0 a1 a2 a3 a4 a5 k
 have m0:=@Y1.mono
 unfold Y16.f
 exact mO
theorem Y16.calls (k:Nat) (a0_0:Int) (a0_1:Int) (a0_2:Int) (a0_3:ByteArray) (a0_4:ByteArray) (a0_5:Int) (r:ByteArray) (w:World) (h:Y16.f k a0_0 a0_1 a0_2 a0_3 a0_4 a0_5=some r) (htab_:Tab_ w) :
  Calls Tryd.prog 8 #[.agg #[.int .i64 a0_0,.int .i64 a0_1,.int .i64 a0_2,.string a0_3,.string a0_4,.int .i64 a0_5]] w fun e w'=>e = .returned (.string r)∧Below w.heap.size w w':=by
 have hu26:=Tryd.underlying26
 have HB:=aM (Below.refl w.heap.size w)
 have H:((Y1.f k a0_0 a0_1 a0_2 a0_3 a0_4 a0_5).bind fun t184=>(if t184=true then ((Y11.f a0_0 a0_1 a0_2 a0_3 a0_4 a0_5).bind fun t185=>(some t185)) else (some (⟨#[]⟩:ByteArray))))=some r:=h
 clear h
 replace H:=bS H
 obtain ⟨t184,A20,H⟩:=H
 replace H:(if t184=true then ((Y11.f a0_0 a0_1 a0_2 a0_3 a0_4 a0_5).bind fun t185=>(some t185)) else (some (⟨#[]⟩:ByteArray)))=some r:=H
 have A2:=aM A20
 clear A20
 by_cases c3:t184=true
 ·subst c3
  have H1:((Y11.f a0_0 a0_1 a0_2 a0_3 a0_4 a0_5).bind fun t185=>(some t185))=some r:=by rw [if_pos rfl] at H;exact H
  clear H
  have H:=H1
  clear H1
  replace H:=bS H
  obtain ⟨t185,A40,H⟩:=H
  replace H:(some t185)=some r:=H
  have A4:=aM A40
  clear A40
  obtain rfl:=sI H
  go_enter Tryd.func8,Tryd.ntmps8
  go_wp2_with (first | ((with_reducible refine gd_ 1 ?_);refine be_ 1 #[.int .i64 a0_0,.int .i64 a0_1,.int .i64 a0_2,.string a0_3,.string a0_4,.int .i64 a0_5] 26 ?_;intro gb183 hg w5 hbox hb;have n0_:=aM (below_step (z6_ HB.out) hb);have n1_:=aM (hbox);have n2_:=aM ((z8_ HB.out:w.heap.size≤gb183));have n3_:=aM ((z8_ HB.out:w.heap.size≤gb183));clear HB;have HB:=n0_;have BK183:=n1_;have GW183:=n2_;have GE183:=n3_;clear n0_ n1_ n2_ n3_;clear hb hbox hg;have ⟨hcz6_0,hcz6_1,hcz6_2,hcz6_3,hcz6_4,hcz6_5,hfz6_0,hfz6_1,hfz6_2,hfz6_3,hfz6_4,hfz6_5⟩:=cz6_ BK183.out) | ((with_reducible refine gc_ 18 ?_);refine gl_ (some 4) Tryd.func18 #[.agg #[.int .i64 a0_0,.int .i64 a0_1,.int .i64 a0_2,.string a0_3,.string a0_4,.int .i64 a0_5]] ?_;(with_reducible refine (Y1.calls k a0_0 a0_1 a0_2 a0_3 a0_4 a0_5 true _ A2.out).mono ?_);rintro e w7 ⟨rfl,hb⟩;refine ⟨_,rfl,?_⟩;have n0_:=aM (blkB_ BK183.out hb);have n1_:=aM (below_step (z2_ HB.out GE183.out) hb);clear BK183;clear HB;have BK183:=n0_;have HB:=n1_;clear n0_ n1_;(try clear hb);have ⟨hcz8_0,hcz8_1,hcz8_2,hcz8_3,hcz8_4,hcz8_5,hfz8_0,hfz8_1,hfz8_2,hfz8_3,hfz8_4,hfz8_5⟩:=cz6_ BK183.out) | ((with_reducible refine gc_ 19 ?_);refine gl_ (some 7) Tryd.func19 #[.agg #[.int .i64 a0_0,.int .i64 a0_1,.int .i64 a0_2,.string a0_3,.string a0_4,.int .i64 a0_5]] ?_;(with_reducible refine (Y11.calls a0_0 a0_1 a0_2 a0_3 a0_4 a0_5 t185 _ A4.out (tab_below htab_ (z2_ HB.out GE183.out))).mono ?_);rintro e w9 ⟨rfl,hb⟩;refine ⟨_,rfl,?_⟩;have n0_:=aM (blkB_ BK183.out hb);have n1_:=aM (below_step (z2_ HB.out GE183.out) hb);clear BK183;clear HB;have BK183:=n0_;have HB:=n1_;clear n0_ n1_;(try clear hb)))
  go_ret
  exact ⟨z7_,z2_ HB.out GE183.out⟩
 ·replace c3:=Bool.eq_false_iff.mpr c3
  subst c3
  have H1:(some (⟨#[]⟩:ByteArray))=some r:=by rw [if_neg (show ¬ (false=true) by decide)] at H;exact H
  clear H
  have H:=H1
  clear H1
  obtain rfl:=sI H
  go_enter Tryd.func8,Tryd.ntmps8
  go_wp2_with (first | ((with_reducible refine gd_ 1 ?_);refine be_ 1 #[.int .i64 a0_0,.int .i64 a0_1,.int .i64 a0_2,.string a0_3,.string a0_4,.int .i64 a0_5] 26 ?_;intro gb183 hg w10 hbox hb;have n0_:=aM (below_step (z6_ HB.out) hb);have n1_:=aM (hbox);have n2_:=aM ((z8_ HB.out:w.heap.size≤gb183));have n3_:=aM ((z8_ HB.out:w.heap.size≤gb183));clear HB;have HB:=n0_;have BK183:=n1_;have GW183:=n2_;have GE183:=n3_;clear n0_ n1_ n2_ n3_;clear hb hbox hg;have ⟨hcz11_0,hcz11_1,hcz11_2,hcz11_3,hcz11_4,hcz11_5,hfz11_0,hfz11_1,hfz11_2,hfz11_3,hfz11_4,hfz11_5⟩:=cz6_ BK183.out) | ((with_reducible refine gc_ 18 ?_);refine gl_ (some 4) Tryd.func18 #[.agg #[.int .i64 a0_0,.int .i64 a0_1,.int .i64 a0_2,.string a0_3,.string a0_4,.int .i64 a0_5]] ?_;(with_reducible refine (Y1.calls k a0_0 a0_1 a0_2 a0_3 a0_4 a0_5 false _ A2.out).mono ?_);rintro e w12 ⟨rfl,hb⟩;refine ⟨_,rfl,?_⟩;have n0_:=aM (blkB_ BK183.out hb);have n1_:=aM (below_step (z2_ HB.out GE183.out) hb);clear BK183;clear HB;have BK183:=n0_;have HB:=n1_;clear n0_ n1_;(try clear hb)))
  go_ret
  exact ⟨z7_,z2_ HB.out GE183.out⟩


/-! ### Y14: function 3 -/
def Y14.f (k:Nat) (a0_0:Int) (a0_1:Int) (a0_2:Int) (a0_3:ByteArray) (a0_4:ByteArray) (a0_5:Int):Option (Bool):=(Y26.f a0_0 a0_1 a0_2 a0_3 a0_4 a0_5 1048576).bind fun t187=>(if t187<0 then (some true) else ((Y25.f a0_0 a0_1 a0_2 a0_3 a0_4 a0_5).bind fun bt188=>((Y4.f k bt188.1 bt188.2.1 bt188.2.2.1 bt188.2.2.2.1 bt188.2.2.2.2.1 bt188.2.2.2.2.2).bind fun t194=>((Y25.f a0_0 a0_1 a0_2 a0_3 a0_4 a0_5).bind fun bt195=>((Y16.f k bt195.1 bt195.2.1 bt195.2.2.1 bt195.2.2.2.1 bt195.2.2.2.2.1 bt195.2.2.2.2.2).bind fun t201=>(if t201.toList=t194.toList then (some true) else (none)))))))
theorem Y14.mono:∀ a0 a1 a2 a3 a4 a5 k,LeO (Y14.f k a0 a1 a2 a3 a4 a5) (Y14.f (k+1) a0 a1 a2 a3 a4 a5):=by
 intro a0 a1 a2 a3 a4 a5 k
 have m0:=@Y16.mono
 have m1:=@Y4.mono
 unfold Y14.f
 exact mO
theorem Y14.calls (k:Nat) (a0_0:Int) (a0_1:Int) (a0_2:Int) (a0_3:ByteArray) (a0_4:ByteArray) (a0_5:Int) (r:Bool) (w:World) (h:Y14.f k a0_0 a0_1 a0_2 a0_3 a0_4 a0_5=some r) (htab_:Tab_ w) :
  Calls Tryd.prog 3 #[.agg #[.int .i64 a0_0,.int .i64 a0_1,.int .i64 a0_2,.string a0_3,.string a0_4,.int .i64 a0_5]] w fun e w'=>e = .returned (.bool r)∧Below w.heap.size w w':=by
 have hu23:=Tryd.underlying23
 have HB:=aM (Below.refl w.heap.size w)
 have H:((Y26.f a0_0 a0_1 a0_2 a0_3 a0_4 a0_5 1048576).bind fun t187=>(if t187<0 then (some true) else ((Y25.f a0_0 a0_1 a0_2 a0_3 a0_4 a0_5).bind fun bt188=>((Y4.f k bt188.1 bt188.2.1 bt188.2.2.1 bt188.2.2.2.1 bt188.2.2.2.2.1 bt188.2.2.2.2.2).bind fun t194=>((Y25.f a0_0 a0_1 a0_2 a0_3 a0_4 a0_5).bind fun bt195=>((Y16.f k bt195.1 bt195.2.1 bt195.2.2.1 bt195.2.2.2.1 bt195.2.2.2.2.1 bt195.2.2.2.2.2).bind fun t201=>(if t201.toList=t194.toList then (some true) else (none))))))))=some r:=h
 clear h
 replace H:=bS H
 obtain ⟨t187,A20,H⟩:=H
 replace H:(if t187<0 then (some true) else ((Y25.f a0_0 a0_1 a0_2 a0_3 a0_4 a0_5).bind fun bt188=>((Y4.f k bt188.1 bt188.2.1 bt188.2.2.1 bt188.2.2.2.1 bt188.2.2.2.2.1 bt188.2.2.2.2.2).bind fun t194=>((Y25.f a0_0 a0_1 a0_2 a0_3 a0_4 a0_5).bind fun bt195=>((Y16.f k bt195.1 bt195.2.1 bt195.2.2.1 bt195.2.2.2.1 bt195.2.2.2.2.1 bt195.2.2.2.2.2).bind fun t201=>(if t201.toList=t194.toList then (some true) else (none)))))))=some r:=H
 have A2:=aM A20
 clear A20
 by_cases c3:t187<0
 ·rw [if_pos c3] at H
  have c3b0:decide (t187<0)=true:=dE c3
  clear c3
  obtain rfl:=sI H
  go_enter Tryd.func3,Tryd.ntmps3
  go_wp2_with (first | ((with_reducible refine gd_ 1 ?_);refine be_ 1 #[.int .i64 a0_0,.int .i64 a0_1,.int .i64 a0_2,.string a0_3,.string a0_4,.int .i64 a0_5] 23 ?_;intro gb186 hg w4 hbox hb;have n0_:=aM (below_step (z6_ HB.out) hb);have n1_:=aM (hbox);have n2_:=aM ((z8_ HB.out:w.heap.size≤gb186));have n3_:=aM ((z8_ HB.out:w.heap.size≤gb186));clear HB;have HB:=n0_;have BK186:=n1_;have GW186:=n2_;have GE186:=n3_;clear n0_ n1_ n2_ n3_;clear hb hbox hg;have ⟨hcz5_0,hcz5_1,hcz5_2,hcz5_3,hcz5_4,hcz5_5,hfz5_0,hfz5_1,hfz5_2,hfz5_3,hfz5_4,hfz5_5⟩:=cz6_ BK186.out) | ((with_reducible refine gc_ 5 ?_);refine gl_ (some 8) Tryd.func5 #[.agg #[.int .i64 a0_0,.int .i64 a0_1,.int .i64 a0_2,.string a0_3,.string a0_4,.int .i64 a0_5],.int .i64 1048576] ?_;(with_reducible refine (Y26.calls a0_0 a0_1 a0_2 a0_3 a0_4 a0_5 1048576 t187 _ A2.out).mono ?_);rintro e w6 ⟨rfl,hb⟩;refine ⟨_,rfl,?_⟩;have n0_:=aM (blkB_ BK186.out hb);have n1_:=aM (below_step (z2_ HB.out GE186.out) hb);clear BK186;clear HB;have BK186:=n0_;have HB:=n1_;clear n0_ n1_;(try clear hb)))
  go_ret
  exact ⟨z7_,z2_ HB.out GE186.out⟩
 ·rw [if_neg c3] at H
  have c3b0:decide (t187<0)=false:=dF c3
  clear c3
  replace H:=bS H
  obtain ⟨⟨t188,t189,t190,t191,t192,t193⟩,A70,H⟩:=H
  replace H:((Y4.f k t188 t189 t190 t191 t192 t193).bind fun t194=>((Y25.f a0_0 a0_1 a0_2 a0_3 a0_4 a0_5).bind fun bt195=>((Y16.f k bt195.1 bt195.2.1 bt195.2.2.1 bt195.2.2.2.1 bt195.2.2.2.2.1 bt195.2.2.2.2.2).bind fun t201=>(if t201.toList=t194.toList then (some true) else (none)))))=some r:=H
  have A7:=aM A70
  clear A70
  replace H:=bS H
  obtain ⟨t194,A80,H⟩:=H
  replace H:((Y25.f a0_0 a0_1 a0_2 a0_3 a0_4 a0_5).bind fun bt195=>((Y16.f k bt195.1 bt195.2.1 bt195.2.2.1 bt195.2.2.2.1 bt195.2.2.2.2.1 bt195.2.2.2.2.2).bind fun t201=>(if t201.toList=t194.toList then (some true) else (none))))=some r:=H
  have A8:=aM A80
  clear A80
  replace H:=bS H
  obtain ⟨⟨t195,t196,t197,t198,t199,t200⟩,A90,H⟩:=H
  replace H:((Y16.f k t195 t196 t197 t198 t199 t200).bind fun t201=>(if t201.toList=t194.toList then (some true) else (none)))=some r:=H
  have A9:=aM A90
  clear A90
  replace H:=bS H
  obtain ⟨t201,A100,H⟩:=H
  replace H:(if t201.toList=t194.toList then (some true) else (none))=some r:=H
  have A10:=aM A100
  clear A100
  by_cases c11:t201.toList=t194.toList
  ·rw [if_pos c11] at H
   have c11b0:(t201.toList == t194.toList)=true:=beq_iff_eq.mpr c11
   have c11b1:(t201.toList != t194.toList)=false:=bne_eq_false_iff_eq.mpr c11
   clear c11
   obtain rfl:=sI H
   go_enter Tryd.func3,Tryd.ntmps3
   go_wp2_with (first | ((with_reducible refine gd_ 1 ?_);refine be_ 1 #[.int .i64 a0_0,.int .i64 a0_1,.int .i64 a0_2,.string a0_3,.string a0_4,.int .i64 a0_5] 23 ?_;intro gb186 hg w12 hbox hb;have n0_:=aM (below_step (z6_ HB.out) hb);have n1_:=aM (hbox);have n2_:=aM ((z8_ HB.out:w.heap.size≤gb186));have n3_:=aM ((z8_ HB.out:w.heap.size≤gb186));clear HB;have HB:=n0_;have BK186:=n1_;have GW186:=n2_;have GE186:=n3_;clear n0_ n1_ n2_ n3_;clear hb hbox hg;have ⟨hcz13_0,hcz13_1,hcz13_2,hcz13_3,hcz13_4,hcz13_5,hfz13_0,hfz13_1,hfz13_2,hfz13_3,hfz13_4,hfz13_5⟩:=cz6_ BK186.out) | ((with_reducible refine gc_ 5 ?_);refine gl_ (some 8) Tryd.func5 #[.agg #[.int .i64 a0_0,.int .i64 a0_1,.int .i64 a0_2,.string a0_3,.string a0_4,.int .i64 a0_5],.int .i64 1048576] ?_;(with_reducible refine (Y26.calls a0_0 a0_1 a0_2 a0_3 a0_4 a0_5 1048576 t187 _ A2.out).mono ?_);rintro e w14 ⟨rfl,hb⟩;refine ⟨_,rfl,?_⟩;have n0_:=aM (blkB_ BK186.out hb);have n1_:=aM (below_step (z2_ HB.out GE186.out) hb);clear BK186;clear HB;have BK186:=n0_;have HB:=n1_;clear n0_ n1_;(try clear hb);have ⟨hcz15_0,hcz15_1,hcz15_2,hcz15_3,hcz15_4,hcz15_5,hfz15_0,hfz15_1,hfz15_2,hfz15_3,hfz15_4,hfz15_5⟩:=cz6_ BK186.out) | ((with_reducible refine gc_ 7 ?_);refine gl_ (some 12) Tryd.func7 #[.agg #[.int .i64 a0_0,.int .i64 a0_1,.int .i64 a0_2,.string a0_3,.string a0_4,.int .i64 a0_5]] ?_;(with_reducible refine (Y25.calls a0_0 a0_1 a0_2 a0_3 a0_4 a0_5 t188 t189 t190 t191 t192 t193 _ A7.out).mono ?_);rintro e w16 ⟨rfl,hb⟩;refine ⟨_,rfl,?_⟩;have n0_:=aM (blkB_ BK186.out hb);have n1_:=aM (below_step (z2_ HB.out GE186.out) hb);clear BK186;clear HB;have BK186:=n0_;have HB:=n1_;clear n0_ n1_;(try clear hb)) | ((with_reducible refine gc_ 6 ?_);refine gl_ (some 13) Tryd.func6 #[.agg #[.int .i64 t188,.int .i64 t189,.int .i64 t190,.string t191,.string t192,.int .i64 t193]] ?_;(with_reducible refine (Y4.calls k t188 t189 t190 t191 t192 t193 t194 _ A8.out).mono ?_);rintro e w17 ⟨rfl,hb⟩;refine ⟨_,rfl,?_⟩;have n0_:=aM (blkB_ BK186.out hb);have n1_:=aM (below_step (z2_ HB.out GE186.out) hb);clear BK186;clear HB;have BK186:=n0_;have HB:=n1_;clear n0_ n1_;(try clear hb);have ⟨hcz18_0,hcz18_1,hcz18_2,hcz18_3,hcz18_4,hcz18_5,hfz18_0,hfz18_1,hfz18_2,hfz18_3,hfz18_4,hfz18_5⟩:=cz6_ BK186.out) | ((with_reducible refine gc_ 7 ?_);refine gl_ (some 15) Tryd.func7 #[.agg #[.int .i64 a0_0,.int .i64 a0_1,.int .i64 a0_2,.string a0_3,.string a0_4,.int .i64 a0_5]] ?_;(with_reducible refine (Y25.calls a0_0 a0_1 a0_2 a0_3 a0_4 a0_5 t195 t196 t197 t198 t199 t200 _ A9.out).mono ?_);rintro e w19 ⟨rfl,hb⟩;refine ⟨_,rfl,?_⟩;have n0_:=aM (blkB_ BK186.out hb);have n1_:=aM (below_step (z2_ HB.out GE186.out) hb);clear BK186;clear HB;have BK186:=n0_;have HB:=n1_;clear n0_ n1_;(try clear hb)) | ((with_reducible refine gc_ 8 ?_);refine gl_ (some 16) Tryd.func8 #[.agg #[.int .i64 t195,.int .i64 t196,.int .i64 t197,.string t198,.string t199,.int .i64 t200]] ?_;(with_reducible refine (Y16.calls k t195 t196 t197 t198 t199 t200 t201 _ A10.out (tab_below htab_ (z2_ HB.out GE186.out))).mono ?_);rintro e w20 ⟨rfl,hb⟩;refine ⟨_,rfl,?_⟩;have n0_:=aM (blkB_ BK186.out hb);have n1_:=aM (below_step (z2_ HB.out GE186.out) hb);clear BK186;clear HB;have BK186:=n0_;have HB:=n1_;clear n0_ n1_;(try clear hb)))
   go_ret
   exact ⟨z7_,z2_ HB.out GE186.out⟩
  ·rw [if_neg c11] at H
   exact nO H

end Go.Proofs.YtffjlmmlclpcnaaDoor.P

namespace Go.Proofs.YtffjlmmlclpcnaaDoor.P
open Go.RowKit Go.Proofs.YtffjlmmlclpcnaaDoor.RO
def Y14.Pure:Prop:=∀ (x0:S23),wfT23 x0→∃ k,Y14.f k x0.f0 x0.f1 x0.f2 x0.f3 x0.f4 x0.f5=some true
end Go.Proofs.YtffjlmmlclpcnaaDoor.P

namespace Go.Proofs.YtffjlmmlclpcnaaDoor.Q
open Go.RowKit Go.Proofs.YtffjlmmlclpcnaaDoorW.PrintWords Go.Proofs.YtffjlmmlclpcnaaDoorW.PrintMore

theorem w64 {x:Int} (h0 : -9223372036854775808≤x) (h1:x≤9223372036854775807):wrap64 x=x:=by unfold wrap64;omega
theorem evIte {α:Type} {c:Prop} [Decidable c] {f g:Nat→Option α} {r:α} (h:c→Ev f r) (h':¬ c→Ev g r):Ev (fun k=>if c then f k else g k) r:=by
  by_cases hc:c
  · simp only [if_pos hc];exact h hc
  · simp only [if_neg hc];exact h' hc
theorem evPos {α:Type} {c:Prop} [Decidable c] {f g:Nat→Option α} {r:α} (hc:c) (h:Ev f r):Ev (fun k=>if c then f k else g k) r:=by
  simp only [if_pos hc];exact h
theorem evNeg {α:Type} {c:Prop} [Decidable c] {f g:Nat→Option α} {r:α} (hc:¬ c) (h:Ev g r):Ev (fun k=>if c then f k else g k) r:=by
  simp only [if_neg hc];exact h
theorem evBind1 {α β:Type} {g:Option α} {f:Nat→α→Option β} {a:α} {r:β} (h:g=some a) (k:Ev (fun n=>f n a) r):Ev (fun n=>g.bind (f n)) r:=by
  subst h;exact k
theorem dropCons {α:Type} {l:List α} {i:Nat} {a:α} {s:List α} (h:l.drop i=a :: s) (d:α):i<l.length∧l.getD i d=a∧l.drop (i+1)=s:=by
  have hl:i<l.length:=by
    have:=congrArg List.length h
    simp at this;omega
  rw [List.drop_eq_getElem_cons hl] at h
  injection h with h1 h2
  exact ⟨hl,by rw [List.getD_eq_getElem?_getD,List.getElem?_eq_getElem hl];exact h1,h2⟩
theorem dropNil {α:Type} {l:List α} {i:Nat} (h:l.drop i=[]):l.length≤i:=by
  have:=congrArg List.length h
  simp at this;omega
end Go.Proofs.YtffjlmmlclpcnaaDoor.Q

namespace Go.Proofs.YtffjlmmlclpcnaaDoor.Q
open Go.RowKit Go.Proofs.YtffjlmmlclpcnaaDoor.P Go.Proofs.YtffjlmmlclpcnaaDoorW.PrintWords Go.Proofs.YtffjlmmlclpcnaaDoorW.PrintMore

theorem toList_loop (b:ByteArray):∀ (n i:Nat) (r:List UInt8),b.size-i=n→ByteArray.toList.loop b i r=r.reverse ++ b.data.toList.drop i:=by
  intro n
  induction n with
  | zero =>
    intro i r h
    unfold ByteArray.toList.loop
    have hs:b.data.toList.length=b.size:=by rw [Array.length_toList];rfl
    rw [if_neg (by omega),List.drop_of_length_le (by omega),List.append_nil]
  | succ n ih =>
    intro i r h
    unfold ByteArray.toList.loop
    have hs:b.data.toList.length=b.size:=by rw [Array.length_toList];rfl
    rw [if_pos (by omega),ih (i+1) _ (by omega),List.drop_eq_getElem_cons (i:=i) (by omega)]
    have:b.get! i=b.data.toList[i]'(by omega):=by
      have hi:i<b.data.size:=by rw [← Array.length_toList];omega
      show b.data[i]! = _
      rw [getElem!_pos b.data i hi]
      simp
    simp [this]
theorem toList_data (b:ByteArray):b.toList=b.data.toList:=by
  unfold ByteArray.toList
  rw [toList_loop b _ 0 [] rfl]
  simp
theorem toList_inj {a b:ByteArray} (h:a.toList=b.toList):a=b:=by
  rw [toList_data,toList_data] at h
  obtain ⟨a⟩:=a
  obtain ⟨b⟩:=b
  simp only [ByteArray.mk.injEq]
  exact Array.toList_inj.1 h
theorem toList_nil {s:ByteArray} (h:s.toList=[]):s.size=0:=by
  have h5:s.data.toList.length=s.size:=(by rw [Array.length_toList];rfl)
  rw [← toList_data,h] at h5
  simpa using h5.symm
def isWithin (n low high:Int):Bool:=decide (low≤n) && decide (n≤high)
theorem l02Is_is (n a b:Int):Y15.f n a b=some (isWithin n a b):=by
  unfold Y15.f isWithin
  split
  · rename_i h;simp [show a≤n from h]
  · rename_i h;simp [show ¬ a≤n from h]
theorem within_is (n a b:Int):Y13.f n a b=some (isWithin n a b):=by
  unfold Y13.f isWithin
  split
  · rename_i h;simp [show a≤n from h]
  · rename_i h;simp [show ¬ a≤n from h]
end Go.Proofs.YtffjlmmlclpcnaaDoor.Q

namespace Go.Proofs.YtffjlmmlclpcnaaDoor.Q
open Go.RowKit Go.Proofs.YtffjlmmlclpcnaaDoor.P Go.Proofs.YtffjlmmlclpcnaaDoorW.PrintWords Go.Proofs.YtffjlmmlclpcnaaDoorW.PrintMore

def lowCh (c:Int):Bool:=decide (97≤c) && decide (c≤122)
def nameCh (c:Int):Bool:=lowCh c || (decide (48≤c) && decide (c≤57)) || decide (c=95)
def nameList:List Int→Bool
  | []=>false
  | c :: r=>lowCh c && r.all nameCh
def nameOk (s:ByteArray):Bool:=decide (s.size≤20) && nameList (bytesOf s)
theorem bt_of {s:ByteArray} {i:Nat} {c:Int} (h:(bytesOf s).getD i 0=c):bt s (i:Int)=c:=by
  rw [← rd_bytesOf];simpa [rd] using h
theorem spec_name_round (s:ByteArray) (k i:Nat) (hi:i<s.size) (h1:1≤i) (hs:s.size≤1048576) :
    Y5.l0 (k+1) s (i:Int)=if nameCh (bt s i) then Y5.l0 k s ((i+1:Nat):Int) else some false:=by
  simp only [Y5.l0]
  rw [if_pos (by omega),if_pos (by omega),w64 (by omega) (by omega)]
  have h0:¬ ((i:Int)=0):=by omega
  simp only [if_neg h0,nameCh,lowCh]
  generalize bt s i=c
  by_cases h1:97≤c <;> by_cases h2:c≤122 <;> by_cases h3:48≤c <;> by_cases h4:c≤57 <;> by_cases h5:c=95 <;> first | (exfalso;omega) | simp [ge_iff_le,h1,h2,h3,h4,h5]
theorem spec_name_first (s:ByteArray) (k:Nat) (hi:0<s.size) (hs:s.size≤1048576) :
    Y5.l0 (k+1) s 0=if lowCh (bt s 0) then Y5.l0 k s 1 else some false:=by
  simp only [Y5.l0]
  rw [if_pos (by omega),if_pos (by omega),w64 (by omega) (by omega)]
  simp only [if_true,lowCh,Int.zero_add]
  generalize bt s 0=c
  by_cases h1:97≤c <;> by_cases h2:c≤122 <;> first | (exfalso;omega) | simp [ge_iff_le,h1,h2]
theorem spec_name_l0 (s:ByteArray) (hs:s.size≤1048576):∀ (r:List Int) (i:Nat),(bytesOf s).drop i=r→i≤s.size→1≤i→Ev (fun k=>Y5.l0 k s (i:Int)) (r.all nameCh)
  | [],i,h,hi,h1=>by
    have:=dropNil h
    rw [bytesOf_length] at this
    refine Ev.step (f:=fun _=>some true) (fun k=>?_) (Ev.now _)
    simp only [Y5.l0]
    rw [if_neg (by omega)]
  | c :: r,i,h,hi,h1=>by
    obtain ⟨g1,g2,g3⟩:=dropCons h 0
    rw [bytesOf_length] at g1
    have hb:=bt_of g2
    refine Ev.step (fun k=>spec_name_round s k i g1 h1 hs) ?_
    rw [hb]
    refine evIte (fun hc=>?_) (fun hc=>?_)
    · simp only [List.all_cons,hc,Bool.true_and];exact spec_name_l0 s hs r (i+1) g3 (by omega) (by omega)
    · simp only [List.all_cons,Bool.eq_false_iff.mpr hc,Bool.false_and];exact Ev.now _
theorem spec_NameRight_ev (s:ByteArray) (hs:s.size≤1048576):Ev (fun k=>Y5.f k s) (nameOk s):=by
  have hl:=bytesOf_length s
  unfold Y5.f nameOk
  refine evIte (fun h=>?_) (fun h=>?_)
  · refine Ev.step (f:=fun _=>some false) (fun k=>by simp only [Y5.j0];rw [if_pos trivial]) ?_
    have:bytesOf s=[]:=by rw [← List.length_eq_zero_iff,hl];omega
    simp only [this,nameList,Bool.and_false]
    exact Ev.now _
  · by_cases h20:(s.size:Int)>20
    · refine Ev.step (f:=fun _=>some false) (fun k=>by simp only [Y5.j0];rw [if_pos (by simpa using h20)]) ?_
      have:¬ s.size≤20:=by omega
      simp only [this,decide_false,Bool.false_and]
      exact Ev.now _
    · refine Ev.step (fun k=>by simp only [Y5.j0];rw [if_neg (by simpa using h20)]) ?_
      have h20':s.size≤20:=by omega
      simp only [h20',decide_true,Bool.true_and]
      cases hb:bytesOf s with
      | nil=>rw [hb] at hl;simp at hl;omega
      | cons c r =>
        have hc:bt s ((0:Nat):Int)=c:=bt_of (by rw [hb];rfl)
        refine Ev.step (fun k=>spec_name_first s k (by omega) hs) ?_
        rw [show (0:Int)=((0:Nat):Int) from rfl,hc]
        refine evIte (fun h1=>?_) (fun h1=>?_)
        · simp only [nameList,h1,Bool.true_and]
          exact spec_name_l0 s hs r 1 (by rw [hb];rfl) (by omega) (by omega)
        · simp only [nameList,Bool.eq_false_iff.mpr h1,Bool.false_and];exact Ev.now _
theorem impl_name_round (s:ByteArray) (k i:Nat) (hi:i<s.size) (hs:s.size≤140737488351232) :
    Y3.l0 (k+1) s (s.size:Int) (i:Int)=if nameCh (bt s i) then Y3.l0 k s (s.size:Int) ((i+1:Nat):Int) else some false:=by
  simp only [Y3.l0]
  rw [if_pos (by omega),if_pos (by omega),if_pos (by omega),w64 (by omega) (by omega)]
  simp only [nameCh,lowCh]
  generalize bt s i=c
  by_cases h1:97≤c <;> by_cases h2:c≤122 <;> by_cases h3:48≤c <;> by_cases h4:c≤57 <;> by_cases h5:c=95 <;> first | (exfalso;omega) | simp [ge_iff_le,h1,h2,h3,h4,h5]
theorem impl_name_l0 (s:ByteArray) (hs:s.size≤140737488351232):∀ (r:List Int) (i:Nat),(bytesOf s).drop i=r→i≤s.size→Ev (fun k=>Y3.l0 k s (s.size:Int) (i:Int)) (r.all nameCh)
  | [],i,h,hi=>by
    have:=dropNil h
    rw [bytesOf_length] at this
    refine Ev.step (f:=fun _=>some true) (fun k=>?_) (Ev.now _)
    simp only [Y3.l0]
    rw [if_neg (by omega)]
  | c :: r,i,h,hi=>by
    obtain ⟨g1,g2,g3⟩:=dropCons h 0
    rw [bytesOf_length] at g1
    have hb:=bt_of g2
    refine Ev.step (fun k=>impl_name_round s k i g1 hs) ?_
    rw [hb]
    refine evIte (fun hc=>?_) (fun hc=>?_)
    · simp only [List.all_cons,hc,Bool.true_and];exact impl_name_l0 s hs r (i+1) g3 (by omega)
    · simp only [List.all_cons,Bool.eq_false_iff.mpr hc,Bool.false_and];exact Ev.now _
theorem low_name {c:Int} (h:lowCh c=true):nameCh c=true:=by simp [nameCh,h]
theorem impl_NameRight_ev (s:ByteArray) (hs:s.size≤140737488351232):Ev (fun k=>Y3.f k s) (nameOk s):=by
  have hl:=bytesOf_length s
  unfold Y3.f nameOk Y27.f
  refine evBind1 rfl (evBind1 (within_is _ _ _) ?_)
  refine evIte (fun h=>?_) (fun h=>?_)
  · have hw:1≤(s.size:Int)∧(s.size:Int)≤20:=by simpa [isWithin] using h
    refine evPos (by omega) ?_
    have h20':s.size≤20:=by omega
    simp only [h20',decide_true,Bool.true_and]
    cases hb:bytesOf s with
    | nil=>rw [hb] at hl;simp at hl;omega
    | cons c r =>
      have hc:bt s ((0:Nat):Int)=c:=bt_of (by rw [hb];rfl)
      have hc':bt s 0=c:=hc
      rw [hc']
      refine evIte (fun h1=>?_) (fun h1=>?_)
      · refine Ev.step (f:=fun _=>some false) (fun k=>by simp only [Y3.j0];rw [if_pos trivial]) ?_
        have:lowCh c=false:=by simp [lowCh];omega
        simp only [nameList,this,Bool.false_and];exact Ev.now _
      · by_cases h2:c>122
        · refine Ev.step (f:=fun _=>some false) (fun k=>by simp only [Y3.j0];rw [if_pos (by simpa using h2)]) ?_
          have:lowCh c=false:=by simp [lowCh];omega
          simp only [nameList,this,Bool.false_and];exact Ev.now _
        · refine Ev.step (fun k=>by simp only [Y3.j0];rw [if_neg (by simpa using h2)]) ?_
          have hlow:lowCh c=true:=by simp [lowCh];omega
          simp only [nameList,hlow,Bool.true_and]
          have:=impl_name_l0 s hs (c :: r) 0 (by rw [hb];rfl) (by omega)
          simpa [low_name hlow] using this
  · refine Ev.step (f:=fun _=>some false) (fun k=>by simp only [Y3.j0];rw [if_pos trivial]) ?_
    have hw:isWithin (s.size:Int) 1 20=false:=by simpa using h
    have:(decide (s.size≤20) && nameList (bytesOf s))=false:=by
      by_cases h20:s.size≤20
      · have:bytesOf s=[]:=by
          rw [← List.length_eq_zero_iff,hl]
          simp [isWithin] at hw;omega
        simp [this,nameList]
      · simp [h20]
    rw [this]
    exact Ev.now _
end Go.Proofs.YtffjlmmlclpcnaaDoor.Q

namespace Go.Proofs.YtffjlmmlclpcnaaDoor.Q
open Go.RowKit Go.Proofs.YtffjlmmlclpcnaaDoor.P Go.Proofs.YtffjlmmlclpcnaaDoorW.PrintWords Go.Proofs.YtffjlmmlclpcnaaDoorW.PrintMore

def hasA (n:Int):Bool:=!(n == 8 || (n == 15 || n == 16))
def hasB (n:Int):Bool:=n == 2 || (n == 3 || n == 17)
def hasK (n:Int):Bool:=n == 1 || (n == 2 || (n == 3 || (n == 4 || n == 16)))
def hasD (n:Int):Bool:=n == 1 || n == 2
def isKind (n:Int):Bool:=isWithin n 1 17
def hasPower (n:Int):Bool:=n == 1 || (n == 2 || (n == 3 || (n == 5 || n == 14)))
def smallOk (x:Int) (t:Bool):Bool:=x == 0 || (t && isWithin x 0 999999)
def keyOk (k:Bool) (key:ByteArray):Bool:=if k=true then nameOk key else key.toList == []
def datOk (d:Bool) (data:ByteArray):Bool:=if d=true then nameOk data && decide (data.size≤16) else data.toList == []
def powOk (n pw:Int):Bool:=pw == -1 || (hasPower n && isWithin pw (-1) 10000)
def actOk (n a b:Int) (key data:ByteArray) (pw:Int):Bool :=
  isKind n && (powOk n pw && (smallOk a (hasA n) && (smallOk b (hasB n) && (keyOk (hasK n) key && datOk (hasD n) data))))
theorem kinds (n:Int) (h:isKind n=true):n=1∨n=2∨n=3∨n=4∨n=5∨n=6∨n=7∨n=8∨n=9∨n=10∨n=11∨n=12∨n=13∨n=14∨n=15∨n=16∨n=17:=by
  simp only [isKind,isWithin,Bool.and_eq_true,decide_eq_true_eq] at h
  omega
theorem l15Has_ev (n:Int):Ev (fun k=>Y10.f k n) (hasA n,hasB n,hasK n,hasD n):=by
  unfold Y10.f
  by_cases h1:n=1
  · subst h1;exact evPos rfl (Ev.now _)
  refine evNeg h1 ?_
  by_cases h2:n=2
  · subst h2;exact evPos rfl (Ev.now _)
  refine evNeg h2 ?_
  by_cases h3:n=3
  · subst h3;exact evPos rfl (Ev.now _)
  refine evNeg h3 ?_
  by_cases h4:n=4
  · subst h4;exact evPos rfl (Ev.now _)
  refine evNeg h4 ?_
  by_cases h8:n=8
  · subst h8;exact evPos rfl (Ev.step (f:=fun _=>some (false,false,false,false)) (fun k=>by simp [Y10.j0]) (Ev.now _))
  refine evNeg h8 ?_
  by_cases h15:n=15
  · subst h15;exact Ev.step (f:=fun _=>some (false,false,false,false)) (fun k=>by simp [Y10.j0]) (Ev.now _)
  by_cases h16:n=16
  · subst h16;exact Ev.step (f:=fun _=>some (false,false,true,false)) (fun k=>by simp [Y10.j0]) (Ev.now _)
  by_cases h17:n=17
  · subst h17;exact Ev.step (f:=fun _=>some (true,true,false,false)) (fun k=>by simp [Y10.j0]) (Ev.now _)
  refine Ev.step (f:=fun _=>some (true,false,false,false)) (fun k=>by simp [Y10.j0,h15,h16,h17]) ?_
  simp only [hasA,hasB,hasK,hasD,beq_eq_false_iff_ne.2 h1,beq_eq_false_iff_ne.2 h2,beq_eq_false_iff_ne.2 h3,beq_eq_false_iff_ne.2 h4,beq_eq_false_iff_ne.2 h8,beq_eq_false_iff_ne.2 h15,beq_eq_false_iff_ne.2 h16,beq_eq_false_iff_ne.2 h17,Bool.or_false,Bool.not_false]
  exact Ev.now _
theorem l15Word_ev (n:Int):∃ w,Ev (fun k=>Y6.f k n) w∧(w.toList=[] ↔ isKind n=false):=by
  have j0T:∀ y,Ev (fun k=>Y6.j0 k n y true) ⟨#[]⟩:=fun y=>Ev.step (f:=fun _=>some ⟨#[]⟩) (fun k=>by simp [Y6.j0]) (Ev.now _)
  have e0:(⟨#[]⟩:ByteArray).toList=[]:=by rw [toList_data]
  have jT:∀ y:List ByteArray,n≥(y.length:Int)→Ev (fun k=>Y6.j0 k n y (decide (n≥(y.length:Int)))) ⟨#[]⟩:=fun y h=>by rw [decide_eq_true h];exact j0T y
  have jF:∀ y:List ByteArray,¬ n≥(y.length:Int)→¬ n<1→Ev (fun k=>Y6.j0 k n y (decide (n≥(y.length:Int)))) (rdOf ByteArray.empty y n):=fun y h h0=>by
    rw [decide_eq_false h]
    refine Ev.step (f:=fun _=>some (rdOf ByteArray.empty y n)) (fun k=>?_) (Ev.now _)
    simp only [Y6.j0]
    rw [if_neg (by simp),if_pos (by omega),if_pos (by omega)]
  unfold Y6.f
  by_cases h0:n<1
  · exact ⟨_,evBind1 rfl (evPos h0 (j0T _)),by simp only [e0,isKind,isWithin,true_iff,Bool.and_eq_false_iff,decide_eq_false_iff_not];omega⟩
  · by_cases h1:n≥18
    · exact ⟨⟨#[]⟩,evBind1 rfl (evNeg h0 (jT _ (by simpa using h1))),by simp only [e0,isKind,isWithin,true_iff,Bool.and_eq_false_iff,decide_eq_false_iff_not];omega⟩
    · have hk:isKind n=true:=by simp only [isKind,isWithin,Bool.and_eq_true,decide_eq_true_eq];omega
      refine ⟨_,evBind1 rfl (evNeg h0 (jF _ (by simpa using h1) h0)),?_⟩
      · rw [hk,toList_data]
        obtain rfl | rfl | rfl | rfl | rfl | rfl | rfl | rfl | rfl | rfl | rfl | rfl | rfl | rfl | rfl | rfl | rfl:=kinds n hk
        all_goals decide
theorem l15Powered_is (n:Int):Y23.f n=some (hasPower n):=by
  unfold Y23.f hasPower
  by_cases h1:n≥1
  · rw [if_pos h1]
    by_cases h3:n≤3
    · rw [if_pos h3]
      obtain rfl | rfl | rfl:n=1∨n=2∨n=3:=by omega
      all_goals rfl
    · rw [if_neg h3,beq_eq_false_iff_ne.2 (show n≠1 by omega),beq_eq_false_iff_ne.2 (show n≠2 by omega),beq_eq_false_iff_ne.2 (show n≠3 by omega)]
      by_cases h5:n=5
      · subst h5;rfl
      · rw [if_neg h5,beq_eq_false_iff_ne.2 h5];rfl
  · rw [if_neg h1,if_neg (by omega),beq_eq_false_iff_ne.2 (show n≠1 by omega),beq_eq_false_iff_ne.2 (show n≠2 by omega),beq_eq_false_iff_ne.2 (show n≠3 by omega),beq_eq_false_iff_ne.2 (show n≠5 by omega)];rfl
theorem powered_ev (n:Int):Ev (fun k=>Y9.f k n) (hasPower n):=by
  have j:∀ b:Bool,Ev (fun k=>Y9.j0 k b) b:=fun b=>by
    cases b with
    | true=>exact Ev.step (f:=fun _=>some true) (fun k=>by simp [Y9.j0]) (Ev.now _)
    | false=>exact Ev.step (f:=fun _=>some false) (fun k=>by simp [Y9.j0]) (Ev.now _)
  unfold Y9.f
  by_cases h1:n=1
  · subst h1;exact evPos rfl (j true)
  refine evNeg h1 ?_
  by_cases h2:n=2
  · subst h2;exact evPos rfl (j true)
  refine evNeg h2 ?_
  by_cases h3:n=3
  · subst h3;exact evPos rfl (j true)
  refine evNeg h3 ?_
  by_cases h5:n=5
  · subst h5;exact evPos rfl (j true)
  refine evNeg h5 ?_
  have:hasPower n=(n == 14):=by
    simp only [hasPower,beq_eq_false_iff_ne.2 h1,beq_eq_false_iff_ne.2 h2,beq_eq_false_iff_ne.2 h3,beq_eq_false_iff_ne.2 h5,Bool.false_or]
  rw [this]
  exact j _
theorem indexByte_mem (c:UInt8):∀ l:List UInt8,decide (Lib.indexByte l c≥0)=l.contains c
  | []=>by simp [Lib.indexByte]
  | b :: l=>by
    have ih:=indexByte_mem c l
    have hge:=Lib.indexByte_ge l c
    have hrec:Lib.indexByte (b :: l) c=if (b == c)=true then 0 else if (Lib.indexByte l c == -1)=true then -1 else Lib.indexByte l c+1:=by simp only [Lib.indexByte]
    rw [hrec]
    by_cases hb:(b == c)=true
    · rw [if_pos hb]
      have:b=c:=by simpa using hb
      subst this
      simp
    · rw [if_neg hb]
      have hb':(b == c)=false:=by simpa using hb
      have:(c == b)=false:=by rw [beq_eq_false_iff_ne] at hb' ⊢;exact fun e=>hb' e.symm
      rw [List.contains_cons,this,Bool.false_or,← ih]
      by_cases hm:Lib.indexByte l c = -1
      · rw [hm]
        rfl
      · rw [if_neg (by simpa using hm),decide_eq_true (show Lib.indexByte l c+1≥0 by omega),decide_eq_true (show Lib.indexByte l c≥0 by omega)]
theorem cap_ev (c:UInt8) (s:ByteArray):Ev (fun k=>Y0.f k (⟨#[c]⟩:ByteArray) s) (s.data.toList.contains c):=by
  have hc1:((⟨#[c]⟩:ByteArray).size:Int)=1:=rfl
  have hbt:(bt (⟨#[c]⟩:ByteArray) 0).toNat.toUInt8=c:=by
    have:bt (⟨#[c]⟩:ByteArray) 0=(c.toNat:Int):=rfl
    rw [this,Int.toNat_natCast]
    simp
  unfold Y0.f Y17.f Y20.f Y8.f
  by_cases he:(⟨#[c]⟩:ByteArray).toList=s.toList
  · have hs:s=⟨#[c]⟩:=(toList_inj he).symm
    subst hs
    refine Ev.bind (a:=decide ((0:Int)≥0)) (Ev.bind (a:=(0:Int)) (Ev.bind (a:=(0:Int)) (evNeg (by rw [hc1];omega) ?_) (Ev.now _)) (Ev.now _)) ?_
    · rw [beq_self_eq_true]
      exact Ev.step (f:=fun _=>some 0) (fun k=>by simp [Y8.j0]) (Ev.now _)
    · have:((⟨#[c]⟩:ByteArray).data.toList.contains c)=true:=by simp
      rw [this]
      exact (Ev.now true)
  · have hb:((⟨#[c]⟩:ByteArray).toList == s.toList)=false:=beq_eq_false_iff_ne.2 he
    rw [← indexByte_mem c s.data.toList,hb,hc1]
    refine Ev.bind (Ev.bind (Ev.bind (evNeg (by omega) (Ev.step (f:=fun _=>some (Lib.indexByte s.data.toList c)) (fun k=>?_) (Ev.now _))) (Ev.now _)) (Ev.now _)) (Ev.now _)
    simp only [Y8.j0,Y21.f,hbt]
    rw [if_neg (by simp),if_pos trivial,if_pos (by rw [hc1];omega)]
    rfl
theorem small_is (x:Int) (t:Bool):Y12.f x t=some (smallOk x t):=by
  unfold Y12.f smallOk
  by_cases h:x=0
  · simp [h]
  · rw [if_neg h,within_is,beq_eq_false_iff_ne.2 h]
    cases t <;> simp
theorem isPower_is (x:Int):Y22.f x=some (isWithin x (-1) 10000):=by simp [Y22.f,within_is]
/-- The letters of a kind's form. -/
def formOf (n:Int):ByteArray:=match Y18.f with
  | some l=>(rd_T63 l (n-1)).f1
  | none=>⟨#[]⟩
theorem forms_is:∃ l,Y18.f=some l∧l.length=17∧∀ n,formOf n=(rd_T63 l (n-1)).f1:=⟨_,rfl,rfl,fun _=>rfl⟩
theorem form_has (n:Int) (h:isKind n=true):(formOf n).data.toList.contains 65=hasA n∧(formOf n).data.toList.contains 66=hasB n∧(formOf n).data.toList.contains 75=hasK n∧(formOf n).data.toList.contains 68=hasD n:=by
  obtain rfl | rfl | rfl | rfl | rfl | rfl | rfl | rfl | rfl | rfl | rfl | rfl | rfl | rfl | rfl | rfl | rfl:=kinds n h
  all_goals decide
theorem dpart (f data:ByteArray) (hd:data.size≤1048576) (d:Bool) (hD:Ev (fun k=>Y0.f k (⟨#[68]⟩:ByteArray) f) d) :
    Ev (fun k=>(Y0.f k (⟨#[68]⟩:ByteArray) f).bind fun t150=>(if t150=true then ((Y3.f k data).bind fun t151=>(if t151=true then (if (data.size:Int)≤16 then (some true) else ((Y0.f k (⟨#[68]⟩:ByteArray) f).bind fun t152=>(if t152=true then (some false) else (some (data.toList == ([]:List UInt8)))))) else ((Y0.f k (⟨#[68]⟩:ByteArray) f).bind fun t153=>(if t153=true then (some false) else (some (data.toList == ([]:List UInt8))))))) else ((Y0.f k (⟨#[68]⟩:ByteArray) f).bind fun t154=>(if t154=true then (some false) else (some (data.toList == ([]:List UInt8))))))) (datOk d data):=by
  refine Ev.bind hD ?_
  cases d with
  | true =>
    refine evPos rfl (Ev.bind (impl_NameRight_ev data (by omega)) ?_)
    unfold datOk
    cases nameOk data with
    | true =>
      refine evPos rfl ?_
      by_cases h:data.size≤16
      · simpa [h] using evPos (g:=fun k=>(Y0.f k (⟨#[68]⟩:ByteArray) f).bind fun t152=>(if t152=true then (some false) else (some (data.toList == ([]:List UInt8))))) (show (data.size:Int)≤16 by omega) (Ev.now true)
      · refine evNeg (by omega) (Ev.bind hD (evPos rfl ?_))
        simpa [h] using Ev.now false
    | false=>exact evNeg (by simp) (Ev.bind hD (evPos rfl (by simpa using Ev.now false)))
  | false=>exact evNeg (by simp) (Ev.bind hD (evNeg (by simp) (Ev.now _)))
theorem act_j1 (n a b:Int) (key data:ByteArray) (pw:Int) (f:ByteArray) (hk:key.size≤1048576) (hd:data.size≤1048576) (k d:Bool) (hK:Ev (fun q=>Y0.f q (⟨#[75]⟩:ByteArray) f) k) (hD:Ev (fun q=>Y0.f q (⟨#[68]⟩:ByteArray) f) d) (c:Bool) :
    Ev (fun q=>Y1.j1 q (!c) n a b key data pw f) (c && (keyOk k key && datOk d data)):=by
  have hdp:=dpart f data hd d hD
  cases c with
  | false=>exact Ev.step (f:=fun _=>some false) (fun k=>by simp [Y1.j1]) (Ev.now _)
  | true =>
    refine Ev.step (fun k=>by simp only [Y1.j1];rw [if_neg (by simp)]) (Ev.bind hK ?_)
    cases k with
    | true =>
      refine evPos rfl (Ev.bind (impl_NameRight_ev key (by omega)) ?_)
      unfold keyOk
      cases nameOk key with
      | true=>exact evPos rfl (by simpa using hdp)
      | false=>exact evNeg (by simp) (Ev.bind hK (evPos rfl (by simpa using Ev.now false)))
    | false =>
      refine evNeg (by simp) (Ev.bind hK (evNeg (by simp) ?_))
      unfold keyOk
      by_cases h:key.toList=[]
      · exact evPos h (by simpa [h] using hdp)
      · have hf:(key.toList == ([]:List UInt8))=false:=beq_eq_false_iff_ne.2 h
        exact evNeg h (by simp only [hf,Bool.true_and,Bool.false_and,Bool.and_false,Bool.false_or,Bool.or_false,Bool.not_false,Bool.false_eq_true,↓reduceIte];exact Ev.now false)
theorem act_j0 (n a b:Int) (key data:ByteArray) (pw:Int) (hn:isKind n=true) (hk:key.size≤1048576) (hd:data.size≤1048576) (c:Bool) :
    Ev (fun q=>Y1.j0 q (!c) n a b key data pw) (c && (smallOk a (hasA n) && (smallOk b (hasB n) && (keyOk (hasK n) key && datOk (hasD n) data)))):=by
  cases c with
  | false=>exact Ev.step (f:=fun _=>some false) (fun k=>by simp [Y1.j0]) (Ev.now _)
  | true =>
    obtain ⟨l,e,hl,hf⟩:=forms_is
    obtain ⟨g1,g2,g3,g4⟩:=form_has n hn
    have hn':1≤n∧n≤17:=by simpa [isKind,isWithin] using hn
    have hw:wrap64 (n-1)=n-1:=w64 (by omega) (by omega)
    have cA:=cap_ev 65 (formOf n)
    have cB:=cap_ev 66 (formOf n)
    have cK:=cap_ev 75 (formOf n)
    have cD:=cap_ev 68 (formOf n)
    rw [g1] at cA
    rw [g2] at cB
    rw [g3] at cK
    rw [g4] at cD
    have j1:=act_j1 n a b key data pw (formOf n) hk hd (hasK n) (hasD n) cK cD
    rw [hf n] at cA cB j1
    refine Ev.step (f:=fun k=>(Y0.f k (⟨#[65]⟩:ByteArray) ((rd_T63 l (n-1)).f1)).bind fun t144=>((Y12.f a t144).bind fun t145=>(if t145=true then ((Y0.f k (⟨#[66]⟩:ByteArray) ((rd_T63 l (n-1)).f1)).bind fun t146=>((Y12.f b t146).bind fun t147=>(Y1.j1 k (!t147) n a b key data pw ((rd_T63 l (n-1)).f1)))) else (Y1.j1 k true n a b key data pw ((rd_T63 l (n-1)).f1))))) (fun k=>?_) (Ev.bind cA (evBind1 (small_is _ _) ?_))
    · simp only [Y1.j0,e,Option.bind_some,hw]
      rw [if_neg (by simp),if_pos (by omega),if_pos (by rw [hl];omega)]
    · cases smallOk a (hasA n) with
      | false=>exact evNeg (by simp) (by simpa using j1 false)
      | true=>exact evPos rfl (Ev.bind cB (evBind1 (small_is _ _) (by simpa using j1 (smallOk b (hasB n)))))
theorem impl_ActRight_ev (n a b:Int) (key data:ByteArray) (pw:Int) (hk:key.size≤1048576) (hd:data.size≤1048576):Ev (fun k=>Y1.f k n a b key data pw) (actOk n a b key data pw):=by
  unfold Y1.f actOk
  refine evBind1 (within_is n 1 17) ?_
  by_cases hn:isKind n=true
  · have j0:=act_j0 n a b key data pw hn hk hd
    refine evPos hn ?_
    rw [hn,Bool.true_and]
    unfold powOk
    by_cases hp:pw = -1
    · subst hp
      exact evPos rfl (by simpa using j0 true)
    · refine evNeg hp (Ev.bind (powered_ev n) ?_)
      rw [beq_eq_false_iff_ne.2 hp,Bool.false_or]
      cases hasPower n with
      | false=>exact evNeg (by simp) (by simpa using j0 false)
      | true=>exact evPos rfl (evBind1 (isPower_is pw) (by simpa using j0 (isWithin pw (-1) 10000)))
  · have hn':isKind n=false:=by simpa using hn
    refine evNeg hn ?_
    rw [hn',Bool.false_and]
    exact Ev.step (f:=fun _=>some false) (fun k=>by simp [Y1.j0]) (Ev.now _)
theorem nameOk_nil {t:ByteArray} (h:t.toList=[]):nameOk t=false:=by
  have e:t=⟨#[]⟩:=toList_inj (by rw [h,toList_data])
  subst e
  decide
theorem l10Power_is (x:Int):Y24.f x=some (isWithin x (-1) 10000):=by simp [Y24.f,l02Is_is]
theorem spec_j3 (n a b:Int) (key data:ByteArray) (pw:Int) (c:Bool):Ev (fun k=>Y2.j3 k (!c) n a b key data pw) (c && powOk n pw):=by
  cases c with
  | false=>exact Ev.step (f:=fun _=>some false) (fun k=>by simp [Y2.j3]) (Ev.now _)
  | true =>
    refine Ev.step (f:=fun _=>some (powOk n pw)) (fun k=>?_) (by simpa using Ev.now (powOk n pw))
    simp only [Y2.j3,l15Powered_is,l10Power_is,Option.bind_some,powOk]
    rw [if_neg (by simp)]
    by_cases hp:pw = -1
    · simp [hp]
    · rw [if_neg hp,beq_eq_false_iff_ne.2 hp]
      cases hasPower n <;> simp
theorem spec_j2 (n a b:Int) (key data:ByteArray) (pw:Int) (hd:data.size≤1048576) (d:Bool) (c:Bool):Ev (fun k=>Y2.j2 k d (!c) n a b key data pw) (c && (datOk d data && powOk n pw)):=by
  cases c with
  | false=>exact Ev.step (f:=fun _=>some false) (fun k=>by simp [Y2.j2]) (Ev.now _)
  | true =>
    have j3:=spec_j3 n a b key data pw
    have hs:(decide ((data.size:Int)>16))=!decide (data.size≤16):=by
      by_cases h:data.size≤16
      · simp [h];omega
      · simp [h];omega
    refine Ev.step (fun k=>by simp only [Y2.j2];rw [if_neg (by simp)]) (Ev.bind (spec_NameRight_ev data hd) ?_)
    unfold datOk
    cases d with
    | true =>
      cases nameOk data with
      | true=>exact evNeg (by simp) (evPos rfl (by rw [hs];simpa using j3 (decide (data.size≤16))))
      | false=>exact evPos (by simp) (by simpa using j3 false)
    | false =>
      by_cases he:data.toList=[]
      · have h0:=toList_nil he
        rw [nameOk_nil he]
        refine evNeg (by simp) (evNeg (by simp) (evPos he ?_))
        rw [hs]
        simpa [he,h0] using j3 true
      · have hf:(data.toList == ([]:List UInt8))=false:=beq_eq_false_iff_ne.2 he
        cases nameOk data with
        | true=>exact evPos (by simp) (by simp only [hf,Bool.true_and,Bool.false_and,Bool.and_false,Bool.false_or,Bool.or_false,Bool.not_false,Bool.false_eq_true,↓reduceIte];exact j3 false)
        | false=>exact evNeg (by simp) (evNeg (by simp) (evNeg he (by simp only [hf,Bool.true_and,Bool.false_and,Bool.and_false,Bool.false_or,Bool.or_false,Bool.not_false,Bool.false_eq_true,↓reduceIte];exact j3 false)))
theorem spec_j1 (n a b:Int) (key data:ByteArray) (pw:Int) (hk:key.size≤1048576) (hd:data.size≤1048576) (q d:Bool) (c:Bool):Ev (fun k=>Y2.j1 k q d (!c) n a b key data pw) (c && (keyOk q key && (datOk d data && powOk n pw))):=by
  cases c with
  | false=>exact Ev.step (f:=fun _=>some false) (fun k=>by simp [Y2.j1]) (Ev.now _)
  | true =>
    have j2:=spec_j2 n a b key data pw hd d
    refine Ev.step (fun k=>by simp only [Y2.j1];rw [if_neg (by simp)]) (Ev.bind (spec_NameRight_ev key hk) ?_)
    unfold keyOk
    cases q with
    | true =>
      cases nameOk key with
      | true=>exact evNeg (by simp) (evPos rfl (by simpa using j2 true))
      | false=>exact evPos (by simp) (by simpa using j2 false)
    | false =>
      by_cases he:key.toList=[]
      · rw [nameOk_nil he]
        refine evNeg (by simp) (evNeg (by simp) ?_)
        simpa [he] using j2 true
      · have hf:(key.toList == ([]:List UInt8))=false:=beq_eq_false_iff_ne.2 he
        cases nameOk key with
        | true=>exact evPos (by simp) (by simp only [hf,Bool.true_and,Bool.false_and,Bool.and_false,Bool.false_or,Bool.or_false,Bool.not_false,Bool.false_eq_true,↓reduceIte];exact j2 false)
        | false =>
          refine evNeg (by simp) (evNeg (by simp) ?_)
          have:(key.toList != ([]:List UInt8))=!(key.toList == []):=rfl
          rw [this]
          simp only [hf,Bool.true_and,Bool.false_and,Bool.and_false,Bool.false_or,Bool.or_false,Bool.not_false,Bool.false_eq_true,↓reduceIte];exact j2 false
theorem small_split (x:Int) (t:Bool) (h:isWithin x 0 999999=true):smallOk x t=(t || x == 0):=by
  unfold smallOk
  rw [h]
  cases t <;> simp
theorem small_no {x:Int} (t:Bool) (h:isWithin x 0 999999=false):smallOk x t=false:=by
  unfold smallOk
  have:x≠0:=by
    rintro rfl
    simp [isWithin] at h
  rw [h,beq_eq_false_iff_ne.2 this]
  simp
theorem spec_ActRight_ev (n a b:Int) (key data:ByteArray) (pw:Int) (hk:key.size≤1048576) (hd:data.size≤1048576):Ev (fun k=>Y2.f k n a b key data pw) (actOk n a b key data pw):=by
  obtain ⟨w,ew,hw⟩:=l15Word_ev n
  have j1:=spec_j1 n a b key data pw hk hd (hasK n) (hasD n)
  have j0T:Ev (fun k=>Y2.j0 k (hasA n) (hasB n) (hasK n) (hasD n) true n a b key data pw) false:=Ev.step (f:=fun _=>some false) (fun k=>by simp [Y2.j0]) (Ev.now _)
  unfold Y2.f actOk
  refine Ev.bind (l15Has_ev n) (Ev.bind ew ?_)
  cases hn:isKind n with
  | false=>exact evPos (hw.2 hn) (by simpa using j0T)
  | true =>
    refine evNeg (fun e=>by rw [hw.1 e] at hn;simp at hn) (evBind1 (l02Is_is _ _ _) ?_)
    cases ha:isWithin a 0 999999 with
    | false=>exact evNeg (by simp) (by rw [small_no _ ha];simpa using j0T)
    | true =>
      refine evPos rfl (evBind1 (l02Is_is _ _ _) ?_)
      cases hb:isWithin b 0 999999 with
      | false=>rw [small_no (hasB n) hb];simpa using j0T
      | true =>
        rw [small_split a _ ha,small_split b _ hb]
        have key':∀ (p q:Bool),Ev (fun k=>Y2.j0 k p q (hasK n) (hasD n) false n a b key data pw) ((p || a == 0) && ((q || b == 0) && (keyOk (hasK n) key && (datOk (hasD n) data && powOk n pw)))):=by
          intro p q
          refine Ev.step (fun k=>by simp only [Y2.j0];rw [if_neg (by simp)]) ?_
          cases p with
          | true =>
            refine evPos rfl ?_
            cases q with
            | true=>exact evPos rfl (by simpa using j1 true)
            | false =>
              refine evNeg (by simp) ?_
              have:(b != 0)=!(b == 0):=rfl
              rw [this]
              simpa using j1 (b == 0)
          | false =>
            refine evNeg (by simp) ?_
            by_cases h0:a=0
            · refine evPos h0 ?_
              cases q with
              | true=>exact evPos rfl (by simpa [h0] using j1 true)
              | false =>
                refine evNeg (by simp) ?_
                have:(b != 0)=!(b == 0):=rfl
                rw [this]
                simpa [h0] using j1 (b == 0)
            · have hf:(a == 0)=false:=beq_eq_false_iff_ne.2 h0
              exact evNeg h0 (by simp only [hf,Bool.true_and,Bool.false_and,Bool.and_false,Bool.false_or,Bool.or_false,Bool.not_false,Bool.false_eq_true,↓reduceIte];exact j1 false)
        have:=key' (hasA n) (hasB n)
        have e:(true && (powOk n pw && ((hasA n || a == 0) && ((hasB n || b == 0) && (keyOk (hasK n) key && datOk (hasD n) data)))))=((hasA n || a == 0) && ((hasB n || b == 0) && (keyOk (hasK n) key && (datOk (hasD n) data && powOk n pw)))):=by
          cases powOk n pw <;> cases (hasA n || a == 0) <;> cases (hasB n || b == 0) <;> cases keyOk (hasK n) key <;> cases datOk (hasD n) data <;> rfl
        rw [e]
        exact this
end Go.Proofs.YtffjlmmlclpcnaaDoor.Q

namespace Go.Proofs.YtffjlmmlclpcnaaDoor.Q
open Go.RowKit Go.Proofs.YtffjlmmlclpcnaaDoor.P Go.Proofs.YtffjlmmlclpcnaaDoorW.PrintWords Go.Proofs.YtffjlmmlclpcnaaDoorW.PrintMore

def numText (n:Int):ByteArray:=⟨(Lib.itoa n).toArray⟩
theorem digits_len:∀ (j u:Nat),u<10 ^ (j+1)→(Lib.decDigits u).length≤j+1
  | 0,u,h=>by rw [Lib.decDigits_one (by simpa using h)];simp
  | j+1,u,h=>by
    by_cases hu:u<10
    · rw [Lib.decDigits_one hu];simp
    · rw [Lib.decDigits,dif_neg hu,List.length_append]
      have:=digits_len j (u / 10) (by rw [Nat.pow_succ] at h;omega)
      simp only [List.length_cons,List.length_nil]
      omega
theorem numText_size {n:Int} (h0:0≤n) (h1:n≤9223372036854775807):(numText n).size≤19:=by
  have h:=digits_len 18 n.toNat (by have:(10:Nat) ^ (18+1)=10000000000000000000:=rfl;omega)
  unfold numText Lib.itoa
  rw [if_neg (by omega)]
  show (Lib.decDigits n.toNat).toArray.size≤19
  rw [List.size_toArray]
  exact h
theorem strOne (d:Nat) (hd:d<10):strOfNums ([(48+(d:Int)) % 256]:List Int)=⟨#[UInt8.ofNat (48+d)]⟩:=by
  obtain rfl | rfl | rfl | rfl | rfl | rfl | rfl | rfl | rfl | rfl:d=0∨d=1∨d=2∨d=3∨d=4∨d=5∨d=6∨d=7∨d=8∨d=9:=by omega
  all_goals rfl
theorem dec_l0:∀ (j x:Nat) (t:ByteArray),x<10 ^ j→j≤20→x≤9223372036854775807→t.size+j≤1000 →
    Ev (fun k=>Y7.l0 k (x:Int) false t) (if x=0 then t else (⟨(Lib.decDigits x).toArray⟩:ByteArray) ++ t)
  | 0,x,t,h,_,_,_=>by
    have:x=0:=by simpa using h
    subst this
    exact Ev.step (f:=fun _=>some t) (fun k=>by simp [Y7.l0]) (Ev.now _)
  | j+1,x,t,h,hj,hx,ht=>by
    by_cases h0:x=0
    · subst h0
      exact Ev.step (f:=fun _=>some t) (fun k=>by simp [Y7.l0]) (Ev.now _)
    · rw [if_neg h0]
      have hd:Int.tmod (x:Int) 10=((x % 10:Nat):Int):=by rw [Int.tmod_eq_emod_of_nonneg (by omega)];omega
      have hq:Int.tdiv (x:Int) 10=((x / 10:Nat):Int):=by rw [Int.tdiv_eq_ediv_of_nonneg (by omega)];omega
      have hs:=strOne (x % 10) (by omega)
      have hsz:(strOfNums ([(wrap64 (48+Int.tmod (x:Int) 10)) % 256]:List Int)).size=1:=rfl
      have e:strOfNums ([(wrap64 (48+Int.tmod (x:Int) 10)) % 256]:List Int)=⟨#[UInt8.ofNat (48+x % 10)]⟩:=by rw [hd,w64 (by omega) (by omega)];exact hs
      have ih:=dec_l0 j (x / 10) ((⟨#[UInt8.ofNat (48+x % 10)]⟩:ByteArray) ++ t) (by rw [Nat.pow_succ] at h;omega) (by omega) (by omega) (by rw [ByteArray.size_append];show 1+t.size+j≤1000;omega)
      have er:(if x / 10=0 then (⟨#[UInt8.ofNat (48+x % 10)]⟩:ByteArray) ++ t else (⟨(Lib.decDigits (x / 10)).toArray⟩:ByteArray) ++ ((⟨#[UInt8.ofNat (48+x % 10)]⟩:ByteArray) ++ t))=(⟨(Lib.decDigits x).toArray⟩:ByteArray) ++ t:=by
        by_cases hu:x<10
        · rw [if_pos (by omega),Lib.decDigits_one hu,Nat.mod_eq_of_lt hu]
        · rw [if_neg (by omega),show Lib.decDigits x=Lib.decDigits (x / 10) ++ [UInt8.ofNat (48+x % 10)] from by rw [Lib.decDigits,dif_neg hu],← ByteArray.append_assoc]
          have e3:(⟨(Lib.decDigits (x / 10) ++ [UInt8.ofNat (48+x % 10)]).toArray⟩:ByteArray)=(⟨(Lib.decDigits (x / 10)).toArray⟩:ByteArray) ++ (⟨#[UInt8.ofNat (48+x % 10)]⟩:ByteArray):=by
            apply ByteArray.ext
            rw [ByteArray.data_append]
            simp
          rw [e3]
      rw [er] at ih
      refine Ev.step (fun k=>?_) ih
      simp only [Y7.l0]
      rw [if_neg (by omega),if_neg (by omega),Option.bind_some,if_pos (by rw [hsz];omega),e,hq,w64 (by omega) (by omega)]
theorem l01Dec_ev (n:Int) (h0:0≤n) (h1:n≤9223372036854775807):Ev (fun k=>Y7.f k n) (numText n):=by
  unfold Y7.f
  by_cases hz:n=0
  · subst hz
    exact evPos rfl (by have:numText 0=⟨#[48]⟩:=(by unfold numText Lib.itoa;rw [if_neg (by omega),Lib.decDigits_one (by decide)];rfl);rw [this];exact Ev.now _)
  · refine evNeg hz ?_
    rw [decide_eq_false (by omega)]
    obtain ⟨x,rfl⟩:=Int.eq_ofNat_of_zero_le h0
    have h:=dec_l0 19 x ⟨#[]⟩ (by have:(10:Nat) ^ 19=10000000000000000000:=rfl;omega) (by omega) (by omega) (by decide)
    rw [if_neg (by omega)] at h
    have e:(⟨(Lib.decDigits x).toArray⟩:ByteArray) ++ (⟨#[]⟩:ByteArray)=numText (x:Int):=by
      unfold numText Lib.itoa
      rw [if_neg (by omega),Int.toNat_natCast]
      apply ByteArray.ext
      rw [ByteArray.data_append]
      simp
    rw [e] at h
    exact h
end Go.Proofs.YtffjlmmlclpcnaaDoor.Q

namespace Go.Proofs.YtffjlmmlclpcnaaDoor.Q
open Go.RowKit Go.Proofs.YtffjlmmlclpcnaaDoor.P Go.Proofs.YtffjlmmlclpcnaaDoorW.PrintWords Go.Proofs.YtffjlmmlclpcnaaDoorW.PrintMore

theorem decimal_is (n:Int) (h0 : -9223372036854775808≤n) (h1:n≤9223372036854775807):Y19.f n=some (numText n):=by
  unfold Y19.f numText
  rw [if_pos ⟨h0,h1⟩]
/-- The word of a kind. -/
def wordOf (n:Int):ByteArray:=match Y18.f with
  | some l=>(rd_T63 l (n-1)).f0
  | none=>⟨#[]⟩
theorem words_is:∃ l,Y18.f=some l∧l.length=17∧(∀ n,formOf n=(rd_T63 l (n-1)).f1)∧∀ n,wordOf n=(rd_T63 l (n-1)).f0:=⟨_,rfl,rfl,fun _=>rfl,fun _=>rfl⟩
def opt (b:Bool) (c:UInt8):List UInt8:=if b=true then [c] else []
theorem form_is (n:Int) (h:isKind n=true):(formOf n).data.toList=opt (hasA n) 65 ++ (opt (hasB n) 66 ++ (opt (hasK n) 75 ++ opt (hasD n) 68)):=by
  obtain rfl | rfl | rfl | rfl | rfl | rfl | rfl | rfl | rfl | rfl | rfl | rfl | rfl | rfl | rfl | rfl | rfl:=kinds n h
  all_goals decide
theorem word_size (n:Int) (h:isKind n=true):(wordOf n).size≤10:=by
  obtain rfl | rfl | rfl | rfl | rfl | rfl | rfl | rfl | rfl | rfl | rfl | rfl | rfl | rfl | rfl | rfl | rfl:=kinds n h
  all_goals decide
theorem l15Word_is (n:Int) (h:isKind n=true):Ev (fun k=>Y6.f k n) (wordOf n):=by
  unfold Y6.f
  have hk:1≤n∧n≤17:=by simpa only [isKind,isWithin,Bool.and_eq_true,decide_eq_true_eq] using h
  have jF:∀ y:List ByteArray,¬ n≥(y.length:Int)→¬ n<1→Ev (fun k=>Y6.j0 k n y (decide (n≥(y.length:Int)))) (rdOf ByteArray.empty y n):=fun y h h0=>by
    rw [decide_eq_false h]
    refine Ev.step (f:=fun _=>some (rdOf ByteArray.empty y n)) (fun k=>?_) (Ev.now _)
    simp only [Y6.j0]
    rw [if_neg (by simp),if_pos (by omega),if_pos (by omega)]
  refine evBind1 rfl (evNeg (by omega) ?_)
  have e:=jF _ (show ¬ n≥((([(⟨#[]⟩:ByteArray),(⟨#[112,117,116]⟩:ByteArray),(⟨#[111,118,101,114]⟩:ByteArray),(⟨#[100,101,108]⟩:ByteArray),(⟨#[103,101,116]⟩:ByteArray),(⟨#[100,101,108,105,118,101,114]⟩:ByteArray),(⟨#[108,111,115,101]⟩:ByteArray),(⟨#[116,119,105,99,101]⟩:ByteArray),(⟨#[116,105,99,107]⟩:ByteArray),(⟨#[99,114,97,115,104]⟩:ByteArray),(⟨#[115,116,97,114,116]⟩:ByteArray),(⟨#[115,117,115,112,101,99,116]⟩:ByteArray),(⟨#[116,114,117,115,116]⟩:ByteArray),(⟨#[104,97,110,100]⟩:ByteArray),(⟨#[112,97,99,107]⟩:ByteArray),(⟨#[115,101,116,116,108,101]⟩:ByteArray),(⟨#[115,112,114,101,97,100]⟩:ByteArray),(⟨#[101,120,99,104,97,110,103,101]⟩:ByteArray)]:List ByteArray)).length:Int) by simp;omega) (by omega)
  have e2:rdOf ByteArray.empty ([(⟨#[]⟩:ByteArray),(⟨#[112,117,116]⟩:ByteArray),(⟨#[111,118,101,114]⟩:ByteArray),(⟨#[100,101,108]⟩:ByteArray),(⟨#[103,101,116]⟩:ByteArray),(⟨#[100,101,108,105,118,101,114]⟩:ByteArray),(⟨#[108,111,115,101]⟩:ByteArray),(⟨#[116,119,105,99,101]⟩:ByteArray),(⟨#[116,105,99,107]⟩:ByteArray),(⟨#[99,114,97,115,104]⟩:ByteArray),(⟨#[115,116,97,114,116]⟩:ByteArray),(⟨#[115,117,115,112,101,99,116]⟩:ByteArray),(⟨#[116,114,117,115,116]⟩:ByteArray),(⟨#[104,97,110,100]⟩:ByteArray),(⟨#[112,97,99,107]⟩:ByteArray),(⟨#[115,101,116,116,108,101]⟩:ByteArray),(⟨#[115,112,114,101,97,100]⟩:ByteArray),(⟨#[101,120,99,104,97,110,103,101]⟩:ByteArray)]:List ByteArray) n=wordOf n:=by
    obtain rfl | rfl | rfl | rfl | rfl | rfl | rfl | rfl | rfl | rfl | rfl | rfl | rfl | rfl | rfl | rfl | rfl:=kinds n h
    all_goals rfl
  rw [e2] at e
  exact e
/-- A field behind a blank, if it is there. -/
def put (b:Bool) (o d:ByteArray):ByteArray:=if b=true then (o ++ (⟨#[32]⟩:ByteArray)) ++ d else o
def headOf (n pw:Int):ByteArray:=if pw = -1 then wordOf n else (((⟨#[33]⟩:ByteArray) ++ numText pw) ++ (⟨#[32]⟩:ByteArray)) ++ wordOf n
def actText (n a b:Int) (key data:ByteArray) (pw:Int):ByteArray:=put (hasD n) (put (hasK n) (put (hasB n) (put (hasA n) (headOf n pw) (numText a)) (numText b)) key) data
theorem put_size (b:Bool) (o d:ByteArray):(put b o d).size≤o.size+1+d.size:=by
  unfold put
  split
  · rw [ByteArray.size_append,ByteArray.size_append];exact Nat.le_refl _
  · omega
theorem head_size (n pw:Int) (h:isKind n=true) (h0 : -1≤pw) (h1:pw≤10000):(headOf n pw).size≤40:=by
  unfold headOf
  have:=word_size n h
  split
  · omega
  · rename_i hp
    have:=numText_size (n:=pw) (by omega) (by omega)
    rw [ByteArray.size_append,ByteArray.size_append,ByteArray.size_append]
    show 1+_+1+_≤40
    omega
theorem g_opt (a b:Int) (key data:ByteArray) (c:UInt8) (d:ByteArray) (hc:(if c=65 then Y19.f a else if c=66 then Y19.f b else if c=75 then some key else some data)=some d) (t:Bool) (rest:List UInt8) (o:ByteArray) (h:o.size+1+d.size≤9223372036854775807) :
    Y11.g a b key data (opt t c ++ rest) o=Y11.g a b key data rest (put t o d):=by
  cases t with
  | false=>rfl
  | true =>
    show Y11.g a b key data (c :: rest) o=_
    simp only [Y11.g,hc,Option.bind_some]
    rw [if_pos (by omega),if_pos (by omega)]
    simp only [put,if_true,ByteArray.append_assoc]
theorem actText_is (n a b:Int) (key data:ByteArray) (pw:Int) (hk:isKind n=true) (ha:0≤a∧a≤999999) (hb:0≤b∧b≤999999) (hp : -1≤pw∧pw≤10000) (hs:key.size≤1048576) (hd:data.size≤1048576) :
    Y11.f n a b key data pw=some (actText n a b key data pw):=by
  have hk':1≤n∧n≤17:=by simpa only [isKind,isWithin,Bool.and_eq_true,decide_eq_true_eq] using hk
  obtain ⟨l,hl,hl17,hf,hw⟩:=words_is
  have hall:∀ b ∈ (formOf n).data.toList,b.toNat<128:=by
    obtain rfl | rfl | rfl | rfl | rfl | rfl | rfl | rfl | rfl | rfl | rfl | rfl | rfl | rfl | rfl | rfl | rfl:=kinds n hk
    all_goals decide
  have hhs:=head_size n pw hk hp.1 hp.2
  have sa:=numText_size (n:=a) ha.1 (by omega)
  have sb:=numText_size (n:=b) hb.1 (by omega)
  have s1:=put_size (hasA n) (headOf n pw) (numText a)
  have s2:=put_size (hasB n) (put (hasA n) (headOf n pw) (numText a)) (numText b)
  have s3:=put_size (hasK n) (put (hasB n) (put (hasA n) (headOf n pw) (numText a)) (numText b)) key
  unfold Y11.f
  rw [hl,Option.bind_some,w64 (by omega) (by omega),if_pos (by omega),if_pos (by rw [hl17];omega),← hf,← hw,if_pos hall]
  have hS:Y11.s pw (wordOf n)=some (headOf n pw):=by
    unfold Y11.s headOf
    by_cases h1:pw = -1
    · rw [if_pos h1,if_pos h1]
    · have sp:=numText_size (n:=pw) (by omega) (by omega)
      have sw:=word_size n hk
      rw [if_neg h1,if_neg h1,decimal_is pw (by omega) (by omega),Option.bind_some,if_pos (by omega),if_pos (by omega),if_pos (by omega)]
  rw [hS,Option.bind_some,form_is n hk,g_opt a b key data 65 (numText a) (by rw [if_pos rfl];exact decimal_is a (by omega) (by omega)) _ _ _ (by omega),g_opt a b key data 66 (numText b) (by rw [if_neg (by decide),if_pos rfl];exact decimal_is b (by omega) (by omega)) _ _ _ (by omega),
    g_opt a b key data 75 key (by rw [if_neg (by decide),if_neg (by decide),if_pos rfl]) _ _ _ (by omega)]
  have h4:=g_opt a b key data 68 data (by rw [if_neg (by decide),if_neg (by decide),if_neg (by decide)]) (hasD n) [] (put (hasK n) (put (hasB n) (put (hasA n) (headOf n pw) (numText a)) (numText b)) key) (by omega)
  rw [List.append_nil] at h4
  rw [h4]
  rfl
theorem at_j3 (n a b:Int) (key data:ByteArray) (pw:Int) (d:Bool) (o:ByteArray) (h:o.size+1+data.size≤9223372036854775807) :
    Ev (fun k=>Y4.j3 k d o n a b key data pw) (put d o data):=by
  cases d with
  | false=>exact Ev.step (f:=fun _=>some o) (fun k=>by simp [Y4.j3]) (Ev.now _)
  | true =>
    refine Ev.step (f:=fun _=>some ((o ++ (⟨#[32]⟩:ByteArray)) ++ data)) (fun k=>?_) (Ev.now _)
    simp only [Y4.j3]
    rw [if_pos trivial,if_pos (by omega),if_pos (by omega)]
theorem at_j2 (n a b:Int) (key data:ByteArray) (pw:Int) (c d:Bool) (o:ByteArray) (h:o.size+2+key.size+data.size≤9223372036854775807) :
    Ev (fun k=>Y4.j2 k c d o n a b key data pw) (put d (put c o key) data):=by
  have hs:=put_size c o key
  have h3:=at_j3 n a b key data pw d (put c o key) (by omega)
  cases c with
  | false=>exact Ev.step (fun k=>by simp only [Y4.j2];rw [if_neg (by simp)];rfl) h3
  | true =>
    refine Ev.step (fun k=>?_) h3
    simp only [Y4.j2]
    rw [if_pos trivial,if_pos (by omega),if_pos (by omega)]
    rfl
theorem at_j1 (n a b:Int) (key data:ByteArray) (pw:Int) (hb:0≤b∧b≤999999) (e c d:Bool) (o:ByteArray) (h:o.size+22+key.size+data.size≤9223372036854775807) :
    Ev (fun k=>Y4.j1 k e c d o n a b key data pw) (put d (put c (put e o (numText b)) key) data):=by
  have hs:=put_size e o (numText b)
  have sb:=numText_size (n:=b) hb.1 (by omega)
  have h3:=at_j2 n a b key data pw c d (put e o (numText b)) (by omega)
  cases e with
  | false=>exact Ev.step (fun k=>by simp only [Y4.j1];rw [if_neg (by simp)];rfl) h3
  | true =>
    refine Ev.step (fun k=>by simp only [Y4.j1];rw [if_pos trivial,if_pos (by omega)]) ?_
    refine Ev.bind (l01Dec_ev b hb.1 (by omega)) ?_
    exact evPos (by omega) h3
theorem at_j0 (n a b:Int) (key data:ByteArray) (pw:Int) (ha:0≤a∧a≤999999) (hb:0≤b∧b≤999999) (x e c d:Bool) (o:ByteArray) (h:o.size+42+key.size+data.size≤9223372036854775807) :
    Ev (fun k=>Y4.j0 k x e c d o n a b key data pw) (put d (put c (put e (put x o (numText a)) (numText b)) key) data):=by
  have hs:=put_size x o (numText a)
  have sb:=numText_size (n:=a) ha.1 (by omega)
  have h3:=at_j1 n a b key data pw hb e c d (put x o (numText a)) (by omega)
  cases x with
  | false=>exact Ev.step (fun k=>by simp only [Y4.j0];rw [if_neg (by simp)];rfl) h3
  | true =>
    refine Ev.step (fun k=>by simp only [Y4.j0];rw [if_pos trivial,if_pos (by omega)]) ?_
    refine Ev.bind (l01Dec_ev a ha.1 (by omega)) ?_
    exact evPos (by omega) h3
theorem act_parts {n a b:Int} {key data:ByteArray} {pw:Int} (h:actOk n a b key data pw=true):isKind n=true∧(0≤a∧a≤999999)∧(0≤b∧b≤999999)∧(-1≤pw∧pw≤10000):=by
  simp only [actOk,powOk,smallOk,isWithin,Bool.and_eq_true,Bool.or_eq_true,beq_iff_eq,decide_eq_true_eq] at h
  obtain ⟨h1,h2,h3,h4,_⟩:=h
  refine ⟨h1,?_,?_,?_⟩
  · rcases h3 with h | ⟨_,h⟩ <;> omega
  · rcases h4 with h | ⟨_,h⟩ <;> omega
  · rcases h2 with h | ⟨_,h⟩ <;> omega
theorem spec_ActText_ev (n a b:Int) (key data:ByteArray) (pw:Int) (hk:key.size≤1048576) (hd:data.size≤1048576) :
    Ev (fun k=>Y4.f k n a b key data pw) (if actOk n a b key data pw=true then actText n a b key data pw else ⟨#[]⟩):=by
  unfold Y4.f
  refine Ev.bind (spec_ActRight_ev n a b key data pw hk hd) ?_
  by_cases h:actOk n a b key data pw=true
  · obtain ⟨h1,h2,h3,h4⟩:=act_parts h
    have hhs:=head_size n pw h1 h4.1 h4.2
    have hj:=at_j0 n a b key data pw h2 h3 (hasA n) (hasB n) (hasK n) (hasD n) (headOf n pw) (by omega)
    rw [show (if actOk n a b key data pw=true then actText n a b key data pw else ⟨#[]⟩)=actText n a b key data pw from if_pos h]
    refine evPos h (Ev.bind (l15Has_ev n) (Ev.bind (l15Word_is n h1) ?_))
    by_cases hp:pw = -1
    · refine evPos hp ?_
      rw [show headOf n pw=wordOf n from if_pos hp] at hj
      unfold actText
      rw [show headOf n pw=wordOf n from if_pos hp]
      exact hj
    · have sp:=numText_size (n:=pw) (by omega) (by omega)
      have sw:=word_size n h1
      refine evNeg hp (Ev.bind (l01Dec_ev pw (by omega) (by omega)) (evPos (by omega) (evPos (by omega) (evPos (by omega) ?_))))
      unfold actText
      rw [show headOf n pw=_ from if_neg hp] at hj ⊢
      exact hj
  · rw [show (if actOk n a b key data pw=true then actText n a b key data pw else (⟨#[]⟩:ByteArray))=⟨#[]⟩ from if_neg h]
    exact evNeg h (Ev.now _)
theorem impl_ActText_ev (n a b:Int) (key data:ByteArray) (pw:Int) (hk:key.size≤1048576) (hd:data.size≤1048576) :
    Ev (fun k=>Y16.f k n a b key data pw) (if actOk n a b key data pw=true then actText n a b key data pw else ⟨#[]⟩):=by
  unfold Y16.f
  refine Ev.bind (impl_ActRight_ev n a b key data pw hk hd) ?_
  by_cases h:actOk n a b key data pw=true
  · obtain ⟨h1,h2,h3,h4⟩:=act_parts h
    rw [show (if actOk n a b key data pw=true then actText n a b key data pw else ⟨#[]⟩)=actText n a b key data pw from if_pos h]
    refine evPos h ?_
    rw [actText_is n a b key data pw h1 h2 h3 h4 hk hd,Option.bind_some]
    exact Ev.now _
  · rw [show (if actOk n a b key data pw=true then actText n a b key data pw else (⟨#[]⟩:ByteArray))=⟨#[]⟩ from if_neg h]
    exact evNeg h (Ev.now _)
end Go.Proofs.YtffjlmmlclpcnaaDoor.Q

namespace Go.Proofs.YtffjlmmlclpcnaaDoor.Pure
open Go.RowKit Go.Proofs.YtffjlmmlclpcnaaDoor.P Go.Proofs.YtffjlmmlclpcnaaDoor.Q Go.Proofs.YtffjlmmlclpcnaaDoorW.PrintWords Go.Proofs.YtffjlmmlclpcnaaDoorW.PrintMore
theorem FnExactActText:Y14.Pure:=by
  intro x hx
  have hk:x.f3.size≤9223372036854775807:=hx.2.2.2.1
  have hd:x.f4.size≤9223372036854775807:=hx.2.2.2.2.1
  refine Ev.rounds ?_
  unfold Y14.f Y26.f
  rw [w64 (x:=1048576-(x.f3.size:Int)) (by omega) (by omega)]
  by_cases h1:1048576-(x.f3.size:Int)<0
  · rw [if_pos h1]
    exact evBind1 rfl (evPos (by omega) (Ev.now _))
  · rw [if_neg h1,w64 (x:=1048576-(x.f3.size:Int)-(x.f4.size:Int)) (by omega) (by omega)]
    by_cases h2:1048576-(x.f3.size:Int)-(x.f4.size:Int)<0
    · rw [if_pos h2]
      exact evBind1 rfl (evPos (by omega) (Ev.now _))
    · rw [if_neg h2]
      exact evBind1 rfl (evNeg h2 (evBind1 rfl (Ev.bind (spec_ActText_ev _ _ _ _ _ _ (by show _≤_;dsimp only;omega) (by show _≤_;dsimp only;omega)) (evBind1 rfl (Ev.bind (impl_ActText_ev _ _ _ _ _ _ (by show _≤_;dsimp only;omega) (by show _≤_;dsimp only;omega)) (evPos rfl (Ev.now _)))))))
end Go.Proofs.YtffjlmmlclpcnaaDoor.Pure

namespace Go.Proofs.YtffjlmmlclpcnaaDoor.fnExactActText
open Go.ChangeShapes Go.WideShapes Go.ChangeAt Go.RowKit Go.Proofs.YtffjlmmlclpcnaaDoor.P Go.Proofs.YtffjlmmlclpcnaaDoor.RO Go.Proofs.YtffjlmmlclpcnaaDoor.Open Go.Proofs.YtffjlmmlclpcnaaDoorW.PrintWords
open Go.ChangeMaps (open_string shut_string)
set_option linter.unusedVariables false
theorem own:ownKnob Tryd.prog.godebug=none:=by kernel_rfl
theorem laidOut:laidOutB Tryd.prog=true:=by kernel_rfl
set_option maxRecDepth 100000 in
theorem lifted (os:Os) (started:os.Started) (H:Type) (enc:TypeId × Value→H) :
    ReturnsInHanded {} Tryd.checked os 3 .any (fun w args=>(Rows.fnExactActTextSpec.pre enc Tryd.prog Tryd.f3 Rows.fnExactActTextRow.domain false w args∧laidMetH Tryd.prog Rows.fnExactActTextRow.laid w)∧sizedMet enc Tryd.prog Tryd.f3 (OpenSpec.ofChange Rows.fnExactActTextSpec) false w args) (Rows.fnExactActTextSpec.post enc Tryd.prog Tryd.f3 false true false false):=by
  refine returnsInHanded_of_change_and (C:=Tryd.checked) (X:=fun w _=>laidMetH Tryd.prog Rows.fnExactActTextRow.laid w) (fun _ _ _ hh h=>h.of_heap hh) own started (by kernel_rfl) Tryd.func3
    (ChangeSpec.witness_shaped (enc:=enc) (C:=Tryd.checked) (X:=fun w _=>laidMetH Tryd.prog Rows.fnExactActTextRow.laid w) false (World.laidAll Tryd.prog os Rows.fnExactActTextRow.laid) #[.agg #[.int .i64 0,.int .i64 0,.int .i64 0,.string ByteArray.empty,.string ByteArray.empty,.int .i64 0]] 8 (World.laidAll_os _ _ _) (World.shaped_of_ZipB (by kernel_rfl) (by kernel_rfl)) (by kernel_rfl) (by kernel_rfl) (by kernel_rfl)
      (by rw [MakeChecks.laidMetH_plain _ _ _ (by kernel_rfl)];exact laidMet_laidAll _ (by kernel_rfl) (by kernel_rfl))) ?_
  intro W base args ds gs before hval0 hW hcnd hsz0 hL_ _
  have hsz:(DataW.weightsEach Tryd.prog (Tryd.f3.params.toList ++ Rows.fnExactActTextSpec.plain.varTypes Tryd.prog) (ds ++ gs)).all (· ≤ reachBytes)=true:=hsz0
  have hval:∀ (j:Nat) t v,Tryd.f3.params[j]? = some t→args[j]? = some v→Value.okWide Tryd.prog W .any base t v:=hval0
  have hW':=hW
  obtain ⟨p,q,hA0,hV,rfl,hfz,hnd⟩:=hW
  have hA:DataW.TrodAll enc Tryd.prog W 0 (fun _=>true) true Tryd.f3.params.toList args.toList ds p:=hA0
  rw [Tryd.params3] at hA hval hsz
  obtain ⟨v0,vs0,d0,ds0,p0,q0,hargs,rfl,rfl,h0,r0⟩:=trodAll_cons hA
  obtain ⟨rfl,rfl,rfl⟩:=trodAll_nil r0
  obtain rfl:args=#[v0]:=by cases args;simp_all
  obtain ⟨rfl,rfl⟩:=trodVars_none hV
  have k0:=h0
  have lt0:∀ x ∈ p0,x.block<W.heap.size:=by obtain ⟨m,hm⟩:=k0;exact DataW.trod_lt m _ _ _ hm
  obtain ⟨cs0,rfl,_⟩:=okWide_struct Tryd.underlying23 (hval 0 23 v0 rfl rfl)
  obtain ⟨fuel0,hf0⟩:=h0
  obtain ⟨x0,hk0,w0⟩:=op_T23 hf0
  have hcs0:=k23_open hk0
  obtain rfl:cs0=#[.int .i64 x0.f0,.int .i64 x0.f1,.int .i64 x0.f2,.string x0.f3,.string x0.f4,.int .i64 x0.f5]:=Array.toList_inj.1 hcs0
  have htab_:P.Tab_ W:=by
    rw [MakeChecks.laidMetH_plain _ _ _ (by kernel_rfl)] at hL_
    have h_:=laidMet.filter (fun x=>x.1 == "internal/strconv.uint64pow10") hL_
    have e_:(Rows.fnExactActTextRow.laid).filter (fun x=>x.1 == "internal/strconv.uint64pow10")=[("internal/strconv.uint64pow10", Lib.tabData .u64 Lib.pow10Tab)]:=by kernel_rfl
    rw [e_] at h_
    exact Lib.tabIs_of_head (g:=1) (t:=99) (e:=89) (n:=20) (by kernel_rfl) (by kernel_rfl) (by kernel_rfl) (by kernel_rfl) (by kernel_rfl) (by kernel_rfl) h_
  clear hA0 hval0 hsz0 hsz
  obtain ⟨k,hp⟩:=Pure.FnExactActText x0 w0
  refine (P.Y14.calls k x0.f0 x0.f1 x0.f2 x0.f3 x0.f4 x0.f5 true W  hp htab_).mono fun e W' ⟨he,bel0⟩=>?_
  have bel:Below W.heap.size W W':=bel0
  subst he
  exact ⟨_,rfl,_,_,_,[],_,[],hW',trodAll_mk1 (shut_bool Tryd.underlying4 _),(trodAll_cons_mk (Below.trod laidOut (by kernel_rfl) (of_decide_eq_true (by kernel_rfl)) k0 bel lt0) trodAll_mk0),rfl,bel.frame _,fun h=>by cases h⟩
theorem over:Rows.fnExactActTextRow.holds Tryd.pinned (OpenSpec.ofChange Rows.fnExactActTextSpec) :=
  OpenClaim.holds_of_wide 3 Tryd.f3 rfl rfl rfl rfl rfl rfl rfl ⟨rfl,rfl,rfl,rfl,rfl⟩ rfl rfl rfl rfl rfl (by kernel_rfl) Tryd.func3 (by kernel_rfl)
    (of_decide_eq_true (by kernel_rfl)) (by unfold Func.isWrapper;first | (rw [if_pos (by decide +kernel)];kernel_rfl) | (rw [if_neg (by decide +kernel)];exact ⟨rfl,rfl⟩))
    (fun os started H enc _=>lifted os started H enc)
theorem proved:Rows.FnExactActTextSaid:=over
theorem card:Rows.FnExactActTextCardSaid :=
  Claim7.holds_tied_plain_at .later [] [.data,.data,.data] true (true, "5845a95d3e8eed014b4d3e9917a0a8492f1694fc26f86ed7c471d54a3939147d") false proved (fun _ h=>by cases h) (by kernel_rfl) (fun _ h=>by cases h) fnExactActText_row_tie rfl ⟨rfl,rfl⟩ (by kernel_rfl) rfl
    (fun f fn hf hfn=>by
      obtain rfl:f=3:=Option.some.inj ((show Tryd.prog.funcNamed Rows.fnExactActTextRow.func=some 3 by kernel_rfl).symm.trans hf) |>.symm
      obtain rfl:fn=Tryd.f3:=(Option.some.inj (Tryd.func3.symm.trans hfn)).symm
      exact ⟨by kernel_rfl,fun j t ht=>by
        rw [Tryd.params3] at ht
        have h_:t ∈ [23]:=by have:=Array.mem_of_getElem? ht;simpa using this
        have hs_:∀ x ∈ [23],Tryd.prog.wantsStandIn x=false:=by
          intro x hx
          simp only [List.mem_cons,List.not_mem_nil,or_false] at hx
          rcases hx with rfl <;> kernel_rfl
        exact hs_ t h_⟩)
    (by kernel_rfl)
#print axioms card
#print axioms proved
end Go.Proofs.YtffjlmmlclpcnaaDoor.fnExactActText
namespace Go.Proofs.YtffjlmmlclpcnaaDoor
/-- The row, under a short name, for the claim. -/
theorem fnExactActText_holds:Rows.FnExactActTextCardSaid:=fnExactActText.card
end Go.Proofs.YtffjlmmlclpcnaaDoor
