/- For all numbers the program's RingNew and the reference's return the same, of memory of its own. No condition. (Part 3 of 3: written by programs of this workplace and by hand, merged.) -/
import Derived.Test.YtdogendcjmgnnaaDoorMFnExactRingNewa
import Derived.Test.YtdogendcjmgnnaaDoorMFnExactRingNewb
import Derived.Test.YtdogendcjmgnnaaDoorMFnExactRingNewWWords
import Derived.ChangeArms
import Derived.ChangeSlices
import Derived.WideShapes
import Derived.Test.YtdogendcjmgnnaaDoorMFnExactRingNewWMore
import Derived.Laws.BitsLemmas
import Derived.Test.YtdogendcjmgnnaaDoorRows
import Derived.Test.YtdogendcjmgnnaaDoorTie
import Derived.Test.YtdogendcjmgnnaaDoorCards
import Derived.WalkKit
import Derived.ProofKit
import Derived.OpenShut
import Derived.ShutString
import Derived.ChangeOld
import Derived.Below
import Derived.SizedLaws
import Derived.LaidMore
import Derived.Lay
import Derived.LaidOnce
import Derived.SevenTiedAt
import Derived.LaidLaws
import Derived.ChangeSame
import Derived.ChangeVars
import Derived.JoinedOf
set_option linter.unusedVariables false
set_option linter.unusedSimpArgs false

namespace Go.Proofs.YtdogendcjmgnnaaDoor.P
open Go.RowKit Go.Proofs.YtdogendcjmgnnaaDoorW.PrintWords Go.Proofs.YtdogendcjmgnnaaDoorW.PrintLast Go.Proofs.YtdogendcjmgnnaaDoorW.PrintMore
attribute [local go_sem] max2_int min2_int max_two min_two max_three min_three max_four min_four   -- for this text's walks alone
set_option linter.unusedVariables false
set_option linter.unusedSimpArgs false

/-! ### impl_ringNew: function 42 -/
mutual
def impl_ringNew.l0:Nat→Int→Int→Int→Int→List (S57)→Option (Int × (List (S57)))
 | 0,_,_,_,_,_=>none
 | k+1,x0,x1,x6,x263000,x263001=>if x6≤x0 then (impl_ringNew.l1 k x0 x1 x6 1 x263000 x263001) else ((slices_SortFunc_impl_Token_impl_Token_impl_ringNew_1.f k x263001).bind fun t263=>(some (x263000,t263)))
def impl_ringNew.l1:Nat→Int→Int→Int→Int→Int→List (S57)→Option (Int × (List (S57)))
 | 0,_,_,_,_,_,_=>none
 | k+1,x0,x1,x6,x7,x263000,x263001=>if x7≤x1 then ((impl_decimal.f k x6).bind fun t264=>(if t264.size+1≤9223372036854775807 then ((impl_decimal.f k x7).bind fun t265=>(if (t264.size+1)+t265.size≤9223372036854775807 then ((impl_fnv.f k ((t264 ++ (⟨#[45]⟩:ByteArray)) ++ t265)).bind fun t266=>(if x263001.length<8796093022208 then (impl_ringNew.l1 k x0 x1 x6 (wrap64 (x7+1)) x263000 (x263001 ++ [(⟨t266,x6⟩:S57)])) else (none))) else (none))) else (none))) else (impl_ringNew.l0 k x0 x1 (wrap64 (x6+1)) x263000 x263001)
end
def impl_ringNew.f (k:Nat) (a0:Int) (a1:Int):Option (Int × (List (S57))):=impl_ringNew.l0 k a0 a1 1 a0 ([]:List (S57))
theorem impl_ringNew.mono_l:∀ k,(∀ y0 y1 y2 y3 y4,LeO (impl_ringNew.l0 k y0 y1 y2 y3 y4) (impl_ringNew.l0 (k+1) y0 y1 y2 y3 y4))∧(∀ y0 y1 y2 y3 y4 y5,LeO (impl_ringNew.l1 k y0 y1 y2 y3 y4 y5) (impl_ringNew.l1 (k+1) y0 y1 y2 y3 y4 y5))
 | 0=>⟨fun _ _ _ _ _ r h=>by simp [impl_ringNew.l0] at h,fun _ _ _ _ _ _ r h=>by simp [impl_ringNew.l1] at h⟩
 | k+1=>by
  obtain ⟨ih0,ih1⟩:=impl_ringNew.mono_l k
  refine ⟨?_,?_⟩
  ·intro y0 y1 y2 y3 y4
   unfold impl_ringNew.l0
   repeat' first
   | (with_reducible exact ih0 _ _ _ _ _)
   | (with_reducible exact ih1 _ _ _ _ _ _)
   | (with_reducible exact impl_decimal.mono _ _)
   | (with_reducible exact impl_fnv.mono _ _)
   | (with_reducible exact slices_SortFunc_impl_Token_impl_Token_impl_ringNew_1.mono _ _)
   | (with_reducible exact LeO.refl _)
   | (with_reducible exact LeO.none _)
   | (with_reducible refine LeO.ite ?_ ?_)
   | (with_reducible refine LeO.bind ?_ (fun _=>?_))
   | exact ih0 _ _ _ _ _
   | exact ih1 _ _ _ _ _ _
   | exact impl_decimal.mono _ _
   | exact impl_fnv.mono _ _
   | exact slices_SortFunc_impl_Token_impl_Token_impl_ringNew_1.mono _ _
   | exact LeO.none _
   | refine LeO.ite ?_ ?_
   | refine LeO.bind ?_ (fun _=>?_)
  ·intro y0 y1 y2 y3 y4 y5
   unfold impl_ringNew.l1
   repeat' first
   | (with_reducible exact ih0 _ _ _ _ _)
   | (with_reducible exact ih1 _ _ _ _ _ _)
   | (with_reducible exact impl_decimal.mono _ _)
   | (with_reducible exact impl_fnv.mono _ _)
   | (with_reducible exact slices_SortFunc_impl_Token_impl_Token_impl_ringNew_1.mono _ _)
   | (with_reducible exact LeO.refl _)
   | (with_reducible exact LeO.none _)
   | (with_reducible refine LeO.ite ?_ ?_)
   | (with_reducible refine LeO.bind ?_ (fun _=>?_))
   | exact ih0 _ _ _ _ _
   | exact ih1 _ _ _ _ _ _
   | exact impl_decimal.mono _ _
   | exact impl_fnv.mono _ _
   | exact slices_SortFunc_impl_Token_impl_Token_impl_ringNew_1.mono _ _
   | exact LeO.none _
   | refine LeO.ite ?_ ?_
   | refine LeO.bind ?_ (fun _=>?_)
theorem impl_ringNew.mono:∀ a0 a1 k,LeO (impl_ringNew.f k a0 a1) (impl_ringNew.f (k+1) a0 a1):=by
 intro a0 a1 k
 obtain ⟨ih0,ih1⟩:=impl_ringNew.mono_l k
 unfold impl_ringNew.f
 repeat' first
   | (with_reducible exact ih0 _ _ _ _ _)
   | (with_reducible exact ih1 _ _ _ _ _ _)
   | (with_reducible exact impl_decimal.mono _ _)
   | (with_reducible exact impl_fnv.mono _ _)
   | (with_reducible exact slices_SortFunc_impl_Token_impl_Token_impl_ringNew_1.mono _ _)
   | (with_reducible exact LeO.refl _)
   | (with_reducible exact LeO.none _)
   | (with_reducible refine LeO.ite ?_ ?_)
   | (with_reducible refine LeO.bind ?_ (fun _=>?_))
   | exact ih0 _ _ _ _ _
   | exact ih1 _ _ _ _ _ _
   | exact impl_decimal.mono _ _
   | exact impl_fnv.mono _ _
   | exact slices_SortFunc_impl_Token_impl_Token_impl_ringNew_1.mono _ _
   | exact LeO.none _
   | refine LeO.ite ?_ ?_
   | refine LeO.bind ?_ (fun _=>?_)
def impl_ringNew.T8:Bool × List (List Nat × List Nat):=(true,[([],[]),([0],[0]),([],[]),([2],[2]),([3],[3]),([],[]),([5,3],[5]),([4,6],[4,6]),([7,6],[7]),([],[]),([8,9],[8,9]),([10],[10]),([1,11,8],[1,11]),([0,1,2,3,4,5,6,7,8,9,10,11,12],[]),([13,12,12,0,1,2,3,4,5,6,7,8,9,10,11,12],[12,13])])
def impl_ringNew.B8:List Nat:=[0,1,0,4,12,0,44,124,252,0,1020,2044,4095,8191,16383]
theorem impl_ringNew.tab8:rtab .any (opsOf Tryd.f42 8)=impl_ringNew.T8:=by kernel_rfl
theorem impl_ringNew.bits8:waitsOk impl_ringNew.T8.2 impl_ringNew.B8=true:=by kernel_rfl
set_option maxHeartbeats 8000000 in
set_option maxRecDepth 100000 in
theorem impl_ringNew.calls (k:Nat) (a0:Int) (a1:Int) (r1:Int) (r2:List (S57)) (w:World) (h:impl_ringNew.f k a0 a1=some (r1,r2)) :
  Calls Tryd.prog 42 #[.int .i64 a0,.int .i64 a1] w fun e w'=>∃ v1_:Value,e = .returned (.agg #[.int .i64 r1,v1_])∧Kd.R k57 57 w' w.heap.size (fun _=>True) v1_ r2∧Below w.heap.size w w':=by
 have hu29:=Tryd.underlying29
 have hu57:=Tryd.underlying57
 have HB:=Aside0.mk (Below.refl w.heap.size w)
 have H:(impl_ringNew.l0 k a0 a1 1 a0 ([]:List (S57)))=some (r1,r2):=h
 clear h
 have H':=Aside0.mk H
 clear H
 go_enter Tryd.func42,Tryd.ntmps42
 go_wp2_with (first | ((with_reducible refine gd_ 4 ?_);refine be_ 4 #[.int .i64 0,.slice none 0 0] 29 ?_;intro gb261 hg w3 hbox hb;refine as4_ (below_step (z3_ HB.out) hb) (hbox) ((z10_ HB.out:w.heap.size≤gb261)) ((z10_ HB.out:w.heap.size≤gb261)) ?_;clear HB;intro HB BK261 GW261 GE261;clear hb hbox hg) | ((with_reducible refine gd_ 5 ?_);refine be_ 5 #[.int .i64 0,.slice none 0 0] 29 ?_;intro gb262 hg w4 hbox hb;refine as7_ (blkB_ BK261.out hb) (below_step (z11_ HB.out GE261.out) hb) (hbox) ((z12_ HB.out GE261.out:w.heap.size≤gb262)) ((z12_ HB.out GE261.out:w.heap.size≤gb262)) (neL_ BK261.out hg) (neG_ BK261.out hg) ?_;clear BK261 HB;intro BK261 HB BK262 GW262 GE262 NB261_262 NB262_261;clear hb hbox hg;have hnb5:=NB262_261.out;have hnc5:=NB261_262.out;have ⟨hcz6_0,hcz6_1,hfz6_0,hfz6_1⟩:=cz2_ BK262.out))
 go_loopg [6] k (fun kq v6 w'=>∃ (x6_1:Int) (x263001_1:List (S57)) (u263001:Value),v6 = .int .i64 x6_1∧Aside0 (impl_ringNew.l0 kq a0 a1 x6_1 a0 x263001_1=some (r1,r2))∧Aside0 (kq≤k)∧Aside0 (Kd.R k57 57 w' w.heap.size (fun _=>True) u263001 x263001_1)∧Aside0 (w'.heap[gb261]? = some (.cells #[.int .i64 0,(.slice none 0 0)] 29 (0,0)))∧Aside0 (w'.heap[gb262]? = some (.cells #[.int .i64 a0,u263001] 29 (0,0)))∧Aside0 (Below w.heap.size w w'))
 case atStart=>exact ⟨(1),(([]:List (S57))),(.slice none 0 0),(z1_),H',⟨Nat.le_refl _⟩,⟨z27_⟩,⟨z28_ NB261_262.out BK261.out⟩,⟨z26_ BK262.out⟩,⟨z9_ HB.out GE261.out GE262.out⟩⟩
 case round =>
  clear H'
  try clear p2
  try clear c4
  try clear c5
  try clear hcz6_0
  try clear hcz6_1
  try clear hfz6_0
  try clear hfz6_1
  obtain ⟨x6_1,x263001_1,u263001,rfl,HA,HK1,HO_263001,BK261,BK262,HB⟩:=hrel
  cases gk with
  | zero=>exact absurd HA.out (by simp [impl_ringNew.l0])
  | succ k1 =>
   have H:=HA.out
   clear HA
   simp only [impl_ringNew.l0] at H
   by_cases c7:x6_1≤a0
   ·rw [if_pos c7] at H
    have c7b0:decide (x6_1≤a0)=true:=decide_eq_true c7
    clear c7
    have H':=Aside0.mk H
    clear H
    go_wp2
    go_loopg [7] k1 (fun kq v7 w'=>∃ (x7_2:Int) (x263001_2:List (S57)) (u263001:Value),v7 = .int .i64 x7_2∧Aside0 (impl_ringNew.l1 kq a0 a1 x6_1 x7_2 a0 x263001_2=some (r1,r2))∧Aside0 (kq≤k1)∧Aside0 (Kd.R k57 57 w' w.heap.size (fun _=>True) u263001 x263001_2)∧Aside0 (w'.heap[gb261]? = some (.cells #[.int .i64 0,(.slice none 0 0)] 29 (0,0)))∧Aside0 (w'.heap[gb262]? = some (.cells #[.int .i64 a0,u263001] 29 (0,0)))∧Aside0 (Below w.heap.size w w'))
    case atStart=>exact ⟨(1),(x263001_1),(u263001),(z1_),H',⟨Nat.le_refl _⟩,⟨z2_ HO_263001.out⟩,⟨z4_ BK261.out⟩,⟨z4_ BK262.out⟩,⟨z9_ HB.out GE261.out GE262.out⟩⟩
    case round =>
     clear H'
     try clear p2
     try clear c4
     try clear c5
     try clear c7
     try clear c7b0
     try clear hcz6_0
     try clear hcz6_1
     try clear hfz6_0
     try clear hfz6_1
     try clear p2
     obtain ⟨x7_2,x263001_2,u263001,rfl,HA,HK2,HO_263001,BK261,BK262,HB⟩:=hrel
     cases gk with
     | zero=>exact absurd HA.out (by simp [impl_ringNew.l1])
     | succ k2 =>
      have H:=HA.out
      clear HA
      simp only [impl_ringNew.l1] at H
      by_cases c8:x7_2≤a1
      ·rw [if_pos c8] at H
       have c8b0:decide (x7_2≤a1)=true:=decide_eq_true c8
       clear c8
       replace H:=Option.bind_eq_some_iff.mp H
       obtain ⟨t264,A90,H⟩:=H
       replace H:(if t264.size+1≤9223372036854775807 then ((impl_decimal.f k2 x7_2).bind fun t265=>(if (t264.size+1)+t265.size≤9223372036854775807 then ((impl_fnv.f k2 ((t264 ++ (⟨#[45]⟩:ByteArray)) ++ t265)).bind fun t266=>(if x263001_2.length<8796093022208 then (impl_ringNew.l1 k2 a0 a1 x6_1 (wrap64 (x7_2+1)) a0 (x263001_2 ++ [(⟨t266,x6_1⟩:S57)])) else (none))) else (none))) else (none))=some (r1,r2):=H
       have A9:=Aside0.mk A90
       clear A90
       by_cases c10:t264.size+1≤9223372036854775807
       ·rw [if_pos c10] at H
        have c10b0:=eq_true c10
        have c10b1:decide (t264.size+1≤9223372036854775807)=true:=decide_eq_true c10
        try have c10b2:(9223372036854775807<t264.size+1)=False:=eq_false (Nat.not_lt.2 c10)
        replace H:=Option.bind_eq_some_iff.mp H
        obtain ⟨t265,A110,H⟩:=H
        replace H:(if (t264.size+1)+t265.size≤9223372036854775807 then ((impl_fnv.f k2 ((t264 ++ (⟨#[45]⟩:ByteArray)) ++ t265)).bind fun t266=>(if x263001_2.length<8796093022208 then (impl_ringNew.l1 k2 a0 a1 x6_1 (wrap64 (x7_2+1)) a0 (x263001_2 ++ [(⟨t266,x6_1⟩:S57)])) else (none))) else (none))=some (r1,r2):=H
        have A11:=Aside0.mk A110
        clear A110
        by_cases c12:(t264.size+1)+t265.size≤9223372036854775807
        ·rw [if_pos c12] at H
         have c12b0:=eq_true c12
         have c12b1:decide ((t264.size+1)+t265.size≤9223372036854775807)=true:=decide_eq_true c12
         try have c12b2:(9223372036854775807<(t264.size+1)+t265.size)=False:=eq_false (Nat.not_lt.2 c12)
         replace H:=Option.bind_eq_some_iff.mp H
         obtain ⟨t266,A130,H⟩:=H
         replace H:(if x263001_2.length<8796093022208 then (impl_ringNew.l1 k2 a0 a1 x6_1 (wrap64 (x7_2+1)) a0 (x263001_2 ++ [(⟨t266,x6_1⟩:S57)])) else (none))=some (r1,r2):=H
         have A13:=Aside0.mk A130
         clear A130
         by_cases c14:x263001_2.length<8796093022208
         ·rw [if_pos c14] at H
          have LMc14:=Aside0.mk c14
          clear c14
          obtain ⟨y267,hy267⟩:∃ y_:List (S57),y_=(x263001_2 ++ [(⟨t266,x6_1⟩:S57)]):=⟨_,rfl⟩
          replace H:(impl_ringNew.l1 k2 a0 a1 x6_1 (wrap64 (x7_2+1)) a0 y267)=some (r1,r2):=by first | (rw [hy267];with_reducible exact H) | (have H2_:=(Option.bind_some _ _).symm.trans H;rw [hy267];with_reducible exact H2_) | (have H2_:=(Option.bind_some _ _).symm.trans H;with_reducible exact H2_) | with_reducible exact H | (rw [hy267];exact H) | exact H
          have Ny267:=Aside0.mk hy267
          clear hy267
          have H':=Aside0.mk H
          clear H
          try go_wp2
          refine as4_ (Kd.R_drew HO_263001.out) (blk_drew BK261.out) (blk_drew BK262.out) (below_drew1 HB.out) ?_
          clear HO_263001 BK261 BK262 HB
          intro HO_263001 BK261 BK262 HB
          refine start_ (n:=15) (S:=fun w'=>w'.cell? ⟨gb262,0,none⟩=some (.int .i64 a0)∧w'.cell? ⟨gb262,1,none⟩=some (u263001)) (ds:=[14]) #[O,O,O,O,O,O,O,O,O,O,O,O,O,O,O] (by kernel_rfl) rfl rfl (cc2_ BK262.out) (fun hHeld=>?_);refine with_tabW impl_ringNew.tab8 impl_ringNew.bits8 (fun HT_ HW_=>?_)
          generalize wr.drew=w15 at HO_263001 BK261 BK262 HB hHeld ⊢
          refine pu_ 0 20 #[I,O,O,O,O,O,O,O,O,O,O,O,O,O,O] HT_.out ?_
          refine pu_ 2 22 #[I,O,I,O,O,O,O,O,O,O,O,O,O,O,O] HT_.out ?_
          refine pu_ 5 25 #[I,O,I,O,O,I,O,O,O,O,O,O,O,O,O] HT_.out ?_
          refine pu_ 9 29 #[I,O,I,O,O,I,O,O,O,I,O,O,O,O,O] HT_.out ?_
          refine tk2_ 1 21 #[I,I,I,O,O,I,O,O,O,I,O,O,O,O,O] HT_.out HW_.out hHeld ?_
          refine o1_ 3 23 #[I,I,I,I,O,I,O,O,O,I,O,O,O,O,O] HT_.out (fun K hK=>?_)
          refine gs_ Tryd.func65 #[.int .i64 x6_1] ?_
          with_reducible refine (impl_decimal.calls k2 x6_1 t264 _ A9.out).mono ?_
          rintro e w' ⟨rfl,⟨nd,rfl⟩⟩
          refine ⟨_,rfl,?_⟩
          refine hK.out _ _ (cc2_ BK262.out) (fun hHeld=>?_)
          clear hK K
          refine nm_ 23 ?_
          refine pu_ 4 24 #[I,I,I,I,I,I,O,O,O,I,O,O,O,O,O] HT_.out ?_
          refine o1_ 6 26 #[I,I,I,I,I,I,I,O,O,I,O,O,O,O,O] HT_.out (fun K hK=>?_)
          refine gs_ Tryd.func65 #[.int .i64 x7_2] ?_
          with_reducible refine (impl_decimal.calls k2 x7_2 t265 _ A11.out).mono ?_
          rintro e w' ⟨rfl,⟨nd,rfl⟩⟩
          refine ⟨_,rfl,?_⟩
          refine hK.out _ _ (cc2_ BK262.out) (fun hHeld=>?_)
          clear hK K
          refine nm_ 26 ?_
          refine pu_ 7 27 #[I,I,I,I,I,I,I,I,O,I,O,O,O,O,O] HT_.out ?_
          refine o1_ 8 28 #[I,I,I,I,I,I,I,I,I,I,O,O,O,O,O] HT_.out (fun K hK=>?_)
          refine gs_ Tryd.func64 #[.string ((t264 ++ (⟨#[45]⟩:ByteArray)) ++ t265)] ?_
          with_reducible refine (impl_fnv.calls k2 ((t264 ++ (⟨#[45]⟩:ByteArray)) ++ t265) t266 _ A13.out).mono ?_
          rintro e w' ⟨rfl,⟨nd,rfl⟩⟩
          refine ⟨_,rfl,?_⟩
          refine hK.out _ _ (cc2_ BK262.out) (fun hHeld=>?_)
          clear hK K
          refine nm_ 28 ?_
          refine pu_ 10 30 #[I,I,I,I,I,I,I,I,I,I,I,O,O,O,O] HT_.out ?_
          refine o1_ 11 31 #[I,I,I,I,I,I,I,I,I,I,I,I,O,O,O] HT_.out (fun K hK=>?_)
          refine value_ (w1:=?_) (v:=?_) (by rfl) rfl ?_ ?_
          rotate_left 2
          ·go_simp
           constructor
           ·rfl
           ·rfl
          refine hK.out _ _ (cc2_ (blk_alloc BK262.out _)) (fun hHeld=>?_)
          clear hK K
          refine nm_ 31 ?_
          refine o1_ 12 32 #[I,I,I,I,I,I,I,I,I,I,I,I,I,O,O] HT_.out (fun K hK=>?_)
          refine Kd.R_append_step k57 (w0:=w) w.heap.size (by rfl) (.tmp 21) (.tmp 31) 27 57 (.agg #[(.int .i64 0),(.int .i64 0)]) 16 rfl Tryd.underlying27 info57 rfl (by decide) (by omega) u263001 x263001_2 (⟨t266,x6_1⟩:S57) [.int .i64 t266,.int .i64 x6_1] (fun _=>True) (fun _=>False) rfl rfl ?aP (fun _ hk=>hk.elim) ?aF ?aO ?aB ?aS ?aL ?_
          (case aP=>exact k57_mkM _ _ _ (⟨t266,x6_1⟩:S57))
          (case aB=>exact (z9_ HB.out GE261.out GE262.out))
          (case aF=>exact (fun _ _=>trivial))
          (case aO=>exact (z2_ HO_263001.out))
          (case aS=>exact (below_size (z9_ HB.out GE261.out GE262.out)))
          (case aL=>have:=LMc14.out;omega)
          intro v268 w16 ho hb hg hat
          rw [← Ny267.out] at ho
          refine as4_ (blk_grown (g:=gb261) (o:=.cells #[.int .i64 0,.slice none 0 0] 29 (0,0)) (z4_ BK261.out) hg (Kd.R_ne HO_263001.out BK261.out (by decide))) (blk_grown (g:=gb262) (o:=.cells #[.int .i64 a0,u263001] 29 (0,0)) (z4_ BK262.out) hg (Kd.R_ne HO_263001.out BK262.out (by decide))) (hb) (ho) ?_
          clear BK261 BK262 HB HO_263001
          intro BK261 BK262 HB HO269
          clear ho hb hg hat
          obtain ⟨Ao17,co17,eo17⟩:=Kd.R_slice HO269.out
          (first | subst eo17 | (injection eo17 with f1_ f2_ f3_;have f4_:=f1_.symm;have f5_:=f3_.symm;clear f1_ f2_ f3_;subst f4_;subst f5_))
          refine hK.out _ _ (cc2_ BK262.out) (fun hHeld=>?_)
          clear hK K
          refine nm_ 32 ?_
          refine pu_ 13 33 #[I,I,I,I,I,I,I,I,I,I,I,I,I,I,O] HT_.out ?_
          refine last_ (i:=14) (N:=none) #[I,I,I,I,I,I,I,I,I,I,I,I,I,I,I] rfl rfl (one_of HT_.out (by kernel_rfl)) (by decide) (fun K hK=>?_)
          have hs18:w16.cell? ⟨gb262,1,none⟩=some (u263001):=(blk_cell BK262.out 1).trans rfl
          have hfs18:=blk_frozen BK262.out 1
          have hns18_0:=NB261_262.out
          have hms18_0:=NB262_261.out
          refine skip_ (w1:=?_) (by rfl) rfl ?_ ?_
          rotate_left
          ·go_simp
           rfl
          refine hK.out _ _ ?_
          clear hK K
          refine done_ (done_of HT_.out (by kernel_rfl)) ?_
          try go_wp2
          go_roundg k2
          case measure=>have:=HK1.out;have:=HK2.out;omega
          case rel=>exact ⟨(wrap64 (x7_2+1)),(y267),(.slice Ao17 y267.length co17),(z1_),H',⟨by have:=HK1.out;have:=HK2.out;omega⟩,⟨by (with_reducible repeat (first | apply Kd.R_alloc | apply Kd.R_drewN | apply Kd.R_drew));exact Kd.R_mono (Kd.R_far (p:=⟨gb262,1,none⟩) (Kd.R_types HO269.out BK262.out (by decide)) (fun _ hk=>hk.2) (.slice Ao17 y267.length co17)) (fun _ hk=>trivial)⟩,⟨by (with_reducible repeat (first | refine blk_drewN ?_ _ | refine blk_drew ?_ | refine blk_alloc ?_ _));refine blk_far ?_ NB261_262.out _;(with_reducible repeat (first | refine blk_drewN ?_ _ | refine blk_drew ?_ | refine blk_alloc ?_ _));exact BK261.out⟩,⟨by (with_reducible repeat (first | refine blk_drewN ?_ _ | refine blk_drew ?_ | refine blk_alloc ?_ _));refine blk_put (cs:=#[.int .i64 a0,u263001]) ?_ 1 _ rfl;(with_reducible repeat (first | refine blk_drewN ?_ _ | refine blk_drew ?_ | refine blk_alloc ?_ _));exact BK262.out⟩,⟨z9_ HB.out GE261.out GE262.out⟩⟩
         ·rw [if_neg c14] at H
          exact absurd H (by simp)
        ·rw [if_neg c12] at H
         exact absurd H (by simp)
       ·rw [if_neg c10] at H
        exact absurd H (by simp)
      ·rw [if_neg c8] at H
       have c8b0:decide (x7_2≤a1)=false:=decide_eq_false c8
       clear c8
       have H':=Aside0.mk H
       clear H
       go_wp2
       go_roundg k2
       case measure=>have:=HK1.out;have:=HK2.out;omega
       case rel=>exact ⟨(wrap64 (x6_1+1)),(x263001_2),(u263001),(z1_),H',⟨by have:=HK1.out;have:=HK2.out;omega⟩,⟨z2_ HO_263001.out⟩,⟨z4_ BK261.out⟩,⟨z4_ BK262.out⟩,⟨z9_ HB.out GE261.out GE262.out⟩⟩
   ·rw [if_neg c7] at H
    have c7b0:decide (x6_1≤a0)=false:=decide_eq_false c7
    clear c7
    replace H:=Option.bind_eq_some_iff.mp H
    obtain ⟨t263,A190,H⟩:=H
    replace H:(some (a0,t263))=some (r1,r2):=H
    have A19:=Aside0.mk A190
    clear A190
    simp only [Option.some.injEq,Prod.mk.injEq] at H
    obtain ⟨rfl,rfl⟩:=H
    have hnb20:=NB262_261.out
    have hnc20:=NB261_262.out
    have ⟨hcz21_0,hcz21_1,hfz21_0,hfz21_1⟩:=cz2_ BK262.out
    obtain ⟨Ao22,co22,eo22⟩:=Kd.R_slice HO_263001.out
    subst eo22
    go_wp2_with (first | ((with_reducible refine gc_ 66 ?_);refine gl_ (some 36) Tryd.func66 #[.slice Ao22 x263001_1.length co22,.func (.func 67) #[] #[]] ?_;(with_reducible refine (slices_SortFunc_impl_Token_impl_Token_impl_ringNew_1.calls k1 (fun k_=>some k_=(.slice Ao22 x263001_1.length co22:Value).ownBlock) (.slice Ao22 x263001_1.length co22) x263001_1  t263 w _ ?s1 ?s2 A19.out).mono ?_);(case s1=>repeat (first | (with_reducible first | exact HB.out | apply below_alloc | apply pw_below_drewN | apply below_drew1 | refine below_set ?_ GE261.out | refine below_set ?_ GE262.out) | exact HB.out));(case s2=>exact Kd.R_tight rfl HO_263001.out);rintro e w23 ⟨rfl,hy0,hb,hkp⟩;refine ⟨_,rfl,?_⟩;refine as4_ (Kd.R_reok rfl hy0 (fun k_ e_=>HO_263001.out.1 k_ e_)) (blk_kept (z4_ BK261.out) hkp (fun hs_=>(fun e_=>(Kd.R_ne HO_263001.out BK261.out (by decide)) e_) hs_)) (blk_kept (z4_ BK262.out) hkp (fun hs_=>(fun e_=>(Kd.R_ne HO_263001.out BK262.out (by decide)) e_) hs_)) (hb) ?_;clear HO_263001 BK261 BK262 HB;intro HO_263001 BK261 BK262 HB;(try clear hb);(try clear hkp);(try clear hy0);have ⟨hcz24_0,hcz24_1,hfz24_0,hfz24_1⟩:=cz2_ BK262.out;have ⟨hcz25_0,hcz25_1,hfz25_0,hfz25_1⟩:=cz2_ BK261.out))
    refine bodyPost_ret (results_cell_row rfl _ _ gb261 29 #[.int .i64 a0,.slice Ao22 x263001_1.length co22] (0,0) _ rfl (z26_ BK261.out) Tryd.underlying29 rfl (by kernel_rfl)) rfl ?_
    exact ⟨_,z7_,by (with_reducible repeat (first | apply Kd.R_alloc | apply Kd.R_drewN | apply Kd.R_drew));exact Kd.R_mono (rf2_ (Kd.R_types HO_263001.out BK261.out (by decide)) (fun _ hk=>hk.2)) (fun _ hk=>trivial),z9_ HB.out GE261.out GE262.out⟩


/-! ### impl_RingNew: function 16 -/
def impl_RingNew.j0:Nat→Int→Int→Bool→Option (Int × (List (S57)) × Int)
 | 0,_,_,_=>none
 | k+1,x0,x1,x12=>if x12=true then (some (0,([]:List (S57)),1)) else ((impl_ringNew.f k x0 x1).bind fun bt314=>(some (bt314.1,bt314.2,0)))
def impl_RingNew.f (k:Nat) (a0:Int) (a1:Int):Option (Int × (List (S57)) × Int):=(impl_isNode.f a0).bind fun t312=>(if t312=true then ((impl_within.f a1 1 8).bind fun t313=>(impl_RingNew.j0 k a0 a1 (!t313))) else (impl_RingNew.j0 k a0 a1 true))
theorem impl_RingNew.mono_l:∀ k,(∀ y0 y1 y2,LeO (impl_RingNew.j0 k y0 y1 y2) (impl_RingNew.j0 (k+1) y0 y1 y2))
 | 0=>fun _ _ _ r h=>by simp [impl_RingNew.j0] at h
 | k+1=>by
  have ih0:=impl_RingNew.mono_l k
  ·intro y0 y1 y2
   unfold impl_RingNew.j0
   repeat' first
   | (with_reducible exact ih0 _ _ _)
   | (with_reducible exact impl_ringNew.mono _ _ _)
   | (with_reducible exact LeO.refl _)
   | (with_reducible exact LeO.none _)
   | (with_reducible refine LeO.ite ?_ ?_)
   | (with_reducible refine LeO.bind ?_ (fun _=>?_))
   | exact ih0 _ _ _
   | exact impl_ringNew.mono _ _ _
   | exact LeO.none _
   | refine LeO.ite ?_ ?_
   | refine LeO.bind ?_ (fun _=>?_)
theorem impl_RingNew.mono:∀ a0 a1 k,LeO (impl_RingNew.f k a0 a1) (impl_RingNew.f (k+1) a0 a1):=by
 intro a0 a1 k
 have ih0:=impl_RingNew.mono_l k
 unfold impl_RingNew.f
 repeat' first
   | (with_reducible exact ih0 _ _ _)
   | (with_reducible exact impl_ringNew.mono _ _ _)
   | (with_reducible exact LeO.refl _)
   | (with_reducible exact LeO.none _)
   | (with_reducible refine LeO.ite ?_ ?_)
   | (with_reducible refine LeO.bind ?_ (fun _=>?_))
   | exact ih0 _ _ _
   | exact impl_ringNew.mono _ _ _
   | exact LeO.none _
   | refine LeO.ite ?_ ?_
   | refine LeO.bind ?_ (fun _=>?_)
set_option maxHeartbeats 8000000 in
set_option maxRecDepth 100000 in
theorem impl_RingNew.calls (k:Nat) (a0:Int) (a1:Int) (r1:Int) (r2:List (S57)) (r3:Int) (w:World) (h:impl_RingNew.f k a0 a1=some (r1,r2,r3)) :
  Calls Tryd.prog 16 #[.int .i64 a0,.int .i64 a1] w fun e w'=>∃ v1_:Value,e = .returned (.agg #[.int .i64 r1,v1_,.int .i64 r3])∧Kd.R k57 57 w' w.heap.size (fun _=>True) v1_ r2∧Below w.heap.size w w':=by
 have hu34:=Tryd.underlying34
 have HB:=Aside0.mk (Below.refl w.heap.size w)
 have H:((impl_isNode.f a0).bind fun t312=>(if t312=true then ((impl_within.f a1 1 8).bind fun t313=>(impl_RingNew.j0 k a0 a1 (!t313))) else (impl_RingNew.j0 k a0 a1 true)))=some (r1,r2,r3):=h
 clear h
 have HC3:=Aside0.mk H
 clear H
 go_enter Tryd.func16,Tryd.ntmps16
 go_upto_region 1 with (first | ((with_reducible refine gd_ 4 ?_);refine be_ 4 #[.int .i64 0,.slice none 0 0,.int .i64 0] 34 ?_;intro gb311 hg w4 hbox hb;refine as4_ (below_step (z3_ HB.out) hb) (hbox) ((z10_ HB.out:w.heap.size≤gb311)) ((z10_ HB.out:w.heap.size≤gb311)) ?_;clear HB;intro HB BK311 GW311 GE311;clear hb hbox hg))
 (try simp only [Act.put,sa_,s0_,ss_])
 go_cut [12] (fun v12 wc=>∃ (kq:Nat) (x12_2:Bool),v12 = .bool x12_2∧Aside0 (impl_RingNew.j0 kq a0 a1 x12_2=some (r1,r2,r3))∧Aside0 (kq≤k)∧Aside0 (wc.heap[gb311]? = some (.cells #[.int .i64 0,(.slice none 0 0),.int .i64 0] 34 (0,0)))∧Aside0 (Below w.heap.size w wc))
 case first =>
  have H:=HC3.out
  clear HC3
  replace H:=Option.bind_eq_some_iff.mp H
  obtain ⟨t312,A50,H⟩:=H
  replace H:(if t312=true then ((impl_within.f a1 1 8).bind fun t313=>(impl_RingNew.j0 k a0 a1 (!t313))) else (impl_RingNew.j0 k a0 a1 true))=some (r1,r2,r3):=H
  have A5:=Aside0.mk A50
  clear A50
  by_cases c6:t312=true
  ·subst c6
   have H1:((impl_within.f a1 1 8).bind fun t313=>(impl_RingNew.j0 k a0 a1 (!t313)))=some (r1,r2,r3):=by rw [if_pos rfl] at H;exact H
   clear H
   have H:=H1
   clear H1
   replace H:=Option.bind_eq_some_iff.mp H
   obtain ⟨t313,A70,H⟩:=H
   replace H:(impl_RingNew.j0 k a0 a1 (!t313))=some (r1,r2,r3):=H
   have A7:=Aside0.mk A70
   clear A70
   have H':=Aside0.mk H
   clear H
   go_wp2_with (first | ((with_reducible refine gc_ 39 ?_);refine gl_ (some 6) Tryd.func39 #[.int .i64 a0] ?_;(with_reducible refine (impl_isNode.calls a0 true _ A5.out).mono ?_);rintro e w' ⟨rfl,⟨nd,rfl⟩⟩;refine ⟨_,rfl,?_⟩) | (go_at_call 40;(with_reducible refine (impl_within.calls a1 1 8 t313 _ A7.out).mono ?_);rintro e w' ⟨rfl,⟨nd,rfl⟩⟩))
   go_meet
   case rel=>exact ⟨_,(!t313),(z1_),H',⟨by first | omega | exact Nat.le_refl _⟩,⟨z4_ BK311.out⟩,⟨z11_ HB.out GE311.out⟩⟩
  ·replace c6:=Bool.eq_false_iff.mpr c6
   subst c6
   have H1:(impl_RingNew.j0 k a0 a1 true)=some (r1,r2,r3):=by rw [if_neg (show ¬ (false=true) by decide)] at H;exact H
   clear H
   have H:=H1
   clear H1
   have H':=Aside0.mk H
   clear H
   go_wp2_with (first | ((with_reducible refine gc_ 39 ?_);refine gl_ (some 6) Tryd.func39 #[.int .i64 a0] ?_;(with_reducible refine (impl_isNode.calls a0 false _ A5.out).mono ?_);rintro e w' ⟨rfl,⟨nd,rfl⟩⟩;refine ⟨_,rfl,?_⟩))
   go_meet
   case rel=>exact ⟨_,(true),(z1_),H',⟨by first | omega | exact Nat.le_refl _⟩,⟨z4_ BK311.out⟩,⟨z11_ HB.out GE311.out⟩⟩
 case rest =>
  clear HC3
  try clear c1
  try clear p2
  try clear c3
  try clear c6
  obtain ⟨kq,x12_2,rfl,HA,HJ2,BK311,HB⟩:=hcut
  cases kq with
  | zero=>exact absurd HA.out (by simp [impl_RingNew.j0])
  | succ kj2 =>
   have H:=HA.out
   clear HA
   simp only [impl_RingNew.j0] at H
   by_cases c8:x12_2=true
   ·subst c8
    have H1:(some (0,([]:List (S57)),1))=some (r1,r2,r3):=by rw [if_pos rfl] at H;exact H
    clear H
    have H:=H1
    clear H1
    simp only [Option.some.injEq,Prod.mk.injEq] at H
    obtain ⟨rfl,rfl,rfl⟩:=H
    have ⟨hcz9_0,hcz9_1,hcz9_2,hfz9_0,hfz9_1,hfz9_2⟩:=cz3_ BK311.out
    go_wp2
    refine bodyPost_ret (results_cell_row rfl _ _ gb311 34 #[.int .i64 0,.slice none 0 0,.int .i64 1] (0,0) _ rfl (z21_ BK311.out) Tryd.underlying34 rfl (by kernel_rfl)) rfl ?_
    exact ⟨_,z7_,z27_,z11_ HB.out GE311.out⟩
   ·replace c8:=Bool.eq_false_iff.mpr c8
    subst c8
    have H1:((impl_ringNew.f kj2 a0 a1).bind fun bt314=>(some (bt314.1,bt314.2,0)))=some (r1,r2,r3):=by rw [if_neg (show ¬ (false=true) by decide)] at H;exact H
    clear H
    have H:=H1
    clear H1
    replace H:=Option.bind_eq_some_iff.mp H
    obtain ⟨⟨t314,t315⟩,A100,H⟩:=H
    replace H:(some (t314,t315,0))=some (r1,r2,r3):=H
    have A10:=Aside0.mk A100
    clear A100
    simp only [Option.some.injEq,Prod.mk.injEq] at H
    obtain ⟨rfl,rfl,rfl⟩:=H
    go_wp2_with (first | ((with_reducible refine gc_ 42 ?_);refine gl_ (some 16) Tryd.func42 #[.int .i64 a0,.int .i64 a1] ?_;(with_reducible refine (impl_ringNew.calls kj2 a0 a1 t314 t315 _ A10.out).mono ?_);rintro e w11 ⟨v316,rfl,ho0,hb⟩;refine ⟨_,rfl,?_⟩;refine as3_ (Kd.R_lower ho0 (below_size (z11_ HB.out GE311.out))) (blkB_ BK311.out hb) (below_step (z11_ HB.out GE311.out) hb) ?_;clear BK311 HB;intro HO317 BK311 HB;(try clear hb);(try clear ho0);obtain ⟨Ao12,co12,eo12⟩:=Kd.R_slice HO317.out;subst eo12;have ⟨hcz13_0,hcz13_1,hcz13_2,hfz13_0,hfz13_1,hfz13_2⟩:=cz3_ BK311.out))
    refine bodyPost_ret (results_cell_row rfl _ _ gb311 34 #[.int .i64 t314,.slice Ao12 t315.length co12,.int .i64 0] (0,0) _ rfl (z21_ BK311.out) Tryd.underlying34 rfl (by kernel_rfl)) rfl ?_
    exact ⟨_,z7_,by (with_reducible repeat (first | apply Kd.R_alloc | apply Kd.R_drewN | apply Kd.R_drew));exact Kd.R_mono (rf3_ (Kd.R_types HO317.out BK311.out (by decide)) (fun _ hk=>hk.2)) (fun _ hk=>trivial),z11_ HB.out GE311.out⟩


/-! ### laws_eqToken: function 70 -/
def laws_eqToken.f (a0_0:Int) (a0_1:Int) (a1_0:Int) (a1_1:Int):Option (Bool):=if a0_0=a1_0 then (if a0_1=a1_1 then (some true) else (none)) else (none)
set_option maxHeartbeats 8000000 in
set_option maxRecDepth 100000 in
theorem laws_eqToken.calls (a0_0:Int) (a0_1:Int) (a1_0:Int) (a1_1:Int) (r:Bool) (w:World) (h:laws_eqToken.f a0_0 a0_1 a1_0 a1_1=some r) :
  Calls Tryd.prog 70 #[.agg #[.int .i64 a0_0,.int .i64 a0_1],.agg #[.int .i64 a1_0,.int .i64 a1_1]] w fun e w'=>e = .returned (.bool r)∧Below w.heap.size w w':=by
 have hu57:=Tryd.underlying57
 have HB:=Aside0.mk (Below.refl w.heap.size w)
 have H:(if a0_0=a1_0 then (if a0_1=a1_1 then (some true) else (none)) else (none))=some r:=h
 clear h
 by_cases c3:a0_0=a1_0
 ·rw [if_pos c3] at H
  have c3b0:(a0_0 == a1_0)=true:=beq_iff_eq.mpr c3
  have c3b1:(a0_0 != a1_0)=false:=bne_eq_false_iff_eq.mpr c3
  clear c3
  by_cases c4:a0_1=a1_1
  ·rw [if_pos c4] at H
   have c4b0:(a0_1 == a1_1)=true:=beq_iff_eq.mpr c4
   have c4b1:(a0_1 != a1_1)=false:=bne_eq_false_iff_eq.mpr c4
   clear c4
   obtain rfl:=Option.some.inj H
   go_enter Tryd.func70,Tryd.ntmps70
   go_wp2_with (first | ((with_reducible refine gd_ 2 ?_);refine be_ 2 #[.int .i64 a0_0,.int .i64 a0_1] 57 ?_;intro gb278 hg w5 hbox hb;refine as4_ (below_step (z3_ HB.out) hb) (hbox) ((z10_ HB.out:w.heap.size≤gb278)) ((z10_ HB.out:w.heap.size≤gb278)) ?_;clear HB;intro HB BK278 GW278 GE278;clear hb hbox hg) | ((with_reducible refine gd_ 3 ?_);refine be_ 3 #[.int .i64 a1_0,.int .i64 a1_1] 57 ?_;intro gb279 hg w6 hbox hb;refine as7_ (blkB_ BK278.out hb) (below_step (z11_ HB.out GE278.out) hb) (hbox) ((z12_ HB.out GE278.out:w.heap.size≤gb279)) ((z12_ HB.out GE278.out:w.heap.size≤gb279)) (neL_ BK278.out hg) (neG_ BK278.out hg) ?_;clear BK278 HB;intro BK278 HB BK279 GW279 GE279 NB278_279 NB279_278;clear hb hbox hg;have hnb7:=NB278_279.out;have hnc7:=NB279_278.out;have ⟨hcz8_0,hcz8_1,hfz8_0,hfz8_1⟩:=cz2_ BK278.out;have ⟨hcz9_0,hcz9_1,hfz9_0,hfz9_1⟩:=cz2_ BK279.out))
   go_ret
   exact ⟨z7_,z9_ HB.out GE278.out GE279.out⟩
  ·rw [if_neg c4] at H
   exact absurd H (by simp)
 ·rw [if_neg c3] at H
  exact absurd H (by simp)


/-! ### laws_eqTokenS: function 43 -/
def laws_eqTokenS.l0:Nat→List (S57)→List (S57)→Int→Option (Bool)
 | 0,_,_,_=>none
 | k+1,x0,x1,x5=>if x5<(x0.length:Int) then (if 0≤x5 then (if x5<(x1.length:Int) then ((laws_eqToken.f ((rd_T57 x0 x5).f0) ((rd_T57 x0 x5).f1) ((rd_T57 x1 x5).f0) ((rd_T57 x1 x5).f1)).bind fun t282=>(if t282=true then (laws_eqTokenS.l0 k x0 x1 (wrap64 (x5+1))) else (none))) else (none)) else (none)) else (some true)
def laws_eqTokenS.f (k:Nat) (l0:List (S57)) (l1:List (S57)):Option (Bool):=if (l0.length:Int)=(l1.length:Int) then (laws_eqTokenS.l0 k l0 l1 0) else (none)
theorem laws_eqTokenS.mono_l:∀ k,(∀ y0 y1 y2,LeO (laws_eqTokenS.l0 k y0 y1 y2) (laws_eqTokenS.l0 (k+1) y0 y1 y2))
 | 0=>fun _ _ _ r h=>by simp [laws_eqTokenS.l0] at h
 | k+1=>by
  have ih0:=laws_eqTokenS.mono_l k
  ·intro y0 y1 y2
   unfold laws_eqTokenS.l0
   repeat' first
   | (with_reducible exact ih0 _ _ _)
   | (with_reducible exact LeO.refl _)
   | (with_reducible exact LeO.none _)
   | (with_reducible refine LeO.ite ?_ ?_)
   | (with_reducible refine LeO.bind ?_ (fun _=>?_))
   | exact ih0 _ _ _
   | exact LeO.none _
   | refine LeO.ite ?_ ?_
   | refine LeO.bind ?_ (fun _=>?_)
theorem laws_eqTokenS.mono:∀ a0 a1 k,LeO (laws_eqTokenS.f k a0 a1) (laws_eqTokenS.f (k+1) a0 a1):=by
 intro a0 a1 k
 have ih0:=laws_eqTokenS.mono_l k
 unfold laws_eqTokenS.f
 repeat' first
   | (with_reducible exact ih0 _ _ _)
   | (with_reducible exact LeO.refl _)
   | (with_reducible exact LeO.none _)
   | (with_reducible refine LeO.ite ?_ ?_)
   | (with_reducible refine LeO.bind ?_ (fun _=>?_))
   | exact ih0 _ _ _
   | exact LeO.none _
   | refine LeO.ite ?_ ?_
   | refine LeO.bind ?_ (fun _=>?_)
def laws_eqTokenS.T6:Bool × List (List Nat × List Nat):=(true,[([],[]),([],[]),([0,1],[0,1]),([2],[2]),([],[]),([],[]),([4,5],[4,5]),([6],[6]),([3,7],[3,7]),([8],[8])])
def laws_eqTokenS.B6:List Nat:=[0,0,3,7,0,0,48,112,255,511]
theorem laws_eqTokenS.tab6:rtab .any (opsOf Tryd.f43 6)=laws_eqTokenS.T6:=by kernel_rfl
theorem laws_eqTokenS.bits6:waitsOk laws_eqTokenS.T6.2 laws_eqTokenS.B6=true:=by kernel_rfl
set_option maxHeartbeats 8000000 in
set_option maxRecDepth 100000 in
theorem laws_eqTokenS.calls (k:Nat) (A0:Option Addr) (c0:Nat) (l0:List (S57)) (A1:Option Addr) (c1:Nat) (l1:List (S57)) (r:Bool) (w:World) (hr0:Kd.C k57 w A0 l0.length l0) (hc0:l0.length≤c0) (hr1:Kd.C k57 w A1 l1.length l1) (hc1:l1.length≤c1) (h:laws_eqTokenS.f k l0 l1=some r) :
  Calls Tryd.prog 43 #[.slice A0 l0.length c0,.slice A1 l1.length c1] w fun e w'=>e = .returned (.bool r)∧Below w.heap.size w w':=by
 have hu57:=Tryd.underlying57
 have HR0:=Aside0.mk hr0
 have HC0:=Aside0.mk hc0
 clear hr0 hc0
 have HR1:=Aside0.mk hr1
 have HC1:=Aside0.mk hc1
 clear hr1 hc1
 have HB:=Aside0.mk (Below.refl w.heap.size w)
 have H:(if (l0.length:Int)=(l1.length:Int) then (laws_eqTokenS.l0 k l0 l1 0) else (none))=some r:=h
 clear h
 by_cases c3:(l0.length:Int)=(l1.length:Int)
 ·rw [if_pos c3] at H
  have c3b0:((l0.length:Int) == (l1.length:Int))=true:=beq_iff_eq.mpr c3
  have c3b1:((l0.length:Int) != (l1.length:Int))=false:=bne_eq_false_iff_eq.mpr c3
  have c3b2:(l0.length == l1.length)=true:=by first | simpa using c3 | (simp at c3 ⊢;omega)
  clear c3
  have H':=Aside0.mk H
  clear H
  go_enter Tryd.func43,Tryd.ntmps43
  go_wp2
  go_loopg [5] k (fun kq v5 w'=>∃ (x5_1:Int),v5 = .int .i64 x5_1∧Aside0 (laws_eqTokenS.l0 kq l0 l1 x5_1=some r)∧Aside0 (kq≤k)∧Aside0 (Below w.heap.size w w'))
  case atStart=>exact ⟨(0),(z1_),H',⟨Nat.le_refl _⟩,⟨z3_ HB.out⟩⟩
  case round =>
   clear H'
   try clear c1
   try clear p2
   try clear c3
   try clear c3b0
   try clear c3b1
   try clear c3b2
   obtain ⟨x5_1,rfl,HA,HK1,HB⟩:=hrel
   cases gk with
   | zero=>exact absurd HA.out (by simp [laws_eqTokenS.l0])
   | succ k1 =>
    have H:=HA.out
    clear HA
    simp only [laws_eqTokenS.l0] at H
    by_cases c4:x5_1<(l0.length:Int)
    ·rw [if_pos c4] at H
     have c4b0:decide (x5_1<(l0.length:Int))=true:=decide_eq_true c4
     clear c4
     by_cases c5:0≤x5_1
     ·rw [if_pos c5] at H
      have c5b0:decide (0≤x5_1)=true:=decide_eq_true c5
      clear c5
      by_cases c6:x5_1<(l1.length:Int)
      ·rw [if_pos c6] at H
       have c6b0:decide (x5_1<(l1.length:Int))=true:=decide_eq_true c6
       clear c6
       replace H:=Option.bind_eq_some_iff.mp H
       obtain ⟨t282,A70,H⟩:=H
       replace H:(if t282=true then (laws_eqTokenS.l0 k1 l0 l1 (wrap64 (x5_1+1))) else (none))=some r:=H
       have A7:=Aside0.mk A70
       clear A70
       by_cases c8:t282=true
       ·subst c8
        have H1:(laws_eqTokenS.l0 k1 l0 l1 (wrap64 (x5_1+1)))=some r:=by rw [if_pos rfl] at H;exact H
        clear H
        have H:=H1
        clear H1
        have H':=Aside0.mk H
        clear H
        try go_wp2
        have n0_:=Aside0.mk (below_drew1 HB.out)
        clear HB
        have HB:=n0_
        clear n0_
        have p280:0≤(x5_1:Int):=of_decide_eq_true (z0_)
        have q280:x5_1<(l0.length:Int):=of_decide_eq_true (z0_)
        obtain ⟨ad280,e280,hx280_0,hx280_1⟩:=at_T57 HR0.out x5_1 p280 q280
        have hw280_1:=hx280_1
        have hw280_0:=hx280_0
        cases e280
        replace hx280_0:=(HB.out.cell (World.block_lt_of_cell? w _ hx280_0)).trans hx280_0
        replace hx280_1:=(HB.out.cell (World.block_lt_of_cell? w _ hx280_1)).trans hx280_1
        replace p280:=eq_true p280
        replace q280:=eq_true q280
        have p281:0≤(x5_1:Int):=of_decide_eq_true (z0_)
        have q281:x5_1<(l1.length:Int):=of_decide_eq_true (z0_)
        obtain ⟨ad281,e281,hx281_0,hx281_1⟩:=at_T57 HR1.out x5_1 p281 q281
        have hw281_1:=hx281_1
        have hw281_0:=hx281_0
        cases e281
        replace hx281_0:=(HB.out.cell (World.block_lt_of_cell? w _ hx281_0)).trans hx281_0
        replace hx281_1:=(HB.out.cell (World.block_lt_of_cell? w _ hx281_1)).trans hx281_1
        replace p281:=eq_true p281
        replace q281:=eq_true q281
        refine start_ (n:=10) (S:=fun w'=>w'.cell? (ad280.add ((x5_1).toNat*2))=some (.int .i64 ((rd_T57 l0 x5_1).f0))∧w'.cell? ⟨(ad280.add ((x5_1).toNat*2)).block,(ad280.add ((x5_1).toNat*2)).off+1,none⟩=some (.int .i64 ((rd_T57 l0 x5_1).f1))∧w'.cell? (ad281.add ((x5_1).toNat*2))=some (.int .i64 ((rd_T57 l1 x5_1).f0))∧w'.cell? ⟨(ad281.add ((x5_1).toNat*2)).block,(ad281.add ((x5_1).toNat*2)).off+1,none⟩=some (.int .i64 ((rd_T57 l1 x5_1).f1))) (ds:=[]) #[O,O,O,O,O,O,O,O,O,O] (by kernel_rfl) rfl rfl ⟨((HB.out.cell (World.block_lt_of_cell? w _ hw280_0)).trans hw280_0),((HB.out.cell (World.block_lt_of_cell? w _ hw280_1)).trans hw280_1),((HB.out.cell (World.block_lt_of_cell? w _ hw281_0)).trans hw281_0),((HB.out.cell (World.block_lt_of_cell? w _ hw281_1)).trans hw281_1)⟩ (fun hHeld=>?_);refine with_tabW laws_eqTokenS.tab6 laws_eqTokenS.bits6 (fun HT_ HW_=>?_)
        generalize wr.drew=w9 at HB hx280_0 hx280_1 hx281_0 hx281_1 hHeld ⊢
        refine pu_ 0 17 #[I,O,O,O,O,O,O,O,O,O] HT_.out ?_
        refine pu_ 1 18 #[I,I,O,O,O,O,O,O,O,O] HT_.out ?_
        refine pu_ 2 19 #[I,I,I,O,O,O,O,O,O,O] HT_.out ?_
        refine pu_ 4 21 #[I,I,I,O,I,O,O,O,O,O] HT_.out ?_
        refine pu_ 5 22 #[I,I,I,O,I,I,O,O,O,O] HT_.out ?_
        refine pu_ 6 23 #[I,I,I,O,I,I,I,O,O,O] HT_.out ?_
        refine tk4_ 3 20 #[I,I,I,I,I,I,I,O,O,O] HT_.out HW_.out hHeld ?_
        refine tk4_ 7 24 #[I,I,I,I,I,I,I,I,O,O] HT_.out HW_.out hHeld ?_
        refine o1_ 8 25 #[I,I,I,I,I,I,I,I,I,O] HT_.out (fun K hK=>?_)
        refine gs_ Tryd.func70 #[.agg #[.int .i64 ((rd_T57 l0 x5_1).f0),.int .i64 ((rd_T57 l0 x5_1).f1)],.agg #[.int .i64 ((rd_T57 l1 x5_1).f0),.int .i64 ((rd_T57 l1 x5_1).f1)]] ?_
        with_reducible refine (laws_eqToken.calls ((rd_T57 l0 x5_1).f0) ((rd_T57 l0 x5_1).f1) ((rd_T57 l1 x5_1).f0) ((rd_T57 l1 x5_1).f1) true _ A7.out).mono ?_
        rintro e w10 ⟨rfl,hb⟩
        refine ⟨_,rfl,?_⟩
        have n0_:=Aside0.mk (below_step (z3_ HB.out) hb)
        clear HB
        have HB:=n0_
        clear n0_
        (try clear hb)
        refine hK.out _ _ ⟨((HB.out.cell (World.block_lt_of_cell? w _ hw280_0)).trans hw280_0),((HB.out.cell (World.block_lt_of_cell? w _ hw280_1)).trans hw280_1),((HB.out.cell (World.block_lt_of_cell? w _ hw281_0)).trans hw281_0),((HB.out.cell (World.block_lt_of_cell? w _ hw281_1)).trans hw281_1)⟩ (fun hHeld=>?_)
        clear hK K
        refine nm_ 25 ?_
        refine pu_ 9 26 #[I,I,I,I,I,I,I,I,I,I] HT_.out ?_
        refine done_ (done_of HT_.out (by kernel_rfl)) ?_
        try go_wp2
        go_roundg k1
        case measure=>have:=HK1.out;omega
        case rel=>exact ⟨(wrap64 (x5_1+1)),(z1_),H',⟨by have:=HK1.out;omega⟩,⟨z3_ HB.out⟩⟩
       ·replace c8:=Bool.eq_false_iff.mpr c8
        subst c8
        have H1:(none)=some r:=by rw [if_neg (show ¬ (false=true) by decide)] at H;exact H
        clear H
        have H:=H1
        clear H1
        exact absurd H (by simp)
      ·rw [if_neg c6] at H
       exact absurd H (by simp)
     ·rw [if_neg c5] at H
      exact absurd H (by simp)
    ·rw [if_neg c4] at H
     have c4b0:decide (x5_1<(l0.length:Int))=false:=decide_eq_false c4
     clear c4
     obtain rfl:=Option.some.inj H
     go_wp2
     go_ret
     exact ⟨z7_,z3_ HB.out⟩
 ·rw [if_neg c3] at H
  exact absurd H (by simp)


/-! ### laws_eqRing: function 14 -/
def laws_eqRing.f (k:Nat) (a0_0:Int) (l0_1:List (S57)) (a1_0:Int) (l1_1:List (S57)):Option (Bool):=if a0_0=a1_0 then ((laws_eqTokenS.f k l0_1 l1_1).bind fun t285=>(if t285=true then (some true) else (none))) else (none)
theorem laws_eqRing.mono:∀ a0 a1 a2 a3 k,LeO (laws_eqRing.f k a0 a1 a2 a3) (laws_eqRing.f (k+1) a0 a1 a2 a3):=by
 intro a0 a1 a2 a3 k
 unfold laws_eqRing.f
 repeat' first
   | (with_reducible exact laws_eqTokenS.mono _ _ _)
   | (with_reducible exact LeO.refl _)
   | (with_reducible exact LeO.none _)
   | (with_reducible refine LeO.ite ?_ ?_)
   | (with_reducible refine LeO.bind ?_ (fun _=>?_))
   | exact laws_eqTokenS.mono _ _ _
   | exact LeO.none _
   | refine LeO.ite ?_ ?_
   | refine LeO.bind ?_ (fun _=>?_)
set_option maxHeartbeats 8000000 in
set_option maxRecDepth 100000 in
theorem laws_eqRing.calls (k:Nat) (a0_0:Int) (A0_1:Option Addr) (c0_1:Nat) (l0_1:List (S57)) (a1_0:Int) (A1_1:Option Addr) (c1_1:Nat) (l1_1:List (S57)) (r:Bool) (w:World) (hr0_1:Kd.C k57 w A0_1 l0_1.length l0_1) (hc0_1:l0_1.length≤c0_1) (hr1_1:Kd.C k57 w A1_1 l1_1.length l1_1) (hc1_1:l1_1.length≤c1_1) (h:laws_eqRing.f k a0_0 l0_1 a1_0 l1_1=some r) :
  Calls Tryd.prog 14 #[.agg #[.int .i64 a0_0,.slice A0_1 l0_1.length c0_1],.agg #[.int .i64 a1_0,.slice A1_1 l1_1.length c1_1]] w fun e w'=>e = .returned (.bool r)∧Below w.heap.size w w':=by
 have hu29:=Tryd.underlying29
 have HR0_1:=Aside0.mk hr0_1
 have HC0_1:=Aside0.mk hc0_1
 clear hr0_1 hc0_1
 have HR1_1:=Aside0.mk hr1_1
 have HC1_1:=Aside0.mk hc1_1
 clear hr1_1 hc1_1
 have HB:=Aside0.mk (Below.refl w.heap.size w)
 have H:(if a0_0=a1_0 then ((laws_eqTokenS.f k l0_1 l1_1).bind fun t285=>(if t285=true then (some true) else (none))) else (none))=some r:=h
 clear h
 by_cases c3:a0_0=a1_0
 ·rw [if_pos c3] at H
  have c3b0:(a0_0 == a1_0)=true:=beq_iff_eq.mpr c3
  have c3b1:(a0_0 != a1_0)=false:=bne_eq_false_iff_eq.mpr c3
  clear c3
  replace H:=Option.bind_eq_some_iff.mp H
  obtain ⟨t285,A40,H⟩:=H
  replace H:(if t285=true then (some true) else (none))=some r:=H
  have A4:=Aside0.mk A40
  clear A40
  by_cases c5:t285=true
  ·subst c5
   have H1:(some true)=some r:=by rw [if_pos rfl] at H;exact H
   clear H
   have H:=H1
   clear H1
   obtain rfl:=Option.some.inj H
   go_enter Tryd.func14,Tryd.ntmps14
   go_wp2_with (first | ((with_reducible refine gd_ 2 ?_);refine be_ 2 #[.int .i64 a0_0,.slice A0_1 l0_1.length c0_1] 29 ?_;intro gb283 hg w6 hbox hb;refine as4_ (below_step (z3_ HB.out) hb) (hbox) ((z10_ HB.out:w.heap.size≤gb283)) ((z10_ HB.out:w.heap.size≤gb283)) ?_;clear HB;intro HB BK283 GW283 GE283;clear hb hbox hg) | ((with_reducible refine gd_ 3 ?_);refine be_ 3 #[.int .i64 a1_0,.slice A1_1 l1_1.length c1_1] 29 ?_;intro gb284 hg w7 hbox hb;refine as7_ (blkB_ BK283.out hb) (below_step (z11_ HB.out GE283.out) hb) (hbox) ((z12_ HB.out GE283.out:w.heap.size≤gb284)) ((z12_ HB.out GE283.out:w.heap.size≤gb284)) (neL_ BK283.out hg) (neG_ BK283.out hg) ?_;clear BK283 HB;intro BK283 HB BK284 GW284 GE284 NB283_284 NB284_283;clear hb hbox hg;have hnb8:=NB283_284.out;have hnc8:=NB284_283.out;have ⟨hcz9_0,hcz9_1,hfz9_0,hfz9_1⟩:=cz2_ BK283.out;have ⟨hcz10_0,hcz10_1,hfz10_0,hfz10_1⟩:=cz2_ BK284.out) | ((with_reducible refine gc_ 43 ?_);refine gl_ (some 14) Tryd.func43 #[.slice A0_1 l0_1.length c0_1,.slice A1_1 l1_1.length c1_1] ?_;(with_reducible refine (laws_eqTokenS.calls k _ _ l0_1 _ _ l1_1 true _ ?s1 ?s2 ?s3 ?s4 A4.out).mono ?_);(case s1=>repeat (first | exact (Kd.C_below HR0_1.out HB.out) | (with_reducible refine Kd.C_alloc ?_ _) | (with_reducible refine Kd.C_drewN ?_ _) | (with_reducible refine Kd.C_drew ?_)));(case s2=>exact HC0_1.out);(case s3=>repeat (first | exact (Kd.C_below HR1_1.out HB.out) | (with_reducible refine Kd.C_alloc ?_ _) | (with_reducible refine Kd.C_drewN ?_ _) | (with_reducible refine Kd.C_drew ?_)));(case s4=>exact HC1_1.out);rintro e w11 ⟨rfl,hb⟩;refine ⟨_,rfl,?_⟩;refine as3_ (blkB_ BK283.out hb) (blkB_ BK284.out hb) (below_step (z9_ HB.out GE283.out GE284.out) hb) ?_;clear BK283 BK284 HB;intro BK283 BK284 HB;(try clear hb)))
   go_ret
   exact ⟨z7_,z9_ HB.out GE283.out GE284.out⟩
  ·replace c5:=Bool.eq_false_iff.mpr c5
   subst c5
   have H1:(none)=some r:=by rw [if_neg (show ¬ (false=true) by decide)] at H;exact H
   clear H
   have H:=H1
   clear H1
   exact absurd H (by simp)
 ·rw [if_neg c3] at H
  exact absurd H (by simp)


/-! ### laws_eqRingOut: function 17 -/
def laws_eqRingOut.f (k:Nat) (a0_0:Int) (l0_1:List (S57)) (a0_2:Int) (a1_0:Int) (l1_1:List (S57)) (a1_2:Int):Option (Bool):=(laws_eqRing.f k a0_0 l0_1 a1_0 l1_1).bind fun t320=>(if t320=true then (if a0_2=a1_2 then (some true) else (none)) else (none))
theorem laws_eqRingOut.mono:∀ a0 a1 a2 a3 a4 a5 k,LeO (laws_eqRingOut.f k a0 a1 a2 a3 a4 a5) (laws_eqRingOut.f (k+1) a0 a1 a2 a3 a4 a5):=by
 intro a0 a1 a2 a3 a4 a5 k
 unfold laws_eqRingOut.f
 repeat' first
   | (with_reducible exact laws_eqRing.mono _ _ _ _ _)
   | (with_reducible exact LeO.refl _)
   | (with_reducible exact LeO.none _)
   | (with_reducible refine LeO.ite ?_ ?_)
   | (with_reducible refine LeO.bind ?_ (fun _=>?_))
   | exact laws_eqRing.mono _ _ _ _ _
   | exact LeO.none _
   | refine LeO.ite ?_ ?_
   | refine LeO.bind ?_ (fun _=>?_)
set_option maxHeartbeats 8000000 in
set_option maxRecDepth 100000 in
theorem laws_eqRingOut.calls (k:Nat) (a0_0:Int) (A0_1:Option Addr) (c0_1:Nat) (l0_1:List (S57)) (a0_2:Int) (a1_0:Int) (A1_1:Option Addr) (c1_1:Nat) (l1_1:List (S57)) (a1_2:Int) (r:Bool) (w:World) (hr0_1:Kd.C k57 w A0_1 l0_1.length l0_1) (hc0_1:l0_1.length≤c0_1) (hr1_1:Kd.C k57 w A1_1 l1_1.length l1_1) (hc1_1:l1_1.length≤c1_1) (h:laws_eqRingOut.f k a0_0 l0_1 a0_2 a1_0 l1_1 a1_2=some r) :
  Calls Tryd.prog 17 #[.agg #[.int .i64 a0_0,.slice A0_1 l0_1.length c0_1,.int .i64 a0_2],.agg #[.int .i64 a1_0,.slice A1_1 l1_1.length c1_1,.int .i64 a1_2]] w fun e w'=>e = .returned (.bool r)∧Below w.heap.size w w':=by
 have hu34:=Tryd.underlying34
 have hu29:=Tryd.underlying29
 have HR0_1:=Aside0.mk hr0_1
 have HC0_1:=Aside0.mk hc0_1
 clear hr0_1 hc0_1
 have HR1_1:=Aside0.mk hr1_1
 have HC1_1:=Aside0.mk hc1_1
 clear hr1_1 hc1_1
 have HB:=Aside0.mk (Below.refl w.heap.size w)
 have H:((laws_eqRing.f k a0_0 l0_1 a1_0 l1_1).bind fun t320=>(if t320=true then (if a0_2=a1_2 then (some true) else (none)) else (none)))=some r:=h
 clear h
 replace H:=Option.bind_eq_some_iff.mp H
 obtain ⟨t320,A30,H⟩:=H
 replace H:(if t320=true then (if a0_2=a1_2 then (some true) else (none)) else (none))=some r:=H
 have A3:=Aside0.mk A30
 clear A30
 by_cases c4:t320=true
 ·subst c4
  have H1:(if a0_2=a1_2 then (some true) else (none))=some r:=by rw [if_pos rfl] at H;exact H
  clear H
  have H:=H1
  clear H1
  by_cases c5:a0_2=a1_2
  ·rw [if_pos c5] at H
   have c5b0:(a0_2 == a1_2)=true:=beq_iff_eq.mpr c5
   have c5b1:(a0_2 != a1_2)=false:=bne_eq_false_iff_eq.mpr c5
   clear c5
   obtain rfl:=Option.some.inj H
   go_enter Tryd.func17,Tryd.ntmps17
   go_wp2_with (first | ((with_reducible refine gd_ 2 ?_);refine be_ 2 #[.int .i64 a0_0,.slice A0_1 l0_1.length c0_1,.int .i64 a0_2] 34 ?_;intro gb318 hg w6 hbox hb;refine as4_ (below_step (z3_ HB.out) hb) (hbox) ((z10_ HB.out:w.heap.size≤gb318)) ((z10_ HB.out:w.heap.size≤gb318)) ?_;clear HB;intro HB BK318 GW318 GE318;clear hb hbox hg) | ((with_reducible refine gd_ 3 ?_);refine be_ 3 #[.int .i64 a1_0,.slice A1_1 l1_1.length c1_1,.int .i64 a1_2] 34 ?_;intro gb319 hg w7 hbox hb;refine as7_ (blkB_ BK318.out hb) (below_step (z11_ HB.out GE318.out) hb) (hbox) ((z12_ HB.out GE318.out:w.heap.size≤gb319)) ((z12_ HB.out GE318.out:w.heap.size≤gb319)) (neL_ BK318.out hg) (neG_ BK318.out hg) ?_;clear BK318 HB;intro BK318 HB BK319 GW319 GE319 NB318_319 NB319_318;clear hb hbox hg;have hnb8:=NB318_319.out;have hnc8:=NB319_318.out;have ⟨hcz9_0,hcz9_1,hcz9_2,hfz9_0,hfz9_1,hfz9_2⟩:=cz3_ BK318.out;have ⟨hcz10_0,hcz10_1,hcz10_2,hfz10_0,hfz10_1,hfz10_2⟩:=cz3_ BK319.out) | ((with_reducible refine gc_ 14 ?_);refine gl_ (some 9) Tryd.func14 #[.agg #[.int .i64 a0_0,.slice A0_1 l0_1.length c0_1],.agg #[.int .i64 a1_0,.slice A1_1 l1_1.length c1_1]] ?_;(with_reducible refine (laws_eqRing.calls k a0_0 _ _ l0_1 a1_0 _ _ l1_1 true _ ?s1 ?s2 ?s3 ?s4 A3.out).mono ?_);(case s1=>repeat (first | exact (Kd.C_below HR0_1.out HB.out) | (with_reducible refine Kd.C_alloc ?_ _) | (with_reducible refine Kd.C_drewN ?_ _) | (with_reducible refine Kd.C_drew ?_)));(case s2=>exact HC0_1.out);(case s3=>repeat (first | exact (Kd.C_below HR1_1.out HB.out) | (with_reducible refine Kd.C_alloc ?_ _) | (with_reducible refine Kd.C_drewN ?_ _) | (with_reducible refine Kd.C_drew ?_)));(case s4=>exact HC1_1.out);rintro e w11 ⟨rfl,hb⟩;refine ⟨_,rfl,?_⟩;refine as3_ (blkB_ BK318.out hb) (blkB_ BK319.out hb) (below_step (z9_ HB.out GE318.out GE319.out) hb) ?_;clear BK318 BK319 HB;intro BK318 BK319 HB;(try clear hb);have ⟨hcz12_0,hcz12_1,hcz12_2,hfz12_0,hfz12_1,hfz12_2⟩:=cz3_ BK318.out;have ⟨hcz13_0,hcz13_1,hcz13_2,hfz13_0,hfz13_1,hfz13_2⟩:=cz3_ BK319.out))
   go_ret
   exact ⟨z7_,z9_ HB.out GE318.out GE319.out⟩
  ·rw [if_neg c5] at H
   exact absurd H (by simp)
 ·replace c4:=Bool.eq_false_iff.mpr c4
  subst c4
  have H1:(none)=some r:=by rw [if_neg (show ¬ (false=true) by decide)] at H;exact H
  clear H
  have H:=H1
  clear H1
  exact absurd H (by simp)


/-! ### laws_markTokenS: function 46 -/
def laws_markTokenS.l0:Nat→List (S57)→Int→Int→Option (Int × (List (S57)))
 | 0,_,_,_=>none
 | k+1,x0,x1,x5=>if x5<(x0.length:Int) then (if 0≤x5 then ((some (x0.set (x5:Int).toNat (⟨x1,(rd_T57 x0 x5).f1⟩:S57):List (S57))).bind fun y321=>(laws_markTokenS.l0 k (y321.set (x5:Int).toNat (⟨(rd_T57 y321 x5).f0,wrap64 (x1+1)⟩:S57)) (wrap64 ((wrap64 (x1+1))+1)) (wrap64 (x5+1)))) else (none)) else (some (x1,x0))
def laws_markTokenS.f (k:Nat) (l0:List (S57)) (a1:Int):Option (Int × (List (S57))):=laws_markTokenS.l0 k l0 a1 0
theorem laws_markTokenS.mono_l:∀ k,(∀ y0 y1 y2,LeO (laws_markTokenS.l0 k y0 y1 y2) (laws_markTokenS.l0 (k+1) y0 y1 y2))
 | 0=>fun _ _ _ r h=>by simp [laws_markTokenS.l0] at h
 | k+1=>by
  have ih0:=laws_markTokenS.mono_l k
  ·intro y0 y1 y2
   unfold laws_markTokenS.l0
   repeat' first
   | (with_reducible exact ih0 _ _ _)
   | (with_reducible exact LeO.refl _)
   | (with_reducible exact LeO.none _)
   | (with_reducible refine LeO.ite ?_ ?_)
   | (with_reducible refine LeO.bind ?_ (fun _=>?_))
   | exact ih0 _ _ _
   | exact LeO.none _
   | refine LeO.ite ?_ ?_
   | refine LeO.bind ?_ (fun _=>?_)
theorem laws_markTokenS.mono:∀ a0 a1 k,LeO (laws_markTokenS.f k a0 a1) (laws_markTokenS.f (k+1) a0 a1):=by
 intro a0 a1 k
 have ih0:=laws_markTokenS.mono_l k
 unfold laws_markTokenS.f
 repeat' first
   | (with_reducible exact ih0 _ _ _)
   | (with_reducible exact LeO.refl _)
   | (with_reducible exact LeO.none _)
   | (with_reducible refine LeO.ite ?_ ?_)
   | (with_reducible refine LeO.bind ?_ (fun _=>?_))
   | exact ih0 _ _ _
   | exact LeO.none _
   | refine LeO.ite ?_ ?_
   | refine LeO.bind ?_ (fun _=>?_)
set_option maxHeartbeats 8000000 in
set_option maxRecDepth 100000 in
theorem laws_markTokenS.calls (k:Nat) (P0_:Nat→Prop) (u9000_:Value) (l0:List (S57)) (a1:Int) (r1:Int) (r2:List (S57)) (w0 w:World) (hB:Below w0.heap.size w0 w) (ho0:Kd.R k57 57 w w0.heap.size P0_ u9000_ l0) (h:laws_markTokenS.f k l0 a1=some (r1,r2)) :
  Calls Tryd.prog 46 #[u9000_,.int .i64 a1] w fun e w'=>e = .returned (.int .i64 r1)∧Kd.R k57 57 w' w0.heap.size (fun k_=>(P0_ k_∨w.heap.size≤k_)) u9000_ r2∧Below w0.heap.size w0 w'∧Kept w w' (fun k_=>P0_ k_):=by
 have HO0:=Aside0.mk (show Kd.R k57 57 w w0.heap.size (fun k_=>(P0_ k_∨w.heap.size≤k_)) u9000_ l0 from Kd.R_mono ho0 (fun k_ hk=>(.inl hk)))
 have HK:=Aside0.mk (Kept.refl w (fun k_=>P0_ k_))
 have HW0:=Aside0.mk hB.size
 have HB:=Aside0.mk hB
 clear hB
 have H:(laws_markTokenS.l0 k l0 a1 0)=some (r1,r2):=h
 clear h
 have H':=Aside0.mk H
 clear H
 go_enter Tryd.func46,Tryd.ntmps46
 go_wp2
 go_loopg [1,5] k (fun kq v1 v5 w'=>∃ (x0_1:List (S57)) (x1_1:Int) (x5_1:Int),v1 = .int .i64 x1_1∧v5 = .int .i64 x5_1∧Aside0 (laws_markTokenS.l0 kq x0_1 x1_1 x5_1=some (r1,r2))∧Aside0 (kq≤k)∧Aside0 (Kd.R k57 57 w' w0.heap.size (fun k_=>(P0_ k_∨w.heap.size≤k_)) u9000_ x0_1)∧Aside0 (Kept w w' (fun k_=>P0_ k_))∧Aside0 (Below w0.heap.size w0 w'))
 case atStart=>exact ⟨(l0),(a1),(0),(z1_),(z1_),H',⟨Nat.le_refl _⟩,⟨z2_ HO0.out⟩,⟨z5_ HK.out⟩,⟨z3_ HB.out⟩⟩
 case round =>
  clear H'
  try clear p2
  obtain ⟨x0_1,x1_1,x5_1,rfl,rfl,HA,HK1,HO_0,HK,HB⟩:=hrel
  cases gk with
  | zero=>exact absurd HA.out (by simp [laws_markTokenS.l0])
  | succ k1 =>
   have H:=HA.out
   clear HA
   simp only [laws_markTokenS.l0] at H
   by_cases c3:x5_1<(x0_1.length:Int)
   ·rw [if_pos c3] at H
    have c3b0:decide (x5_1<(x0_1.length:Int))=true:=decide_eq_true c3
    clear c3
    by_cases c4:0≤x5_1
    ·rw [if_pos c4] at H
     have c4b0:decide (0≤x5_1)=true:=decide_eq_true c4
     clear c4
     obtain ⟨y321,hy321⟩:∃ y_:List (S57),y_=(x0_1.set (x5_1:Int).toNat (⟨x1_1,(rd_T57 x0_1 x5_1).f1⟩:S57)):=⟨_,rfl⟩
     replace H:(laws_markTokenS.l0 k1 (y321.set (x5_1:Int).toNat (⟨(rd_T57 y321 x5_1).f0,wrap64 (x1_1+1)⟩:S57)) (wrap64 ((wrap64 (x1_1+1))+1)) (wrap64 (x5_1+1)))=some (r1,r2):=by first | (rw [hy321];with_reducible exact H) | (have H2_:=(Option.bind_some _ _).symm.trans H;rw [hy321];with_reducible exact H2_) | (have H2_:=(Option.bind_some _ _).symm.trans H;with_reducible exact H2_) | with_reducible exact H | (rw [hy321];exact H) | exact H
     have Ny321:=Aside0.mk hy321
     clear hy321
     obtain ⟨y322,hy322⟩:∃ y_:List (S57),y_=(y321.set (x5_1:Int).toNat (⟨(rd_T57 y321 x5_1).f0,wrap64 (x1_1+1)⟩:S57)):=⟨_,rfl⟩
     replace H:(laws_markTokenS.l0 k1 y322 (wrap64 ((wrap64 (x1_1+1))+1)) (wrap64 (x5_1+1)))=some (r1,r2):=by first | (rw [hy322];with_reducible exact H) | (have H2_:=(Option.bind_some _ _).symm.trans H;rw [hy322];with_reducible exact H2_) | (have H2_:=(Option.bind_some _ _).symm.trans H;with_reducible exact H2_) | with_reducible exact H | (rw [hy322];exact H) | exact H
     have Ny322:=Aside0.mk hy322
     clear hy322
     have H':=Aside0.mk H
     clear H
     obtain ⟨Ao7,co7,eo7⟩:=Kd.R_slice HO_0.out
     subst eo7
     have p5:0≤(x5_1:Int):=of_decide_eq_true (z0_)
     have q5:(x5_1:Int)<((x0_1.length:Int):Int):=of_decide_eq_true (z0_)
     obtain ⟨go5,co5,eo5,gb5,gl5,cl5,HG5⟩:=Kd.R_form HO_0.out (by omega)
     (first | cases eo5 | (injection eo5 with ea_ en_ ec_;(first | subst ea_ | (injection ea_ with ea_;subst ea_));subst ec_;clear en_))
     have GB5:=Aside0.mk gb5
     have GG5:=Aside0.mk HG5
     clear gb5 gl5 HG5
     have HMgo5:=Aside0.mk (show (P0_ go5∨w.heap.size≤go5) from (HO_0.out.1 _ rfl))
     obtain ⟨ce5,hcl5,hM5,hcc5,hfr5⟩:=Kd.R_elem HO_0.out z57 (x5_1:Int) p5 q5
     obtain rfl:=k57_openM hM5
     have hx5_0:wr.cell? ⟨go5,(x5_1:Int).toNat*2,none⟩=some (.int .i64 ((rd_T57 x0_1 x5_1).f0)):=hcc5 0 _ rfl
     have hx5_1:wr.cell? ⟨go5,(x5_1:Int).toNat*2+1,none⟩=some (.int .i64 ((rd_T57 x0_1 x5_1).f1)):=hcc5 1 _ rfl
     have hf5_0:wr.frozen? ⟨go5,(x5_1:Int).toNat*2,none⟩=false:=hfr5 0
     have hf5_1:wr.frozen? ⟨go5,(x5_1:Int).toNat*2+1,none⟩=false:=hfr5 1
     clear hcl5 hcc5 hfr5 hM5
     replace p5:=eq_true p5
     replace q5:=eq_true q5
     have HX8:=Aside0.mk (show Kd.R k57 57 wr w0.heap.size (fun k_=>(P0_ k_∨w.heap.size≤k_)) (.slice (some ⟨go5,0,none⟩) x0_1.length co7) x0_1 from (z2_ HO_0.out))
     obtain ⟨ce8,hcl8,hM8,hcc8,hfr8⟩:=Kd.R_elem HX8.out z57 (x5_1:Int) (of_decide_eq_true (z0_)) (z31_ HO_0.out)
     obtain rfl:=k57_openM hM8
     have HP8:=Kd.R_seg HX8.out (x5_1:Int) (of_decide_eq_true (z0_)) (z31_ HO_0.out) (seg:=[.int .i64 x1_1]) (j:=0) hcl8 hcc8 (show 1≤2 from by decide) (x':=(⟨x1_1,(rd_T57 x0_1 x5_1).f1⟩:S57)) (k57_mkM _ _ _ (⟨x1_1,(rd_T57 x0_1 x5_1).f1⟩:S57) ) (fun _ hk=>hk)
     have hx8_0:=hcc8 0 _ rfl
     (try simp only [show (k57).sz=2 from rfl,Nat.mul_one,Nat.add_zero] at hx8_0)
     have hf8_0:=hfr8 0
     (try simp only [show (k57).sz=2 from rfl,Nat.mul_one,Nat.add_zero] at hf8_0)
     clear hcl8 hcc8 hfr8 hM8
     go_wp2_with (first | ((with_reducible refine gate_store (t:=2) (p:=16) rfl ?_);refine store_event (t:=2) (p:=16) (v:=?vo_w9) (w1:=(wr.setCell ⟨go5,(x5_1:Int).toNat*2,none⟩ (.int .i64 x1_1))) ?hg ?ho ?hn ?hr ?_;(case ho=>rfl);(case hg=>rfl);(case hn=>rfl);(case hr=>first | (go_simp;done) | (go_simp;rfl));intro w9 hw;have hg:wr.grownBy w9 (some go5):=(by rw [hw];exact HP8.2);have hp_:Kd.R k57 57 w9 w0.heap.size (fun k_=>(P0_ k_∨w.heap.size≤k_)) (.slice (some ⟨go5,0,none⟩) x0_1.length co7) y321:=(by rw [hw,Ny321.out];exact HP8.1);clear HP8;refine as3_ (hp_) ((by rw [hw];exact below_set (HB.out) GB5.out:Below w0.heap.size w0 w9)) (Kept.of_grown (S:=(fun k_=>P0_ k_)) hg (z5_ HK.out) (fun k_ e_=>(HO_0.out.1 k_ e_))) ?_;clear HO_0 HB HK;intro HO_0 HB HK;clear hg hw hp_;have p6:0≤(x5_1:Int):=of_decide_eq_true (z0_);have q6:(x5_1:Int)<((x0_1.length:Int):Int):=of_decide_eq_true (z0_);obtain ⟨ce6,hcl6,hM6,hcc6,hfr6⟩:=Kd.R_elem HO_0.out z57 (x5_1:Int) p6 q6;obtain rfl:=k57_openM hM6;have hx6_0:w9.cell? ⟨go5,(x5_1:Int).toNat*2,none⟩=some (.int .i64 ((rd_T57 y321 x5_1).f0)):=hcc6 0 _ rfl;have hx6_1:w9.cell? ⟨go5,(x5_1:Int).toNat*2+1,none⟩=some (.int .i64 ((rd_T57 y321 x5_1).f1)):=hcc6 1 _ rfl;have hf6_0:w9.frozen? ⟨go5,(x5_1:Int).toNat*2,none⟩=false:=hfr6 0;have hf6_1:w9.frozen? ⟨go5,(x5_1:Int).toNat*2+1,none⟩=false:=hfr6 1;clear hcl6 hcc6 hfr6 hM6;replace p6:=eq_true p6;replace q6:=eq_true q6;have HX10:=Aside0.mk (show Kd.R k57 57 w9 w0.heap.size (fun k_=>(P0_ k_∨w.heap.size≤k_)) (.slice (some ⟨go5,0,none⟩) x0_1.length co7) y321 from (z2_ HO_0.out));obtain ⟨ce10,hcl10,hM10,hcc10,hfr10⟩:=Kd.R_elem HX10.out z57 (x5_1:Int) (of_decide_eq_true (z0_)) (z31_ HO_0.out);obtain rfl:=k57_openM hM10;have HP10:=Kd.R_seg HX10.out (x5_1:Int) (of_decide_eq_true (z0_)) (z31_ HO_0.out) (seg:=[.int .i64 (wrap64 (x1_1+1))]) (j:=1) hcl10 hcc10 (show 2≤2 from by decide) (x':=(⟨(rd_T57 y321 x5_1).f0,wrap64 (x1_1+1)⟩:S57)) (k57_mkM _ _ _ (⟨(rd_T57 y321 x5_1).f0,wrap64 (x1_1+1)⟩:S57) ) (fun _ hk=>hk);have hx10_1:=hcc10 1 _ rfl;(try simp only [show (k57).sz=2 from rfl,Nat.mul_one,Nat.add_zero] at hx10_1);have hf10_1:=hfr10 1;(try simp only [show (k57).sz=2 from rfl,Nat.mul_one,Nat.add_zero] at hf10_1);clear hcl10 hcc10 hfr10 hM10) | ((with_reducible refine gate_store (t:=2) (p:=23) rfl ?_);refine store_event (t:=2) (p:=23) (v:=?vo_w11) (w1:=(w9.setCell ⟨go5,(x5_1:Int).toNat*2+1,none⟩ (.int .i64 (wrap64 (x1_1+1))))) ?hg ?ho ?hn ?hr ?_;(case ho=>rfl);(case hg=>rfl);(case hn=>rfl);(case hr=>first | (go_simp;done) | (go_simp;rfl));intro w11 hw;have hg:w9.grownBy w11 (some go5):=(by rw [hw];exact HP10.2);have hp_:Kd.R k57 57 w11 w0.heap.size (fun k_=>(P0_ k_∨w.heap.size≤k_)) (.slice (some ⟨go5,0,none⟩) x0_1.length co7) y322:=(by rw [hw,Ny322.out];exact HP10.1);clear HP10;refine as3_ (hp_) ((by rw [hw];exact below_set (HB.out) GB5.out:Below w0.heap.size w0 w11)) (Kept.of_grown (S:=(fun k_=>P0_ k_)) hg (z5_ HK.out) (fun k_ e_=>(HO_0.out.1 k_ e_))) ?_;clear HO_0 HB HK;intro HO_0 HB HK;clear hg hw hp_))
     go_roundg k1
     case measure=>have:=HK1.out;omega
     case rel=>exact ⟨(y322),(wrap64 ((wrap64 (x1_1+1))+1)),(wrap64 (x5_1+1)),(z1_),(z1_),H',⟨by have:=HK1.out;omega⟩,⟨z2_ HO_0.out⟩,⟨z5_ HK.out⟩,⟨z3_ HB.out⟩⟩
    ·rw [if_neg c4] at H
     exact absurd H (by simp)
   ·rw [if_neg c3] at H
    have c3b0:decide (x5_1<(x0_1.length:Int))=false:=decide_eq_false c3
    clear c3
    simp only [Option.some.injEq,Prod.mk.injEq] at H
    obtain ⟨rfl,rfl⟩:=H
    obtain ⟨Ao12,co12,eo12⟩:=Kd.R_slice HO_0.out
    subst eo12
    go_wp2
    go_ret
    exact ⟨z7_,z2_ HO_0.out,z3_ HB.out,z5_ HK.out⟩


/-! ### laws_markRing: function 22 -/
def laws_markRing.f (k:Nat) (a0_0:Int) (l0_1:List (S57)) (a1:Int):Option (Int × (List (S57))):=(laws_markTokenS.f k l0_1 a1).bind fun bt324=>(some (bt324.1,bt324.2))
theorem laws_markRing.mono:∀ a0 a1 a2 k,LeO (laws_markRing.f k a0 a1 a2) (laws_markRing.f (k+1) a0 a1 a2):=by
 intro a0 a1 a2 k
 unfold laws_markRing.f
 repeat' first
   | (with_reducible exact laws_markTokenS.mono _ _ _)
   | (with_reducible exact LeO.refl _)
   | (with_reducible exact LeO.none _)
   | (with_reducible refine LeO.ite ?_ ?_)
   | (with_reducible refine LeO.bind ?_ (fun _=>?_))
   | exact laws_markTokenS.mono _ _ _
   | exact LeO.none _
   | refine LeO.ite ?_ ?_
   | refine LeO.bind ?_ (fun _=>?_)
set_option maxHeartbeats 8000000 in
set_option maxRecDepth 100000 in
theorem laws_markRing.calls (k:Nat) (a0_0:Int) (P0_1_:Nat→Prop) (u9000_:Value) (l0_1:List (S57)) (a1:Int) (r1:Int) (r2:List (S57)) (w0 w:World) (hB:Below w0.heap.size w0 w) (ho0_1:Kd.R k57 57 w w0.heap.size P0_1_ u9000_ l0_1) (h:laws_markRing.f k a0_0 l0_1 a1=some (r1,r2)) :
  Calls Tryd.prog 22 #[.agg #[.int .i64 a0_0,u9000_],.int .i64 a1] w fun e w'=>e = .returned (.int .i64 r1)∧Kd.R k57 57 w' w0.heap.size (fun k_=>(P0_1_ k_∨w.heap.size≤k_)) u9000_ r2∧Below w0.heap.size w0 w'∧Kept w w' (fun k_=>P0_1_ k_):=by
 have hu29:=Tryd.underlying29
 have HO0_1:=Aside0.mk (show Kd.R k57 57 w w0.heap.size (fun k_=>(P0_1_ k_∨w.heap.size≤k_)) u9000_ l0_1 from Kd.R_mono ho0_1 (fun k_ hk=>(.inl hk)))
 have HK:=Aside0.mk (Kept.refl w (fun k_=>P0_1_ k_))
 have HW0:=Aside0.mk hB.size
 have HB:=Aside0.mk hB
 clear hB
 have H:((laws_markTokenS.f k l0_1 a1).bind fun bt324=>(some (bt324.1,bt324.2)))=some (r1,r2):=h
 clear h
 replace H:=Option.bind_eq_some_iff.mp H
 obtain ⟨⟨t324,t325⟩,A30,H⟩:=H
 replace H:(some (t324,t325))=some (r1,r2):=H
 have A3:=Aside0.mk A30
 clear A30
 simp only [Option.some.injEq,Prod.mk.injEq] at H
 obtain ⟨rfl,rfl⟩:=H
 obtain ⟨Ao4,co4,eo4⟩:=Kd.R_slice HO0_1.out
 subst eo4
 go_enter Tryd.func22,Tryd.ntmps22
 go_wp2_with (first | ((with_reducible refine gd_ 2 ?_);refine be_ 2 #[.int .i64 a0_0,.slice Ao4 l0_1.length co4] 29 ?_;intro gb323 hg w5 hbox hb;refine as6_ (Kd.R_below (z2_ HO0_1.out) hb) (Kept.below (S:=(fun k_=>P0_1_ k_)) (z5_ HK.out) hb) (below_step (z3_ HB.out) hb) (hbox) ((by rw [hg];exact (by first | exact HK.out.1 | exact (show Kept w _ (fun k_=>P0_1_ k_) from by repeat (first | (with_reducible first | exact HK.out | apply Kept.alloc | apply Kept.drewN | apply Kept.drew) | exact HK.out)).1):w.heap.size≤gb323)) ((z10_ HB.out:w0.heap.size≤gb323)) ?_;clear HO0_1 HK HB;intro HO0_1 HK HB BK323 GW323 GE323;clear hb hbox hg;have ⟨hcz6_0,hcz6_1,hfz6_0,hfz6_1⟩:=cz2_ BK323.out) | ((with_reducible refine gc_ 46 ?_);refine gl_ (some 8) Tryd.func46 #[.slice Ao4 l0_1.length co4,.int .i64 a1] ?_;(with_reducible refine (laws_markTokenS.calls k (fun k_=>some k_=(.slice Ao4 l0_1.length co4:Value).ownBlock) (.slice Ao4 l0_1.length co4) l0_1 a1 t324 t325 w0 _ ?s1 ?s2 A3.out).mono ?_);(case s1=>repeat (first | (with_reducible first | exact HB.out | apply below_alloc | apply pw_below_drewN | apply below_drew1 | refine below_set ?_ GE323.out) | exact HB.out));(case s2=>exact Kd.R_tight rfl HO0_1.out);rintro e w7 ⟨rfl,hy0,hb,hkp⟩;refine ⟨_,rfl,?_⟩;refine as4_ (Kd.R_reok rfl hy0 (fun k_ e_=>HO0_1.out.1 k_ e_)) (blk_kept (z4_ BK323.out) hkp (fun hs_=>(fun e_=>(Kd.R_ne HO0_1.out BK323.out (by decide)) e_) hs_)) (Kept.then_ (S:=(fun k_=>P0_1_ k_)) (z32_ HK.out GW323.out) hkp (fun k_ hs_=>(fun e_=>(HO0_1.out.1 k_ e_.symm)) hs_)) (hb) ?_;clear HO0_1 BK323 HK HB;intro HO0_1 BK323 HK HB;(try clear hb);(try clear hkp);(try clear hy0)))
 go_ret
 exact ⟨z7_,z2_ HO0_1.out,z11_ HB.out GE323.out,z32_ HK.out GW323.out⟩


/-! ### laws_markRingOut: function 18 -/
def laws_markRingOut.f (k:Nat) (a0_0:Int) (l0_1:List (S57)) (a0_2:Int) (a1:Int):Option (Int × (List (S57))):=(laws_markRing.f k a0_0 l0_1 a1).bind fun bt327=>(some (bt327.1,bt327.2))
theorem laws_markRingOut.mono:∀ a0 a1 a2 a3 k,LeO (laws_markRingOut.f k a0 a1 a2 a3) (laws_markRingOut.f (k+1) a0 a1 a2 a3):=by
 intro a0 a1 a2 a3 k
 unfold laws_markRingOut.f
 repeat' first
   | (with_reducible exact laws_markRing.mono _ _ _ _)
   | (with_reducible exact LeO.refl _)
   | (with_reducible exact LeO.none _)
   | (with_reducible refine LeO.ite ?_ ?_)
   | (with_reducible refine LeO.bind ?_ (fun _=>?_))
   | exact laws_markRing.mono _ _ _ _
   | exact LeO.none _
   | refine LeO.ite ?_ ?_
   | refine LeO.bind ?_ (fun _=>?_)
set_option maxHeartbeats 8000000 in
set_option maxRecDepth 100000 in
theorem laws_markRingOut.calls (k:Nat) (a0_0:Int) (P0_1_:Nat→Prop) (u9000_:Value) (l0_1:List (S57)) (a0_2:Int) (a1:Int) (r1:Int) (r2:List (S57)) (w0 w:World) (hB:Below w0.heap.size w0 w) (ho0_1:Kd.R k57 57 w w0.heap.size P0_1_ u9000_ l0_1) (h:laws_markRingOut.f k a0_0 l0_1 a0_2 a1=some (r1,r2)) :
  Calls Tryd.prog 18 #[.agg #[.int .i64 a0_0,u9000_,.int .i64 a0_2],.int .i64 a1] w fun e w'=>e = .returned (.int .i64 r1)∧Kd.R k57 57 w' w0.heap.size (fun k_=>(P0_1_ k_∨w.heap.size≤k_)) u9000_ r2∧Below w0.heap.size w0 w'∧Kept w w' (fun k_=>P0_1_ k_):=by
 have hu34:=Tryd.underlying34
 have hu29:=Tryd.underlying29
 have HO0_1:=Aside0.mk (show Kd.R k57 57 w w0.heap.size (fun k_=>(P0_1_ k_∨w.heap.size≤k_)) u9000_ l0_1 from Kd.R_mono ho0_1 (fun k_ hk=>(.inl hk)))
 have HK:=Aside0.mk (Kept.refl w (fun k_=>P0_1_ k_))
 have HW0:=Aside0.mk hB.size
 have HB:=Aside0.mk hB
 clear hB
 have H:((laws_markRing.f k a0_0 l0_1 a1).bind fun bt327=>(some (bt327.1,bt327.2)))=some (r1,r2):=h
 clear h
 replace H:=Option.bind_eq_some_iff.mp H
 obtain ⟨⟨t327,t328⟩,A30,H⟩:=H
 replace H:(some (t327,t328))=some (r1,r2):=H
 have A3:=Aside0.mk A30
 clear A30
 simp only [Option.some.injEq,Prod.mk.injEq] at H
 obtain ⟨rfl,rfl⟩:=H
 obtain ⟨Ao4,co4,eo4⟩:=Kd.R_slice HO0_1.out
 subst eo4
 go_enter Tryd.func18,Tryd.ntmps18
 go_wp2_with (first | ((with_reducible refine gd_ 2 ?_);refine be_ 2 #[.int .i64 a0_0,.slice Ao4 l0_1.length co4,.int .i64 a0_2] 34 ?_;intro gb326 hg w5 hbox hb;refine as6_ (Kd.R_below (z2_ HO0_1.out) hb) (Kept.below (S:=(fun k_=>P0_1_ k_)) (z5_ HK.out) hb) (below_step (z3_ HB.out) hb) (hbox) ((by rw [hg];exact (by first | exact HK.out.1 | exact (show Kept w _ (fun k_=>P0_1_ k_) from by repeat (first | (with_reducible first | exact HK.out | apply Kept.alloc | apply Kept.drewN | apply Kept.drew) | exact HK.out)).1):w.heap.size≤gb326)) ((z10_ HB.out:w0.heap.size≤gb326)) ?_;clear HO0_1 HK HB;intro HO0_1 HK HB BK326 GW326 GE326;clear hb hbox hg;have ⟨hcz6_0,hcz6_1,hcz6_2,hfz6_0,hfz6_1,hfz6_2⟩:=cz3_ BK326.out) | ((with_reducible refine gc_ 22 ?_);refine gl_ (some 8) Tryd.func22 #[.agg #[.int .i64 a0_0,.slice Ao4 l0_1.length co4],.int .i64 a1] ?_;(with_reducible refine (laws_markRing.calls k a0_0 (fun k_=>some k_=(.slice Ao4 l0_1.length co4:Value).ownBlock) (.slice Ao4 l0_1.length co4) l0_1 a1 t327 t328 w0 _ ?s1 ?s2 A3.out).mono ?_);(case s1=>repeat (first | (with_reducible first | exact HB.out | apply below_alloc | apply pw_below_drewN | apply below_drew1 | refine below_set ?_ GE326.out) | exact HB.out));(case s2=>exact Kd.R_tight rfl HO0_1.out);rintro e w7 ⟨rfl,hy0,hb,hkp⟩;refine ⟨_,rfl,?_⟩;refine as4_ (Kd.R_reok rfl hy0 (fun k_ e_=>HO0_1.out.1 k_ e_)) (blk_kept (z4_ BK326.out) hkp (fun hs_=>(fun e_=>(Kd.R_ne HO0_1.out BK326.out (by decide)) e_) hs_)) (Kept.then_ (S:=(fun k_=>P0_1_ k_)) (z32_ HK.out GW326.out) hkp (fun k_ hs_=>(fun e_=>(HO0_1.out.1 k_ e_.symm)) hs_)) (hb) ?_;clear HO0_1 BK326 HK HB;intro HO0_1 BK326 HK HB;(try clear hb);(try clear hkp);(try clear hy0)))
 go_ret
 exact ⟨z7_,z2_ HO0_1.out,z11_ HB.out GE326.out,z32_ HK.out GW326.out⟩


/-! ### laws_heldTokenS: function 71 -/
def laws_heldTokenS.l0:Nat→List (S57)→Int→Int→Option (Int)
 | 0,_,_,_=>none
 | k+1,x0,x1,x5=>if x5<(x0.length:Int) then (if 0≤x5 then (if ((rd_T57 x0 x5).f0)=x1 then (if ((rd_T57 x0 x5).f1)=(wrap64 (x1+1)) then (laws_heldTokenS.l0 k x0 (wrap64 ((wrap64 (x1+1))+1)) (wrap64 (x5+1))) else (none)) else (none)) else (none)) else (some x1)
def laws_heldTokenS.f (k:Nat) (l0:List (S57)) (a1:Int):Option (Int):=laws_heldTokenS.l0 k l0 a1 0
theorem laws_heldTokenS.mono_l:∀ k,(∀ y0 y1 y2,LeO (laws_heldTokenS.l0 k y0 y1 y2) (laws_heldTokenS.l0 (k+1) y0 y1 y2))
 | 0=>fun _ _ _ r h=>by simp [laws_heldTokenS.l0] at h
 | k+1=>by
  have ih0:=laws_heldTokenS.mono_l k
  ·intro y0 y1 y2
   unfold laws_heldTokenS.l0
   repeat' first
   | (with_reducible exact ih0 _ _ _)
   | (with_reducible exact LeO.refl _)
   | (with_reducible exact LeO.none _)
   | (with_reducible refine LeO.ite ?_ ?_)
   | (with_reducible refine LeO.bind ?_ (fun _=>?_))
   | exact ih0 _ _ _
   | exact LeO.none _
   | refine LeO.ite ?_ ?_
   | refine LeO.bind ?_ (fun _=>?_)
theorem laws_heldTokenS.mono:∀ a0 a1 k,LeO (laws_heldTokenS.f k a0 a1) (laws_heldTokenS.f (k+1) a0 a1):=by
 intro a0 a1 k
 have ih0:=laws_heldTokenS.mono_l k
 unfold laws_heldTokenS.f
 repeat' first
   | (with_reducible exact ih0 _ _ _)
   | (with_reducible exact LeO.refl _)
   | (with_reducible exact LeO.none _)
   | (with_reducible refine LeO.ite ?_ ?_)
   | (with_reducible refine LeO.bind ?_ (fun _=>?_))
   | exact ih0 _ _ _
   | exact LeO.none _
   | refine LeO.ite ?_ ?_
   | refine LeO.bind ?_ (fun _=>?_)
set_option maxHeartbeats 8000000 in
set_option maxRecDepth 100000 in
theorem laws_heldTokenS.calls (k:Nat) (A0:Option Addr) (c0:Nat) (l0:List (S57)) (a1:Int) (r:Int) (w:World) (hr0:Kd.C k57 w A0 l0.length l0) (hc0:l0.length≤c0) (h:laws_heldTokenS.f k l0 a1=some r) :
  Calls Tryd.prog 71 #[.slice A0 l0.length c0,.int .i64 a1] w fun e w'=>e = .returned (.int .i64 r)∧Drawn0 w w':=by
 have HR0:=Aside0.mk hr0
 have HC0:=Aside0.mk hc0
 clear hr0 hc0
 have H:(laws_heldTokenS.l0 k l0 a1 0)=some r:=h
 clear h
 have H':=Aside0.mk H
 clear H
 go_enter Tryd.func71,Tryd.ntmps71
 go_wp2
 go_loopg [1,5] k (fun kq v1 v5 w'=>∃ (x1_1:Int) (x5_1:Int),v1 = .int .i64 x1_1∧v5 = .int .i64 x5_1∧Aside0 (laws_heldTokenS.l0 kq l0 x1_1 x5_1=some r)∧Aside0 (kq≤k)∧Drawn0 w w')
 case atStart=>exact ⟨(a1),(0),(z1_),(z1_),H',⟨Nat.le_refl _⟩,z6_⟩
 case round =>
  clear H'
  try clear p2
  obtain ⟨x1_1,x5_1,rfl,rfl,HA,HK1,⟨m1,rfl⟩⟩:=hrel
  cases gk with
  | zero=>exact absurd HA.out (by simp [laws_heldTokenS.l0])
  | succ k1 =>
   have H:=HA.out
   clear HA
   simp only [laws_heldTokenS.l0] at H
   by_cases c3:x5_1<(l0.length:Int)
   ·rw [if_pos c3] at H
    have c3b0:decide (x5_1<(l0.length:Int))=true:=decide_eq_true c3
    clear c3
    by_cases c4:0≤x5_1
    ·rw [if_pos c4] at H
     have c4b0:decide (0≤x5_1)=true:=decide_eq_true c4
     clear c4
     by_cases c5:((rd_T57 l0 x5_1).f0)=x1_1
     ·rw [if_pos c5] at H
      have c5b0:(((rd_T57 l0 x5_1).f0) == x1_1)=true:=beq_iff_eq.mpr c5
      have c5b1:(((rd_T57 l0 x5_1).f0) != x1_1)=false:=bne_eq_false_iff_eq.mpr c5
      clear c5
      by_cases c6:((rd_T57 l0 x5_1).f1)=(wrap64 (x1_1+1))
      ·rw [if_pos c6] at H
       have c6b0:(((rd_T57 l0 x5_1).f1) == (wrap64 (x1_1+1)))=true:=beq_iff_eq.mpr c6
       have c6b1:(((rd_T57 l0 x5_1).f1) != (wrap64 (x1_1+1)))=false:=bne_eq_false_iff_eq.mpr c6
       clear c6
       have H':=Aside0.mk H
       clear H
       have p329:0≤(x5_1:Int):=of_decide_eq_true (z0_)
       have q329:x5_1<(l0.length:Int):=of_decide_eq_true (z0_)
       obtain ⟨ad329,e329,hx329_0,hx329_1⟩:=at_T57 HR0.out x5_1 p329 q329
       cases e329
       replace p329:=eq_true p329
       replace q329:=eq_true q329
       have p330:0≤(x5_1:Int):=of_decide_eq_true (z0_)
       have q330:x5_1<(l0.length:Int):=of_decide_eq_true (z0_)
       obtain ⟨ad330,e330,hx330_0,hx330_1⟩:=at_T57 HR0.out x5_1 p330 q330
       obtain rfl:ad329=ad330:=(by injection e330)
       replace p330:=eq_true p330
       replace q330:=eq_true q330
       go_wp2
       go_roundg k1
       case measure=>have:=HK1.out;omega
       case rel=>exact ⟨(wrap64 ((wrap64 (x1_1+1))+1)),(wrap64 (x5_1+1)),(z1_),(z1_),H',⟨by have:=HK1.out;omega⟩,z6_⟩
      ·rw [if_neg c6] at H
       exact absurd H (by simp)
     ·rw [if_neg c5] at H
      exact absurd H (by simp)
    ·rw [if_neg c4] at H
     exact absurd H (by simp)
   ·rw [if_neg c3] at H
    have c3b0:decide (x5_1<(l0.length:Int))=false:=decide_eq_false c3
    clear c3
    obtain rfl:=Option.some.inj H
    go_wp2
    go_ret
    exact ⟨z1_,z6_⟩


/-! ### laws_heldRing: function 45 -/
def laws_heldRing.f (k:Nat) (a0_0:Int) (l0_1:List (S57)) (a1:Int):Option (Int):=(laws_heldTokenS.f k l0_1 a1).bind fun t332=>(if t332<0 then (none) else (some t332))
theorem laws_heldRing.mono:∀ a0 a1 a2 k,LeO (laws_heldRing.f k a0 a1 a2) (laws_heldRing.f (k+1) a0 a1 a2):=by
 intro a0 a1 a2 k
 unfold laws_heldRing.f
 repeat' first
   | (with_reducible exact laws_heldTokenS.mono _ _ _)
   | (with_reducible exact LeO.refl _)
   | (with_reducible exact LeO.none _)
   | (with_reducible refine LeO.ite ?_ ?_)
   | (with_reducible refine LeO.bind ?_ (fun _=>?_))
   | exact laws_heldTokenS.mono _ _ _
   | exact LeO.none _
   | refine LeO.ite ?_ ?_
   | refine LeO.bind ?_ (fun _=>?_)
set_option maxHeartbeats 8000000 in
set_option maxRecDepth 100000 in
theorem laws_heldRing.calls (k:Nat) (a0_0:Int) (A0_1:Option Addr) (c0_1:Nat) (l0_1:List (S57)) (a1:Int) (r:Int) (w:World) (hr0_1:Kd.C k57 w A0_1 l0_1.length l0_1) (hc0_1:l0_1.length≤c0_1) (h:laws_heldRing.f k a0_0 l0_1 a1=some r) :
  Calls Tryd.prog 45 #[.agg #[.int .i64 a0_0,.slice A0_1 l0_1.length c0_1],.int .i64 a1] w fun e w'=>e = .returned (.int .i64 r)∧Below w.heap.size w w':=by
 have hu29:=Tryd.underlying29
 have HR0_1:=Aside0.mk hr0_1
 have HC0_1:=Aside0.mk hc0_1
 clear hr0_1 hc0_1
 have HB:=Aside0.mk (Below.refl w.heap.size w)
 have H:((laws_heldTokenS.f k l0_1 a1).bind fun t332=>(if t332<0 then (none) else (some t332)))=some r:=h
 clear h
 replace H:=Option.bind_eq_some_iff.mp H
 obtain ⟨t332,A30,H⟩:=H
 replace H:(if t332<0 then (none) else (some t332))=some r:=H
 have A3:=Aside0.mk A30
 clear A30
 by_cases c4:t332<0
 ·rw [if_pos c4] at H
  exact absurd H (by simp)
 ·rw [if_neg c4] at H
  have c4b0:decide (t332<0)=false:=decide_eq_false c4
  clear c4
  obtain rfl:=Option.some.inj H
  go_enter Tryd.func45,Tryd.ntmps45
  go_wp2_with (first | ((with_reducible refine gd_ 2 ?_);refine be_ 2 #[.int .i64 a0_0,.slice A0_1 l0_1.length c0_1] 29 ?_;intro gb331 hg w5 hbox hb;refine as4_ (below_step (z3_ HB.out) hb) (hbox) ((z10_ HB.out:w.heap.size≤gb331)) ((z10_ HB.out:w.heap.size≤gb331)) ?_;clear HB;intro HB BK331 GW331 GE331;clear hb hbox hg;have ⟨hcz6_0,hcz6_1,hfz6_0,hfz6_1⟩:=cz2_ BK331.out) | ((with_reducible refine gc_ 71 ?_);refine gl_ (some 8) Tryd.func71 #[.slice A0_1 l0_1.length c0_1,.int .i64 a1] ?_;(with_reducible refine (laws_heldTokenS.calls k _ _ l0_1 a1 t332 _ ?s1 ?s2 A3.out).mono ?_);(case s1=>repeat (first | exact (Kd.C_below HR0_1.out HB.out) | (with_reducible refine Kd.C_alloc ?_ _) | (with_reducible refine Kd.C_drewN ?_ _) | (with_reducible refine Kd.C_drew ?_)));(case s2=>exact HC0_1.out);rintro e w' ⟨rfl,⟨nd,rfl⟩⟩;refine ⟨_,rfl,?_⟩))
  go_ret
  exact ⟨z7_,z11_ HB.out GE331.out⟩


/-! ### laws_heldRingOut: function 19 -/
def laws_heldRingOut.f (k:Nat) (a0_0:Int) (l0_1:List (S57)) (a0_2:Int) (a1:Int):Option (Int):=(laws_heldRing.f k a0_0 l0_1 a1).bind fun t334=>(if t334<0 then (none) else (some t334))
theorem laws_heldRingOut.mono:∀ a0 a1 a2 a3 k,LeO (laws_heldRingOut.f k a0 a1 a2 a3) (laws_heldRingOut.f (k+1) a0 a1 a2 a3):=by
 intro a0 a1 a2 a3 k
 unfold laws_heldRingOut.f
 repeat' first
   | (with_reducible exact laws_heldRing.mono _ _ _ _)
   | (with_reducible exact LeO.refl _)
   | (with_reducible exact LeO.none _)
   | (with_reducible refine LeO.ite ?_ ?_)
   | (with_reducible refine LeO.bind ?_ (fun _=>?_))
   | exact laws_heldRing.mono _ _ _ _
   | exact LeO.none _
   | refine LeO.ite ?_ ?_
   | refine LeO.bind ?_ (fun _=>?_)
set_option maxHeartbeats 8000000 in
set_option maxRecDepth 100000 in
theorem laws_heldRingOut.calls (k:Nat) (a0_0:Int) (A0_1:Option Addr) (c0_1:Nat) (l0_1:List (S57)) (a0_2:Int) (a1:Int) (r:Int) (w:World) (hr0_1:Kd.C k57 w A0_1 l0_1.length l0_1) (hc0_1:l0_1.length≤c0_1) (h:laws_heldRingOut.f k a0_0 l0_1 a0_2 a1=some r) :
  Calls Tryd.prog 19 #[.agg #[.int .i64 a0_0,.slice A0_1 l0_1.length c0_1,.int .i64 a0_2],.int .i64 a1] w fun e w'=>e = .returned (.int .i64 r)∧Below w.heap.size w w':=by
 have hu34:=Tryd.underlying34
 have hu29:=Tryd.underlying29
 have HR0_1:=Aside0.mk hr0_1
 have HC0_1:=Aside0.mk hc0_1
 clear hr0_1 hc0_1
 have HB:=Aside0.mk (Below.refl w.heap.size w)
 have H:((laws_heldRing.f k a0_0 l0_1 a1).bind fun t334=>(if t334<0 then (none) else (some t334)))=some r:=h
 clear h
 replace H:=Option.bind_eq_some_iff.mp H
 obtain ⟨t334,A30,H⟩:=H
 replace H:(if t334<0 then (none) else (some t334))=some r:=H
 have A3:=Aside0.mk A30
 clear A30
 by_cases c4:t334<0
 ·rw [if_pos c4] at H
  exact absurd H (by simp)
 ·rw [if_neg c4] at H
  have c4b0:decide (t334<0)=false:=decide_eq_false c4
  clear c4
  obtain rfl:=Option.some.inj H
  go_enter Tryd.func19,Tryd.ntmps19
  go_wp2_with (first | ((with_reducible refine gd_ 2 ?_);refine be_ 2 #[.int .i64 a0_0,.slice A0_1 l0_1.length c0_1,.int .i64 a0_2] 34 ?_;intro gb333 hg w5 hbox hb;refine as4_ (below_step (z3_ HB.out) hb) (hbox) ((z10_ HB.out:w.heap.size≤gb333)) ((z10_ HB.out:w.heap.size≤gb333)) ?_;clear HB;intro HB BK333 GW333 GE333;clear hb hbox hg;have ⟨hcz6_0,hcz6_1,hcz6_2,hfz6_0,hfz6_1,hfz6_2⟩:=cz3_ BK333.out) | ((with_reducible refine gc_ 45 ?_);refine gl_ (some 8) Tryd.func45 #[.agg #[.int .i64 a0_0,.slice A0_1 l0_1.length c0_1],.int .i64 a1] ?_;(with_reducible refine (laws_heldRing.calls k a0_0 _ _ l0_1 a1 t334 _ ?s1 ?s2 A3.out).mono ?_);(case s1=>repeat (first | exact (Kd.C_below HR0_1.out HB.out) | (with_reducible refine Kd.C_alloc ?_ _) | (with_reducible refine Kd.C_drewN ?_ _) | (with_reducible refine Kd.C_drew ?_)));(case s2=>exact HC0_1.out);rintro e w7 ⟨rfl,hb⟩;refine ⟨_,rfl,?_⟩;refine as2_ (blkB_ BK333.out hb) (below_step (z11_ HB.out GE333.out) hb) ?_;clear BK333 HB;intro BK333 HB;(try clear hb)))
  go_ret
  exact ⟨z7_,z11_ HB.out GE333.out⟩


/-! ### laws_FnExactRingNew: function 4 -/
def laws_FnExactRingNew.f (k:Nat) (a0:Int) (a1:Int):Option (Bool):=(spec_RingNew.f k a0 a1).bind fun bt335=>((impl_RingNew.f k a0 a1).bind fun bt341=>((laws_eqRingOut.f k bt341.1 bt341.2.1 bt341.2.2 bt335.1 bt335.2.1 bt335.2.2).bind fun t347=>(if t347=true then ((laws_markRingOut.f k bt341.1 bt341.2.1 bt341.2.2 1).bind fun bt348=>((laws_heldRingOut.f k bt341.1 bt348.2 bt341.2.2 1).bind fun t350=>(if t350<0 then (none) else (if t350=bt348.1 then ((impl_RingNew.f k a0 a1).bind fun bt351=>((laws_eqRingOut.f k bt351.1 bt351.2.1 bt351.2.2 bt335.1 bt335.2.1 bt335.2.2).bind fun t357=>(if t357=true then ((laws_heldRingOut.f k bt341.1 bt348.2 bt341.2.2 1).bind fun t358=>(if t358<0 then (none) else (if t358=bt348.1 then (some true) else (none)))) else (none)))) else (none))))) else (none))))
theorem laws_FnExactRingNew.mono:∀ a0 a1 k,LeO (laws_FnExactRingNew.f k a0 a1) (laws_FnExactRingNew.f (k+1) a0 a1):=by
 intro a0 a1 k
 unfold laws_FnExactRingNew.f
 repeat' first
   | (with_reducible exact impl_RingNew.mono _ _ _)
   | (with_reducible exact laws_eqRingOut.mono _ _ _ _ _ _ _)
   | (with_reducible exact laws_heldRingOut.mono _ _ _ _ _)
   | (with_reducible exact laws_markRingOut.mono _ _ _ _ _)
   | (with_reducible exact spec_RingNew.mono _ _ _)
   | (with_reducible exact LeO.refl _)
   | (with_reducible exact LeO.none _)
   | (with_reducible refine LeO.ite ?_ ?_)
   | (with_reducible refine LeO.bind ?_ (fun _=>?_))
   | exact impl_RingNew.mono _ _ _
   | exact laws_eqRingOut.mono _ _ _ _ _ _ _
   | exact laws_heldRingOut.mono _ _ _ _ _
   | exact laws_markRingOut.mono _ _ _ _ _
   | exact spec_RingNew.mono _ _ _
   | exact LeO.none _
   | refine LeO.ite ?_ ?_
   | refine LeO.bind ?_ (fun _=>?_)
set_option maxHeartbeats 8000000 in
set_option maxRecDepth 100000 in
theorem laws_FnExactRingNew.calls (k:Nat) (a0:Int) (a1:Int) (r:Bool) (w:World) (h:laws_FnExactRingNew.f k a0 a1=some r) :
  Calls Tryd.prog 4 #[.int .i64 a0,.int .i64 a1] w fun e w'=>e = .returned (.bool r)∧Below w.heap.size w w':=by
 have hu34:=Tryd.underlying34
 have HB:=Aside0.mk (Below.refl w.heap.size w)
 have H:((spec_RingNew.f k a0 a1).bind fun bt335=>((impl_RingNew.f k a0 a1).bind fun bt341=>((laws_eqRingOut.f k bt341.1 bt341.2.1 bt341.2.2 bt335.1 bt335.2.1 bt335.2.2).bind fun t347=>(if t347=true then ((laws_markRingOut.f k bt341.1 bt341.2.1 bt341.2.2 1).bind fun bt348=>((laws_heldRingOut.f k bt341.1 bt348.2 bt341.2.2 1).bind fun t350=>(if t350<0 then (none) else (if t350=bt348.1 then ((impl_RingNew.f k a0 a1).bind fun bt351=>((laws_eqRingOut.f k bt351.1 bt351.2.1 bt351.2.2 bt335.1 bt335.2.1 bt335.2.2).bind fun t357=>(if t357=true then ((laws_heldRingOut.f k bt341.1 bt348.2 bt341.2.2 1).bind fun t358=>(if t358<0 then (none) else (if t358=bt348.1 then (some true) else (none)))) else (none)))) else (none))))) else (none)))))=some r:=h
 clear h
 replace H:=Option.bind_eq_some_iff.mp H
 obtain ⟨⟨t335,t336,t339⟩,A30,H⟩:=H
 replace H:((impl_RingNew.f k a0 a1).bind fun bt341=>((laws_eqRingOut.f k bt341.1 bt341.2.1 bt341.2.2 t335 t336 t339).bind fun t347=>(if t347=true then ((laws_markRingOut.f k bt341.1 bt341.2.1 bt341.2.2 1).bind fun bt348=>((laws_heldRingOut.f k bt341.1 bt348.2 bt341.2.2 1).bind fun t350=>(if t350<0 then (none) else (if t350=bt348.1 then ((impl_RingNew.f k a0 a1).bind fun bt351=>((laws_eqRingOut.f k bt351.1 bt351.2.1 bt351.2.2 t335 t336 t339).bind fun t357=>(if t357=true then ((laws_heldRingOut.f k bt341.1 bt348.2 bt341.2.2 1).bind fun t358=>(if t358<0 then (none) else (if t358=bt348.1 then (some true) else (none)))) else (none)))) else (none))))) else (none))))=some r:=H
 have A3:=Aside0.mk A30
 clear A30
 replace H:=Option.bind_eq_some_iff.mp H
 obtain ⟨⟨t341,t342,t345⟩,A40,H⟩:=H
 replace H:((laws_eqRingOut.f k t341 t342 t345 t335 t336 t339).bind fun t347=>(if t347=true then ((laws_markRingOut.f k t341 t342 t345 1).bind fun bt348=>((laws_heldRingOut.f k t341 bt348.2 t345 1).bind fun t350=>(if t350<0 then (none) else (if t350=bt348.1 then ((impl_RingNew.f k a0 a1).bind fun bt351=>((laws_eqRingOut.f k bt351.1 bt351.2.1 bt351.2.2 t335 t336 t339).bind fun t357=>(if t357=true then ((laws_heldRingOut.f k t341 bt348.2 t345 1).bind fun t358=>(if t358<0 then (none) else (if t358=bt348.1 then (some true) else (none)))) else (none)))) else (none))))) else (none)))=some r:=H
 have A4:=Aside0.mk A40
 clear A40
 replace H:=Option.bind_eq_some_iff.mp H
 obtain ⟨t347,A50,H⟩:=H
 replace H:(if t347=true then ((laws_markRingOut.f k t341 t342 t345 1).bind fun bt348=>((laws_heldRingOut.f k t341 bt348.2 t345 1).bind fun t350=>(if t350<0 then (none) else (if t350=bt348.1 then ((impl_RingNew.f k a0 a1).bind fun bt351=>((laws_eqRingOut.f k bt351.1 bt351.2.1 bt351.2.2 t335 t336 t339).bind fun t357=>(if t357=true then ((laws_heldRingOut.f k t341 bt348.2 t345 1).bind fun t358=>(if t358<0 then (none) else (if t358=bt348.1 then (some true) else (none)))) else (none)))) else (none))))) else (none))=some r:=H
 have A5:=Aside0.mk A50
 clear A50
 by_cases c6:t347=true
 ·subst c6
  have H1:((laws_markRingOut.f k t341 t342 t345 1).bind fun bt348=>((laws_heldRingOut.f k t341 bt348.2 t345 1).bind fun t350=>(if t350<0 then (none) else (if t350=bt348.1 then ((impl_RingNew.f k a0 a1).bind fun bt351=>((laws_eqRingOut.f k bt351.1 bt351.2.1 bt351.2.2 t335 t336 t339).bind fun t357=>(if t357=true then ((laws_heldRingOut.f k t341 bt348.2 t345 1).bind fun t358=>(if t358<0 then (none) else (if t358=bt348.1 then (some true) else (none)))) else (none)))) else (none)))))=some r:=by rw [if_pos rfl] at H;exact H
  clear H
  have H:=H1
  clear H1
  replace H:=Option.bind_eq_some_iff.mp H
  obtain ⟨⟨t348,t349⟩,A70,H⟩:=H
  replace H:((laws_heldRingOut.f k t341 t349 t345 1).bind fun t350=>(if t350<0 then (none) else (if t350=t348 then ((impl_RingNew.f k a0 a1).bind fun bt351=>((laws_eqRingOut.f k bt351.1 bt351.2.1 bt351.2.2 t335 t336 t339).bind fun t357=>(if t357=true then ((laws_heldRingOut.f k t341 t349 t345 1).bind fun t358=>(if t358<0 then (none) else (if t358=t348 then (some true) else (none)))) else (none)))) else (none))))=some r:=H
  have A7:=Aside0.mk A70
  clear A70
  replace H:=Option.bind_eq_some_iff.mp H
  obtain ⟨t350,A80,H⟩:=H
  replace H:(if t350<0 then (none) else (if t350=t348 then ((impl_RingNew.f k a0 a1).bind fun bt351=>((laws_eqRingOut.f k bt351.1 bt351.2.1 bt351.2.2 t335 t336 t339).bind fun t357=>(if t357=true then ((laws_heldRingOut.f k t341 t349 t345 1).bind fun t358=>(if t358<0 then (none) else (if t358=t348 then (some true) else (none)))) else (none)))) else (none)))=some r:=H
  have A8:=Aside0.mk A80
  clear A80
  by_cases c9:t350<0
  ·rw [if_pos c9] at H
   exact absurd H (by simp)
  ·rw [if_neg c9] at H
   have c9b0:decide (t350<0)=false:=decide_eq_false c9
   clear c9
   by_cases c10:t350=t348
   ·rw [if_pos c10] at H
    have c10b0:(t350 == t348)=true:=beq_iff_eq.mpr c10
    have c10b1:(t350 != t348)=false:=bne_eq_false_iff_eq.mpr c10
    clear c10
    replace H:=Option.bind_eq_some_iff.mp H
    obtain ⟨⟨t351,t352,t355⟩,A110,H⟩:=H
    replace H:((laws_eqRingOut.f k t351 t352 t355 t335 t336 t339).bind fun t357=>(if t357=true then ((laws_heldRingOut.f k t341 t349 t345 1).bind fun t358=>(if t358<0 then (none) else (if t358=t348 then (some true) else (none)))) else (none)))=some r:=H
    have A11:=Aside0.mk A110
    clear A110
    replace H:=Option.bind_eq_some_iff.mp H
    obtain ⟨t357,A120,H⟩:=H
    replace H:(if t357=true then ((laws_heldRingOut.f k t341 t349 t345 1).bind fun t358=>(if t358<0 then (none) else (if t358=t348 then (some true) else (none)))) else (none))=some r:=H
    have A12:=Aside0.mk A120
    clear A120
    by_cases c13:t357=true
    ·subst c13
     have H1:((laws_heldRingOut.f k t341 t349 t345 1).bind fun t358=>(if t358<0 then (none) else (if t358=t348 then (some true) else (none))))=some r:=by rw [if_pos rfl] at H;exact H
     clear H
     have H:=H1
     clear H1
     replace H:=Option.bind_eq_some_iff.mp H
     obtain ⟨t358,A140,H⟩:=H
     replace H:(if t358<0 then (none) else (if t358=t348 then (some true) else (none)))=some r:=H
     have A14:=Aside0.mk A140
     clear A140
     by_cases c15:t358<0
     ·rw [if_pos c15] at H
      exact absurd H (by simp)
     ·rw [if_neg c15] at H
      have c15b0:decide (t358<0)=false:=decide_eq_false c15
      clear c15
      by_cases c16:t358=t348
      ·rw [if_pos c16] at H
       have c16b0:(t358 == t348)=true:=beq_iff_eq.mpr c16
       have c16b1:(t358 != t348)=false:=bne_eq_false_iff_eq.mpr c16
       clear c16
       obtain rfl:=Option.some.inj H
       go_enter Tryd.func4,Tryd.ntmps4
       go_wp2_with (first | ((with_reducible refine gc_ 15 ?_);refine gl_ (some 12) Tryd.func15 #[.int .i64 a0,.int .i64 a1] ?_;(with_reducible refine (spec_RingNew.calls k a0 a1 t335 t336 t339 _ A3.out).mono ?_);rintro e w17 ⟨v337,rfl,ho0,hb⟩;refine ⟨_,rfl,?_⟩;refine as2_ (Kd.R_lower ho0 (below_size (z3_ HB.out))) (below_step (z3_ HB.out) hb) ?_;clear HB;intro HO338 HB;(try clear hb);(try clear ho0)) | ((with_reducible refine gd_ 5 ?_);refine be_ 5 #[.int .i64 0,.slice none 0 0,.int .i64 0] 34 ?_;intro gb340 hg w18 hbox hb;refine as5_ (Kd.R_below (z2_ HO338.out) hb) (below_step (z3_ HB.out) hb) (hbox) ((z10_ HB.out:w.heap.size≤gb340)) ((z10_ HB.out:w.heap.size≤gb340)) ?_;clear HO338 HB;intro HO338 HB BK340 GW340 GE340;clear hb hbox hg;have ⟨hcz19_0,hcz19_1,hcz19_2,hfz19_0,hfz19_1,hfz19_2⟩:=cz3_ BK340.out;obtain ⟨Ao20,co20,eo20⟩:=Kd.R_slice HO338.out;subst eo20) | ((with_reducible refine gc_ 16 ?_);refine gl_ (some 15) Tryd.func16 #[.int .i64 a0,.int .i64 a1] ?_;(with_reducible refine (impl_RingNew.calls k a0 a1 t341 t342 t345 _ A4.out).mono ?_);rintro e w21 ⟨v343,rfl,ho0,hb⟩;refine ⟨_,rfl,?_⟩;refine as4_ (Kd.R_elder' (z15_ HO338.out BK340.out) (Kd.R_base ho0) hb) (Kd.R_lower (Kd.R_new' ho0 (Kd.R_lt (z15_ HO338.out BK340.out))) (below_size (z11_ HB.out GE340.out))) (blk_below (g:=gb340) (o:=.cells #[.int .i64 t335,.slice Ao20 t336.length co20,.int .i64 t339] 34 (0,0)) (z21_ BK340.out) hb) (below_step (z11_ HB.out GE340.out) hb) ?_;clear HO338 BK340 HB;intro HO338 HO344 BK340 HB;(try clear hb);(try clear hk);(try clear ho0)) | ((with_reducible refine gd_ 6 ?_);refine be_ 6 #[.int .i64 0,.slice none 0 0,.int .i64 0] 34 ?_;intro gb346 hg w22 hbox hb;refine as9_ (Kd.R_below (z2_ HO338.out) hb) (Kd.R_below (z2_ HO344.out) hb) (blkB_ BK340.out hb) (below_step (z11_ HB.out GE340.out) hb) (hbox) ((z12_ HB.out GE340.out:w.heap.size≤gb346)) ((z12_ HB.out GE340.out:w.heap.size≤gb346)) (neL_ BK340.out hg) (neG_ BK340.out hg) ?_;clear HO338 HO344 BK340 HB;intro HO338 HO344 BK340 HB BK346 GW346 GE346 NB340_346 NB346_340;clear hb hbox hg;have hnb23:=NB346_340.out;have hnc23:=NB340_346.out;have ⟨hcz24_0,hcz24_1,hcz24_2,hfz24_0,hfz24_1,hfz24_2⟩:=cz3_ BK346.out;obtain ⟨Ao25,co25,eo25⟩:=Kd.R_slice HO344.out;subst eo25;have ⟨hcz26_0,hcz26_1,hcz26_2,hfz26_0,hfz26_1,hfz26_2⟩:=cz3_ BK340.out) | ((with_reducible refine gc_ 17 ?_);refine gl_ (some 18) Tryd.func17 #[.agg #[.int .i64 t341,.slice Ao25 t342.length co25,.int .i64 t345],.agg #[.int .i64 t335,.slice Ao20 t336.length co20,.int .i64 t339]] ?_;(with_reducible refine (laws_eqRingOut.calls k t341 _ _ t342 t345 t335 _ _ t336 t339 true _ ?s1 ?s2 ?s3 ?s4 A5.out).mono ?_);(case s1=>refine (Kd.R_reads' (e:=57) (base:=w.heap.size) (ok:=fun k_=>(True∧some k_≠(.slice Ao20 t336.length co20:Value).ownBlock)) (n:=t342.length) (c:=co25) ?_).2.2;exact (z15_ HO344.out BK346.out));(case s2=>exact (Kd.R_reads' HO344.out).2.1);(case s3=>refine (Kd.R_reads' (e:=57) (base:=w.heap.size) (ok:=fun k_=>(True∧some k_≠(.slice Ao25 t342.length co25:Value).ownBlock)) (n:=t336.length) (c:=co20) ?_).2.2;exact (z15_ HO338.out BK346.out));(case s4=>exact (Kd.R_reads' HO338.out).2.1);rintro e w27 ⟨rfl,hb⟩;refine ⟨_,rfl,?_⟩;refine as5_ (Kd.R_below (z15_ HO338.out BK346.out) hb) (Kd.R_below (z15_ HO344.out BK346.out) hb) (blk_below (g:=gb340) (o:=.cells #[.int .i64 t335,.slice Ao20 t336.length co20,.int .i64 t339] 34 (0,0)) (z34_ NB340_346.out BK340.out) hb) (blk_below (g:=gb346) (o:=.cells #[.int .i64 t341,.slice Ao25 t342.length co25,.int .i64 t345] 34 (0,0)) (z21_ BK346.out) hb) (below_step (z9_ HB.out GE340.out GE346.out) hb) ?_;clear HO338 HO344 BK340 BK346 HB;intro HO338 HO344 BK340 BK346 HB;(try clear hb);(try clear hk);have ⟨hcz28_0,hcz28_1,hcz28_2,hfz28_0,hfz28_1,hfz28_2⟩:=cz3_ BK346.out) | ((with_reducible refine gc_ 18 ?_);refine gl_ (some 22) Tryd.func18 #[.agg #[.int .i64 t341,.slice Ao25 t342.length co25,.int .i64 t345],.int .i64 1] ?_;(with_reducible refine (laws_markRingOut.calls k t341 (fun k_=>some k_=(.slice Ao25 t342.length co25:Value).ownBlock) (.slice Ao25 t342.length co25) t342 t345 1 t348 t349 w _ ?s1 ?s2 A7.out).mono ?_);(case s1=>repeat (first | (with_reducible first | exact HB.out | apply below_alloc | apply pw_below_drewN | apply below_drew1 | refine below_set ?_ GE340.out | refine below_set ?_ GE346.out) | exact HB.out));(case s2=>exact Kd.R_tight rfl HO344.out);rintro e w29 ⟨rfl,hy0,hb,hkp⟩;refine ⟨_,rfl,?_⟩;refine as5_ (Kd.R_mono (ok':=fun k_=>some k_≠(.slice Ao25 t342.length co25:Value).ownBlock) (Kd.R_keptB (HO338.out) hkp (fun k_ hk_ hs_=>(hk_.2) hs_)) (fun k_ hk_=>hk_.1.2)) (blk_kept (z4_ BK340.out) hkp (fun hs_=>(fun e_=>(Kd.R_ne HO344.out BK340.out (by decide)) e_) hs_)) (Kd.R_reok rfl hy0 (fun k_ e_=>HO344.out.1 k_ e_)) (blk_kept (z4_ BK346.out) hkp (fun hs_=>(fun e_=>(Kd.R_ne HO344.out BK346.out (by decide)) e_) hs_)) (hb) ?_;clear HO338 BK340 HO344 BK346 HB;intro HO338 BK340 HO344 BK346 HB;(try clear hb);(try clear hkp);(try clear hy0);have ⟨hcz30_0,hcz30_1,hcz30_2,hfz30_0,hfz30_1,hfz30_2⟩:=cz3_ BK346.out) | ((with_reducible refine gc_ 19 ?_);refine goesL_ (some 25) rfl rfl Tryd.func19 (by kernel_rfl) rfl #[.agg #[.int .i64 t341,.slice Ao25 t349.length co25,.int .i64 t345],.int .i64 1] rfl (by (try simp only [List.map_toArray,List.map_cons,List.map_nil]);first | done | (rw [show t349.length=t342.length from (Kd.R_reads' HO344.out).1.symm] <;> rfl) | rfl | (simp only [List.length_drop,List.length_take];rfl)) ?_;(with_reducible refine (laws_heldRingOut.calls k t341 _ _ t349 t345 1 t350 _ ?s1 ?s2 A8.out).mono ?_);(case s1=>repeat (first | exact (Kd.R_reads' HO344.out).2.2 | (with_reducible refine Kd.C_alloc ?_ _) | (with_reducible refine Kd.C_drewN ?_ _) | (with_reducible refine Kd.C_drew ?_)));(case s2=>rw [show t349.length=t342.length from (Kd.R_reads' HO344.out).1.symm];exact (Kd.R_reads' HO344.out).2.1);rintro e w31 ⟨rfl,hb⟩;refine ⟨_,rfl,?_⟩;refine as5_ (Kd.R_below (z2_ HO338.out) hb) (Kd.R_below (z2_ HO344.out) hb) (blkB_ BK340.out hb) (blkB_ BK346.out hb) (below_step (z9_ HB.out GE340.out GE346.out) hb) ?_;clear HO338 HO344 BK340 BK346 HB;intro HO338 HO344 BK340 BK346 HB;(try clear hb)) | ((with_reducible refine gc_ 16 ?_);refine gl_ (some 33) Tryd.func16 #[.int .i64 a0,.int .i64 a1] ?_;(with_reducible refine (impl_RingNew.calls k a0 a1 t351 t352 t355 _ A11.out).mono ?_);rintro e w32 ⟨v353,rfl,ho0,hb⟩;refine ⟨_,rfl,?_⟩;refine as6_ (Kd.R_elder' (z2_ HO338.out) (Kd.R_base ho0) hb) (Kd.R_elder' (z2_ HO344.out) (Kd.R_base ho0) hb) (Kd.R_lower (Kd.R_new' (Kd.R_new' ho0 (Kd.R_lt (z2_ HO338.out))) (Kd.R_lt (z2_ HO344.out))) (below_size (z9_ HB.out GE340.out GE346.out))) (blkB_ BK340.out hb) (blkB_ BK346.out hb) (below_step (z9_ HB.out GE340.out GE346.out) hb) ?_;clear HO338 HO344 BK340 BK346 HB;intro HO338 HO344 HO354 BK340 BK346 HB;(try clear hb);(try clear ho0)) | ((with_reducible refine gd_ 9 ?_);refine be_ 9 #[.int .i64 0,.slice none 0 0,.int .i64 0] 34 ?_;intro gb356 hg w33 hbox hb;refine as13_ (Kd.R_below (z2_ HO338.out) hb) (Kd.R_below (z2_ HO344.out) hb) (Kd.R_below (z2_ HO354.out) hb) (blkB_ BK340.out hb) (blkB_ BK346.out hb) (below_step (z9_ HB.out GE340.out GE346.out) hb) (hbox) ((z19_ HB.out GE340.out GE346.out:w.heap.size≤gb356)) ((z19_ HB.out GE340.out GE346.out:w.heap.size≤gb356)) (neL_ BK340.out hg) (neG_ BK340.out hg) (neL_ BK346.out hg) (neG_ BK346.out hg) ?_;clear HO338 HO344 HO354 BK340 BK346 HB;intro HO338 HO344 HO354 BK340 BK346 HB BK356 GW356 GE356 NB340_356 NB356_340 NB346_356 NB356_346;clear hb hbox hg;have hnb34:=NB356_340.out;have hnc34:=NB340_356.out;have hnb35:=NB356_346.out;have hnc35:=NB346_356.out;have ⟨hcz36_0,hcz36_1,hcz36_2,hfz36_0,hfz36_1,hfz36_2⟩:=cz3_ BK356.out;obtain ⟨Ao37,co37,eo37⟩:=Kd.R_slice HO354.out;subst eo37;have ⟨hcz38_0,hcz38_1,hcz38_2,hfz38_0,hfz38_1,hfz38_2⟩:=cz3_ BK340.out) | ((with_reducible refine gc_ 17 ?_);refine gl_ (some 36) Tryd.func17 #[.agg #[.int .i64 t351,.slice Ao37 t352.length co37,.int .i64 t355],.agg #[.int .i64 t335,.slice Ao20 t336.length co20,.int .i64 t339]] ?_;(with_reducible refine (laws_eqRingOut.calls k t351 _ _ t352 t355 t335 _ _ t336 t339 true _ ?s1 ?s2 ?s3 ?s4 A12.out).mono ?_);(case s1=>refine (Kd.R_reads' (e:=57) (base:=w.heap.size) (ok:=fun k_=>((True∧some k_≠(.slice Ao20 t336.length co20:Value).ownBlock)∧some k_≠(.slice Ao25 t342.length co25:Value).ownBlock)) (n:=t352.length) (c:=co37) ?_).2.2;exact (z15_ HO354.out BK356.out));(case s2=>exact (Kd.R_reads' HO354.out).2.1);(case s3=>refine (Kd.R_reads' (e:=57) (base:=w.heap.size) (ok:=fun k_=>(some k_≠(.slice Ao25 t342.length co25:Value).ownBlock∧some k_≠(.slice Ao37 t352.length co37:Value).ownBlock)) (n:=t336.length) (c:=co20) ?_).2.2;exact (z15_ HO338.out BK356.out));(case s4=>exact (Kd.R_reads' HO338.out).2.1);rintro e w39 ⟨rfl,hb⟩;refine ⟨_,rfl,?_⟩;refine as7_ (Kd.R_below (z15_ HO338.out BK356.out) hb) (Kd.R_below (z15_ HO344.out BK356.out) hb) (Kd.R_below (z15_ HO354.out BK356.out) hb) (blk_below (g:=gb340) (o:=.cells #[.int .i64 t335,.slice Ao20 t336.length co20,.int .i64 t339] 34 (0,0)) (z34_ NB340_356.out BK340.out) hb) (blk_below (g:=gb346) (o:=.cells #[.int .i64 t341,.slice Ao25 t342.length co25,.int .i64 t345] 34 (0,0)) (z34_ NB346_356.out BK346.out) hb) (blk_below (g:=gb356) (o:=.cells #[.int .i64 t351,.slice Ao37 t352.length co37,.int .i64 t355] 34 (0,0)) (z21_ BK356.out) hb) (below_step (z8_ HB.out GE340.out GE346.out GE356.out) hb) ?_;clear HO338 HO344 HO354 BK340 BK346 BK356 HB;intro HO338 HO344 HO354 BK340 BK346 BK356 HB;(try clear hb);(try clear hk);have ⟨hcz40_0,hcz40_1,hcz40_2,hfz40_0,hfz40_1,hfz40_2⟩:=cz3_ BK346.out) | ((with_reducible refine gc_ 19 ?_);refine goesL_ (some 40) rfl rfl Tryd.func19 (by kernel_rfl) rfl #[.agg #[.int .i64 t341,.slice Ao25 t349.length co25,.int .i64 t345],.int .i64 1] rfl (by (try simp only [List.map_toArray,List.map_cons,List.map_nil]);first | done | (rw [show t349.length=t342.length from (Kd.R_reads' HO344.out).1.symm] <;> rfl) | rfl | (simp only [List.length_drop,List.length_take];rfl)) ?_;(with_reducible refine (laws_heldRingOut.calls k t341 _ _ t349 t345 1 t358 _ ?s1 ?s2 A14.out).mono ?_);(case s1=>repeat (first | exact (Kd.R_reads' HO344.out).2.2 | (with_reducible refine Kd.C_alloc ?_ _) | (with_reducible refine Kd.C_drewN ?_ _) | (with_reducible refine Kd.C_drew ?_)));(case s2=>rw [show t349.length=t342.length from (Kd.R_reads' HO344.out).1.symm];exact (Kd.R_reads' HO344.out).2.1);rintro e w41 ⟨rfl,hb⟩;refine ⟨_,rfl,?_⟩;refine as7_ (Kd.R_below (z2_ HO338.out) hb) (Kd.R_below (z2_ HO344.out) hb) (Kd.R_below (z2_ HO354.out) hb) (blkB_ BK340.out hb) (blkB_ BK346.out hb) (blkB_ BK356.out hb) (below_step (z8_ HB.out GE340.out GE346.out GE356.out) hb) ?_;clear HO338 HO344 HO354 BK340 BK346 BK356 HB;intro HO338 HO344 HO354 BK340 BK346 BK356 HB;(try clear hb)))
       go_ret
       exact ⟨z7_,z8_ HB.out GE340.out GE346.out GE356.out⟩
      ·rw [if_neg c16] at H
       exact absurd H (by simp)
    ·replace c13:=Bool.eq_false_iff.mpr c13
     subst c13
     have H1:(none)=some r:=by rw [if_neg (show ¬ (false=true) by decide)] at H;exact H
     clear H
     have H:=H1
     clear H1
     exact absurd H (by simp)
   ·rw [if_neg c10] at H
    exact absurd H (by simp)
 ·replace c6:=Bool.eq_false_iff.mpr c6
  subst c6
  have H1:(none)=some r:=by rw [if_neg (show ¬ (false=true) by decide)] at H;exact H
  clear H
  have H:=H1
  clear H1
  exact absurd H (by simp)

end Go.Proofs.YtdogendcjmgnnaaDoor.P

namespace Go.Proofs.YtdogendcjmgnnaaDoor.P
open Go.RowKit Go.Proofs.YtdogendcjmgnnaaDoor.RO
def laws_FnExactRingNew.Pure:Prop:=∀ (x0:Int) (x1:Int),(Lit.int .i64 x0).wf=true→(Lit.int .i64 x1).wf=true→∃ k,laws_FnExactRingNew.f k x0 x1=some true
end Go.Proofs.YtdogendcjmgnnaaDoor.P

namespace Go.Proofs.YtdogendcjmgnnaaDoor.Q
open Go.RowKit Go.Proofs.YtdogendcjmgnnaaDoorW.PrintWords Go.Proofs.YtdogendcjmgnnaaDoorW.PrintMore

theorem w64 {x:Int} (h0 : -9223372036854775808≤x) (h1:x≤9223372036854775807):wrap64 x=x:=by unfold wrap64;omega
theorem evPos {α:Type} {c:Prop} [Decidable c] {f g:Nat→Option α} {r:α} (hc:c) (h:Ev f r):Ev (fun k=>if c then f k else g k) r:=by
  simp only [if_pos hc];exact h
theorem evNeg {α:Type} {c:Prop} [Decidable c] {f g:Nat→Option α} {r:α} (hc:¬ c) (h:Ev g r):Ev (fun k=>if c then f k else g k) r:=by
  simp only [if_neg hc];exact h
theorem evBind1 {α β:Type} {g:Option α} {f:Nat→α→Option β} {a:α} {r:β} (h:g=some a) (k:Ev (fun n=>f n a) r):Ev (fun n=>g.bind (f n)) r:=by
  subst h;exact k
theorem dropCons {α:Type} {l:List α} {i:Nat} {a:α} {s:List α} (h:l.drop i=a :: s) (d:α):i<l.length∧l.getD i d=a∧l.drop (i+1)=s:=by
  have hl:i<l.length:=by
    have:=congrArg List.length h
    simp at this;omega
  rw [List.drop_eq_getElem_cons hl] at h
  injection h with h1 h2
  exact ⟨hl,by rw [List.getD_eq_getElem?_getD,List.getElem?_eq_getElem hl];exact h1,h2⟩
theorem dropNil {α:Type} {l:List α} {i:Nat} (h:l.drop i=[]):l.length≤i:=by
  have:=congrArg List.length h
  simp at this;omega
theorem dropNil' {α:Type} {l:List α} {i:Nat} (h:l.drop i=[]) (hi:i≤l.length):l.length=i:=by
  have:=dropNil h;omega
theorem getD_mid {α:Type} (pre:List α) (m:α) (s:List α) (d:α):(pre ++ m :: s).getD pre.length d=m:=by
  rw [List.getD_eq_getElem?_getD,List.getElem?_append_right (Nat.le_refl _),Nat.sub_self];rfl
theorem set_mid {α:Type} (pre:List α) (m x:α) (s:List α):(pre ++ m :: s).set pre.length x=pre ++ x :: s:=by
  rw [List.set_append_right _ _ (Nat.le_refl _),Nat.sub_self];rfl
end Go.Proofs.YtdogendcjmgnnaaDoor.Q

namespace Go.Proofs.YtdogendcjmgnnaaDoor.Q
open Go.RowKit Go.Proofs.YtdogendcjmgnnaaDoor.P Go.Proofs.YtdogendcjmgnnaaDoorW.PrintWords Go.Proofs.YtdogendcjmgnnaaDoorW.PrintMore

def isWithin (n low high:Int):Bool:=decide (low≤n) && decide (n≤high)
def isNode (n:Int):Bool:=isWithin n 1 5
theorem l02Is_is (n a b:Int):spec_l02Is.f n a b=some (isWithin n a b):=by
  unfold spec_l02Is.f isWithin
  split
  · rename_i h;simp [show a≤n from h]
  · rename_i h;simp [show ¬ a≤n from h]
theorem l02Node_is (n:Int):spec_l02Node.f n=some (isNode n):=by simp [spec_l02Node.f,l02Is_is,isNode]
theorem within_is (n a b:Int):impl_within.f n a b=some (isWithin n a b):=by
  unfold impl_within.f isWithin
  split
  · rename_i h;simp [show a≤n from h]
  · rename_i h;simp [show ¬ a≤n from h]
theorem isNode_is (n:Int):impl_isNode.f n=some (isNode n):=by simp [impl_isNode.f,within_is,isNode]
theorem isNode_iff (n:Int):isNode n=true ↔ 1≤n∧n≤5:=by simp [isNode,isWithin]
end Go.Proofs.YtdogendcjmgnnaaDoor.Q

namespace Go.Proofs.YtdogendcjmgnnaaDoor.P
open Go.RowKit Go.Proofs.YtdogendcjmgnnaaDoorW.PrintWords Go.Proofs.YtdogendcjmgnnaaDoorW.PrintLast Go.Proofs.YtdogendcjmgnnaaDoorW.PrintMore
attribute [local go_sem] max2_int min2_int max_two min_two max_three min_three max_four min_four   -- for this text's walks alone
set_option linter.unusedVariables false
set_option linter.unusedSimpArgs false

/-! ### laws_szTokenS: function 35 -/
def laws_szTokenS.f (l0:List (S75)) (a1:Int):Option (Int):=if (wrap64 (a1-(l0.length:Int)))<0 then (some (-1)) else (some (wrap64 (a1-(l0.length:Int))))

/-! ### laws_toToken: function 63 -/
def laws_toToken.f (a0_0:Int) (a0_1:Int):Option (Int × Int):=some (a0_0,a0_1)

/-! ### laws_toTokenS: function 38 -/
def laws_toTokenS.l0:Nat→List (S75)→List (S57)→Int→Option ((List (S57)))
 | 0,_,_,_=>none
 | k+1,x0,x3,x4=>if x4<(x0.length:Int) then (if 0≤x4 then ((laws_toToken.f ((rd_T75 x0 x4).f0) ((rd_T75 x0 x4).f1)).bind fun bt155=>(if x4<(x3.length:Int) then (laws_toTokenS.l0 k x0 (x3.set (x4:Int).toNat (⟨bt155.1,bt155.2⟩:S57)) (wrap64 (x4+1))) else (none))) else (none)) else (some x3)
def laws_toTokenS.f (k:Nat) (l0:List (S75)):Option ((List (S57))):=if 0≤(l0.length:Int) then (if ((l0.length:Int):Int).toNat≤17592186044416 then (laws_toTokenS.l0 k l0 (List.replicate ((l0.length:Int):Int).toNat z57) 0) else (none)) else (none)
theorem laws_toTokenS.mono_l:∀ k,(∀ y0 y1 y2,LeO (laws_toTokenS.l0 k y0 y1 y2) (laws_toTokenS.l0 (k+1) y0 y1 y2))
 | 0=>fun _ _ _ r h=>by simp [laws_toTokenS.l0] at h
 | k+1=>by
  have ih0:=laws_toTokenS.mono_l k
  ·intro y0 y1 y2
   unfold laws_toTokenS.l0
   repeat' first
   | (with_reducible exact ih0 _ _ _)
   | (with_reducible exact LeO.refl _)
   | (with_reducible exact LeO.none _)
   | (with_reducible refine LeO.ite ?_ ?_)
   | (with_reducible refine LeO.bind ?_ (fun _=>?_))
   | exact ih0 _ _ _
   | exact LeO.none _
   | refine LeO.ite ?_ ?_
   | refine LeO.bind ?_ (fun _=>?_)
theorem laws_toTokenS.mono:∀ a0 k,LeO (laws_toTokenS.f k a0) (laws_toTokenS.f (k+1) a0):=by
 intro a0 k
 have ih0:=laws_toTokenS.mono_l k
 unfold laws_toTokenS.f
 repeat' first
   | (with_reducible exact ih0 _ _ _)
   | (with_reducible exact LeO.refl _)
   | (with_reducible exact LeO.none _)
   | (with_reducible refine LeO.ite ?_ ?_)
   | (with_reducible refine LeO.bind ?_ (fun _=>?_))
   | exact ih0 _ _ _
   | exact LeO.none _
   | refine LeO.ite ?_ ?_
   | refine LeO.bind ?_ (fun _=>?_)

/-! ### laws_szRing: function 10 -/
def laws_szRing.f (a0_0:Int) (l0_1:List (S75)) (a1:Int):Option (Int):=(laws_szTokenS.f l0_1 a1).bind fun t102=>(if t102<0 then (some (-1)) else (some t102))

/-! ### laws_toRing: function 12 -/
def laws_toRing.f (k:Nat) (a0_0:Int) (l0_1:List (S75)):Option (Int × (List (S57))):=(laws_toTokenS.f k l0_1).bind fun t161=>(some (a0_0,t161))
theorem laws_toRing.mono:∀ a0 a1 k,LeO (laws_toRing.f k a0 a1) (laws_toRing.f (k+1) a0 a1):=by
 intro a0 a1 k
 unfold laws_toRing.f
 repeat' first
   | (with_reducible exact laws_toTokenS.mono _ _)
   | (with_reducible exact LeO.refl _)
   | (with_reducible exact LeO.none _)
   | (with_reducible refine LeO.ite ?_ ?_)
   | (with_reducible refine LeO.bind ?_ (fun _=>?_))
   | exact laws_toTokenS.mono _ _
   | exact LeO.none _
   | refine LeO.ite ?_ ?_
   | refine LeO.bind ?_ (fun _=>?_)
end Go.Proofs.YtdogendcjmgnnaaDoor.P

namespace Go.Proofs.YtdogendcjmgnnaaDoor.Q
open Go.RowKit Go.Proofs.YtdogendcjmgnnaaDoor.P Go.Proofs.YtdogendcjmgnnaaDoorW.PrintWords Go.Proofs.YtdogendcjmgnnaaDoorW.PrintMore

abbrev Tok:=S57
theorem eqToken_refl (a b:Int):laws_eqToken.f a b a b=some true:=by simp [laws_eqToken.f]
theorem eqTokenS_l0 (l:List Tok) (hl:l.length≤4611686018427387904):∀ (s:List Tok) (i:Nat),l.drop i=s→i≤l.length →
    Ev (fun k=>laws_eqTokenS.l0 k l l (i:Int)) true
  | [],i,h,hi=>by
    have:=dropNil' h hi
    refine Ev.step (f:=fun _=>some true) (fun k=>?_) (Ev.now _)
    simp only [laws_eqTokenS.l0]
    rw [if_neg (by omega)]
  | m :: s,i,h,hi=>by
    obtain ⟨h1,h2,h3⟩:=dropCons h z57
    refine Ev.step (fun k=>?_) (eqTokenS_l0 l hl s (i+1) h3 (by omega))
    simp only [laws_eqTokenS.l0,eqToken_refl,Option.bind_some]
    rw [if_pos (by omega),if_pos (by omega),if_pos (by omega),if_pos trivial,w64 (by omega) (by omega)]
    rfl
theorem eqTokenS_ev (l:List Tok) (hl:l.length≤4611686018427387904):Ev (fun k=>laws_eqTokenS.f k l l) true:=by
  unfold laws_eqTokenS.f
  exact evPos rfl (eqTokenS_l0 l hl l 0 rfl (by omega))
def tokL:Int→List Tok→List Tok
  | _,[]=>[]
  | n,_ :: r=>⟨n,n+1⟩ :: tokL (n+2) r
theorem markTokenS_l0 (N:Int) (hN:N≤1152921504606846976):∀ (s pre:List Tok) (n:Int),0≤n→n+2*(s.length:Int)≤N→(pre.length:Int)+s.length≤N →
    Ev (fun k=>laws_markTokenS.l0 k (pre ++ s) n (pre.length:Int)) (n+2*(s.length:Int),pre ++ tokL n s)
  | [],pre,n,h0,h1,h2=>by
    refine Ev.step (f:=fun _=>some (n,pre)) (fun k=>?_) (by simp [tokL];exact Ev.now _)
    simp only [laws_markTokenS.l0,List.append_nil]
    rw [if_neg (by omega)]
  | m :: s,pre,n,h0,h1,h2=>by
    simp only [List.length_cons] at h1 h2
    have ih:=markTokenS_l0 N hN s (pre ++ [⟨n,n+1⟩]) (n+2) (by omega) (by omega) (by simp;omega)
    simp only [List.length_append,List.length_cons,List.length_nil,List.append_assoc,List.cons_append,List.nil_append] at ih
    refine Ev.step (fun k=>?_) (show Ev _ (n+2*((m :: s).length:Int),pre ++ tokL n (m :: s)) from by
      simp only [tokL,List.length_cons]
      rw [show n+2*((s.length+1:Nat):Int)=n+2+2*(s.length:Int) from by omega]
      exact ih)
    simp only [laws_markTokenS.l0,Option.bind_some,Int.toNat_natCast,rd_T57,set_mid,getD_mid]
    rw [if_pos (by simp;omega),if_pos (by omega),w64 (x:=n+1) (by omega) (by omega),w64 (x:=n+1+1) (by omega) (by omega),w64 (x:=(pre.length:Int)+1) (by omega) (by omega),show n+1+1=n+2 from by omega]
    rfl
theorem markTokenS_ev (s:List Tok) (n:Int) (h0:0≤n) (h1:n+2*(s.length:Int)≤1152921504606846976):Ev (fun k=>laws_markTokenS.f k s n) (n+2*(s.length:Int),tokL n s) :=
  markTokenS_l0 1152921504606846976 (Int.le_refl _) s [] n h0 h1 (by simp;omega)
theorem heldTokenS_l0 (N:Int) (hN:N≤1152921504606846976):∀ (s pre:List Tok) (n:Int),0≤n→n+2*(s.length:Int)≤N→(pre.length:Int)+s.length≤N →
    Ev (fun k=>laws_heldTokenS.l0 k (pre ++ tokL n s) n (pre.length:Int)) (n+2*(s.length:Int))
  | [],pre,n,h0,h1,h2=>by
    refine Ev.step (f:=fun _=>some n) (fun k=>?_) (by simp;exact Ev.now _)
    simp only [laws_heldTokenS.l0,tokL,List.append_nil]
    rw [if_neg (by omega)]
  | m :: s,pre,n,h0,h1,h2=>by
    simp only [List.length_cons] at h1 h2
    have ih:=heldTokenS_l0 N hN s (pre ++ [⟨n,n+1⟩]) (n+2) (by omega) (by omega) (by simp;omega)
    simp only [List.length_append,List.length_cons,List.length_nil,List.append_assoc,List.cons_append,List.nil_append] at ih
    refine Ev.step (fun k=>?_) (show Ev _ (n+2*((m :: s).length:Int)) from by
      simp only [List.length_cons]
      rw [show n+2*((s.length+1:Nat):Int)=n+2+2*(s.length:Int) from by omega]
      exact ih)
    have hr:rd_T57 (pre ++ tokL n (m :: s)) (pre.length:Int)=⟨n,n+1⟩:=by simp only [rd_T57,Int.toNat_natCast,tokL,getD_mid]
    simp only [laws_heldTokenS.l0,hr]
    rw [if_pos (by simp [tokL];omega),if_pos (by omega),w64 (x:=n+1) (by omega) (by omega),if_pos trivial,if_pos rfl,w64 (x:=n+1+1) (by omega) (by omega),w64 (x:=(pre.length:Int)+1) (by omega) (by omega),show n+1+1=n+2 from by omega]
    rfl
theorem heldTokenS_ev (s:List Tok) (n:Int) (h0:0≤n) (h1:n+2*(s.length:Int)≤1152921504606846976):Ev (fun k=>laws_heldTokenS.f k (tokL n s) n) (n+2*(s.length:Int)) :=
  heldTokenS_l0 1152921504606846976 (Int.le_refl _) s [] n h0 h1 (by simp;omega)
theorem eqRing_ev (n:Int) (l:List Tok) (hl:l.length≤4611686018427387904):Ev (fun k=>laws_eqRing.f k n l n l) true :=
  evPos rfl (Ev.bind (eqTokenS_ev l hl) (evPos rfl (Ev.now _)))
theorem eqRingOut_ev (n:Int) (l:List Tok) (c:Int) (hl:l.length≤4611686018427387904):Ev (fun k=>laws_eqRingOut.f k n l c n l c) true :=
  Ev.bind (eqRing_ev n l hl) (evPos rfl (evPos rfl (Ev.now _)))
theorem markRing_ev (N:Int) (l:List Tok) (n:Int) (h0:0≤n) (h1:n+2*(l.length:Int)≤1152921504606846976):Ev (fun k=>laws_markRing.f k N l n) (n+2*(l.length:Int),tokL n l) :=
  Ev.bind (markTokenS_ev l n h0 h1) (Ev.now _)
theorem markRingOut_ev (N:Int) (l:List Tok) (c n:Int) (h0:0≤n) (h1:n+2*(l.length:Int)≤1152921504606846976):Ev (fun k=>laws_markRingOut.f k N l c n) (n+2*(l.length:Int),tokL n l) :=
  Ev.bind (markRing_ev N l n h0 h1) (Ev.now _)
theorem heldRing_ev (N:Int) (l:List Tok) (n:Int) (h0:0≤n) (h1:n+2*(l.length:Int)≤1152921504606846976):Ev (fun k=>laws_heldRing.f k N (tokL n l) n) (n+2*(l.length:Int)) :=
  Ev.bind (heldTokenS_ev l n h0 h1) (evNeg (by omega) (Ev.now _))
theorem heldRingOut_ev (N:Int) (l:List Tok) (c n:Int) (h0:0≤n) (h1:n+2*(l.length:Int)≤1152921504606846976):Ev (fun k=>laws_heldRingOut.f k N (tokL n l) c n) (n+2*(l.length:Int)) :=
  Ev.bind (heldRing_ev N l n h0 h1) (evNeg (by omega) (Ev.now _))
end Go.Proofs.YtdogendcjmgnnaaDoor.Q

namespace Go.Proofs.YtdogendcjmgnnaaDoor.P
open Go.RowKit Go.Proofs.YtdogendcjmgnnaaDoorW.PrintWords Go.Proofs.YtdogendcjmgnnaaDoorW.PrintLast Go.Proofs.YtdogendcjmgnnaaDoorW.PrintMore
attribute [local go_sem] max2_int min2_int max_two min_two max_three min_three max_four min_four   -- for this text's walks alone
set_option linter.unusedVariables false
set_option linter.unusedSimpArgs false

theorem eqA57 (d:Nat) (w:World) (x0 y0:Int) (x1 y1:Int) :
  (Op.equalIn (d+2) 57 (.agg #[.int .i64 x0,.int .i64 x1]) (.agg #[.int .i64 y0,.int .i64 y1])).run Tryd.prog w = .ok (x0 == y0 && (x1 == y1)) w:=by
 refine eqA_of Tryd.underlying57 (by kernel_rfl) ?_
 refine eqf_cons (by rfl) (by go_simp;rfl) (by go_simp;rfl) (by go_simp) ?_
 exact eqf_last (by rfl) (by go_simp;rfl) (by go_simp;rfl) (by go_simp)

attribute [local go_sem high] eqA57
/-! ### spec_RingRight: function 11 -/
mutual
def spec_RingRight.j0:Nat→Bool→Int→List (S57)→Option (Bool)
 | 0,_,_,_=>none
 | k+1,x32,x140000,x140001=>if x32=true then (some false) else (if x140000=0 then (none) else ((spec_l04New.f k x140000 (wrap64 ((x140001.length:Int) / x140000))).bind fun bt141=>(spec_RingRight.l0 k 0 x140000 x140001 bt141.1 bt141.2)))
def spec_RingRight.l0:Nat→Int→Int→List (S57)→Int→List (S57)→Option (Bool)
 | 0,_,_,_,_,_=>none
 | k+1,x4,x140000,x140001,x146000,x146001=>if x4<(x140001.length:Int) then (if 0≤x4 then (if x4<(x146001.length:Int) then (if (!(((rd_T57 x140001 x4).f0) == ((rd_T57 x146001 x4).f0)) || (!(((rd_T57 x140001 x4).f1) == ((rd_T57 x146001 x4).f1))))=true then (some false) else (spec_RingRight.l0 k (wrap64 (x4+1)) x140000 x140001 x146000 x146001)) else (none)) else (none)) else (some true)
end
def spec_RingRight.f (k:Nat) (a0_0:Int) (l0_1:List (S57)):Option (Bool):=(spec_l02Node.f a0_0).bind fun t140=>(if t140=true then (if (l0_1.length:Int)<1 then (spec_RingRight.j0 k true a0_0 l0_1) else (if (l0_1.length:Int)>(wrap64 (8*a0_0)) then (spec_RingRight.j0 k true a0_0 l0_1) else (if a0_0=0 then (none) else (spec_RingRight.j0 k (((l0_1.length:Int) % a0_0) != 0) a0_0 l0_1)))) else (spec_RingRight.j0 k true a0_0 l0_1))
theorem spec_RingRight.mono_l:∀ k,(∀ y0 y1 y2,LeO (spec_RingRight.j0 k y0 y1 y2) (spec_RingRight.j0 (k+1) y0 y1 y2))∧(∀ y0 y1 y2 y3 y4,LeO (spec_RingRight.l0 k y0 y1 y2 y3 y4) (spec_RingRight.l0 (k+1) y0 y1 y2 y3 y4))
 | 0=>⟨fun _ _ _ r h=>by simp [spec_RingRight.j0] at h,fun _ _ _ _ _ r h=>by simp [spec_RingRight.l0] at h⟩
 | k+1=>by
  obtain ⟨ih0,ih1⟩:=spec_RingRight.mono_l k
  refine ⟨?_,?_⟩
  ·intro y0 y1 y2
   unfold spec_RingRight.j0
   repeat' first
   | (with_reducible exact ih0 _ _ _)
   | (with_reducible exact ih1 _ _ _ _ _)
   | (with_reducible exact spec_l04New.mono _ _ _)
   | (with_reducible exact LeO.refl _)
   | (with_reducible exact LeO.none _)
   | (with_reducible refine LeO.ite ?_ ?_)
   | (with_reducible refine LeO.bind ?_ (fun _=>?_))
   | exact ih0 _ _ _
   | exact ih1 _ _ _ _ _
   | exact spec_l04New.mono _ _ _
   | exact LeO.none _
   | refine LeO.ite ?_ ?_
   | refine LeO.bind ?_ (fun _=>?_)
  ·intro y0 y1 y2 y3 y4
   unfold spec_RingRight.l0
   repeat' first
   | (with_reducible exact ih0 _ _ _)
   | (with_reducible exact ih1 _ _ _ _ _)
   | (with_reducible exact spec_l04New.mono _ _ _)
   | (with_reducible exact LeO.refl _)
   | (with_reducible exact LeO.none _)
   | (with_reducible refine LeO.ite ?_ ?_)
   | (with_reducible refine LeO.bind ?_ (fun _=>?_))
   | exact ih0 _ _ _
   | exact ih1 _ _ _ _ _
   | exact spec_l04New.mono _ _ _
   | exact LeO.none _
   | refine LeO.ite ?_ ?_
   | refine LeO.bind ?_ (fun _=>?_)
theorem spec_RingRight.mono:∀ a0 a1 k,LeO (spec_RingRight.f k a0 a1) (spec_RingRight.f (k+1) a0 a1):=by
 intro a0 a1 k
 obtain ⟨ih0,ih1⟩:=spec_RingRight.mono_l k
 unfold spec_RingRight.f
 repeat' first
   | (with_reducible exact ih0 _ _ _)
   | (with_reducible exact ih1 _ _ _ _ _)
   | (with_reducible exact spec_l04New.mono _ _ _)
   | (with_reducible exact LeO.refl _)
   | (with_reducible exact LeO.none _)
   | (with_reducible refine LeO.ite ?_ ?_)
   | (with_reducible refine LeO.bind ?_ (fun _=>?_))
   | exact ih0 _ _ _
   | exact ih1 _ _ _ _ _
   | exact spec_l04New.mono _ _ _
   | exact LeO.none _
   | refine LeO.ite ?_ ?_
   | refine LeO.bind ?_ (fun _=>?_)

attribute [local go_sem high] eqA57
/-! ### slices_Equal_impl_Token_impl_Token: function 41 -/
def slices_Equal_impl_Token_impl_Token.l0:Nat→List (S57)→List (S57)→Int→Int→Option (Bool)
 | 0,_,_,_,_=>none
 | k+1,x0,x1,x12,x13=>if x13<x12 then (if 0≤x13 then (if x13<(x0.length:Int) then (if x13<(x1.length:Int) then (if (!(((rd_T57 x0 x13).f0) == ((rd_T57 x1 x13).f0)) || (!(((rd_T57 x0 x13).f1) == ((rd_T57 x1 x13).f1))))=true then (some false) else (slices_Equal_impl_Token_impl_Token.l0 k x0 x1 x12 (wrap64 (x13+1)))) else (none)) else (none)) else (none)) else (some true)
def slices_Equal_impl_Token_impl_Token.f (k:Nat) (l0:List (S57)) (l1:List (S57)):Option (Bool):=if (l0.length:Int)=(l1.length:Int) then (slices_Equal_impl_Token_impl_Token.l0 k l0 l1 (l0.length:Int) 0) else (some false)
theorem slices_Equal_impl_Token_impl_Token.mono_l:∀ k,(∀ y0 y1 y2 y3,LeO (slices_Equal_impl_Token_impl_Token.l0 k y0 y1 y2 y3) (slices_Equal_impl_Token_impl_Token.l0 (k+1) y0 y1 y2 y3))
 | 0=>fun _ _ _ _ r h=>by simp [slices_Equal_impl_Token_impl_Token.l0] at h
 | k+1=>by
  have ih0:=slices_Equal_impl_Token_impl_Token.mono_l k
  ·intro y0 y1 y2 y3
   unfold slices_Equal_impl_Token_impl_Token.l0
   repeat' first
   | (with_reducible exact ih0 _ _ _ _)
   | (with_reducible exact LeO.refl _)
   | (with_reducible exact LeO.none _)
   | (with_reducible refine LeO.ite ?_ ?_)
   | (with_reducible refine LeO.bind ?_ (fun _=>?_))
   | exact ih0 _ _ _ _
   | exact LeO.none _
   | refine LeO.ite ?_ ?_
   | refine LeO.bind ?_ (fun _=>?_)
theorem slices_Equal_impl_Token_impl_Token.mono:∀ a0 a1 k,LeO (slices_Equal_impl_Token_impl_Token.f k a0 a1) (slices_Equal_impl_Token_impl_Token.f (k+1) a0 a1):=by
 intro a0 a1 k
 have ih0:=slices_Equal_impl_Token_impl_Token.mono_l k
 unfold slices_Equal_impl_Token_impl_Token.f
 repeat' first
   | (with_reducible exact ih0 _ _ _ _)
   | (with_reducible exact LeO.refl _)
   | (with_reducible exact LeO.none _)
   | (with_reducible refine LeO.ite ?_ ?_)
   | (with_reducible refine LeO.bind ?_ (fun _=>?_))
   | exact ih0 _ _ _ _
   | exact LeO.none _
   | refine LeO.ite ?_ ?_
   | refine LeO.bind ?_ (fun _=>?_)

/-! ### impl_RingRight: function 13 -/
def impl_RingRight.f (k:Nat) (a0_0:Int) (l0_1:List (S57)):Option (Bool):=(impl_isNode.f a0_0).bind fun t271=>(if t271=true then (if a0_0=0 then (none) else ((impl_within.f (wrap64 ((l0_1.length:Int) / a0_0)) 1 8).bind fun t272=>(if t272=true then ((impl_ringNew.f k a0_0 (wrap64 ((l0_1.length:Int) / a0_0))).bind fun bt273=>((slices_Equal_impl_Token_impl_Token.f k l0_1 bt273.2).bind fun t277=>(some t277))) else (some false)))) else (some false))
theorem impl_RingRight.mono:∀ a0 a1 k,LeO (impl_RingRight.f k a0 a1) (impl_RingRight.f (k+1) a0 a1):=by
 intro a0 a1 k
 unfold impl_RingRight.f
 repeat' first
   | (with_reducible exact impl_ringNew.mono _ _ _)
   | (with_reducible exact slices_Equal_impl_Token_impl_Token.mono _ _ _)
   | (with_reducible exact LeO.refl _)
   | (with_reducible exact LeO.none _)
   | (with_reducible refine LeO.ite ?_ ?_)
   | (with_reducible refine LeO.bind ?_ (fun _=>?_))
   | exact impl_ringNew.mono _ _ _
   | exact slices_Equal_impl_Token_impl_Token.mono _ _ _
   | exact LeO.none _
   | refine LeO.ite ?_ ?_
   | refine LeO.bind ?_ (fun _=>?_)
abbrev impl_RingRight.q0:Array Bool:=#[O,O,O,O,O,O,O,O,O,O,O,O,O]
abbrev impl_RingRight.q1:Array Bool:=#[I,O,O,O,O,O,O,O,O,O,O,O,O]
abbrev impl_RingRight.q2:Array Bool:=#[I,I,O,O,O,O,O,O,O,O,O,O,O]
abbrev impl_RingRight.q4:Array Bool:=#[I,I,I,I,O,O,O,O,O,O,O,O,O]
abbrev impl_RingRight.q5:Array Bool:=#[I,I,I,I,I,I,I,I,O,O,O,O,O]
abbrev impl_RingRight.q6:Array Bool:=#[I,I,I,I,I,I,I,I,I,O,O,O,O]
abbrev impl_RingRight.q10:Array Bool:=#[I,I,I,I,I,I,I,I,I,I,I,I,I]

/-! ### impl_RingMore: function 21 -/
def impl_RingMore.f (k:Nat) (a0_0:Int) (l0_1:List (S57)):Option (Int × (List (S57)) × Int):=(impl_RingRight.f k a0_0 l0_1).bind fun t368=>(if t368=true then (if a0_0=5 then (some (0,([]:List (S57)),9)) else (if a0_0=0 then (none) else ((impl_ringNew.f k (wrap64 (a0_0+1)) (wrap64 ((l0_1.length:Int) / a0_0))).bind fun bt369=>(some (bt369.1,bt369.2,0))))) else (some (0,([]:List (S57)),1)))
theorem impl_RingMore.mono:∀ a0 a1 k,LeO (impl_RingMore.f k a0 a1) (impl_RingMore.f (k+1) a0 a1):=by
 intro a0 a1 k
 unfold impl_RingMore.f
 repeat' first
   | (with_reducible exact impl_RingRight.mono _ _ _)
   | (with_reducible exact impl_ringNew.mono _ _ _)
   | (with_reducible exact LeO.refl _)
   | (with_reducible exact LeO.none _)
   | (with_reducible refine LeO.ite ?_ ?_)
   | (with_reducible refine LeO.bind ?_ (fun _=>?_))
   | exact impl_RingRight.mono _ _ _
   | exact impl_ringNew.mono _ _ _
   | exact LeO.none _
   | refine LeO.ite ?_ ?_
   | refine LeO.bind ?_ (fun _=>?_)

/-! ### spec_RingMore: function 20 -/
def spec_RingMore.f (k:Nat) (a0_0:Int) (l0_1:List (S57)):Option (Int × (List (S57)) × Int):=(spec_RingRight.f k a0_0 l0_1).bind fun t361=>(if t361=true then (if a0_0≥5 then (some (0,([]:List (S57)),9)) else (if a0_0=0 then (none) else ((spec_l04New.f k (wrap64 (a0_0+1)) (wrap64 ((l0_1.length:Int) / a0_0))).bind fun bt362=>(some (bt362.1,bt362.2,0))))) else (some (0,([]:List (S57)),1)))
theorem spec_RingMore.mono:∀ a0 a1 k,LeO (spec_RingMore.f k a0 a1) (spec_RingMore.f (k+1) a0 a1):=by
 intro a0 a1 k
 unfold spec_RingMore.f
 repeat' first
   | (with_reducible exact spec_RingRight.mono _ _ _)
   | (with_reducible exact spec_l04New.mono _ _ _)
   | (with_reducible exact LeO.refl _)
   | (with_reducible exact LeO.none _)
   | (with_reducible refine LeO.ite ?_ ?_)
   | (with_reducible refine LeO.bind ?_ (fun _=>?_))
   | exact spec_RingRight.mono _ _ _
   | exact spec_l04New.mono _ _ _
   | exact LeO.none _
   | refine LeO.ite ?_ ?_
   | refine LeO.bind ?_ (fun _=>?_)
end Go.Proofs.YtdogendcjmgnnaaDoor.P

namespace Go.Proofs.YtdogendcjmgnnaaDoor.Q
open Go.RowKit Go.Proofs.YtdogendcjmgnnaaDoor.P Go.Proofs.YtdogendcjmgnnaaDoorW.PrintWords Go.Proofs.YtdogendcjmgnnaaDoorW.PrintMore

theorem evMono {α:Type} {g:Nat→Option α} {r:α} (hm:∀ k,LeO (g k) (g (k+1))) (K:Nat) (h:g K=some r):Ev g r:=⟨K,fun k hk=>by
  obtain ⟨d,rfl⟩:=Nat.exists_eq_add_of_le hk
  induction d with
  | zero=>exact h
  | succ d ih=>exact hm _ _ (ih (by omega))⟩
def eqToks:List Tok→List Tok→Bool
  | [],[]=>true
  | x :: a,y :: b=>(x.f0 == y.f0 && x.f1 == y.f1) && eqToks a b
  | _,_=>false
theorem eqToks_eq:∀ a b:List Tok,eqToks a b=true→a=b
  | [],[],_=>rfl
  | x :: a,y :: b,h=>by
    simp only [eqToks,Bool.and_eq_true,beq_iff_eq] at h
    obtain ⟨⟨h1,h2⟩,h3⟩:=h
    obtain ⟨x0,x1⟩:=x
    obtain ⟨y0,y1⟩:=y
    simp only at h1 h2
    rw [h1,h2,eqToks_eq a b h3]
  | [],_ :: _,h=>by simp [eqToks] at h
  | _ :: _,[],h=>by simp [eqToks] at h
def ringRounds:Nat:=3000
def ringT (n e:Int):List Tok:=match spec_l04New.f ringRounds n e with
  | some x=>x.2
  | none=>[]
def ringTest (n e:Nat):Bool:=match impl_ringNew.f ringRounds (n:Int) (e:Int),spec_l04New.f ringRounds (n:Int) (e:Int) with
  | some x,some y=>x.1 == (n:Int) && (y.1 == (n:Int) && (eqToks x.2 y.2 && y.2.length == n*e))
  | _,_=>false
set_option maxRecDepth 1000000 in
theorem ring_all:(List.range 40).all (fun j=>ringTest (j / 8+1) (j % 8+1))=true:=by kernel_rfl
theorem ring_is {n e:Int} (hn:isNode n=true) (he:isWithin e 1 8=true) :
    Ev (fun k=>impl_ringNew.f k n e) (n,ringT n e)∧Ev (fun k=>spec_l04New.f k n e) (n,ringT n e)∧((ringT n e).length:Int)=n*e:=by
  rw [isNode_iff] at hn
  simp only [isWithin,Bool.and_eq_true,decide_eq_true_eq] at he
  obtain ⟨n,rfl⟩:=Int.eq_ofNat_of_zero_le (show 0≤n by omega)
  obtain ⟨e,rfl⟩:=Int.eq_ofNat_of_zero_le (show 0≤e by omega)
  have h:=List.all_eq_true.1 ring_all ((n-1)*8+(e-1)) (List.mem_range.2 (by omega))
  rw [show ((n-1)*8+(e-1)) / 8+1=n by omega,show ((n-1)*8+(e-1)) % 8+1=e by omega] at h
  unfold ringTest at h
  split at h
  · rename_i x y hx hy
    simp only [Bool.and_eq_true,beq_iff_eq] at h
    obtain ⟨h1,h2,h3,h4⟩:=h
    have h5:=eqToks_eq _ _ h3
    have ht:ringT (n:Int) (e:Int)=y.2:=by unfold ringT;rw [hy]
    obtain ⟨x1,x2⟩:=x
    obtain ⟨y1,y2⟩:=y
    simp only at h1 h2 h4 h5 ht
    clear h3
    subst h1
    subst h2
    subst h5
    rw [ht]
    refine ⟨evMono (fun k=>impl_ringNew.mono _ _ k) ringRounds hx,evMono (fun k=>spec_l04New.mono _ _ k) ringRounds hy,?_⟩
    rw [h4]
    simp
  · cases h
theorem ringT_length {n e:Int} (hn:isNode n=true) (he:isWithin e 1 8=true):(ringT n e).length≤40:=by
  have h:=(ring_is hn he).2.2
  rw [isNode_iff] at hn
  simp only [isWithin,Bool.and_eq_true,decide_eq_true_eq] at he
  have h1:n*e≤5*8:=by
    have a:=Int.mul_le_mul_of_nonneg_right (show n≤5 by omega) (show 0≤e by omega)
    have b:=Int.mul_le_mul_of_nonneg_left (show e≤8 by omega) (show (0:Int)≤5 by omega)
    omega
  omega
def ringNew (n e:Int):Int × List Tok × Int:=if (isNode n && isWithin e 1 8)=true then (n,ringT n e,0) else (0,[],1)
theorem ringNew_length (n e:Int):(ringNew n e).2.1.length≤40:=by
  unfold ringNew
  split
  · rename_i h
    simp only [Bool.and_eq_true] at h
    exact ringT_length h.1 h.2
  · simp
theorem impl_RingNew_ev (n e:Int):Ev (fun k=>impl_RingNew.f k n e) (ringNew n e):=by
  unfold impl_RingNew.f ringNew
  have jT:Ev (fun k=>impl_RingNew.j0 k n e true) (0,[],1):=Ev.step (f:=fun _=>some (0,[],1)) (fun k=>by simp [impl_RingNew.j0]) (Ev.now _)
  refine evBind1 (isNode_is _) ?_
  cases hn:isNode n with
  | false=>exact evNeg (by simp) jT
  | true =>
    refine evPos rfl (evBind1 (within_is _ _ _) ?_)
    cases he:isWithin e 1 8 with
    | false=>exact jT
    | true=>exact Ev.step (fun k=>by simp only [impl_RingNew.j0];rw [if_neg (by simp)]) (Ev.bind (ring_is hn he).1 (Ev.now _))
theorem spec_RingNew_ev (n e:Int):Ev (fun k=>spec_RingNew.f k n e) (ringNew n e):=by
  unfold spec_RingNew.f ringNew
  have jT:Ev (fun k=>spec_RingNew.j0 k n e true) (0,[],1):=Ev.step (f:=fun _=>some (0,[],1)) (fun k=>by simp [spec_RingNew.j0]) (Ev.now _)
  refine evBind1 (l02Node_is _) ?_
  cases hn:isNode n with
  | false=>exact evNeg (by simp) jT
  | true =>
    refine evPos rfl (evBind1 (l02Is_is _ _ _) ?_)
    cases he:isWithin e 1 8 with
    | false=>exact jT
    | true=>exact Ev.step (fun k=>by simp only [spec_RingNew.j0];rw [if_neg (by simp)]) (Ev.bind (ring_is hn he).2.1 (Ev.now _))
end Go.Proofs.YtdogendcjmgnnaaDoor.Q

namespace Go.Proofs.YtdogendcjmgnnaaDoor.Pure
open Go.RowKit Go.Proofs.YtdogendcjmgnnaaDoor.P Go.Proofs.YtdogendcjmgnnaaDoor.Q Go.Proofs.YtdogendcjmgnnaaDoorW.PrintWords Go.Proofs.YtdogendcjmgnnaaDoorW.PrintMore
theorem FnExactRingNew:laws_FnExactRingNew.Pure:=by
  intro n e _ _
  refine Ev.rounds ?_
  unfold laws_FnExactRingNew.f
  have s1:=spec_RingNew_ev n e
  have s2:=impl_RingNew_ev n e
  have hj:=ringNew_length n e
  generalize ringNew n e=r at s1 s2 hj
  obtain ⟨N,l,c⟩:=r
  simp only at hj s1 s2
  have eo:=eqRingOut_ev N l c (by omega)
  have ho:=heldRingOut_ev N l c 1 (by omega) (by omega)
  refine Ev.bind s1 (Ev.bind s2 (Ev.bind eo (evPos rfl (Ev.bind (markRingOut_ev N l c 1 (by omega) (by omega)) (Ev.bind ho (evNeg (by omega) (evPos rfl ?_)))))))
  exact Ev.bind s2 (Ev.bind eo (evPos rfl (Ev.bind ho (evNeg (by omega) (evPos rfl (Ev.now _))))))
end Go.Proofs.YtdogendcjmgnnaaDoor.Pure

namespace Go.Proofs.YtdogendcjmgnnaaDoor.fnExactRingNew
open Go.ChangeShapes Go.WideShapes Go.ChangeAt Go.RowKit Go.Proofs.YtdogendcjmgnnaaDoor.P Go.Proofs.YtdogendcjmgnnaaDoor.RO Go.Proofs.YtdogendcjmgnnaaDoor.Open Go.Proofs.YtdogendcjmgnnaaDoorW.PrintWords
open Go.ChangeMaps (open_string shut_string)
set_option linter.unusedVariables false
theorem own:ownKnob Tryd.prog.godebug=none:=by kernel_rfl
theorem laidOut:laidOutB Tryd.prog=true:=by kernel_rfl
set_option maxRecDepth 100000 in
theorem lifted (os:Os) (started:os.Started) (H:Type) (enc:TypeId × Value→H) :
    ReturnsInHanded {} Tryd.checked os 4 .any (fun w args=>(Rows.fnExactRingNewSpec.pre enc Tryd.prog Tryd.f4 Rows.fnExactRingNewRow.domain false w args∧laidMetH Tryd.prog Rows.fnExactRingNewRow.laid w)∧sizedMet enc Tryd.prog Tryd.f4 (OpenSpec.ofChange Rows.fnExactRingNewSpec) false w args) (Rows.fnExactRingNewSpec.post enc Tryd.prog Tryd.f4 false true false false):=by
  refine returnsInHanded_of_change_and (C:=Tryd.checked) (X:=fun w _=>laidMetH Tryd.prog Rows.fnExactRingNewRow.laid w) (fun _ _ _ hh h=>h.of_heap hh) own started (by kernel_rfl) Tryd.func4
    (ChangeSpec.witness_shaped (enc:=enc) (C:=Tryd.checked) (X:=fun w _=>laidMetH Tryd.prog Rows.fnExactRingNewRow.laid w) false (World.laidAll Tryd.prog os Rows.fnExactRingNewRow.laid) #[.int .i64 0,.int .i64 0] 8 (World.laidAll_os _ _ _) (World.shaped_of_ZipB (by kernel_rfl) (by kernel_rfl)) (by kernel_rfl) (by kernel_rfl) (by kernel_rfl)
      (by rw [MakeChecks.laidMetH_plain _ _ _ (by kernel_rfl)];exact laidMet_laidAll _ (by kernel_rfl) (by kernel_rfl))) ?_
  intro W base args ds gs before hval0 hW hcnd hsz0 hL_ _
  have hsz:(DataW.weightsEach Tryd.prog (Tryd.f4.params.toList ++ Rows.fnExactRingNewSpec.plain.varTypes Tryd.prog) (ds ++ gs)).all (· ≤ reachBytes)=true:=hsz0
  have hval:∀ (j:Nat) t v,Tryd.f4.params[j]? = some t→args[j]? = some v→Value.okWide Tryd.prog W .any base t v:=hval0
  have hW':=hW
  obtain ⟨p,q,hA0,hV,rfl,hfz,hnd⟩:=hW
  have hA:DataW.TrodAll enc Tryd.prog W 0 (fun _=>true) true Tryd.f4.params.toList args.toList ds p:=hA0
  rw [Tryd.params4] at hA hval hsz
  obtain ⟨v0,vs0,d0,ds0,p0,q0,hargs,rfl,rfl,h0,r0⟩:=trodAll_cons hA
  obtain ⟨v1,vs1,d1,ds1,p1,q1,rfl,rfl,rfl,h1,r1⟩:=trodAll_cons r0
  obtain ⟨rfl,rfl,rfl⟩:=trodAll_nil r1
  obtain rfl:args=#[v0,v1]:=by cases args;simp_all
  obtain ⟨rfl,rfl⟩:=trodVars_none hV
  obtain ⟨x0,rfl,rfl,rfl,w0⟩:=open_int Tryd.underlying2 (hval 0 2 v0 rfl rfl) h0
  obtain ⟨x1,rfl,rfl,rfl,w1⟩:=open_int Tryd.underlying2 (hval 1 2 v1 rfl rfl) h1
  clear hA0 hval0 hsz0 hsz
  obtain ⟨k,hp⟩:=Pure.FnExactRingNew x0 x1 w0 w1
  refine (P.laws_FnExactRingNew.calls k x0 x1 true W  hp).mono fun e W' ⟨he,bel0⟩=>?_
  have bel:Below W.heap.size W W':=bel0
  subst he
  exact ⟨_,rfl,_,_,_,[],_,[],hW',trodAll_mk1 (shut_bool Tryd.underlying4 _),(trodAll_cons_mk (shut_int Tryd.underlying2 w0) (trodAll_cons_mk (shut_int Tryd.underlying2 w1) trodAll_mk0)),rfl,bel.frame _,fun h=>by cases h⟩
theorem over:Rows.fnExactRingNewRow.holds Tryd.pinned (OpenSpec.ofChange Rows.fnExactRingNewSpec) :=
  OpenClaim.holds_of_wide 4 Tryd.f4 rfl rfl rfl rfl rfl rfl rfl ⟨rfl,rfl,rfl,rfl,rfl⟩ rfl rfl rfl rfl rfl (by kernel_rfl) Tryd.func4 (by kernel_rfl)
    (of_decide_eq_true (by kernel_rfl)) (by unfold Func.isWrapper;first | (rw [if_pos (by decide +kernel)];kernel_rfl) | (rw [if_neg (by decide +kernel)];exact ⟨rfl,rfl⟩))
    (fun os started H enc _=>lifted os started H enc)
theorem proved:Rows.FnExactRingNewSaid:=over
theorem card:Rows.FnExactRingNewCardSaid :=
  Claim7.holds_tied_plain_at .later [] [.data,.data,.data] true (true, "ec164a04fd4b5fbfa775392ccf34910d927062456d59d87074f881a1f57c5866") false proved (fun _ h=>by cases h) (by kernel_rfl) (fun _ h=>by cases h) fnExactRingNew_row_tie rfl ⟨rfl,rfl⟩ (by kernel_rfl) rfl
    (fun f fn hf hfn=>by
      obtain rfl:f=4:=Option.some.inj ((show Tryd.prog.funcNamed Rows.fnExactRingNewRow.func=some 4 by kernel_rfl).symm.trans hf) |>.symm
      obtain rfl:fn=Tryd.f4:=(Option.some.inj (Tryd.func4.symm.trans hfn)).symm
      exact ⟨by kernel_rfl,fun j t ht=>by
        rw [Tryd.params4] at ht
        have h_:t ∈ [2,2]:=by have:=Array.mem_of_getElem? ht;simpa using this
        have hs_:∀ x ∈ [2,2],Tryd.prog.wantsStandIn x=false:=by
          intro x hx
          simp only [List.mem_cons,List.not_mem_nil,or_false] at hx
          rcases hx with rfl | rfl <;> kernel_rfl
        exact hs_ t h_⟩)
    (by kernel_rfl)
#print axioms card
#print axioms proved
end Go.Proofs.YtdogendcjmgnnaaDoor.fnExactRingNew
namespace Go.Proofs.YtdogendcjmgnnaaDoor
/-- The row, under a short name, for the claim. -/
theorem fnExactRingNew_holds:Rows.FnExactRingNewCardSaid:=fnExactRingNew.card
end Go.Proofs.YtdogendcjmgnnaaDoor
